-- Merged and trimmed by this session's program wip/tools/trim.py.
import Derived.Shelf.RegionOpen
import Derived.Deep.RegionLaw
import Derived.BigQuiet
import Derived.Deep.RegionWith
import Derived.Outline
import Derived.Laws.EntriesVeiled
import Derived.Shelf.Abstract
import Derived.RangeFuncNested
import Derived.RangeFuncBox
import Derived.RangeFuncLeaves
import Derived.RangeFuncFrom
import Derived.RangeFuncCalls
import Derived.RangeFuncBound
import Derived.OwnWalkIn
import Derived.TacticsInMore
import Derived.LoopNIn
import Derived.LoopIn
import Derived.Sort.QuietIn
import Derived.Maps.AppendAt
import Derived.OrdersHeld
import Derived.OrdersIn
import Derived.TacticsIn
import Derived.Test.YtghklhdooemjdaaRows
import Derived.ChangeArms
import Derived.WideShapes
import Derived.SizedLaws
import Derived.Laws.BytesArg
import Derived.Laws.BitsLemmas
import Derived.Test.YtghklhdooemjdaaTLineTellsUpto2
section
namespace Go.Proofs.Ytghklhdooemjdaa.Q
open Go.RowKit Go.Proofs.YtghklhdooemjdaaW.PrintWords Go.Proofs.YtghklhdooemjdaaW.PrintLast Go.Proofs.YtghklhdooemjdaaW.PrintMore
attribute [local go_sem] max2_int min2_int max_two min_two max_three min_three max_four min_four   -- for this text's walks alone
set_option linter.unusedVariables false
set_option linter.unusedSimpArgs false
attribute [local go_sem high] eqA23 eqA35
def LnB (w0 W : World) (g : Nat) (v : Value) (out : List S80) : Prop :=
  W.heap[g]? = some (.cells #[v] 71 (0, 0)) ∧ w0.heap.size ≤ g ∧ Kd.R k80 80 W w0.heap.size (fun k => k ≠ g) v out ∧ Below w0.heap.size w0 W
theorem LnB.below {w0 W W' : World} {g : Nat} {v : Value} {out : List S80} (h : LnB w0 W g v out) (hb : Below W.heap.size W W') : LnB w0 W' g v out :=
  ⟨blk_below h.1 hb, h.2.1, Kd.R_below h.2.2.1 hb, below_step h.2.2.2 hb⟩
theorem LnB.lt {w0 W : World} {g : Nat} {v : Value} {out : List S80} (h : LnB w0 W g v out) : g < W.heap.size := blk_lt h.1
theorem LnB.put {w0 w6 : World} {g : Nat} {v v1 : Value} {out : List S80} (hb : w6.heap[g]? = some (.cells #[v] 71 (0, 0))) (hg : w0.heap.size ≤ g) (ho : Kd.R k80 80 w6 w0.heap.size (fun k => k ≠ g) v1 out) (hB : Below w0.heap.size w0 w6) : LnB w0 (w6.setCell ⟨g, 0, none⟩ v1) g v1 out :=
  ⟨blk_set hb 0 v1, hg, Kd.R_far ho (p := ⟨g, 0, none⟩) (fun _ hk => hk) v1, hB.setCell (p := ⟨g, 0, none⟩) hg v1⟩
def KeepIn (g : Nat) (W W' : World) : Prop := W.heap.size ≤ W'.heap.size ∧ ∀ k cs t fr, g < k → W.heap[k]? = some (.cells cs t fr) → t ≠ 80 → W'.heap[k]? = some (.cells cs t fr)
theorem KeepIn.refl (g : Nat) (W : World) : KeepIn g W W := ⟨Nat.le_refl _, fun _ _ _ _ _ h _ => h⟩
theorem KeepIn.trans {g : Nat} {A B C : World} (h : KeepIn g A B) (k : KeepIn g B C) : KeepIn g A C := ⟨Nat.le_trans h.1 k.1, fun j cs t fr hj hb ht => k.2 j cs t fr hj (h.2 j cs t fr hj hb ht) ht⟩
theorem KeepIn.below {g n : Nat} {A B : World} (h : Below A.heap.size A B) : KeepIn g A B := ⟨h.size, fun _ _ _ _ _ hb _ => blk_below hb h⟩
theorem KeepIn.set {g : Nat} (W : World) (v : Value) : KeepIn g W (W.setCell ⟨g, 0, none⟩ v) := ⟨Nat.le_of_eq (World.size_setCell _ _ _).symm, fun j _ _ _ hj hb _ => (Below.heap_setCell W ⟨g, 0, none⟩ v j (fun e => by have e' : j = g := e; omega)).trans hb⟩
theorem KeepIn.setRow {g j : Nat} {W : World} {o : Nat} {cs : Array Value} {fr : Nat × Nat} (h : W.heap[j]? = some (.cells cs 80 fr)) (v : Value) : KeepIn g W (W.setCell ⟨j, o, none⟩ v) :=
  ⟨Nat.le_of_eq (World.size_setCell _ _ _).symm, fun k cs' t' fr' _ hb ht => (Below.heap_setCell W ⟨j, o, none⟩ v k (fun e => by
    have e' : k = j := e
    subst e'
    rw [h] at hb
    injection hb with hb
    injection hb with _ h2
    exact ht h2.symm)).trans hb⟩
theorem KeepIn.grown {g b : Nat} {W W' : World} {ok : Nat → Prop} {v : Value} {xs : List S80} (h : Kd.R k80 80 W b ok v xs) (hg : W.grownBy W' v.ownBlock) : KeepIn g W W' :=
  ⟨hg.size, fun k cs t fr _ hb ht => by
    refine (hg.block k (blk_lt hb) (fun e => ?_)).trans hb
    obtain ⟨inner, hown⟩ := Kd.R_own h
    obtain ⟨cells, hcs⟩ := own_typed hown k e.symm
    rw [hb] at hcs
    injection hcs with hcs
    injection hcs with _ h2
    exact ht h2⟩
theorem others_grown {b : Nat} {W W' : World} {ok : Nat → Prop} {v : Value} {xs : List S80} (h : Kd.R k80 80 W b ok v xs) (hg : W.grownBy W' v.ownBlock) : KeepsOthers W W' :=
  KeepsOthers.of_grownBy hg (fun j o hj ho => by
    obtain ⟨inner, hown⟩ := Kd.R_own h
    obtain ⟨cells, hcs⟩ := own_typed hown j hj
    rw [hcs] at ho
    cases ho
    rfl)
theorem others_below {A B : World} (h : Below A.heap.size A B) : KeepsOthers A B := KeepsOthers.of_grownBy (row := none) ⟨h.os, h.tape, h.output, h.size, fun k hk _ => h.block k hk⟩ (fun j o e _ => by cases e)
def addB (out : List S80) (x : S80) : List S80 :=
  if 0 < out.length ∧ (rd_T80 out ((out.length - 1 : Nat) : Int)).f1 = x.f1
  then out.set (out.length - 1) ⟨⟨(rd_T80 out ((out.length - 1 : Nat) : Int)).f0.f0, x.f0.f1⟩, (rd_T80 out ((out.length - 1 : Nat) : Int)).f1⟩ else out ++ [x]
theorem infoB : (Try.prog.info? 80).map (fun i => (i.zero, i.size, i.bytes)) = some (some (.agg #[(.int .i64 0), (.int .i64 0), (.bool false)]), 3, 24) := by kernel_rfl
set_option maxRecDepth 100000 in
set_option maxHeartbeats 4000000 in
theorem addB_is (g : Nat) (v : Value) (out : List S80) (x : S80) (w0 w : World) (hL : (out.length + 1) * 24 ≤ 140737488355328) (hI : LnB w0 w g v out) :
    Calls Try.prog 37 #[.pointer (some ⟨g, 0, none⟩), .agg #[.int .i64 x.f0.f0, .int .i64 x.f0.f1], .bool x.f1] w fun e w' => e = .returned (.tuple #[]) ∧ (∃ v', LnB w0 w' g v' (addB out x)) ∧ KeepIn g w w' ∧ KeepsOthers w w' := by
  have HI := Aside0.mk hI
  have HL := Aside0.mk hL
  have hI2 := (hI.below (below_alloc (Below.refl _ _) (.cells #[.int .i64 x.f0.f0, .int .i64 x.f0.f1] 23)))
  have HI3 := Aside0.mk hI2
  obtain ⟨A, c, rfl⟩ := Kd.R_slice hI.2.2.1
  clear hI hI2 hL
  go_enter Try.func37, Try.ntmps37
  have hc0 : ((w.alloc (.cells #[.int .i64 x.f0.f0, .int .i64 x.f0.f1] 23))).cell? ⟨g, 0, none⟩ = some (.slice A out.length c) := (blk_cell HI3.out.1 0).trans rfl
  have BA3 : Aside0 (((w.alloc (.cells #[.int .i64 x.f0.f0, .int .i64 x.f0.f1] 23))).heap[w.heap.size]? = some (.cells #[.int .i64 x.f0.f0, .int .i64 x.f0.f1] 23 (0, 0))) := ⟨heap_alloc_new w _⟩
  have HMX := Aside0.mk (Kd.C_max (Kd.R_reads' HI.out.2.2.1).2.2)
  by_cases hs : 0 < out.length ∧ (rd_T80 out ((out.length - 1 : Nat) : Int)).f1 = x.f1
  · have hadd : addB out x = out.set (out.length - 1) ⟨⟨(rd_T80 out ((out.length - 1 : Nat) : Int)).f0.f0, x.f0.f1⟩, (rd_T80 out ((out.length - 1 : Nat) : Int)).f1⟩ := if_pos hs
    rw [hadd]
    clear hadd
    obtain ⟨hn, hs1⟩ := hs
    obtain ⟨gr, cr, hsl, hgb, hgl, _⟩ := Kd.R_form HI3.out.2.2.1 hn
    simp only [Value.slice.injEq] at hsl
    obtain ⟨rfl, _, rfl⟩ := hsl
    obtain ⟨l, hl⟩ : ∃ l, rd_T80 out ((out.length - 1 : Nat) : Int) = l := ⟨_, rfl⟩
    rw [hl] at hs1 ⊢
    obtain ⟨ad, ead, hx0, hx1, hx2⟩ := at_T80 (Kd.R_reads' HI3.out.2.2.1).2.2 ((out.length - 1 : Nat) : Int) (by omega) (by omega)
    obtain rfl := Option.some.inj ead
    simp only [Int.toNat_natCast, add_at, Nat.zero_add] at hx0 hx1 hx2
    rw [hl] at hx2
    have hm := HMX.out
    have hq : (l.f1 == x.f1) = true := beq_iff_eq.mpr hs1
    have din : decide (0 < out.length) = true := decide_eq_true hn
    have dii : decide ((0 : Int) < (out.length : Int)) = true := decide_eq_true (by omega)
    have wi : IntKind.i64.wrap ((out.length : Int) - 1) = (out.length : Int) - 1 := by rw [i64_w]; unfold wrap64; omega
    have ti : ((out.length : Int) - 1).toNat = out.length - 1 := by omega
    have pi0 : (0 ≤ (out.length : Int) - 1) = True := eq_true (by omega)
    have qi0 : ((out.length : Int) - 1 < (out.length : Int)) = True := eq_true (by omega)
    have pi1 : (1 ≤ (out.length : Int)) = True := eq_true (by omega)
    have pi2 : (1 ≤ out.length) = True := eq_true (by omega)
    obtain ⟨cs, hcl, hcM, hcc, hcf⟩ := Kd.R_elem HI3.out.2.2.1 z80 ((out.length - 1 : Nat) : Int) (by omega) (by omega)
    have HE := Aside0.mk (show cs = _ from k80_openM hcM)
    have HL2 := Aside0.mk hl
    clear hs1 hx0 hx1 hm hl hcM
    go_wp2
    have HI4 := HI3
    have BA4 := BA3
    clear hc0 HI3 BA3 hx2 hcc hcf
    have HK4 : Aside0 (KeepIn g w (w.alloc (.cells #[.int .i64 x.f0.f0, .int .i64 x.f0.f1] 23)) ∧ KeepsOthers w (w.alloc (.cells #[.int .i64 x.f0.f0, .int .i64 x.f0.f1] 23))) := ⟨KeepIn.below (n := 0) (below_alloc (Below.refl _ _) _), KeepsOthers.alloc _ _⟩
    generalize w.alloc (.cells #[.int .i64 x.f0.f0, .int .i64 x.f0.f1] 23) = W4 at HI4 BA4 HK4 ⊢
    obtain ⟨cs4, hcl4, hcM4, hcc4, hcf4⟩ := Kd.R_elem HI4.out.2.2.1 z80 ((out.length - 1 : Nat) : Int) (by omega) (by omega)
    have HE4 := Aside0.mk (show cs4 = _ from k80_openM hcM4)
    have HCC := Aside0.mk hcc4
    have HCL := Aside0.mk hcl4
    have hcg := (blk_cell HI4.out.1 0).trans rfl
    have hca1 := (blk_cell BA4.out 1).trans (rfl : _ = some (Value.int .i64 x.f0.f1))
    have hz1 : W4.cell? ⟨gr, (out.length - 1) * 3 + 1, none⟩ = some (.int .i64 l.f0.f1) := by
      have h_ := hcc4 1 (.int .i64 l.f0.f1) (by rw [HE4.out]; simp only [Int.toNat_natCast, ← HL2.out]; rfl)
      simp only [Int.toNat_natCast] at h_
      exact h_
    have hzf : W4.frozen? ⟨gr, (out.length - 1) * 3 + 1, none⟩ = false := by
      have h_ := hcf4 1
      simp only [Int.toNat_natCast] at h_
      exact h_
    clear hcc4 hcf4 hcM4 hcl4
    have hR := (Kd.R_seg HI4.out.2.2.1 ((out.length - 1 : Nat) : Int) (by omega) (by omega) (c := cs4) (seg := [.int .i64 x.f0.f1]) (j := 1) HCL.out HCC.out (show 1 + 1 ≤ 3 by decide) (x' := (⟨⟨l.f0.f0, x.f0.f1⟩, l.f1⟩ : S80)) (okp := fun _ => False) (by rw [HE4.out]; simp only [Int.toNat_natCast]; exact (by have e_ : out.getD (out.length - 1) z80 = l := HL2.out; rw [e_]; exact k80_mkM _ _ _ (⟨⟨l.f0.f0, x.f0.f1⟩, l.f1⟩ : S80))) (fun _ hk => hk.elim)).1
    simp only [Int.toNat_natCast] at hR
    have HK5 : Aside0 (KeepIn g w (W4.setCell ⟨gr, (out.length - 1) * 3 + 1, none⟩ (.int .i64 x.f0.f1)) ∧ KeepsOthers w (W4.setCell ⟨gr, (out.length - 1) * 3 + 1, none⟩ (.int .i64 x.f0.f1))) := ⟨by
      obtain ⟨inner_, hown_⟩ := Kd.R_own HI4.out.2.2.1
      obtain ⟨cells_, hcs_⟩ := own_typed hown_ gr (by simp [Value.ownBlock])
      exact ⟨HK4.out.1.trans (KeepIn.setRow hcs_ _), HK4.out.2.trans (KeepsOthers.setCell _ _ _)⟩⟩
    have HF : Aside0 (LnB w0 (W4.setCell ⟨gr, (out.length - 1) * 3 + 1, none⟩ (.int .i64 x.f0.f1)) g (.slice (some ⟨gr, 0, none⟩) out.length c) (out.set (out.length - 1) ⟨⟨l.f0.f0, x.f0.f1⟩, l.f1⟩)) :=
      ⟨blk_far HI4.out.1 (p := ⟨gr, (out.length - 1) * 3 + 1, none⟩) (by have := HI4.out.2.2.1.1 gr (by simp [Value.ownBlock]); simpa using fun e => this e.symm) _, HI4.out.2.1, hR, HI4.out.2.2.2.setCell (p := ⟨gr, (out.length - 1) * 3 + 1, none⟩) hgb _⟩
    go_region
    all_goals
      go_wp2
      first | go_end0 | ((try simp only [Exit.inBlock, Exit.then]); refine bodyPost_ret (results_none rfl _ _ _) rfl ?_)
      first
        | exact ⟨rfl, ⟨_, HF.out⟩, HK5.out.1, HK5.out.2⟩
        | exact ⟨rfl, ⟨_, HF.out.below (below_drew1 (Below.refl _ _))⟩, HK5.out.1.trans (KeepIn.below (n := 0) (below_drew1 (Below.refl _ _))), HK5.out.2.trans (KeepsOthers.drew _)⟩
  · have hadd : addB out x = out ++ [x] := if_neg hs
    rw [hadd]
    clear hadd
    by_cases hn : 0 < out.length
    case' pos =>
      obtain ⟨l, hl⟩ : ∃ l, rd_T80 out ((out.length - 1 : Nat) : Int) = l := ⟨_, rfl⟩
      rw [hl] at hs
      obtain ⟨ad, ead, hx0, hx1, hx2⟩ := at_T80 (Kd.R_reads' HI3.out.2.2.1).2.2 ((out.length - 1 : Nat) : Int) (by omega) (by omega)
      cases ead
      simp only [Int.toNat_natCast] at hx0 hx1 hx2
      rw [hl] at hx2
      have hq : (l.f1 == x.f1) = false := beq_eq_false_iff_ne.mpr (fun h1 => hs ⟨hn, h1⟩)
      have hm := HMX.out
      have din : decide (0 < out.length) = true := decide_eq_true hn
      have dii : decide ((0 : Int) < (out.length : Int)) = true := decide_eq_true (by omega)
      have wi : IntKind.i64.wrap ((out.length : Int) - 1) = (out.length : Int) - 1 := by rw [i64_w]; unfold wrap64; omega
      have ti : ((out.length : Int) - 1).toNat = out.length - 1 := by omega
      have pi0 : (0 ≤ (out.length : Int) - 1) = True := eq_true (by omega)
      have qi0 : ((out.length : Int) - 1 < (out.length : Int)) = True := eq_true (by omega)
      have pi1 : (1 ≤ (out.length : Int)) = True := eq_true (by omega)
      have pi2 : (1 ≤ out.length) = True := eq_true (by omega)
      clear hs hx0 hx1 hm hl
      go_wp2
    case' neg =>
      have hdn : decide (0 < out.length) = false := decide_eq_false hn
      have hdi : decide ((0 : Int) < (out.length : Int)) = false := decide_eq_false (by omega)
      clear hs hn
      go_wp2
    all_goals
      have HI4 := HI3
      have BA4 := BA3
      clear hc0 HI3 BA3
      have HK4 : Aside0 (KeepIn g w (w.alloc (.cells #[.int .i64 x.f0.f0, .int .i64 x.f0.f1] 23)) ∧ KeepsOthers w (w.alloc (.cells #[.int .i64 x.f0.f0, .int .i64 x.f0.f1] 23))) := ⟨KeepIn.below (n := 0) (below_alloc (Below.refl _ _) _), KeepsOthers.alloc _ _⟩
      generalize w.alloc (.cells #[.int .i64 x.f0.f0, .int .i64 x.f0.f1] 23) = W4 at HI4 BA4 HK4 ⊢
      have HI8 := Aside0.mk (HI4.out.below (below_drew1 (Below.refl _ _)))
      have hcg := (blk_cell HI4.out.1 0).trans rfl
      have hca0 : W4.cell? ⟨w.heap.size, 0, none⟩ = some (.int .i64 x.f0.f0) := (blk_cell BA4.out 0).trans rfl
      have hca1 : W4.cell? ⟨w.heap.size, 1, none⟩ = some (.int .i64 x.f0.f1) := (blk_cell BA4.out 1).trans rfl
      have hx0 := (blk_cell (blk_alloc HI4.out.1 (.cells #[.int .i64 x.f0.f0, .int .i64 x.f0.f1, .bool x.f1] 80)) 0).trans rfl
      go_region_law (refine Kd.R_append_step k80 (w0 := w0) w0.heap.size rfl (.tmp 42) (.tmp 46) 69 80 (.agg #[(.int .i64 0), (.int .i64 0), (.bool false)]) 24 rfl Try.underlying69 infoB rfl (by decide) (by omega) _ out x [.int .i64 x.f0.f0, .int .i64 x.f0.f1, .bool x.f1] (fun k_ => k_ ≠ g) (fun _ => False) rfl rfl (k80_mkM _ _ _ _) (fun _ hk => hk.elim) ?aF HI8.out.2.2.1 HI8.out.2.2.2 HI8.out.2.2.2.size HL.out ?_; (case aF => intro k_ hk_ he_; subst he_; exact absurd (LnB.lt HI8.out) (Nat.not_lt.2 hk_)); intro v1 w6 ho hb hg hat; obtain ⟨A1, c1, rfl⟩ := Kd.R_slice ho; rw [List.length_append, List.length_singleton] at ho hat; have hB6 := blk_grown HI8.out.1 hg (Kd.R_away HI8.out.2.2.1 (fun _ hk => hk)); have HO6 := Aside0.mk ho; have HB6 := Aside0.mk hB6; have Hb6 := Aside0.mk hb; have hc64 := (blk_cell hB6 0).trans rfl; have hf64 := blk_frozen hB6 0; have HK6 := Aside0.mk (And.intro (KeepIn.grown (g := g) HI8.out.2.2.1 hg) (others_grown HI8.out.2.2.1 hg)); clear ho hb hg hat hB6)
      all_goals
        first | go_end0 | ((try simp only [Exit.inBlock, Exit.then]); refine bodyPost_ret (results_none rfl _ _ _) rfl ?_)
        exact ⟨rfl, ⟨_, LnB.put HB6.out HI8.out.2.1 (by simpa using HO6.out) Hb6.out⟩, ((HK4.out.1.trans (KeepIn.below (n := 0) (below_drew1 (Below.refl _ _)))).trans HK6.out.1).trans (KeepIn.set _ _), ((HK4.out.2.trans (KeepsOthers.drew _)).trans HK6.out.2).trans (KeepsOthers.setCell _ _ _)⟩
attribute [local go_sem high] eqA35
def pieceOf (x : S52) : S97 := ⟨x.f0, x.f1⟩
set_option maxRecDepth 100000 in
set_option maxHeartbeats 4000000 in
theorem of_is (A1 : Option Addr) (c1 : Nat) (l1 : List S52) (hL : l1.length * 32 ≤ 140737488355328) (w : World) (hr1 : Kd.C k52 w A1 l1.length l1) (hc1 : l1.length ≤ c1) :
    Calls Try.prog 36 #[.slice A1 l1.length c1] w fun e w' => e = .returned (.pointer (some ⟨w.heap.size, 0, none⟩)) ∧ ∃ v', LnV w w' w.heap.size v' (l1.map pieceOf) := by
  have HLL := Aside0.mk hL
  have HM := Aside0.mk (Kd.C_max hr1)
  have HR := Aside0.mk hr1
  have HC1 := Aside0.mk hc1
  clear hL hr1 hc1
  go_enter Try.func36, Try.ntmps36
  go_wp2
  go_loopg [10] l1.length (fun kq v10 w' => ∃ (i : Nat) (v : Value), v10 = .int .i64 (i : Int) ∧ Aside0 (i ≤ l1.length ∧ kq = l1.length - i) ∧ Aside0 (LnV w w' w.heap.size v ((l1.take i).map pieceOf)))
  case atStart => exact ⟨0, .slice none 0 0, rfl, ⟨Nat.zero_le _, rfl⟩, ⟨heap_alloc_new w _, Nat.le_refl _, Kd.R_nil _ _ _ _ _, below_alloc (Below.refl _ _) _⟩⟩
  case round =>
    obtain ⟨i, v, rfl, HJ, HI0⟩ := hrel
    have hm := HM.out
    obtain ⟨A, c, rfl⟩ := Kd.R_slice HI0.out.2.2.1
    by_cases hi : i < l1.length
    · have hd : decide ((i : Int) < (l1.length : Int)) = true := decide_eq_true (by omega)
      have hdn : decide (i < l1.length) = true := decide_eq_true hi
      have p0 : (0 : Int) ≤ (i : Int) := by omega
      have q0 : (i : Int) < (l1.length : Int) := by omega
      obtain ⟨ad, ead, hx0, hx1, hx2, hx3⟩ := at_T52 (Kd.C_below HR.out HI0.out.2.2.2) (i : Int) p0 q0
      cases ead
      simp only [Int.toNat_natCast] at hx0 hx1 hx2 hx3
      obtain ⟨x, hx⟩ : ∃ x, rd_T52 l1 (i : Int) = x := ⟨_, rfl⟩
      rw [hx] at hx0 hx1 hx2 hx3
      have HT : Aside0 ((l1.take (i + 1)).map pieceOf = (l1.take i).map pieceOf ++ [pieceOf x]) := ⟨by
        rw [List.take_succ_eq_append_getElem hi, List.map_append, ← hx]
        simp [rd_T52, List.getD_eq_getElem?_getD, hi]⟩
      have HII := Aside0.mk hi
      have HL : Aside0 ((((l1.take i).map pieceOf).length + 1) * 32 ≤ 140737488355328) := ⟨by have := HLL.out; have := HII.out; rw [List.length_map, List.length_take]; omega⟩
      replace p0 := eq_true p0
      replace q0 := eq_true q0
      clear hx
      go_wp2
      have BA4 := Aside0.mk (heap_alloc_new wr (.cells #[.int .i64 x.f0.f0, .int .i64 x.f0.f1, .int .u8 x.f1.f0, .int .i64 x.f1.f1] 52))
      have HI4 := Aside0.mk (HI0.out.below (below_alloc (Below.refl wr.heap.size wr) (.cells #[.int .i64 x.f0.f0, .int .i64 x.f0.f1, .int .u8 x.f1.f0, .int .i64 x.f1.f1] 52)))
      generalize wr.alloc (.cells #[.int .i64 x.f0.f0, .int .i64 x.f0.f1, .int .u8 x.f1.f0, .int .i64 x.f1.f1] 52) = W4 at BA4 HI4 ⊢
      have HI8 := Aside0.mk (HI4.out.below (below_drew1 (Below.refl _ _)))
      have hcg := (blk_cell HI4.out.1 0).trans rfl
      have hca0 : W4.cell? ⟨wr.heap.size, 0, none⟩ = some (.int .i64 x.f0.f0) := (blk_cell BA4.out 0).trans rfl
      have hca1 : W4.cell? ⟨wr.heap.size, 1, none⟩ = some (.int .i64 x.f0.f1) := (blk_cell BA4.out 1).trans rfl
      have hca2 : W4.cell? ⟨wr.heap.size, 2, none⟩ = some (.int .u8 x.f1.f0) := (blk_cell BA4.out 2).trans rfl
      have hca3 : W4.cell? ⟨wr.heap.size, 3, none⟩ = some (.int .i64 x.f1.f1) := (blk_cell BA4.out 3).trans rfl
      clear hx0 hx1 hx2 hx3 p0 q0
      generalize (l1.take i).map pieceOf = out at *
      have hx0 := (blk_cell (blk_alloc HI4.out.1 (.cells #[.int .i64 x.f0.f0, .int .i64 x.f0.f1, .int .u8 x.f1.f0, .int .i64 x.f1.f1] 97)) 0).trans rfl
      go_region_law (refine Kd.R_append_step k97 (w0 := w) w.heap.size rfl (.tmp 18) (.tmp 24) 59 97 (.agg #[(.int .i64 0), (.int .i64 0), (.int .u8 0), (.int .i64 0)]) 32 rfl Try.underlying59 infoV rfl (by decide) (by omega) _ out (⟨x.f0, x.f1⟩ : S97) [.int .i64 x.f0.f0, .int .i64 x.f0.f1, .int .u8 x.f1.f0, .int .i64 x.f1.f1] (fun k_ => k_ ≠ w.heap.size) (fun _ => False) rfl rfl (k97_mkM _ _ _ _) (fun _ hk => hk.elim) ?aF HI8.out.2.2.1 HI8.out.2.2.2 HI8.out.2.2.2.size HL.out ?_; (case aF => intro k_ hk_ he_; subst he_; exact absurd (LnV.lt HI8.out) (Nat.not_lt.2 hk_)); intro v1 w6 ho hb hg hat; obtain ⟨A1, c1, rfl⟩ := Kd.R_slice ho; rw [List.length_append, List.length_singleton] at ho hat; have hB6 := blk_grown HI8.out.1 hg (Kd.R_away HI8.out.2.2.1 (fun _ hk => hk)); have HO6 := Aside0.mk ho; have HB6 := Aside0.mk hB6; have Hb6 := Aside0.mk hb; have hc64 := (blk_cell hB6 0).trans rfl; have hf64 := blk_frozen hB6 0; clear ho hb hg hat hB6)
      all_goals
        go_wp2
        go_roundg (l1.length - (i + 1))
        case measure => have := HJ.out; have := HII.out; omega
        case rel => exact ⟨i + 1, _, by go_num, ⟨by have := HII.out; omega, rfl⟩, ⟨by rw [HT.out]; exact LnV.put HB6.out HI8.out.2.1 (by simpa [pieceOf] using HO6.out) Hb6.out⟩⟩
    · have hd : decide ((i : Int) < (l1.length : Int)) = false := decide_eq_false (by omega)
      have hdn : decide (i < l1.length) = false := decide_eq_false hi
      have ho := HI0.out
      generalize hv : (Value.slice A ((l1.take i).map pieceOf).length c) = vv at ho
      rw [List.take_of_length_le (by omega)] at ho
      subst hv
      have HO2 := Aside0.mk ho
      clear ho
      go_wp2
      go_ret
      exact ⟨rfl, _, HO2.out⟩
section
variable {F : Fence} {n : Nat} {P : Program} {ops : Array Oper} {Q : Exit → Act → World → Prop} {md : Region.Mode} {S : World → Prop} {ds : List Nat}
def noDefer (ops : Array Oper) : Bool := ops.all fun o => match o.op with | .defer _ => false | _ => true
theorem noDefer_spec (h : noDefer ops = true) {i : Nat} {o : Oper} (hi : ops[i]? = some o) : ∀ c, o.op ≠ .defer c := by
  intro c hc
  have h1 := Array.all_eq_true_iff_forall_mem.1 h o (Array.mem_of_getElem? hi)
  simp [hc] at h1
def wpAnyLI (F : Fence) (n : Nat) (P : Program) (md : Region.Mode) (ops : Array Oper) (Q : Exit → Act → World → Prop) (S : World → Prop) (ds : List Nat) : Nat → Array Bool → Act → World → Prop
  | 0, listed, a, w => Region.ready md ops listed = [] ∧ Q .normal a w
  | fuel + 1, listed, a, w =>
    (Region.ready md ops listed = [] → Q .normal a w) ∧
    ∀ i ∈ Region.ready md ops listed, wpOpIn F n P ops Q i (fun a' w' => (i ∉ ds → S w → S w') ∧ wpAnyLI F n P md ops Q S ds fuel (listed.setIfInBounds i true) a' w') a w
theorem anyIn_of_LI : ∀ (fuel : Nat) (listed : Array Bool) (a : Act) (w : World), wpAnyLI F n P md ops Q S ds fuel listed a w → wpAnyIn F n P md ops Q fuel listed a w
  | 0, _, _, _, h => h
  | fuel + 1, _, _, _, h => ⟨h.1, fun i hi => wpOpIn_mono (fun a' w' h' => anyIn_of_LI fuel _ a' w' h'.2) (h.2 i hi)⟩
theorem yi_wpOpI (hF : ∀ f, F.fn f) (hnd : noDefer ops = true) {i : Nat} {o : Oper} {v : Value} {a : Act} (hi : ops[i]? = some o) (hy : YieldsIf P ops S o v a)
    {K : Act → World → Prop} {w : World} (hS : S w) (h : K (a.put o.dst v) w) : wpOpIn F n P ops Q i K a w := by
  unfold Go.wpOpIn
  simp only [hi]
  rcases hy with ⟨hw, hv⟩ | ⟨hw, rfl⟩
  · simp only [hw, if_true, Oper.wpIn, Oper.semAt_eq _ _ _ (noDefer_spec hnd hi), hv w hS, Oper.uponIn]; exact ⟨fun f _ => hF f, h⟩
  · simp only [hw, Bool.false_eq_true, if_false]; exact ⟨fun f _ => hF f, h⟩
theorem yields_true {o : Oper} {v : Value} {a : Act} (h : YieldsIf P ops (fun _ => True) o v a) : Yields P ops o v a :=
  h.imp (fun ⟨hw, hv⟩ => ⟨hw, fun w => hv w trivial⟩) id
theorem wpOp_putI (hF : ∀ f, F.fn f) (hnd : noDefer ops = true) {j : Nat} {oi oj : Oper} {v : Value} (hj : ops[j]? = some oj) (hap : oi.apart ops oj = true)
    (hsi : ∀ cs b, oi.op ≠ .select cs b) (hsj : ∀ cs b, oj.op ≠ .select cs b)
    (hQ : ∀ c a w, Q (.panic c) (a.put oi.dst v) w → Q (.panic c) a w) {K : Act → World → Prop} {a : Act} {w : World}
    (hy : YieldsIf P ops S oi v a) (h : wpOpIn F n P ops Q j K (a.put oi.dst v) w) :
    wpOpIn F n P ops Q j (fun a' w' => YieldsIf P ops S oi v a' ∧ K (a'.put oi.dst v) w') a w := by
  obtain ⟨h1, h2, h3⟩ := Oper.apart_spec hap
  have keep : ∀ (a : Act), YieldsIf P ops S oi v a → ∀ u, YieldsIf P ops S oi v (a.put oj.dst u) := fun a hy u =>
    hy.of_same (execOp_put oi hsi a oj.dst u h3) (wanted_put oi a oj.dst u h3)
  have keepD : ∀ d, YieldsIf P ops S oi v { a with defers := d :: a.defers } := fun d => hy.of_same rfl rfl
  have hj' := hj
  unfold wpOpIn at *
  simp only [hj] at h ⊢
  rw [wanted_put oj a oi.dst v h1] at h
  split
  · rename_i hw
    simp only [hw, if_true] at h
    unfold Oper.wpIn at *
    refine ⟨fun f _ => hF f, ?_⟩
    have h := h.2
    rw [Oper.semAt_eq _ _ _ (noDefer_spec hnd hj), execOp_put oj hsj a oi.dst v h1] at h
    rw [Oper.semAt_eq _ _ _ (noDefer_spec hnd hj)]
    generalize (execOp a.eval oj).run P w = r at *
    cases r with
    | ok x w' =>
      cases x <;> simp only [Oper.uponIn] at h ⊢
      case value u => exact ⟨keep a hy u, by rw [← Act.put_comm a v u h2]; exact h⟩
      case skip => exact ⟨keep a hy _, by rw [← Act.put_comm a v undef h2]; exact h⟩
      case defer d =>
        refine ⟨keep _ (keepD d) _, ?_⟩
        rw [← Act.put_comm _ v undef h2, ← Act.put_defers]
        exact h
      case enter f args =>
        refine ⟨h.1, CallsIn.mono h.2 fun e w'' he => ?_⟩
        cases e with
        | returned u => exact ⟨keep a hy u, by rw [← Act.put_comm a v u h2]; exact he⟩
        | panicked c => exact hQ _ _ _ he
        | outgrown => exact he
      case row row args => exact ⟨h.1, RowsIn.mono h.2 fun u w'' he => ⟨keep a hy u, by rw [← Act.put_comm a v u h2]; exact he⟩⟩
      case round l f tmps assign body =>
        refine ⟨h.1, RoundIn.mono h.2 fun e w'' he => ?_⟩
        cases e with
        | returned u => exact ⟨keep a hy u, by rw [← Act.put_comm a v u h2]; exact he⟩
        | panicked c => exact hQ _ _ _ he
        | outgrown => exact he
    | halt x w' =>
      cases x <;> simp only [Oper.uponIn] at h ⊢
      case panic u => exact hQ _ _ _ h
  · rename_i hw
    simp only [hw] at h
    exact ⟨fun f _ => hF f, keep a hy _, by rw [← Act.put_comm a v undef h2]; exact h.2⟩
theorem wpAnyLI_first (hF : ∀ f, F.fn f) (hnd : noDefer ops = true) {i : Nat} {oi : Oper} {v : Value} (hi : ops[i]? = some oi) (hsel : ∀ (j : Nat) (o : Oper) cs b, ops[j]? = some o → o.op ≠ .select cs b)
    (hQ : ∀ c a w, Q (.panic c) (a.put oi.dst v) w → Q (.panic c) a w) (N : Nat) :
    ∀ (fuel : Nat) (listed : Array Bool) (a : Act) (w : World),
      (∀ j oj, ops[j]? = some oj → j ≠ i → listed.getD j true = false → (∀ e ∈ oj.after, Region.binds md e = true → e.on ≠ i) → oi.apart ops oj = true) →
      ListedClosed md ops listed → (∀ d ∈ ds, listed.getD d true = false → Region.reachB md ops i N d = true) →
      i ∈ Region.ready md ops listed → YieldsIf P ops S oi v a → S w →
      wpAnyLI F n P md ops Q S ds fuel (listed.setIfInBounds i true) (a.put oi.dst v) w → wpAnyLI F n P md ops Q S ds (fuel + 1) listed a w := by
  intro fuel
  induction fuel with
  | zero =>
    intro listed a w _ _ _ hr hy hS H
    refine ⟨fun h => (by rw [h] at hr; cases hr), fun j hj => ?_⟩
    by_cases hji : j = i
    · subst hji; exact yi_wpOpI hF hnd hi hy hS ⟨fun _ h => h, H⟩
    · have := ready_mono hj hji
      rw [H.1] at this
      cases this
  | succ fuel ih =>
    intro listed a w hfree hc hd hr hy hS H
    refine ⟨fun h => (by rw [h] at hr; cases hr), fun j hj => ?_⟩
    by_cases hji : j = i
    · subst hji; exact yi_wpOpI hF hnd hi hy hS ⟨fun _ h => h, H⟩
    · have h1 := H.2 j (ready_mono hj hji)
      obtain ⟨hjun, oj, hoj, hall⟩ := mem_ready.1 hj
      have hiun := (mem_ready.1 hr).1
      have hnot : ∀ e ∈ oj.after, Region.binds md e = true → e.on ≠ i := fun e he hb heq => by
        have h1 := hall e he hb
        rw [heq] at h1
        rcases Nat.lt_or_ge i listed.size with h' | h'
        · simp [h'] at hiun h1; rw [hiun] at h1; cases h1
        · simp [Array.getElem?_eq_none h'] at h1
      have hjd : j ∉ ds := fun hm => Region.reach_not_ready hc (hd j hm hjun) hiun hj
      have h2 := wpOp_putI hF hnd hoj (hfree j oj hoj hji hjun hnot) (fun cs b => hsel i oi cs b hi) (fun cs b => hsel j oj cs b hoj) hQ hy h1
      have hfree' : ∀ k ok, ops[k]? = some ok → k ≠ i → (listed.setIfInBounds j true).getD k true = false →
          (∀ e ∈ ok.after, Region.binds md e = true → e.on ≠ i) → oi.apart ops ok = true := fun k ok hk hki hun hno => by
        refine hfree k ok hk hki ?_ hno
        by_cases hjk : j = k
        · subst hjk; exact hjun
        · rw [getD_set_ne true hjk] at hun; exact hun
      have hd' : ∀ d ∈ ds, (listed.setIfInBounds j true).getD d true = false → Region.reachB md ops i N d = true := fun d hm hun => by
        refine hd d hm ?_
        by_cases hjk : j = d
        · subst hjk; exact hjun
        · rw [getD_set_ne true hjk] at hun; exact hun
      refine wpOpIn_mono (fun a' w' h3 => ⟨h3.2.1, ih (listed.setIfInBounds j true) a' w' hfree' (hc.set hj) hd' (ready_mono hr (Ne.symm hji)) h3.1 (h3.2.1 hjd hS) ?_⟩) h2
      rw [Array.setIfInBounds_comm _ _ hji]
      exact h3.2.2
theorem wpAnyLI_any (hF : ∀ f, F.fn f) (hnd : noDefer ops = true) {i : Nat} {oi : Oper} {v : Value} (hi : ops[i]? = some oi) (hsel : ∀ (j : Nat) (o : Oper) cs b, ops[j]? = some o → o.op ≠ .select cs b)
    (hQ : ∀ c a w, Q (.panic c) (a.put oi.dst v) w → Q (.panic c) a w) :
    ∀ (fuel : Nat) (listed : Array Bool) (a : Act) (w : World),
      (∀ j oj, ops[j]? = some oj → j ≠ i → listed.getD j true = false → (∀ e ∈ oj.after, Region.binds md e = true → e.on ≠ i) → oi.apart ops oj = true) →
      i ∈ Region.ready md ops listed → Yields P ops oi v a →
      wpAnyLI F n P md ops Q S ds fuel (listed.setIfInBounds i true) (a.put oi.dst v) w → wpAnyLI F n P md ops Q S ds (fuel + 1) listed a w := by
  intro fuel
  induction fuel with
  | zero =>
    intro listed a w _ hr hy H
    refine ⟨fun h => (by rw [h] at hr; cases hr), fun j hj => ?_⟩
    by_cases hji : j = i
    · subst hji; exact yi_wpOpI hF hnd hi (hy.yieldsIf (S := fun _ => True)) trivial ⟨fun _ h => h, H⟩
    · have := ready_mono hj hji
      rw [H.1] at this
      cases this
  | succ fuel ih =>
    intro listed a w hfree hr hy H
    refine ⟨fun h => (by rw [h] at hr; cases hr), fun j hj => ?_⟩
    by_cases hji : j = i
    · subst hji; exact yi_wpOpI hF hnd hi (hy.yieldsIf (S := fun _ => True)) trivial ⟨fun _ h => h, H⟩
    · have h1 := H.2 j (ready_mono hj hji)
      obtain ⟨hjun, oj, hoj, hall⟩ := mem_ready.1 hj
      have hiun := (mem_ready.1 hr).1
      have hnot : ∀ e ∈ oj.after, Region.binds md e = true → e.on ≠ i := fun e he hb heq => by
        have h1 := hall e he hb
        rw [heq] at h1
        rcases Nat.lt_or_ge i listed.size with h' | h'
        · simp [h'] at hiun h1; rw [hiun] at h1; cases h1
        · simp [Array.getElem?_eq_none h'] at h1
      have h2 := wpOp_putI hF hnd hoj (hfree j oj hoj hji hjun hnot) (fun cs b => hsel i oi cs b hi) (fun cs b => hsel j oj cs b hoj) hQ (hy.yieldsIf (S := fun _ => True)) h1
      have hfree' : ∀ k ok, ops[k]? = some ok → k ≠ i → (listed.setIfInBounds j true).getD k true = false →
          (∀ e ∈ ok.after, Region.binds md e = true → e.on ≠ i) → oi.apart ops ok = true := fun k ok hk hki hun hno => by
        refine hfree k ok hk hki ?_ hno
        by_cases hjk : j = k
        · subst hjk; exact hjun
        · rw [getD_set_ne true hjk] at hun; exact hun
      refine wpOpIn_mono (fun a' w' h3 => ⟨h3.2.1, ih (listed.setIfInBounds j true) a' w' hfree' (ready_mono hr (Ne.symm hji)) (yields_true h3.1) ?_⟩) h2
      rw [Array.setIfInBounds_comm _ _ hji]
      exact h3.2.2
theorem wpAnyLI_take (hF : ∀ f, F.fn f) (hnd : noDefer ops = true) {i : Nat} {oi : Oper} {v : Value} {fuel : Nat} {listed : Array Bool} {a : Act} {w : World} (hi : ops[i]? = some oi)
    (hs : Region.noSelect ops = true) (hf : Region.free md ops listed i = true) (hr : (Region.ready md ops listed).contains i = true)
    (hc : Region.closedB md ops listed = true) (hl : Region.lastB md ops listed ds i = true)
    (hQ : ∀ c a w, Q (.panic c) (a.put oi.dst v) w → Q (.panic c) a w) (hy : YieldsIf P ops S oi v a) (hS : S w)
    (h : wpAnyLI F n P md ops Q S ds fuel (listed.setIfInBounds i true) (a.put oi.dst v) w) : wpAnyLI F n P md ops Q S ds (fuel + 1) listed a w :=
  wpAnyLI_first hF hnd hi (Region.noSelect_spec hs) hQ ops.size fuel listed a w (Region.free_spec hi hf) (Region.closedB_spec hc)
    (fun d hm hun => by have := List.all_eq_true.1 hl d hm; rw [hun] at this; simpa using this) (by simpa using hr) hy hS h
theorem wpAnyLI_all {rs : List Nat} {fuel : Nat} {listed : Array Bool} {a : Act} {w : World} (hr : Region.ready md ops listed = rs) (hne : rs ≠ [])
    (h : ∀ i ∈ rs, wpOpIn F n P ops Q i (fun a' w' => (i ∉ ds → S w → S w') ∧ wpAnyLI F n P md ops Q S ds fuel (listed.setIfInBounds i true) a' w') a w) : wpAnyLI F n P md ops Q S ds (fuel + 1) listed a w :=
  ⟨fun h0 => absurd (hr ▸ h0) hne, hr ▸ h⟩
theorem wpAnyLI_done {listed : Array Bool} {a : Act} {w : World} (hr : Region.ready md ops listed = []) (h : Q .normal a w) :
    ∀ fuel, wpAnyLI F n P md ops Q S ds fuel listed a w
  | 0 => ⟨hr, h⟩
  | _ + 1 => ⟨fun _ => h, by rw [hr]; simp⟩
theorem startI {id m : Nat} {a : Act} {w : World} (l : Array Bool) (hm : P.follows .mixedOrders = true) (hn : ops.size = m) (hl : Array.replicate m false = l) (h : wpAnyLI F n P .any ops Q S ds m l a w.drew) : (Code.region id ops true).wpIn F n P Q a w := by
  subst hn
  subst hl
  exact wpIn_region_any hm (anyIn_of_LI _ _ _ _ h)
theorem takeI (hF : ∀ f, F.fn f) (hnd : noDefer ops = true) {i : Nat} {N : Option Tmp} {oi : Oper} {v : Value} {fuel : Nat} {l : Array Bool} {a : Act} {w : World} (l' : Array Bool) (hi : ops[i]? = some oi) (hN : oi.dst = N) (hc : takeB md ops ds l l' i = true)
    (hQ : ∀ c a w, Q (.panic c) (a.put oi.dst v) w → Q (.panic c) a w) (hy : YieldsIf P ops S oi v a) (hS : S w) {a' : Act} (ha : a.put N v = a')
    (h : wpAnyLI F n P md ops Q S ds fuel l' a' w) : wpAnyLI F n P md ops Q S ds (fuel + 1) l a w := by
  subst ha
  subst hN
  simp only [takeB, Bool.and_eq_true, beq_iff_eq] at hc
  obtain ⟨⟨⟨⟨⟨h1, h2⟩, h3⟩, h4⟩, h5⟩, h6⟩ := hc
  subst h6
  exact wpAnyLI_take hF hnd hi h1 h2 h3 h4 h5 hQ hy hS h
theorem pureI (hF : ∀ f, F.fn f) (hnd : noDefer ops = true) {i : Nat} {N : Option Tmp} {oi : Oper} {v : Value} {fuel : Nat} {l : Array Bool} {a : Act} {w : World} (l' : Array Bool) (hi : ops[i]? = some oi) (hN : oi.dst = N) (hc : anyB md ops l l' i = true)
    (hQ : ∀ c a w, Q (.panic c) (a.put oi.dst v) w → Q (.panic c) a w) (hy : Yields P ops oi v a) {a' : Act} (ha : a.put N v = a')
    (h : wpAnyLI F n P md ops Q S ds fuel l' a' w) : wpAnyLI F n P md ops Q S ds (fuel + 1) l a w := by
  subst ha
  subst hN
  simp only [anyB, Bool.and_eq_true, beq_iff_eq] at hc
  obtain ⟨⟨⟨h1, h2⟩, h3⟩, h6⟩ := hc
  subst h6
  exact wpAnyLI_any hF hnd hi (Region.noSelect_spec h1) hQ fuel l a w (Region.free_spec hi h2) (by simpa using h3) hy h
theorem lastI {i : Nat} {N : Option Tmp} {oi : Oper} {fuel : Nat} {l : Array Bool} {a : Act} {w : World} (l' : Array Bool) (hi : ops[i]? = some oi) (hN : oi.dst = N) (hc : readyB md ops l l' i = true) (hd : i ∈ ds) (hw : Region.wanted oi (yielded ops a.tmps) = true)
    (h : ∀ K : Act → World → Prop, (∀ a' w', wpAnyLI F n P md ops Q S ds fuel l' a' w' → K a' w') → Oper.wpIn F n P oi a w K Q) :
    wpAnyLI F n P md ops Q S ds (fuel + 1) l a w := by
  subst hN
  simp only [readyB, Bool.and_eq_true, beq_iff_eq] at hc
  obtain ⟨h1, h2⟩ := hc
  subst h2
  refine wpAnyLI_all h1 (by simp) (fun j hj => ?_)
  obtain rfl := List.mem_singleton.1 hj
  unfold wpOpIn
  rw [hi]
  simp only [hw, if_true]
  exact h _ (fun a' w' h' => ⟨fun hn => absurd hd hn, h'⟩)
theorem doneI {l : Array Bool} {a : Act} {w : World} {m : Nat} (hr : (Region.ready md ops l == []) = true) (h : Q .normal a w) : wpAnyLI F n P md ops Q S ds m l a w := wpAnyLI_done (by simpa using hr) h m
end
theorem R_append_in {F : Fence} {n : Nat} {P : Program} {ops : Array Oper} {rest : List Oper} {o : Oper} {a : Act} {Q : Exit → Act → World → Prop} {α : Type} (d : Kd α) {w0 W : World} (base : Nat) (hgd : o.guard = none) (s x : Operand) (t e : TypeId) (z : Value) (bytes : Nat)
    (ho : o.op = .call { callee := .builtin .append, args := #[s, x], argTypes := #[t, t] })
    (ht : P.underlying t = some (.slice e)) (hinfo : (P.info? e).map (fun i => (i.zero, i.size, i.bytes)) = some (some z, d.sz, bytes)) (hz : z.cells.size = d.sz) (hs0 : 0 < d.sz) (hb0 : 0 < bytes)
    (v : Value) (xs : List α) (p : α) (cs : List Value) (ok okp : Nat → Prop) (hs : a.eval s = v) (hx : a.eval x = .slice (some ⟨W.heap.size, 0, none⟩) 1 1) (hp : d.M W base okp p cs) (hokp : ∀ k, okp k → ok k ∧ some k ≠ v.ownBlock) (hfresh : ∀ k, W.heap.size ≤ k → ok k)
    (HO : d.R e W base ok v xs) (HB : Below base w0 W) (hbase : base ≤ W.heap.size) (hl : (xs.length + 1) * bytes ≤ 140737488355328)
    (h : ∀ v1 w1, d.R e w1 base ok v1 (xs ++ [p]) → Below base w0 w1 → W.grownBy w1 v.ownBlock → (v1.ownBlock = v.ownBlock ∨ ∃ b, v1.ownBlock = some b ∧ W.heap.size ≤ b) → wpListIn F n P ops Q rest (a.put o.dst v1) w1) :
    wpListIn F n P ops Q (o :: rest) a (W.alloc (.cells cs.toArray e)) := by
  obtain ⟨h0, inner, hown, hr⟩ := HO
  obtain ⟨i0, hi, hzz⟩ := Option.map_eq_some_iff.1 hinfo
  simp only [Prod.mk.injEq] at hzz
  obtain ⟨hz0, hz1, hz2⟩ := hzz
  have hys : cs.length = d.sz := d.K_len (d.K_of_M hp)
  have hlen : xs.length + 1 ≤ 140737488355328 := Nat.le_trans (Nat.le_mul_of_pos_right _ hb0) hl
  refine wpListIn_plain hgd fun K hK' => ?_
  obtain ⟨v', w', hrun, r1, r2, _, r4⟩ := run_append_own_at (P := P) (w := W.alloc (.cells cs.toArray e)) base t o.type e i0 z d.sz bytes ht hi hz0 hz1 hz2 hz hs0 v xs.length inner (hown.alloc _) ⟨W.heap.size, 0, none⟩ 1 1 cs (by rw [hys]; simp)
    (by simpa using World.news_of_block (cs := cs.toArray) (t := e) (fr := (0, 0)) (heap_alloc_new W (.cells cs.toArray e))) (d.K_one (d.K_of_M hp)) (by simp only [maxLen]; omega) hl (by simp; omega)
  have hg1 : W.grownBy w' v.ownBlock := World.grownBy.trans (World.grownBy_alloc W _ _) r2
  have hat : v'.ownBlock = v.ownBlock ∨ ∃ b, v'.ownBlock = some b ∧ W.heap.size ≤ b := by
    rcases r4 with r4 | r4
    · exact .inl r4
    · exact .inr ⟨_, r4, by simp⟩
  have hfin := h v' w' (Kd.R_appended h0 hr hp hokp hfresh r1 hg1 hat) ((HB.alloc hbase _).grown r2 (by simp; omega) (own_base hown)) hg1 hat
  unfold Oper.wpIn
  refine ⟨?_, ?_⟩
  · simp [Oper.about, ho, resolve, Target.leads, Sem.run_pure]
  · rw [Oper.semAt_plain F _ _ (by rw [ho]; intro c hc'; cases hc')]
    simp [execOp, ho, resolve, invoke, builtin, hs, hx, hrun, Result.andThen]
    exact hK' _ _ hfin
theorem own_grown {α : Type} {d : Kd α} {e N base : Nat} {ok : Nat → Prop} {W W' : World} {v : Value} {xs : List α} {row : Option Nat} (h : Kd.R d e W base ok v xs) (hg : W.grownBy W' row) (hr : ∀ r, row = some r → N ≤ r ∧ ∃ o : Obj, W.heap[r]? = some o ∧ o.isCells = false) : Kd.R d e W' base ok v xs := by
  refine Kd.R_mono (Kd.R_grown (Kd.R_bound h) hg (fun k hk e => ?_)) (fun k hk => hk.1)
  obtain ⟨_, _, _, q, _, cells, hc⟩ := hk
  obtain ⟨_, o, ho, hf⟩ := hr k e.symm
  rw [hc] at ho
  cases ho
  cases hf
theorem blk_grown_ {W W' : World} {row : Option Nat} {N B t : Nat} {cs : Array Value} {fr : Nat × Nat} (h : W.heap[B]? = some (.cells cs t fr)) (hg : W.grownBy W' row) (hr : ∀ r, row = some r → N ≤ r ∧ ∃ o : Obj, W.heap[r]? = some o ∧ o.isCells = false) : W'.heap[B]? = some (.cells cs t fr) :=
  (hg.block B (blk_lt h) (fun e => by
    obtain ⟨_, o, ho, hc⟩ := hr B e.symm
    rw [h] at ho
    cases ho
    cases hc)).trans h
attribute [local go_sem] Oper.semAt_some
theorem both_in (n : Nat) (p q : Option Addr) (w : World) :
    CallsIn Fence.wide n Try.prog 35 #[.pointer p, .pointer q] w fun e w' => e = .returned (.func (.func 48) #[] #[.pointer (some ⟨w.heap.size, 0, none⟩), .pointer (some ⟨w.heap.size + 1, 0, none⟩)]) ∧ w' = (w.alloc (.cells #[.pointer p] 58)).alloc (.cells #[.pointer q] 58) := by
  refine callsIn_of_wp Try.func35 rfl trivial ?_ rfl
  simp only [Try.ntmps35, List.size_toArray, List.length_cons, List.length_nil, Nat.reduceAdd, Nat.reduceSub, Array.replicate_succ, Array.replicate_zero, List.push_toArray, List.append_toArray, List.nil_append, List.cons_append]
  gi_wp2
  go_ret
  exact ⟨rfl, rfl⟩
attribute [local go_sem] Oper.semAt_some
def intSz : Value → Nat
  | .int _ x => x.toNat
  | _ => 0
theorem cell_alloc_ne {W : World} {o : Obj} {a : Addr} (h : (a.block = W.heap.size) = False) : (W.alloc o).cell? a = W.cell? a := by
  have h' : ¬ a.block = W.heap.size := by simpa using h
  have e : (W.alloc o).heap[a.block]? = W.heap[a.block]? := by
    show (W.heap.push o)[a.block]? = _
    rw [Array.getElem?_push, if_neg h']
  simp only [World.cell?, e]
attribute [local go_sem] cell_alloc_ne
abbrev PcV := S97
def bothL : Nat → List PcV → List PcV → List (PcV × PcV)
  | 0, _, _ => []
  | _, [], _ => []
  | _, _, [] => []
  | n + 1, x :: xs, y :: ys => (x, y) :: bothL n (if x.f0.f1 = (if y.f0.f1 < x.f0.f1 then y.f0.f1 else x.f0.f1) then xs else x :: xs) (if y.f0.f1 = (if y.f0.f1 < x.f0.f1 then y.f0.f1 else x.f0.f1) then ys else y :: ys)
def mxf (p : PcV × PcV) : Int := if p.1.f0.f0 < p.2.f0.f0 then p.2.f0.f0 else p.1.f0.f0
def mnt (p : PcV × PcV) : Int := if p.2.f0.f1 < p.1.f0.f1 then p.2.f0.f1 else p.1.f0.f1
def encB (p : PcV × PcV) : Array Value := #[.agg #[.int .i64 (mxf p), .int .i64 (mnt p)], .agg #[.int .u8 p.1.f1.f0, .int .i64 p.1.f1.f1, .int .u8 p.2.f1.f0, .int .i64 p.2.f1.f1]]
theorem KeepIn.cells {g k t : Nat} {W W' : World} {cs : Array Value} {fr : Nat × Nat} (hk : KeepIn g W W') (hg : g < k) (h : W.heap[k]? = some (.cells cs t fr)) (ht : t ≠ 80) : W'.heap[k]? = some (.cells cs t fr) := hk.2 k cs t fr hg h ht
theorem KeepIn.row {g : Nat} {W W' : World} {v : Value} {xs : List PcV} (hk : KeepIn g W W') (h : Kd.R k97 97 W 0 (fun k => g < k) v xs) : Kd.R k97 97 W' 0 (fun k => g < k) v xs :=
  Kd.R_mono (Kd.R_step (Kd.R_bound h) (fun k h1 _ => by
    obtain ⟨h2, _, h3, q, hq, cs, hc⟩ := h1
    exact (hk.cells h2 hc ((by decide : ∀ q, q ∈ 97 :: k97.E → q ≠ 80) q hq)).trans hc.symm)) (fun _ h1 => h1.1)
structure BothIn (g Ba Bb ga gb : Nat) (la lb : List PcV) (Aa Ab : Option Addr) (ca cb : Nat) (W : World) : Prop where
  lt : g < Ba ∧ g < Bb ∧ g < ga ∧ g < gb ∧ g < W.heap.size
  ba : W.heap[Ba]? = some (.cells #[.pointer (some ⟨ga, 0, none⟩)] 58 (0, 0))
  bb : W.heap[Bb]? = some (.cells #[.pointer (some ⟨gb, 0, none⟩)] 58 (0, 0))
  al : W.heap[ga]? = some (.cells #[.slice Aa la.length ca] 61 (0, 0))
  bl : W.heap[gb]? = some (.cells #[.slice Ab lb.length cb] 61 (0, 0))
  ra : Kd.R k97 97 W 0 (fun k => g < k) (.slice Aa la.length ca) la
  rb : Kd.R k97 97 W 0 (fun k => g < k) (.slice Ab lb.length cb) lb
theorem BothIn.keep {g Ba Bb ga gb : Nat} {la lb : List PcV} {Aa Ab : Option Addr} {ca cb : Nat} {W W' : World} (h : BothIn g Ba Bb ga gb la lb Aa Ab ca cb W) (hk : KeepIn g W W') : BothIn g Ba Bb ga gb la lb Aa Ab ca cb W' :=
  ⟨⟨h.lt.1, h.lt.2.1, h.lt.2.2.1, h.lt.2.2.2.1, Nat.lt_of_lt_of_le h.lt.2.2.2.2 hk.1⟩, hk.cells h.lt.1 h.ba (by decide), hk.cells h.lt.2.1 h.bb (by decide), hk.cells h.lt.2.2.1 h.al (by decide), hk.cells h.lt.2.2.2.1 h.bl (by decide), hk.row h.ra, hk.row h.rb⟩
theorem BothIn.below {g Ba Bb ga gb : Nat} {la lb : List PcV} {Aa Ab : Option Addr} {ca cb : Nat} {W W' : World} (h : BothIn g Ba Bb ga gb la lb Aa Ab ca cb W) (hb : Below W.heap.size W W') : BothIn g Ba Bb ga gb la lb Aa Ab ca cb W' :=
  h.keep (KeepIn.below (n := 0) hb)
theorem bothL_cons (n : Nat) (x : PcV) (xs : List PcV) (y : PcV) (ys : List PcV) : bothL (n + 1) (x :: xs) (y :: ys) = (x, y) :: bothL n (if x.f0.f1 = (if y.f0.f1 < x.f0.f1 then y.f0.f1 else x.f0.f1) then xs else x :: xs) (if y.f0.f1 = (if y.f0.f1 < x.f0.f1 then y.f0.f1 else x.f0.f1) then ys else y :: ys) := rfl
theorem bothL_nl (m : Nat) (b : List PcV) : bothL m [] b = [] := by cases m <;> rfl
theorem bothL_nr (m : Nat) (a : List PcV) : bothL m a [] = [] := by cases m <;> cases a <;> rfl
theorem bi_y {i j m a b d : Nat} (h : i ≤ a ∧ j ≤ b ∧ (a - i) + (b - j) ≤ m + 1 ∧ d + (m + 1) ≤ a + b) : d < a + b := by omega
theorem bi_xy {i j m a b d : Nat} (h : i ≤ a ∧ j ≤ b ∧ (a - i) + (b - j) ≤ m + 1 ∧ d + (m + 1) ≤ a + b) (h2 : i < a ∧ j < b) : i + 1 ≤ a ∧ j + 1 ≤ b ∧ (a - (i + 1)) + (b - (j + 1)) ≤ m ∧ d + 1 + m ≤ a + b := by omega
theorem bi_x {i j m a b d : Nat} (h : i ≤ a ∧ j ≤ b ∧ (a - i) + (b - j) ≤ m + 1 ∧ d + (m + 1) ≤ a + b) (h2 : i < a ∧ j < b) : i + 1 ≤ a ∧ j ≤ b ∧ (a - (i + 1)) + (b - j) ≤ m ∧ d + 1 + m ≤ a + b := by omega
theorem bi_n {i j m a b d : Nat} (h : i ≤ a ∧ j ≤ b ∧ (a - i) + (b - j) ≤ m + 1 ∧ d + (m + 1) ≤ a + b) (h2 : i < a ∧ j < b) : i ≤ a ∧ j + 1 ≤ b ∧ (a - i) + (b - (j + 1)) ≤ m ∧ d + 1 + m ≤ a + b := by omega
theorem bm_xy {i j a b : Nat} (h2 : i < a ∧ j < b) : (a - intSz (.int .i64 ((i : Int) + 1))) + (b - intSz (.int .i64 ((j : Int) + 1))) < (a - intSz (.int .i64 (i : Int))) + (b - intSz (.int .i64 (j : Int))) := by simp only [intSz]; omega
theorem bm_x {i j a b : Nat} (h2 : i < a ∧ j < b) : (a - intSz (.int .i64 ((i : Int) + 1))) + (b - intSz (.int .i64 (j : Int))) < (a - intSz (.int .i64 (i : Int))) + (b - intSz (.int .i64 (j : Int))) := by simp only [intSz]; omega
theorem bm_n {i j a b : Nat} (h2 : i < a ∧ j < b) : (a - intSz (.int .i64 (i : Int))) + (b - intSz (.int .i64 ((j : Int) + 1))) < (a - intSz (.int .i64 (i : Int))) + (b - intSz (.int .i64 (j : Int))) := by simp only [intSz]; omega
theorem cast1 (i : Nat) : Value.int .i64 ((i : Int) + 1) = Value.int .i64 ((i + 1 : Nat) : Int) := rfl
set_option maxRecDepth 100000 in
set_option maxHeartbeats 4000000 in
theorem both1_in (n : Nat) (hn : 1 ≤ n) (l g Ba Bb ga gb : Nat) (la lb : List PcV) (Aa Ab : Option Addr) (ca cb : Nat) (J Jx : List (PcV × PcV) → World → Prop)
    (hY : ∀ pre x W, J pre W → pre.length < la.length + lb.length → YieldAt Fence.wide (n - 1) Try.prog l (encB x) W fun e W' =>
      (e = .returned (.bool true) ∧ J (pre ++ [x]) W' ∧ KeepIn g W W') ∨ (e = .returned (.bool false) ∧ Jx (pre ++ [x]) W'))
    (hJg : ∀ pre W W', J pre W → W.grownBy W' none → J pre W')
    (W : World) (hB : BothIn g Ba Bb ga gb la lb Aa Ab ca cb W) (h0 : J [] W) :
    CallsIn Fence.wide n Try.prog 48 #[.func (.yield l) #[] #[], .pointer (some ⟨Ba, 0, none⟩), .pointer (some ⟨Bb, 0, none⟩)] W fun e W' => (∃ v, e = .returned v) ∧
      ((∃ ys, ys = bothL (la.length + lb.length) la lb ∧ J ys W') ∨ (∃ pre, Jx pre W')) := by
  have HMA := Aside0.mk (Kd.C_max (Kd.R_reads' hB.ra).2.2)
  have HMB := Aside0.mk (Kd.C_max (Kd.R_reads' hB.rb).2.2)
  refine callsIn_of_wp Try.func48 rfl trivial ?_ rfl
  simp only [Try.ntmps48, List.size_toArray, List.length_cons, List.length_nil, Nat.reduceAdd, Nat.reduceSub, Array.replicate_succ, Array.replicate_zero, List.push_toArray, List.append_toArray, List.nil_append, List.cons_append]
  gi_wp2
  gi_loopw [4, 5] (fun v4 v5 wr => ∃ (i j m : Nat) (ds : List (PcV × PcV)), v4 = .int .i64 (i : Int) ∧ v5 = .int .i64 (j : Int) ∧ Aside0 (i ≤ la.length ∧ j ≤ lb.length ∧ (la.length - i) + (lb.length - j) ≤ m ∧ ds.length + m ≤ la.length + lb.length) ∧ Aside0 (bothL (la.length + lb.length) la lb = ds ++ bothL m (la.drop i) (lb.drop j)) ∧ Aside0 (BothIn g Ba Bb ga gb la lb Aa Ab ca cb wr) ∧ J ds wr)
    (fun v4 v5 _ => (la.length - intSz v4) + (lb.length - intSz v5))
  case atStart => exact ⟨0, 0, la.length + lb.length, [], rfl, rfl, ⟨Nat.zero_le _, Nat.zero_le _, Nat.le_refl _, by simp⟩, ⟨rfl⟩, ⟨hB⟩, h0⟩
  case round =>
    obtain ⟨i, j, m, ds, rfl, rfl, HI, HL, HB, hJ⟩ := hrel
    have hm := HMA.out
    have hm2 := HMB.out
    have ba0 := (blk_cell HB.out.ba 0).trans rfl
    have bb0 := (blk_cell HB.out.bb 0).trans rfl
    have la0 := (blk_cell HB.out.al 0).trans rfl
    have lb0 := (blk_cell HB.out.bl 0).trans rfl
    by_cases hij : i < la.length ∧ j < lb.length
    · obtain ⟨hi, hj⟩ := hij
      have hd : decide ((i : Int) < (la.length : Int)) = true := decide_eq_true (by omega)
      have hdn : decide (i < la.length) = true := decide_eq_true hi
      have hd2 : decide ((j : Int) < (lb.length : Int)) = true := decide_eq_true (by omega)
      have hdn2 : decide (j < lb.length) = true := decide_eq_true hj
      have p0 : (0 : Int) ≤ (i : Int) := by omega
      have q0 : (i : Int) < (la.length : Int) := by omega
      have p1 : (0 : Int) ≤ (j : Int) := by omega
      have q1 : (j : Int) < (lb.length : Int) := by omega
      obtain ⟨ad, ead, hx0, hx1, hx2, hx3⟩ := at_T97 (Kd.R_reads' HB.out.ra).2.2 (i : Int) p0 q0
      obtain ⟨bd, ebd, hy0, hy1, hy2, hy3⟩ := at_T97 (Kd.R_reads' HB.out.rb).2.2 (j : Int) p1 q1
      cases ead
      cases ebd
      simp only [Int.toNat_natCast] at hx0 hx1 hx2 hx3 hy0 hy1 hy2 hy3
      obtain ⟨x, hx⟩ : ∃ x, rd_T97 la (i : Int) = x := ⟨_, rfl⟩
      obtain ⟨y, hy⟩ : ∃ y, rd_T97 lb (j : Int) = y := ⟨_, rfl⟩
      have HX := Aside0.mk hx
      have HY2 := Aside0.mk hy
      rw [hx] at hx0 hx1 hx2 hx3
      rw [hy] at hy0 hy1 hy2 hy3
      replace p0 := eq_true p0
      replace q0 := eq_true q0
      replace p1 := eq_true p1
      replace q1 := eq_true q1
      clear hx hy
      have lBa := blk_lt HB.out.ba
      have lBb := blk_lt HB.out.bb
      have lga := blk_lt HB.out.al
      have lgb := blk_lt HB.out.bl
      have lad : (ad.add (i * 4)).block < wr.heap.size := World.block_lt_of_cell? wr (ad.add (i * 4)) hx0
      have lbd : (bd.add (j * 4)).block < wr.heap.size := World.block_lt_of_cell? wr (bd.add (j * 4)) hy0
      have e1 : (Ba = wr.heap.size) = False := eq_false (by omega)
      have e2 : (Bb = wr.heap.size) = False := eq_false (by omega)
      have e3 : (ga = wr.heap.size) = False := eq_false (by omega)
      have e4 : (gb = wr.heap.size) = False := eq_false (by omega)
      have f1 : (Ba = wr.heap.size + 1) = False := eq_false (by omega)
      have f2 : (Bb = wr.heap.size + 1) = False := eq_false (by omega)
      have f3 : (ga = wr.heap.size + 1) = False := eq_false (by omega)
      have f4 : (gb = wr.heap.size + 1) = False := eq_false (by omega)
      have e7 : ((ad.add (i * 4)).block = wr.heap.size) = False := eq_false (by omega)
      have e8 : ((bd.add (j * 4)).block = wr.heap.size) = False := eq_false (by omega)
      have f7 : ((ad.add (i * 4)).block = wr.heap.size + 1) = False := eq_false (by omega)
      have f8 : ((bd.add (j * 4)).block = wr.heap.size + 1) = False := eq_false (by omega)
      clear lBa lBb lga lgb lad lbd
      obtain ⟨mx, hmx⟩ : ∃ mx, (if x.f0.f0 < y.f0.f0 then y.f0.f0 else x.f0.f0) = mx := ⟨_, rfl⟩
      obtain ⟨mt, hmt⟩ : ∃ mt, (if y.f0.f1 < x.f0.f1 then y.f0.f1 else x.f0.f1) = mt := ⟨_, rfl⟩
      have hc : x.f0.f1 = mt ∨ y.f0.f1 = mt := by rw [← hmt]; split <;> simp
      have hrdx : Aside0 (la.drop i = x :: la.drop (i + 1)) := ⟨by
        rw [List.drop_eq_getElem_cons hi, ← HX.out]
        simp [rd_T97, List.getD_eq_getElem?_getD, hi]⟩
      have hrdy : Aside0 (lb.drop j = y :: lb.drop (j + 1)) := ⟨by
        rw [List.drop_eq_getElem_cons hj, ← HY2.out]
        simp [rd_T97, List.getD_eq_getElem?_getD, hj]⟩
      have HII := Aside0.mk (And.intro hi hj)
      obtain ⟨m, rfl⟩ : ∃ m', m = m' + 1 := ⟨m - 1, by have := HI.out; omega⟩
      have wi : IntKind.i64.wrap ((i : Int) + 1) = (i : Int) + 1 := by rw [i64_w]; unfold wrap64; omega
      have wj : IntKind.i64.wrap ((j : Int) + 1) = (j : Int) + 1 := by rw [i64_w]; unfold wrap64; omega
      clear hi hj
      gi_wp2
      gi_region
      · have HBb := Aside0.mk (below_drew1 (below_alloc (below_alloc (Below.refl wr.heap.size wr) (.cells #[.int .i64 x.f0.f0, .int .i64 x.f0.f1, .int .u8 x.f1.f0, .int .i64 x.f1.f1] 97)) (.cells #[.int .i64 y.f0.f0, .int .i64 y.f0.f1, .int .u8 y.f1.f0, .int .i64 y.f1.f1] 97)))
        have WX := Aside0.mk (blk_drew (blk_alloc (heap_alloc_new wr (.cells #[.int .i64 x.f0.f0, .int .i64 x.f0.f1, .int .u8 x.f1.f0, .int .i64 x.f1.f1] 97)) (.cells #[.int .i64 y.f0.f0, .int .i64 y.f0.f1, .int .u8 y.f1.f0, .int .i64 y.f1.f1] 97)))
        have WY : Aside0 (((wr.alloc (.cells #[.int .i64 x.f0.f0, .int .i64 x.f0.f1, .int .u8 x.f1.f0, .int .i64 x.f1.f1] 97)).alloc (.cells #[.int .i64 y.f0.f0, .int .i64 y.f0.f1, .int .u8 y.f1.f0, .int .i64 y.f1.f1] 97)).drew.heap[wr.heap.size + 1]? = some (.cells #[.int .i64 y.f0.f0, .int .i64 y.f0.f1, .int .u8 y.f1.f0, .int .i64 y.f1.f1] 97 (0, 0))) := ⟨blk_drew (by
          have := heap_alloc_new (wr.alloc (.cells #[.int .i64 x.f0.f0, .int .i64 x.f0.f1, .int .u8 x.f1.f0, .int .i64 x.f1.f1] 97)) (.cells #[.int .i64 y.f0.f0, .int .i64 y.f0.f1, .int .u8 y.f1.f0, .int .i64 y.f1.f1] 97)
          rwa [World.size_alloc] at this)⟩
        generalize ((wr.alloc (.cells #[.int .i64 x.f0.f0, .int .i64 x.f0.f1, .int .u8 x.f1.f0, .int .i64 x.f1.f1] 97)).alloc (.cells #[.int .i64 y.f0.f0, .int .i64 y.f0.f1, .int .u8 y.f1.f0, .int .i64 y.f1.f1] 97)).drew = W2 at HBb WX WY ⊢
        have hgx : g < wr.heap.size := by have := HB.out.lt; omega
        have hgy : g < wr.heap.size + 1 := by have := HB.out.lt; omega
        have HB2 := Aside0.mk (HB.out.below HBb.out)
        have hJ2 : J ds W2 := hJg _ _ _ hJ ⟨HBb.out.os, HBb.out.tape, HBb.out.output, HBb.out.size, fun k hk _ => HBb.out.block k hk⟩
        have hxc0 := (blk_cell WX.out 0).trans rfl
        have hxc1 := (blk_cell WX.out 1).trans rfl
        have hxc2 := (blk_cell WX.out 2).trans rfl
        have hxc3 := (blk_cell WX.out 3).trans rfl
        have hyc0 := (blk_cell WY.out 0).trans rfl
        have hyc1 := (blk_cell WY.out 1).trans rfl
        have hyc2 := (blk_cell WY.out 2).trans rfl
        have hyc3 := (blk_cell WY.out 3).trans rfl
        obtain ⟨fn, tmps, assign, body, hy, hR⟩ := hY ds (x, y) W2 hJ2 (bi_y HI.out)
        dsimp only [encB] at hy
        rw [show mxf (x, y) = mx from hmx, show mnt (x, y) = mt from hmt] at hy
        as_aux_lemma =>
          gi_wp2
          refine hR.mono ?_
          rintro e W3 (⟨rfl, hJ3, hK3⟩ | ⟨rfl, hJx3⟩)
          rotate_left
          · gi_wp2
            refine bodyPost_ret (results_none rfl _ _ _) rfl ?_
            exact ⟨⟨_, rfl⟩, .inr ⟨_, hJx3⟩⟩
          have WX3 := Aside0.mk (hK3.cells hgx WX.out (by decide))
          have WY3 := Aside0.mk (hK3.cells hgy WY.out (by decide))
          have HB3 := Aside0.mk (HB2.out.keep hK3)
          have hxz1 := (blk_cell WX3.out 1).trans rfl
          have hyz1 := (blk_cell WY3.out 1).trans rfl
          clear hy hR hJ hJ2 hK3 hxc0 hxc1 hxc2 hxc3 hyc0 hyc1 hyc2 hyc3
          by_cases c1 : x.f0.f1 = mt
          · have b1 : (x.f0.f1 == mt) = true := beq_iff_eq.mpr c1
            by_cases c2 : y.f0.f1 = mt
            · have b2 : (y.f0.f1 == mt) = true := beq_iff_eq.mpr c2
              have HL2 : Aside0 (bothL (la.length + lb.length) la lb = (ds ++ [(x, y)]) ++ bothL m (la.drop (i + 1)) (lb.drop (j + 1))) := ⟨by rw [HL.out, hrdx.out, hrdy.out, bothL_cons, hmt, if_pos c1, if_pos c2, List.append_assoc]; rfl⟩
              clear c1 c2
              gi_wp2
              go_roundw
              case rel => exact ⟨i + 1, j + 1, m, _, cast1 i, cast1 j, ⟨by rw [List.length_append, List.length_singleton]; exact bi_xy HI.out HII.out⟩, HL2, HB3, hJ3⟩
              case measure => exact bm_xy HII.out
            · have b2 : (y.f0.f1 == mt) = false := beq_eq_false_iff_ne.mpr c2
              have HL2 : Aside0 (bothL (la.length + lb.length) la lb = (ds ++ [(x, y)]) ++ bothL m (la.drop (i + 1)) (lb.drop j)) := ⟨by rw [HL.out, hrdx.out, hrdy.out, bothL_cons, hmt, if_pos c1, if_neg c2, List.append_assoc]; rfl⟩
              clear c1 c2
              gi_wp2
              go_roundw
              case rel => exact ⟨i + 1, j, m, _, cast1 i, rfl, ⟨by rw [List.length_append, List.length_singleton]; exact bi_x HI.out HII.out⟩, HL2, HB3, hJ3⟩
              case measure => exact bm_x HII.out
          · have b1 : (x.f0.f1 == mt) = false := beq_eq_false_iff_ne.mpr c1
            have c2 : y.f0.f1 = mt := hc.resolve_left c1
            have b2 : (y.f0.f1 == mt) = true := beq_iff_eq.mpr c2
            have HL2 : Aside0 (bothL (la.length + lb.length) la lb = (ds ++ [(x, y)]) ++ bothL m (la.drop i) (lb.drop (j + 1))) := ⟨by rw [HL.out, hrdx.out, hrdy.out, bothL_cons, hmt, if_neg c1, if_pos c2, List.append_assoc]; rfl⟩
            clear c1 c2
            gi_wp2
            go_roundw
            case rel => exact ⟨i, j + 1, m, _, rfl, cast1 j, ⟨by rw [List.length_append, List.length_singleton]; exact bi_n HI.out HII.out⟩, HL2, HB3, hJ3⟩
            case measure => exact bm_n HII.out
      · have HBb := Aside0.mk (below_drew1 (below_alloc (below_alloc (Below.refl wr.heap.size wr) (.cells #[.int .i64 y.f0.f0, .int .i64 y.f0.f1, .int .u8 y.f1.f0, .int .i64 y.f1.f1] 97)) (.cells #[.int .i64 x.f0.f0, .int .i64 x.f0.f1, .int .u8 x.f1.f0, .int .i64 x.f1.f1] 97)))
        have WY := Aside0.mk (blk_drew (blk_alloc (heap_alloc_new wr (.cells #[.int .i64 y.f0.f0, .int .i64 y.f0.f1, .int .u8 y.f1.f0, .int .i64 y.f1.f1] 97)) (.cells #[.int .i64 x.f0.f0, .int .i64 x.f0.f1, .int .u8 x.f1.f0, .int .i64 x.f1.f1] 97)))
        have WX : Aside0 (((wr.alloc (.cells #[.int .i64 y.f0.f0, .int .i64 y.f0.f1, .int .u8 y.f1.f0, .int .i64 y.f1.f1] 97)).alloc (.cells #[.int .i64 x.f0.f0, .int .i64 x.f0.f1, .int .u8 x.f1.f0, .int .i64 x.f1.f1] 97)).drew.heap[wr.heap.size + 1]? = some (.cells #[.int .i64 x.f0.f0, .int .i64 x.f0.f1, .int .u8 x.f1.f0, .int .i64 x.f1.f1] 97 (0, 0))) := ⟨blk_drew (by
          have := heap_alloc_new (wr.alloc (.cells #[.int .i64 y.f0.f0, .int .i64 y.f0.f1, .int .u8 y.f1.f0, .int .i64 y.f1.f1] 97)) (.cells #[.int .i64 x.f0.f0, .int .i64 x.f0.f1, .int .u8 x.f1.f0, .int .i64 x.f1.f1] 97)
          rwa [World.size_alloc] at this)⟩
        generalize ((wr.alloc (.cells #[.int .i64 y.f0.f0, .int .i64 y.f0.f1, .int .u8 y.f1.f0, .int .i64 y.f1.f1] 97)).alloc (.cells #[.int .i64 x.f0.f0, .int .i64 x.f0.f1, .int .u8 x.f1.f0, .int .i64 x.f1.f1] 97)).drew = W2 at HBb WX WY ⊢
        have hgx : g < wr.heap.size + 1 := by have := HB.out.lt; omega
        have hgy : g < wr.heap.size := by have := HB.out.lt; omega
        have HB2 := Aside0.mk (HB.out.below HBb.out)
        have hJ2 : J ds W2 := hJg _ _ _ hJ ⟨HBb.out.os, HBb.out.tape, HBb.out.output, HBb.out.size, fun k hk _ => HBb.out.block k hk⟩
        have hxc0 := (blk_cell WX.out 0).trans rfl
        have hxc1 := (blk_cell WX.out 1).trans rfl
        have hxc2 := (blk_cell WX.out 2).trans rfl
        have hxc3 := (blk_cell WX.out 3).trans rfl
        have hyc0 := (blk_cell WY.out 0).trans rfl
        have hyc1 := (blk_cell WY.out 1).trans rfl
        have hyc2 := (blk_cell WY.out 2).trans rfl
        have hyc3 := (blk_cell WY.out 3).trans rfl
        obtain ⟨fn, tmps, assign, body, hy, hR⟩ := hY ds (x, y) W2 hJ2 (bi_y HI.out)
        dsimp only [encB] at hy
        rw [show mxf (x, y) = mx from hmx, show mnt (x, y) = mt from hmt] at hy
        as_aux_lemma =>
          gi_wp2
          refine hR.mono ?_
          rintro e W3 (⟨rfl, hJ3, hK3⟩ | ⟨rfl, hJx3⟩)
          rotate_left
          · gi_wp2
            refine bodyPost_ret (results_none rfl _ _ _) rfl ?_
            exact ⟨⟨_, rfl⟩, .inr ⟨_, hJx3⟩⟩
          have WX3 := Aside0.mk (hK3.cells hgx WX.out (by decide))
          have WY3 := Aside0.mk (hK3.cells hgy WY.out (by decide))
          have HB3 := Aside0.mk (HB2.out.keep hK3)
          have hxz1 := (blk_cell WX3.out 1).trans rfl
          have hyz1 := (blk_cell WY3.out 1).trans rfl
          clear hy hR hJ hJ2 hK3 hxc0 hxc1 hxc2 hxc3 hyc0 hyc1 hyc2 hyc3
          by_cases c1 : x.f0.f1 = mt
          · have b1 : (x.f0.f1 == mt) = true := beq_iff_eq.mpr c1
            by_cases c2 : y.f0.f1 = mt
            · have b2 : (y.f0.f1 == mt) = true := beq_iff_eq.mpr c2
              have HL2 : Aside0 (bothL (la.length + lb.length) la lb = (ds ++ [(x, y)]) ++ bothL m (la.drop (i + 1)) (lb.drop (j + 1))) := ⟨by rw [HL.out, hrdx.out, hrdy.out, bothL_cons, hmt, if_pos c1, if_pos c2, List.append_assoc]; rfl⟩
              clear c1 c2
              gi_wp2
              go_roundw
              case rel => exact ⟨i + 1, j + 1, m, _, cast1 i, cast1 j, ⟨by rw [List.length_append, List.length_singleton]; exact bi_xy HI.out HII.out⟩, HL2, HB3, hJ3⟩
              case measure => exact bm_xy HII.out
            · have b2 : (y.f0.f1 == mt) = false := beq_eq_false_iff_ne.mpr c2
              have HL2 : Aside0 (bothL (la.length + lb.length) la lb = (ds ++ [(x, y)]) ++ bothL m (la.drop (i + 1)) (lb.drop j)) := ⟨by rw [HL.out, hrdx.out, hrdy.out, bothL_cons, hmt, if_pos c1, if_neg c2, List.append_assoc]; rfl⟩
              clear c1 c2
              gi_wp2
              go_roundw
              case rel => exact ⟨i + 1, j, m, _, cast1 i, rfl, ⟨by rw [List.length_append, List.length_singleton]; exact bi_x HI.out HII.out⟩, HL2, HB3, hJ3⟩
              case measure => exact bm_x HII.out
          · have b1 : (x.f0.f1 == mt) = false := beq_eq_false_iff_ne.mpr c1
            have c2 : y.f0.f1 = mt := hc.resolve_left c1
            have b2 : (y.f0.f1 == mt) = true := beq_iff_eq.mpr c2
            have HL2 : Aside0 (bothL (la.length + lb.length) la lb = (ds ++ [(x, y)]) ++ bothL m (la.drop i) (lb.drop (j + 1))) := ⟨by rw [HL.out, hrdx.out, hrdy.out, bothL_cons, hmt, if_neg c1, if_pos c2, List.append_assoc]; rfl⟩
            clear c1 c2
            gi_wp2
            go_roundw
            case rel => exact ⟨i, j + 1, m, _, rfl, cast1 j, ⟨by rw [List.length_append, List.length_singleton]; exact bi_n HI.out HII.out⟩, HL2, HB3, hJ3⟩
            case measure => exact bm_n HII.out
    · have hex : ds = bothL (la.length + lb.length) la lb := by
        by_cases hi : i < la.length
        · have hj : ¬ j < lb.length := fun h => hij ⟨hi, h⟩
          have e : lb.drop j = [] := List.drop_eq_nil_of_le (by omega)
          rw [HL.out, e, bothL_nr, List.append_nil]
        · have e : la.drop i = [] := List.drop_eq_nil_of_le (by omega)
          rw [HL.out, e, bothL_nl, List.append_nil]
      by_cases hi : i < la.length
      case' pos =>
        have hd : decide ((i : Int) < (la.length : Int)) = true := decide_eq_true (by omega)
        have hdn : decide (i < la.length) = true := decide_eq_true hi
        have hj : ¬ j < lb.length := fun h => hij ⟨hi, h⟩
        have hd2 : decide ((j : Int) < (lb.length : Int)) = false := decide_eq_false (by omega)
        have hdn2 : decide (j < lb.length) = false := decide_eq_false hj
        clear hj
      case' neg =>
        have hd : decide ((i : Int) < (la.length : Int)) = false := decide_eq_false (by omega)
        have hdn : decide (i < la.length) = false := decide_eq_false hi
      all_goals
        clear hij hi
        gi_wp2
        first | go_end0 | ((try simp only [Exit.inBlock, Exit.then]); refine bodyPost_ret (results_none rfl _ _ _) rfl ?_)
        exact ⟨⟨_, rfl⟩, .inl ⟨ds, hex, hJ⟩⟩
attribute [local go_sem] Oper.semAt_some
attribute [local go_sem high] eqA35
def ofPair (p : PcV × PcV) : S80 := ⟨⟨mxf p, mnt p⟩, (!p.1.f1.f0 == p.2.f1.f0 || !p.1.f1.f1 == p.2.f1.f1)⟩
def putP (out : List S80) (p : PcV × PcV) : List S80 := addB out (ofPair p)
def differL (a b : List S52) : List S80 := (bothL ((a.map pieceOf).length + (b.map pieceOf).length) (a.map pieceOf) (b.map pieceOf)).foldl putP []
def heldB (p : S80) : Option S23 := if p.f1 = true then some p.f0 else none
theorem addB_len (out : List S80) (x : S80) : (addB out x).length ≤ out.length + 1 := by unfold addB; split <;> simp
theorem puts_len : ∀ (ps : List (PcV × PcV)) (out : List S80), (ps.foldl putP out).length ≤ out.length + ps.length
  | [], _ => Nat.le_refl _
  | p :: ps, out => by
    have h1 := puts_len ps (putP out p)
    have h2 := addB_len out (ofPair p)
    have h3 : (putP out p).length ≤ out.length + 1 := h2
    simp only [List.foldl_cons, List.length_cons]
    omega
theorem bothL_len : ∀ (n : Nat) (a b : List PcV), (bothL n a b).length ≤ n
  | 0, _, _ => Nat.zero_le _
  | n + 1, [], b => by simp [bothL]
  | n + 1, x :: xs, [] => by simp [bothL]
  | n + 1, x :: xs, y :: ys => by
    rw [bothL_cons, List.length_cons]
    exact Nat.succ_le_succ (bothL_len n _ _)
def line_Differ.f (k : Nat) (a0_0 a0_1 : Int) (l1 l2 : List S52) : Option (List S23 × Int) := (line_Check.f k a0_0 a0_1 l1).bind fun y => if y ≠ 0 then some ([], 2) else (line_Check.f k a0_0 a0_1 l2).bind fun z => if z ≠ 0 then some ([], 2) else
  if (l1.length + l2.length + 1) * 32 ≤ 140737488355328 then some (if 1024 < ((differL l1 l2).filterMap heldB).length then ([], 11) else ((differL l1 l2).filterMap heldB, 0)) else none
theorem line_Differ.mono : ∀ a0 a1 a2 a3 k, LeO (line_Differ.f k a0 a1 a2 a3) (line_Differ.f (k + 1) a0 a1 a2 a3) := by
  intro a0 a1 a2 a3 k
  unfold line_Differ.f
  exact LeO.bind (line_Check.mono _ _ _ _) (fun _ => LeO.ite (LeO.refl _) (LeO.bind (line_Check.mono _ _ _ _) (fun _ => LeO.refl _)))
structure DiffIn (w0 W2 W : World) (g Bx : Nat) (pre : List (PcV × PcV)) : Prop where
  line : ∃ v, LnB w0 W g v (pre.foldl putP [])
  box : W.heap[Bx]? = some (.cells #[.pointer (some ⟨g, 0, none⟩)] 68 (0, 0))
  size : W2.heap.size ≤ W.heap.size
theorem DiffIn.own {w0 W2 A B : World} {g Bx N : Nat} {pre : List (PcV × PcV)} {row : Option Nat} (h : DiffIn w0 W2 A g Bx pre) (hg : A.grownBy B row) (hr : ∀ r, row = some r → N ≤ r ∧ ∃ o : Obj, A.heap[r]? = some o ∧ o.isCells = false) (hN : w0.heap.size ≤ N) : DiffIn w0 W2 B g Bx pre := by
  obtain ⟨⟨v, h1, h2, h3, h4⟩, h5, h6⟩ := h
  exact ⟨⟨v, blk_grown_ h1 hg hr, h2, own_grown h3 hg hr, h4.grown hg h4.size (fun k e => by have := (hr k e).1; omega)⟩, blk_grown_ h5 hg hr, Nat.le_trans h6 hg.size⟩
theorem len_ok {a b p q n m : Nat} (h1 : (a + b + 1) * 32 ≤ 140737488355328) (h2 : n ≤ ([] : List S80).length + m) (h3 : m < p + q) (hp : p = a) (hq : q = b) : (n + 1) * 24 ≤ 140737488355328 := by
  rw [List.length_nil] at h2
  refine Nat.le_trans (Nat.mul_le_mul (show n + 1 ≤ a + b + 1 from ?_) (by decide)) h1
  clear h1
  omega
theorem len_ok2 {a b n i m : Nat} (h1 : (a + b + 1) * 32 ≤ 140737488355328) (h2 : n ≤ a + b) (h3 : i < n) (h4 : m ≤ i) : (m + 1) * 16 ≤ 140737488355328 := by
  refine Nat.le_trans (Nat.mul_le_mul (show m + 1 ≤ a + b + 1 from ?_) (by decide)) h1
  clear h1
  omega
theorem dm1 {i n : Nat} (h : i < n) : n - intSz (.int .i64 ((i : Int) + 1)) < n - intSz (.int .i64 (i : Int)) := by simp only [intSz]; omega
theorem blk_below' {W W' : World} {k : Nat} {o : Obj} (h : W.heap[k]? = some o) (hk : k < W.heap.size) (hb : Below W.heap.size W W') : W'.heap[k]? = some o := (hb.block k hk).trans h
theorem DiffIn.below {w0 W2 A B : World} {g Bx : Nat} {pre : List (PcV × PcV)} (h : DiffIn w0 W2 A g Bx pre) (hb : Below A.heap.size A B) : DiffIn w0 W2 B g Bx pre := by
  obtain ⟨⟨v, h1⟩, h5, h6⟩ := h
  exact ⟨⟨v, h1.below hb⟩, blk_below h5 hb, Nat.le_trans h6 hb.size⟩
theorem KeepIn.putWalk {g l : Nat} {W : World} {o : Obj} (h : W.heap[l]? = some o) (hc : o.isCells = false) (o' : Obj) : KeepIn g W (W.putObj l o') := by
  have hg := grownBy_putObj' W l o'
  refine ⟨hg.size, fun k cs t fr _ hb _ => (hg.block k (blk_lt hb) (fun e => ?_)).trans hb⟩
  have e' : k = l := Option.some.inj e
  subst e'
  rw [h] at hb
  cases hb
  cases hc
set_option maxRecDepth 100000 in
set_option maxHeartbeats 4000000 in
theorem line_Differ.walk (k : Nat) (a0_0 a0_1 : Int) (A1 : Option Addr) (c1 : Nat) (l1 : List S52) (A2 : Option Addr) (c2 : Nat) (l2 : List S52) (w : World) (hr1 : Kd.C k52 w A1 l1.length l1) (hc1 : l1.length ≤ c1) (hr2 : Kd.C k52 w A2 l2.length l2) (hc2 : l2.length ≤ c2)
    (h1 : line_Check.f k a0_0 a0_1 l1 = some 0) (h2 : line_Check.f k a0_0 a0_1 l2 = some 0) (hl : (l1.length + l2.length + 1) * 32 ≤ 140737488355328) :
    Calls Try.prog 20 #[.agg #[.int .i64 a0_0, .int .i64 a0_1], .slice A1 l1.length c1, .slice A2 l2.length c2] w fun e w' => ∃ v0_ : Value, e = .returned (.tuple #[v0_, .int .i64 (if 1024 < ((differL l1 l2).filterMap heldB).length then 11 else 0)]) ∧ Kd.R k23 23 w' w.heap.size (fun _ => True) v0_ (if 1024 < ((differL l1 l2).filterMap heldB).length then [] else (differL l1 l2).filterMap heldB) ∧ Below w.heap.size w w' := by
  refine (callsIn_wide (n := 4)).1 ?_
  have HC1 := Aside0.mk hc1
  have HC2 := Aside0.mk hc2
  have H1 := Aside0.mk h1
  have H2 := Aside0.mk h2
  have HL := Aside0.mk hl
  have HB := Aside0.mk (below_alloc (Below.refl w.heap.size w) (.cells #[.int .i64 a0_0, .int .i64 a0_1] 23))
  have HR1 := Aside0.mk (Kd.C_below hr1 HB.out)
  have HR2 := Aside0.mk (Kd.C_below hr2 HB.out)
  have BK := Aside0.mk (heap_alloc_new w (.cells #[.int .i64 a0_0, .int .i64 a0_1] 23))
  have HZ : w.heap.size + 1 ≤ (w.alloc (.cells #[.int .i64 a0_0, .int .i64 a0_1] 23)).heap.size := by rw [World.size_alloc]; exact Nat.le_refl _
  clear hr1 hc1 hr2 hc2 h1 h2 hl
  refine callsIn_of_wp_marks Try.func20 rfl trivial ?_ rfl
  simp only [Try.ntmps20, List.size_toArray, List.length_cons, List.length_nil, Nat.reduceAdd, Nat.reduceSub, Array.replicate_succ, Array.replicate_zero, List.push_toArray, List.append_toArray, List.nil_append, List.cons_append]
  have hc0 := (blk_cell BK.out 0).trans rfl
  have hc1 := (blk_cell BK.out 1).trans rfl
  gi_wp2
  refine ⟨trivial, ?_⟩
  refine (callsIn_wide.2 (line_Check.calls k a0_0 a0_1 A1 c1 l1 0 _ HR1.out HC1.out H1.out)).mono ?_
  rintro e w1 ⟨rfl, hb1⟩
  have BK1 := Aside0.mk (blk_below BK.out hb1)
  have HR2' := Aside0.mk (Kd.C_below HR2.out hb1)
  have HR1' := Aside0.mk (Kd.C_below HR1.out hb1)
  have HB1 := Aside0.mk (below_step HB.out hb1)
  have HZ1 := Nat.le_trans HZ hb1.size
  clear hb1 hc0 hc1 HR1 HR2 HB HZ BK
  have hc0 := (blk_cell BK1.out 0).trans rfl
  have hc1 := (blk_cell BK1.out 1).trans rfl
  gi_wp2
  refine ⟨trivial, ?_⟩
  refine (callsIn_wide.2 (line_Check.calls k a0_0 a0_1 A2 c2 l2 0 _ HR2'.out HC2.out H2.out)).mono ?_
  rintro e w2 ⟨rfl, hb1⟩
  have HR2 := Aside0.mk (Kd.C_below HR2'.out hb1)
  have HR1 := Aside0.mk (Kd.C_below HR1'.out hb1)
  have HB2 := Aside0.mk (below_step HB1.out hb1)
  clear hb1 hc0 hc1 HR1' HR2' HB1 BK1
  gi_wp2
  have HLB : Aside0 (LnB w2 ((w2.alloc (.cells #[.slice none 0 0] 71)).alloc (.cells #[.pointer (some ⟨w2.heap.size, 0, none⟩)] 68)) w2.heap.size (.slice none 0 0) []) :=
    ⟨blk_alloc (heap_alloc_new w2 _) _, Nat.le_refl _, Kd.R_nil _ _ _ _ _, below_alloc (below_alloc (Below.refl _ _) _) _⟩
  have HBX : Aside0 (((w2.alloc (.cells #[.slice none 0 0] 71)).alloc (.cells #[.pointer (some ⟨w2.heap.size, 0, none⟩)] 68)).heap[w2.heap.size + 1]? = some (.cells #[.pointer (some ⟨w2.heap.size, 0, none⟩)] 68 (0, 0))) := ⟨by
    have := heap_alloc_new (w2.alloc (.cells #[.slice none 0 0] 71)) (.cells #[.pointer (some ⟨w2.heap.size, 0, none⟩)] 68)
    rwa [World.size_alloc] at this⟩
  have HR1' := Aside0.mk (Kd.C_below HR1.out HLB.out.2.2.2)
  have HR2' := Aside0.mk (Kd.C_below HR2.out HLB.out.2.2.2)
  have hz3 : w2.heap.size + 2 = ((w2.alloc (.cells #[.slice none 0 0] 71)).alloc (.cells #[.pointer (some ⟨w2.heap.size, 0, none⟩)] 68)).heap.size := by rw [World.size_alloc, World.size_alloc]
  clear HR1 HR2
  generalize ((w2.alloc (.cells #[.slice none 0 0] 71)).alloc (.cells #[.pointer (some ⟨w2.heap.size, 0, none⟩)] 68)) = W3 at HLB HBX HR1' HR2' hz3 ⊢
  refine ⟨trivial, ?_⟩
  refine (callsIn_wide.2 (of_is A1 c1 l1 (by have := HL.out; omega) W3 HR1'.out HC1.out)).mono ?_
  rintro e w4 ⟨rfl, v4, hV4⟩
  have hz4 := hV4.2.2.2.size
  have hs4 := hV4.lt
  have HR2 := Aside0.mk (Kd.C_below HR2'.out hV4.2.2.2)
  have HV4 := Aside0.mk hV4
  clear hV4 HR1' HR2'
  gi_wp2
  refine ⟨trivial, ?_⟩
  refine (callsIn_wide.2 (of_is A2 c2 l2 (by have := HL.out; omega) w4 HR2.out HC2.out)).mono ?_
  rintro e w5 ⟨rfl, v5, hV5⟩
  have hz5 := hV5.2.2.2.size
  have hs5 := hV5.lt
  have HV5 := Aside0.mk hV5
  clear hV5 HR2
  gi_wp2
  refine ⟨trivial, ?_⟩
  refine (both_in _ _ _ _).mono ?_
  rintro e w6 ⟨rfl, rfl⟩
  gi_wp2
  obtain ⟨Aa, ca, rfl⟩ := Kd.R_slice HV4.out.2.2.1
  obtain ⟨Ab, cb, rfl⟩ := Kd.R_slice HV5.out.2.2.1
  have hb6 : Below w5.heap.size w5 ((w5.alloc (.cells #[.pointer (some ⟨W3.heap.size, 0, none⟩)] 58)).alloc (.cells #[.pointer (some ⟨w4.heap.size, 0, none⟩)] 58)) := below_alloc (below_alloc (Below.refl _ _) _) _
  have hba : ((w5.alloc (.cells #[.pointer (some ⟨W3.heap.size, 0, none⟩)] 58)).alloc (.cells #[.pointer (some ⟨w4.heap.size, 0, none⟩)] 58)).heap[w5.heap.size]? = some (.cells #[.pointer (some ⟨W3.heap.size, 0, none⟩)] 58 (0, 0)) := blk_alloc (heap_alloc_new w5 _) _
  have hbb : ((w5.alloc (.cells #[.pointer (some ⟨W3.heap.size, 0, none⟩)] 58)).alloc (.cells #[.pointer (some ⟨w4.heap.size, 0, none⟩)] 58)).heap[w5.heap.size + 1]? = some (.cells #[.pointer (some ⟨w4.heap.size, 0, none⟩)] 58 (0, 0)) := by
    have := heap_alloc_new (w5.alloc (.cells #[.pointer (some ⟨W3.heap.size, 0, none⟩)] 58)) (.cells #[.pointer (some ⟨w4.heap.size, 0, none⟩)] 58)
    rwa [World.size_alloc] at this
  have hz6 : w5.heap.size + 2 = ((w5.alloc (.cells #[.pointer (some ⟨W3.heap.size, 0, none⟩)] 58)).alloc (.cells #[.pointer (some ⟨w4.heap.size, 0, none⟩)] 58)).heap.size := by rw [World.size_alloc, World.size_alloc]
  generalize ((w5.alloc (.cells #[.pointer (some ⟨W3.heap.size, 0, none⟩)] 58)).alloc (.cells #[.pointer (some ⟨w4.heap.size, 0, none⟩)] 58)) = w6 at hb6 hba hbb hz6 ⊢
  have HBI : Aside0 (BothIn w2.heap.size w5.heap.size (w5.heap.size + 1) W3.heap.size w4.heap.size (l1.map pieceOf) (l2.map pieceOf) Aa Ab ca cb w6) := ⟨by
    have h4 := HV4.out.below HV5.out.2.2.2
    have h46 := h4.below hb6
    have h56 := HV5.out.below hb6
    refine ⟨⟨by omega, by omega, by omega, by omega, by omega⟩, hba, hbb, h46.1, h56.1, Kd.R_mono (Kd.R_lower (Kd.R_bound h46.2.2.1) (Nat.zero_le _)) (fun k hk => by have := hk.2.1; omega), Kd.R_mono (Kd.R_lower (Kd.R_bound h56.2.2.1) (Nat.zero_le _)) (fun k hk => by have := hk.2.1; omega)⟩⟩
  have HLB5 := ((HLB.out.below HV4.out.2.2.2).below HV5.out.2.2.2).below hb6
  have HBX5 := blk_below (blk_below (blk_below HBX.out HV4.out.2.2.2) HV5.out.2.2.2) hb6
  have hD0 : DiffIn w2 w6 w6 w2.heap.size (w2.heap.size + 1) [] := ⟨⟨_, HLB5⟩, HBX5, Nat.le_refl _⟩
  clear HLB5 HBX5 hb6 hba hbb
  have hl1 : (l1.map pieceOf).length = l1.length := List.length_map _
  have hl2 : (l2.map pieceOf).length = l2.length := List.length_map _
  have hseq : SeqStopsK Fence.wide 3 Try.prog 48 #[.pointer (some ⟨w5.heap.size, 0, none⟩), .pointer (some ⟨w5.heap.size + 1, 0, none⟩)] encB (KeepIn w2.heap.size) (fun ys => ys = bothL ((l1.map pieceOf).length + (l2.map pieceOf).length) (l1.map pieceOf) (l2.map pieceOf)) (fun _ => True) ((l1.map pieceOf).length + (l2.map pieceOf).length) w6 := fun l J Jx W hW hJ _ hY h0 =>
    (both1_in 3 (by omega) l w2.heap.size w5.heap.size (w5.heap.size + 1) W3.heap.size w4.heap.size (l1.map pieceOf) (l2.map pieceOf) Aa Ab ca cb J Jx hY (fun _ _ _ h hg => hJ _ _ _ none h hg (fun _ e => by cases e)) W (HBI.out.below hW) h0).mono (by
      rintro e W' ⟨hv, (⟨ys, hys, hj⟩ | ⟨pre, hj⟩)⟩
      · exact ⟨hv, .inl ⟨ys, hys, hj⟩⟩
      · exact ⟨hv, .inr ⟨pre, trivial, hj⟩⟩)
  refine wpIn_rangeFunc_ownH rfl (by omega) (gf := 48) (lb := #[.pointer (some ⟨w5.heap.size, 0, none⟩), .pointer (some ⟨w5.heap.size + 1, 0, none⟩)]) rfl trivial (enters_of Try.func48 (by kernel_rfl) rfl)
    hseq (fun h k => h.trans k) (fun W l o o' _ ho hc _ => KeepIn.putWalk ho hc o') (Below.refl _ _) (fun _ => rfl)
    (fun pre W => DiffIn w2 w6 W w2.heap.size (w2.heap.size + 1) pre)
    (fun _ _ _ => False)
    (fun s A B row h hg hr => h.own hg hr (by omega))
    (fun _ _ _ _ _ hs _ _ => hs)
    hD0
    (fun x a' W => ∃ B9 B10, w6.heap.size ≤ B9 ∧ w6.heap.size ≤ B10 ∧ W.heap[B9]? = some (.cells #[.int .i64 (mxf x), .int .i64 (mnt x)] 23 (0, 0)) ∧ W.heap[B10]? = some (.cells #[.int .u8 x.1.f1.f0, .int .i64 x.1.f1.f1, .int .u8 x.2.f1.f0, .int .i64 x.2.f1.f1] 77 (0, 0)) ∧ a' = { tmps := #[.agg #[.int .i64 a0_0, .int .i64 a0_1], .slice A1 l1.length c1, .slice A2 l2.length c2, .pointer (some ⟨w.heap.size, 0, none⟩), undef, undef, .slice none 0 0, .int .i64 0, .pointer (some ⟨w2.heap.size + 1, 0, none⟩), .pointer (some ⟨B9, 0, none⟩), .pointer (some ⟨B10, 0, none⟩), undef, undef, undef, .agg #[.int .i64 a0_0, .int .i64 a0_1], .slice A1 l1.length c1, .int .i64 0, .bool false, .bool false, .agg #[.int .i64 a0_0, .int .i64 a0_1], .slice A2 l2.length c2, .int .i64 0, .bool false, .bool false, .agg #[.slice none 0 0], .pointer (some ⟨w2.heap.size, 0, none⟩), .slice A1 l1.length c1, .pointer (some ⟨W3.heap.size, 0, none⟩), .slice A2 l2.length c2, .pointer (some ⟨w4.heap.size, 0, none⟩), .func (.func 48) #[] #[.pointer (some ⟨w5.heap.size, 0, none⟩), .pointer (some ⟨w5.heap.size + 1, 0, none⟩)], .agg #[.int .i64 (mxf x), .int .i64 (mnt x)], .agg #[.int .u8 x.1.f1.f0, .int .i64 x.1.f1.f1, .int .u8 x.2.f1.f0, .int .i64 x.2.f1.f1], undef, undef, undef, undef, undef, undef, undef, undef, undef, undef, undef, undef, undef, undef, undef, undef, undef, undef, undef, undef, undef, undef, undef, undef, undef, undef, undef, undef, undef], defers := [] })
    (fun x a' _ A B row ⟨B9, B10, h1, h2, h3, h4, h5⟩ hg hr => ⟨B9, B10, h1, h2, blk_grown_ h3 hg hr, blk_grown_ h4 hg hr, h5⟩) ?assign ?body ?done ?stop
  case assign =>
    rintro l pre x W K hI hK
    dsimp only [encB]
    gi_wp2
    have hb : Below W.heap.size W ((W.alloc (.cells #[.int .i64 (mxf x), .int .i64 (mnt x)] 23)).alloc (.cells #[.int .u8 x.1.f1.f0, .int .i64 x.1.f1.f1, .int .u8 x.2.f1.f0, .int .i64 x.2.f1.f1] 77)) := below_alloc (below_alloc (Below.refl _ _) _) _
    refine hK _ _ ((others_below hb).from _) (KeepIn.below (n := 0) hb) (hI.below hb) ⟨W.heap.size, W.heap.size + 1, hI.size, Nat.le_trans hI.size (Nat.le_succ _), ?_, ?_, rfl⟩
    · exact blk_alloc (heap_alloc_new W _) _
    have := heap_alloc_new (W.alloc (.cells #[.int .i64 (mxf x), .int .i64 (mnt x)] 23)) (.cells #[.int .u8 x.1.f1.f0, .int .i64 x.1.f1.f1, .int .u8 x.2.f1.f0, .int .i64 x.2.f1.f1] 77)
    rwa [World.size_alloc] at this
  case body =>
    rintro l pre x a' W hl hr hI ⟨B9, B10, hB9, hB10, h9, h10, rfl⟩ hlt
    obtain ⟨v, hv⟩ := hI.line
    have HV := Aside0.mk hv
    have HI := Aside0.mk hI
    have HLEN : Aside0 (((pre.foldl putP []).length + 1) * 24 ≤ 140737488355328) := ⟨len_ok HL.out (puts_len pre []) hlt hl1 hl2⟩
    have HPX : Aside0 ((pre ++ [x]).foldl putP [] = addB (pre.foldl putP []) (ofPair x)) := ⟨by rw [List.foldl_append]; rfl⟩
    have hcx := (blk_cell hI.box 0).trans (rfl : _ = some (Value.pointer (some ⟨w2.heap.size, 0, none⟩)))
    have hc90 := (blk_cell h9 0).trans (rfl : _ = some (Value.int .i64 (mxf x)))
    have hc91 := (blk_cell h9 1).trans (rfl : _ = some (Value.int .i64 (mnt x)))
    have hp0 := (blk_cell h10 0).trans (rfl : _ = some (Value.int .u8 x.1.f1.f0))
    have hp1 := (blk_cell h10 1).trans (rfl : _ = some (Value.int .i64 x.1.f1.f1))
    have hp2 := (blk_cell h10 2).trans (rfl : _ = some (Value.int .u8 x.2.f1.f0))
    have hp3 := (blk_cell h10 3).trans (rfl : _ = some (Value.int .i64 x.2.f1.f1))
    have HVD := Aside0.mk (hv.below (below_drew1 (Below.refl W.heap.size W)))
    have HID := Aside0.mk (hI.below (below_drew1 (Below.refl W.heap.size W)))
    clear hv hI h9 h10 hl hr hlt HV HI
    have hmo : Try.prog.follows .mixedOrders = true := by kernel_rfl
    gi_wp2
    refine startI (m := 8) (S := fun w' => w'.cell? ⟨w2.heap.size + 1, 0, none⟩ = some (.pointer (some ⟨w2.heap.size, 0, none⟩)) ∧ w'.cell? ⟨B9, 0, none⟩ = some (.int .i64 (mxf x)) ∧ w'.cell? ⟨B9, 1, none⟩ = some (.int .i64 (mnt x)) ∧ w'.cell? ⟨B10, 0, none⟩ = some (.int .u8 x.1.f1.f0) ∧ w'.cell? ⟨B10, 1, none⟩ = some (.int .i64 x.1.f1.f1) ∧ w'.cell? ⟨B10, 2, none⟩ = some (.int .u8 x.2.f1.f0) ∧ w'.cell? ⟨B10, 3, none⟩ = some (.int .i64 x.2.f1.f1)) (ds := [7]) #[false,false,false,false,false,false,false,false] hmo rfl rfl ?_
    have hHeld : W.drew.cell? ⟨w2.heap.size + 1, 0, none⟩ = some (.pointer (some ⟨w2.heap.size, 0, none⟩)) ∧ W.drew.cell? ⟨B9, 0, none⟩ = some (.int .i64 (mxf x)) ∧ W.drew.cell? ⟨B9, 1, none⟩ = some (.int .i64 (mnt x)) ∧ W.drew.cell? ⟨B10, 0, none⟩ = some (.int .u8 x.1.f1.f0) ∧ W.drew.cell? ⟨B10, 1, none⟩ = some (.int .i64 x.1.f1.f1) ∧ W.drew.cell? ⟨B10, 2, none⟩ = some (.int .u8 x.2.f1.f0) ∧ W.drew.cell? ⟨B10, 3, none⟩ = some (.int .i64 x.2.f1.f1) := ⟨hcx, hc90, hc91, hp0, hp1, hp2, hp3⟩
    refine takeI (fun _ => trivial) (by kernel_rfl) (i := 0) (N := some 33) (v := ?_) (a' := ?_) #[true,false,false,false,false,false,false,false] rfl rfl (by kernel_rfl) (fun _ _ _ h => h) (Or.inl ⟨by rfl, ?_⟩) hHeld ?_ ?_
    rotate_left
    · rintro w' ⟨s0, s1, s2, s3, s4, s5, s6⟩
      go_simp
      with_reducible rfl
    rotate_left
    · simp only [Go.Act.put]
      rfl
    refine takeI (fun _ => trivial) (by kernel_rfl) (i := 1) (N := some 34) (v := ?_) (a' := ?_) #[true,true,false,false,false,false,false,false] rfl rfl (by kernel_rfl) (fun _ _ _ h => h) (Or.inl ⟨by rfl, ?_⟩) hHeld ?_ ?_
    rotate_left
    · rintro w' ⟨s0, s1, s2, s3, s4, s5, s6⟩
      go_simp
      with_reducible rfl
    rotate_left
    · simp only [Go.Act.put]
      rfl
    refine pureI (fun _ => trivial) (by kernel_rfl) (i := 2) (N := some 35) (v := ?_) (a' := ?_) #[true,true,true,false,false,false,false,false] rfl rfl (by kernel_rfl) (fun _ _ _ h => h) (Or.inl ⟨by rfl, ?_⟩) ?_ ?_
    rotate_left
    · intro w'
      go_simp
      with_reducible rfl
    rotate_left
    · simp only [Go.Act.put]
      rfl
    refine takeI (fun _ => trivial) (by kernel_rfl) (i := 3) (N := some 36) (v := ?_) (a' := ?_) #[true,true,true,true,false,false,false,false] rfl rfl (by kernel_rfl) (fun _ _ _ h => h) (Or.inl ⟨by rfl, ?_⟩) hHeld ?_ ?_
    rotate_left
    · rintro w' ⟨s0, s1, s2, s3, s4, s5, s6⟩
      go_simp
      with_reducible rfl
    rotate_left
    · simp only [Go.Act.put]
      rfl
    refine pureI (fun _ => trivial) (by kernel_rfl) (i := 4) (N := some 37) (v := ?_) (a' := ?_) #[true,true,true,true,true,false,false,false] rfl rfl (by kernel_rfl) (fun _ _ _ h => h) (Or.inl ⟨by rfl, ?_⟩) ?_ ?_
    rotate_left
    · intro w'
      go_simp
      with_reducible rfl
    rotate_left
    · simp only [Go.Act.put]
      rfl
    refine takeI (fun _ => trivial) (by kernel_rfl) (i := 5) (N := some 38) (v := ?_) (a' := ?_) #[true,true,true,true,true,true,false,false] rfl rfl (by kernel_rfl) (fun _ _ _ h => h) (Or.inl ⟨by rfl, ?_⟩) hHeld ?_ ?_
    rotate_left
    · rintro w' ⟨s0, s1, s2, s3, s4, s5, s6⟩
      go_simp
      with_reducible rfl
    rotate_left
    · simp only [Go.Act.put]
      rfl
    refine pureI (fun _ => trivial) (by kernel_rfl) (i := 6) (N := some 39) (v := ?_) (a' := ?_) #[true,true,true,true,true,true,true,false] rfl rfl (by kernel_rfl) (fun _ _ _ h => h) (Or.inl ⟨by rfl, ?_⟩) ?_ ?_
    rotate_left
    · intro w'
      go_simp
      with_reducible rfl
    rotate_left
    · simp only [Go.Act.put]
      rfl
    refine lastI (i := 7) (N := some 40) #[true,true,true,true,true,true,true,true] rfl rfl (by kernel_rfl) (by decide) (by rfl) (fun K hK => ?_)
    clear hHeld
    go_simp
    refine ⟨trivial, ?_⟩
    refine (CallsIn.inRound l (callsIn_wide.2 (addB_is w2.heap.size v (pre.foldl putP []) (ofPair x) w2 W.drew HLEN.out HVD.out))).mono ?_
    rintro e w7 ⟨rfl, ⟨v7, hl7⟩, hk7, ho7⟩
    refine hK _ _ (doneI (by kernel_rfl) ?_)
    simp only [Exit.inBlock]
    have hI := HID.out
    refine ⟨((KeepsOthers.drew W).trans ho7).from _, (KeepIn.below (n := 0) (below_drew1 (Below.refl W.heap.size W))).trans hk7, ⟨⟨v7, by rw [HPX.out]; exact hl7⟩, hk7.2 _ _ _ _ (Nat.lt_succ_self _) hI.box (by decide), Nat.le_trans hI.size hk7.1⟩⟩
  case done =>
    rintro D xs W hD hxs hI hDd
    obtain ⟨v, hv⟩ := hI.line
    obtain ⟨out, hout⟩ : ∃ out, differL l1 l2 = out := ⟨_, rfl⟩
    have e1 : xs.foldl putP [] = out := by rw [hxs]; exact hout
    have hln : out.length ≤ l1.length + l2.length := by
      have q1 := puts_len xs []
      have q2 := bothL_len ((l1.map pieceOf).length + (l2.map pieceOf).length) (l1.map pieceOf) (l2.map pieceOf)
      rw [← hxs] at q2
      rw [e1, List.length_nil, Nat.zero_add] at q1
      rw [hl1, hl2] at q2
      exact Nat.le_trans q1 q2
    rw [e1] at hv
    have HOUT := Aside0.mk hout
    obtain ⟨A, c, rfl⟩ := Kd.R_slice hv.2.2.1
    have hcx := (blk_cell hI.box 0).trans (rfl : _ = some (Value.pointer (some ⟨w2.heap.size, 0, none⟩)))
    have hcl := (blk_cell hv.1 0).trans (rfl : _ = some (Value.slice A out.length c))
    have HC := Aside0.mk (Kd.R_reads' hv.2.2.1).2.2
    have HM := Aside0.mk (Kd.C_max HC.out)
    have HBW := Aside0.mk (below_step HB2.out (hv.2.2.2))
    have HLN := Aside0.mk hln
    have HD := Aside0.mk hDd
    have HDl := blk_lt hDd
    have HDw : Aside0 (w.heap.size ≤ D) := ⟨Nat.le_trans (Nat.le_trans HB2.out.size (by omega)) hD⟩
    clear hI hv hDd e1 hxs hout hln hD
    gi_wp2
    clear hcx hcl
    gi_loopw [11, 46] (fun v11 v46 wr => ∃ (i : Nat), v46 = .int .i64 (i : Int) ∧ Aside0 (i ≤ out.length) ∧ Aside0 (Kd.R k23 23 wr W.heap.size (fun _ => True) v11 ((out.take i).filterMap heldB)) ∧ Aside0 (Below W.heap.size W wr))
      (fun _ v46 _ => out.length - intSz v46)
    case atStart => exact ⟨0, rfl, ⟨Nat.zero_le _⟩, ⟨Kd.R_nil _ _ _ _ _⟩, ⟨Below.refl _ _⟩⟩
    case round =>
      obtain ⟨i, rfl, HJ, HO, Hb⟩ := hrel
      have hm := HM.out
      obtain ⟨A3, c3, rfl⟩ := Kd.R_slice HO.out
      by_cases hi : i < out.length
      · have hd : decide ((i : Int) < (out.length : Int)) = true := decide_eq_true (by omega)
        have hdn : decide (i < out.length) = true := decide_eq_true hi
        have p0 : (0 : Int) ≤ (i : Int) := by omega
        have q0 : (i : Int) < (out.length : Int) := by omega
        obtain ⟨ad, ead, hx0, hx1, hx2⟩ := at_T80 (Kd.C_below HC.out Hb.out) (i : Int) p0 q0
        cases ead
        simp only [Int.toNat_natCast] at hx0 hx1 hx2
        obtain ⟨x, hx⟩ : ∃ x, rd_T80 out (i : Int) = x := ⟨_, rfl⟩
        rw [hx] at hx0 hx1 hx2
        have htk : (out.take (i + 1)).filterMap heldB = (out.take i).filterMap heldB ++ (heldB x).toList := by
          rw [List.take_succ_eq_append_getElem hi, List.filterMap_append, ← hx]
          have e2 : rd_T80 out (i : Int) = out[i] := by simp [rd_T80, List.getD_eq_getElem?_getD, hi]
          rw [e2, List.filterMap_cons, List.filterMap_nil]
          cases heldB out[i] <;> rfl
        have HT := Aside0.mk htk
        have HII := Aside0.mk hi
        have HLL : Aside0 ((((out.take i).filterMap heldB).length + 1) * 16 ≤ 140737488355328) := ⟨len_ok2 HL.out HLN.out hi (Nat.le_trans (List.length_filterMap_le _ _) (by rw [List.length_take]; exact Nat.min_le_left _ _))⟩
        have wi : IntKind.i64.wrap ((i : Int) + 1) = (i : Int) + 1 := by rw [i64_w]; unfold wrap64; omega
        replace p0 := eq_true p0
        replace q0 := eq_true q0
        clear hx htk hi
        by_cases hh : x.f1 = true
        · have HT1 : Aside0 ((out.take (i + 1)).filterMap heldB = (out.take i).filterMap heldB ++ [x.f0]) := ⟨by rw [HT.out]; simp only [heldB, if_pos hh]; rfl⟩
          rw [hh] at hx2
          clear hh
          gi_wp2_with (gi_at_builtin; refine R_append_in k23 (w0 := W) W.heap.size rfl (.tmp 52) (.tmp 55) 38 23 (.agg #[(.int .i64 0), (.int .i64 0)]) 16 rfl Try.underlying38 info23 rfl (by decide) (by omega) _ ((out.take i).filterMap heldB) x.f0 [.int .i64 x.f0.f0, .int .i64 x.f0.f1] (fun _ => True) (fun _ => False) rfl ?aX (k23_mkM _ _ _ x.f0) (fun _ hk => hk.elim) (fun _ _ => trivial) (Kd.R_alloc HO.out (.cells #[.int .i64 x.f0.f0, .int .i64 x.f0.f1, .bool true] 80)) (below_alloc Hb.out (.cells #[.int .i64 x.f0.f0, .int .i64 x.f0.f1, .bool true] 80)) (below_alloc Hb.out _).size HLL.out ?_; (case aX => first | rfl | (go_simp; done) | (go_simp; rfl)); intro v1 w1 ho1 hb1 hg1 hat1; have HO1 := Aside0.mk ho1; have Hb1 := Aside0.mk hb1; clear ho1 hb1 hg1 hat1)
          go_roundw
          case rel => exact ⟨i + 1, cast1 i, ⟨HII.out⟩, ⟨by rw [HT1.out]; exact HO1.out⟩, Hb1⟩
          case measure => exact dm1 HII.out
        · have hh0 : x.f1 = false := by cases hq : x.f1 with | true => exact absurd hq hh | false => rfl
          have HT1 : Aside0 ((out.take (i + 1)).filterMap heldB = (out.take i).filterMap heldB) := ⟨by rw [HT.out]; simp only [heldB, if_neg hh]; exact List.append_nil _⟩
          rw [hh0] at hx2
          clear hh hh0
          gi_wp2
          go_roundw
          case rel => exact ⟨i + 1, cast1 i, ⟨HII.out⟩, ⟨by rw [HT1.out]; exact Kd.R_alloc HO.out _⟩, ⟨below_alloc Hb.out _⟩⟩
          case measure => exact dm1 HII.out
      · have hd : decide ((i : Int) < (out.length : Int)) = false := decide_eq_false (by omega)
        have hdn : decide (i < out.length) = false := decide_eq_false hi
        have ho := HO.out
        generalize hv : (Value.slice A3 ((out.take i).filterMap heldB).length c3) = vv at ho
        rw [List.take_of_length_le (by omega)] at ho
        subst hv
        have hlen : ((out.take i).filterMap heldB).length = (out.filterMap heldB).length := by rw [List.take_of_length_le (by omega)]
        rw [hlen] at ho
        have HO2 := Aside0.mk ho
        have e := HOUT.out
        subst e
        clear ho HO
        rw [hlen] at *
        by_cases hc : 1024 < ((differL l1 l2).filterMap heldB).length
        · have hdc : decide ((1024 : Int) < (((differL l1 l2).filterMap heldB).length : Int)) = true := decide_eq_true (by omega)
          have hdc2 : decide (1024 < ((differL l1 l2).filterMap heldB).length) = true := decide_eq_true hc
          gi_wp2
          have hDd := blk_below' HD.out HDl Hb.out
          have hgr := grownBy_putObj' wr D (.deferred none)
          have hrr : ∀ r, some D = some r → w.heap.size ≤ r ∧ ∃ o : Obj, wr.heap[r]? = some o ∧ o.isCells = false := fun r e => by cases e; exact ⟨HDw.out, _, hDd, rfl⟩
          refine ⟨by simp, .inl ⟨_, _, rfl, run_takeDeferred hDd, ?_⟩⟩
          exact ⟨_, results_list (rs := [.tmp 6, .tmp 7]) rfl (by simp) (.tmp (.tmp .nil)), _, rfl, Kd.R_nil _ _ _ _ _, (below_step HBW.out Hb.out).grown hgr (below_step HBW.out Hb.out).size (fun k e => (hrr k e).1)⟩
        · have hdc : decide ((1024 : Int) < (((differL l1 l2).filterMap heldB).length : Int)) = false := decide_eq_false (by omega)
          have hdc2 : decide (1024 < ((differL l1 l2).filterMap heldB).length) = false := decide_eq_false hc
          gi_wp2
          have hDd := blk_below' HD.out HDl Hb.out
          have hgr := grownBy_putObj' wr D (.deferred none)
          have hrr : ∀ r, some D = some r → w.heap.size ≤ r ∧ ∃ o : Obj, wr.heap[r]? = some o ∧ o.isCells = false := fun r e => by cases e; exact ⟨HDw.out, _, hDd, rfl⟩
          refine ⟨by simp, .inl ⟨_, _, rfl, run_takeDeferred hDd, ?_⟩⟩
          exact ⟨_, results_list (rs := [.tmp 6, .tmp 7]) rfl (by simp) (.tmp (.tmp .nil)), _, rfl, Kd.R_lower (own_grown HO2.out hgr hrr) HBW.out.size, (below_step HBW.out Hb.out).grown hgr (below_step HBW.out Hb.out).size (fun k e => (hrr k e).1)⟩
  case stop =>
    rintro D c pre W _ _ h _
    exact h.elim
set_option maxRecDepth 100000 in
set_option maxHeartbeats 4000000 in
theorem line_Differ.calls (k : Nat) (a0_0 : Int) (a0_1 : Int) (A1 : Option Addr) (c1 : Nat) (l1 : List (S52)) (A2 : Option Addr) (c2 : Nat) (l2 : List (S52)) (r1 : List (S23)) (r2 : Int) (w : World) (hr1 : Kd.C k52 w A1 l1.length l1) (hc1 : l1.length ≤ c1) (hr2 : Kd.C k52 w A2 l2.length l2) (hc2 : l2.length ≤ c2) (h : line_Differ.f k a0_0 a0_1 l1 l2 = some (r1, r2)) :
    Calls Try.prog 20 #[.agg #[.int .i64 a0_0, .int .i64 a0_1], .slice A1 l1.length c1, .slice A2 l2.length c2] w fun e w' => ∃ v0_ : Value, e = .returned (.tuple #[v0_, .int .i64 r2]) ∧ Kd.R k23 23 w' w.heap.size (fun _ => True) v0_ r1 ∧ Below w.heap.size w w' := by
  obtain ⟨y, hy, h⟩ := Option.bind_eq_some_iff.mp h
  by_cases cy : y = 0
  · subst cy
    rw [if_neg (by simp)] at h
    obtain ⟨z, hz, h⟩ := Option.bind_eq_some_iff.mp h
    by_cases cz : z = 0
    · subst cz
      rw [if_neg (by simp)] at h
      by_cases hl : (l1.length + l2.length + 1) * 32 ≤ 140737488355328
      case neg => rw [if_neg hl] at h; cases h
      rw [if_pos hl] at h
      have e := Option.some.inj h
      clear h
      refine (line_Differ.walk k a0_0 a0_1 A1 c1 l1 A2 c2 l2 w hr1 hc1 hr2 hc2 hy hz hl).mono ?_
      rintro e_ w' ⟨v, hv, ho, hb⟩
      by_cases hc : 1024 < ((differL l1 l2).filterMap heldB).length
      · rw [if_pos hc] at e hv ho
        obtain ⟨e1, e2⟩ := Prod.mk.inj e
        subst e1
        subst e2
        exact ⟨v, hv, ho, hb⟩
      · rw [if_neg hc] at e hv ho
        obtain ⟨e1, e2⟩ := Prod.mk.inj e
        subst e1
        subst e2
        exact ⟨v, hv, ho, hb⟩
    · rw [if_pos cz] at h
      obtain ⟨e1, e2⟩ := Prod.mk.inj (Option.some.inj h)
      subst e1
      subst e2
      have d0 : (z != 0) = true := bne_iff_ne.mpr cz
      have H1 := Aside0.mk hy
      have H2 := Aside0.mk hz
      have HC1 := Aside0.mk hc1
      have HC2 := Aside0.mk hc2
      have HB := Aside0.mk (below_alloc (Below.refl w.heap.size w) (.cells #[.int .i64 a0_0, .int .i64 a0_1] 23))
      have HR1 := Aside0.mk (Kd.C_below hr1 HB.out)
      have HR2 := Aside0.mk (Kd.C_below hr2 HB.out)
      have BK := Aside0.mk (heap_alloc_new w (.cells #[.int .i64 a0_0, .int .i64 a0_1] 23))
      clear hr1 hc1 hr2 hc2 hy hz h cz
      go_enter Try.func20, Try.ntmps20
      have hc0 := (blk_cell BK.out 0).trans rfl
      have hc1 := (blk_cell BK.out 1).trans rfl
      go_wp2_with (first
        | (go_at_call_of 12 A1; refine (line_Check.calls k a0_0 a0_1 A1 c1 l1 0 _ HR1.out HC1.out H1.out).mono ?_; rintro e w5 ⟨rfl, hb5⟩; have BK5 := Aside0.mk (blk_below BK.out hb5); have HB5 := Aside0.mk (below_step HB.out hb5); have HR25 := Aside0.mk (Kd.C_below HR2.out hb5); have hs0 := (blk_cell BK5.out 0).trans rfl; have hs1 := (blk_cell BK5.out 1).trans rfl; clear hb5)
        | (go_at_call_of 12 A2; refine (line_Check.calls k a0_0 a0_1 A2 c2 l2 z _ HR25.out HC2.out H2.out).mono ?_; rintro e w6 ⟨rfl, hb6⟩; have HB6 := Aside0.mk (below_step HB5.out hb6); clear hb6))
      go_ret2
      exact ⟨_, rfl, Kd.R_nil _ _ _ _ _, HB6.out⟩
  · rw [if_pos cy] at h
    obtain ⟨e1, e2⟩ := Prod.mk.inj (Option.some.inj h)
    subst e1
    subst e2
    have d0 : (y != 0) = true := bne_iff_ne.mpr cy
    have H1 := Aside0.mk hy
    have HC1 := Aside0.mk hc1
    have HB := Aside0.mk (below_alloc (Below.refl w.heap.size w) (.cells #[.int .i64 a0_0, .int .i64 a0_1] 23))
    have HR1 := Aside0.mk (Kd.C_below hr1 HB.out)
    have BK := Aside0.mk (heap_alloc_new w (.cells #[.int .i64 a0_0, .int .i64 a0_1] 23))
    clear hr1 hc1 hr2 hc2 hy h cy
    go_enter Try.func20, Try.ntmps20
    have hc0 := (blk_cell BK.out 0).trans rfl
    have hc1 := (blk_cell BK.out 1).trans rfl
    go_wp2_with (go_at_call 12; refine (line_Check.calls k a0_0 a0_1 A1 c1 l1 y _ HR1.out HC1.out H1.out).mono ?_; rintro e w5 ⟨rfl, hb5⟩; have HB5 := Aside0.mk (below_step HB.out hb5); clear hb5)
    go_ret2
    exact ⟨_, rfl, Kd.R_nil _ _ _ _ _, HB5.out⟩
def spoorref19_Same.l0 : Nat → List (S23) → List (S23) → Int → Int → Option (Bool)
 | 0, _, _, _, _ => none
 | k + 1, x0, x1, x12, x13 => if x13 < x12 then (if 0 ≤ x13 then (if x13 < (x0.length : Int) then (if x13 < (x1.length : Int) then (if (!(((rd_T23 x0 x13).f0) == ((rd_T23 x1 x13).f0)) || (!(((rd_T23 x0 x13).f1) == ((rd_T23 x1 x13).f1)))) = true then (some false) else (spoorref19_Same.l0 k x0 x1 x12 (wrap64 (x13 + 1)))) else (none)) else (none)) else (none)) else (some true)
def spoorref19_Same.f (k : Nat) (l0 : List (S23)) (l1 : List (S23)) : Option (Bool) := if (l0.length : Int) = (l1.length : Int) then (spoorref19_Same.l0 k l0 l1 (l0.length : Int) 0) else (some false)
theorem spoorref19_Same.mono_l : ∀ k, (∀ y0 y1 y2 y3, LeO (spoorref19_Same.l0 k y0 y1 y2 y3) (spoorref19_Same.l0 (k + 1) y0 y1 y2 y3))
 | 0 => fun _ _ _ _ r h => by simp [spoorref19_Same.l0] at h
 | k + 1 => by
  have ih0 := spoorref19_Same.mono_l k
  ·intro y0 y1 y2 y3
   unfold spoorref19_Same.l0
   repeat' first
   | (with_reducible exact ih0 _ _ _ _)
   | (with_reducible exact LeO.refl _)
   | (with_reducible exact LeO.none _)
   | (with_reducible refine LeO.ite ?_ ?_)
   | (with_reducible refine LeO.bind ?_ (fun _ => ?_))
   | exact ih0 _ _ _ _
   | exact LeO.none _
   | refine LeO.ite ?_ ?_
   | refine LeO.bind ?_ (fun _ => ?_)
theorem spoorref19_Same.mono : ∀ a0 a1 k, LeO (spoorref19_Same.f k a0 a1) (spoorref19_Same.f (k + 1) a0 a1) := by
 intro a0 a1 k
 have ih0 := spoorref19_Same.mono_l k
 unfold spoorref19_Same.f
 repeat' first
   | (with_reducible exact ih0 _ _ _ _)
   | (with_reducible exact LeO.refl _)
   | (with_reducible exact LeO.none _)
   | (with_reducible refine LeO.ite ?_ ?_)
   | (with_reducible refine LeO.bind ?_ (fun _ => ?_))
   | exact ih0 _ _ _ _
   | exact LeO.none _
   | refine LeO.ite ?_ ?_
   | refine LeO.bind ?_ (fun _ => ?_)
set_option maxHeartbeats 8000000 in
set_option maxRecDepth 100000 in
theorem spoorref19_Same.calls (k : Nat) (A0 : Option Addr) (c0 : Nat) (l0 : List (S23)) (A1 : Option Addr) (c1 : Nat) (l1 : List (S23)) (r : Bool) (w : World) (hr0 : Kd.C k23 w A0 l0.length l0) (hc0 : l0.length ≤ c0) (hr1 : Kd.C k23 w A1 l1.length l1) (hc1 : l1.length ≤ c1) (h : spoorref19_Same.f k l0 l1 = some r) :
  Calls Try.prog 22 #[.slice A0 l0.length c0, .slice A1 l1.length c1] w fun e w' => e = .returned (.bool r) ∧ Drawn0 w w' := by
 have hu23 := Try.underlying23
 have HR0 := Ax hr0
 have HC0 := Ax hc0
 clear hr0 hc0
 have HR1 := Ax hr1
 have HC1 := Ax hc1
 clear hr1 hc1
 have H : (if (l0.length : Int) = (l1.length : Int) then (spoorref19_Same.l0 k l0 l1 (l0.length : Int) 0) else (some false)) = some r := h
 clear h
 by_cases c3 : (l0.length : Int) = (l1.length : Int)
 ·rw [if_pos c3] at H
  have c3b0 : ((l0.length : Int) == (l1.length : Int)) = true := beq_iff_eq.mpr c3
  have c3b1 : ((l0.length : Int) != (l1.length : Int)) = false := bne_eq_false_iff_eq.mpr c3
  have c3b2 : (l0.length == l1.length) = true := by first | simpa using c3 | (simp at c3 ⊢; omega)
  clear c3
  have H' := Ax H
  clear H
  go_enter Try.func22, Try.ntmps22
  go_wp2
  repeat (go_quiet (fail); try go_wp2)
  go_loopg [13] k (fun kq v13 w' => ∃ (x13_1 : Int), v13 = .int .i64 x13_1 ∧ Aside0 (spoorref19_Same.l0 kq l0 l1 (l0.length : Int) x13_1 = some r) ∧ Aside0 (kq ≤ k) ∧ Drawn0 w w')
  case atStart => exact ⟨(0), rS, H', ⟨Nat.le_refl _⟩, by repeat (first | exact Drawn0.refl _ | apply Drawn0.step)⟩
  case round =>
   clear H'
   try clear c1
   try clear c2
   try clear p2
   try clear c3
   try clear c3b0
   try clear c3b1
   try clear c3b2
   obtain ⟨x13_1, rfl, HA, HK1, ⟨m1, rfl⟩⟩ := hrel
   cases gk with
   | zero => exact absurd HA.out (by simp [spoorref19_Same.l0])
   | succ k1 =>
    have H := HA.out
    clear HA
    simp only [spoorref19_Same.l0] at H
    by_cases c4 : x13_1 < (l0.length : Int)
    ·rw [if_pos c4] at H
     have c4b0 : decide (x13_1 < (l0.length : Int)) = true := decide_eq_true c4
     clear c4
     by_cases c5 : 0 ≤ x13_1
     ·rw [if_pos c5] at H
      have c5b0 : decide (0 ≤ x13_1) = true := decide_eq_true c5
      clear c5
      by_cases c6 : x13_1 < (l0.length : Int)
      ·rw [if_pos c6] at H
       have c6b0 : decide (x13_1 < (l0.length : Int)) = true := decide_eq_true c6
       clear c6
       by_cases c7 : x13_1 < (l1.length : Int)
       ·rw [if_pos c7] at H
        have c7b0 : decide (x13_1 < (l1.length : Int)) = true := decide_eq_true c7
        clear c7
        by_cases c8 : (!(((rd_T23 l0 x13_1).f0) == ((rd_T23 l1 x13_1).f0)) || (!(((rd_T23 l0 x13_1).f1) == ((rd_T23 l1 x13_1).f1)))) = true
        ·rw [if_pos c8] at H
         have c8b0 : (!(((rd_T23 l0 x13_1).f0) == ((rd_T23 l1 x13_1).f0)) || (!(((rd_T23 l0 x13_1).f1) == ((rd_T23 l1 x13_1).f1)))) = true := c8
         clear c8
         obtain rfl := Option.some.inj H
         have p152 : 0 ≤ (x13_1 : Int) := of_decide_eq_true (by first | (with_reducible assumption) | assumption)
         have q152 : x13_1 < (l0.length : Int) := of_decide_eq_true (by first | (with_reducible assumption) | assumption)
         obtain ⟨ad152, e152, hx152_0, hx152_1⟩ := at_T23 HR0.out x13_1 p152 q152
         cases e152
         replace p152 := eq_true p152
         replace q152 := eq_true q152
         have p153 : 0 ≤ (x13_1 : Int) := of_decide_eq_true (by first | (with_reducible assumption) | assumption)
         have q153 : x13_1 < (l1.length : Int) := of_decide_eq_true (by first | (with_reducible assumption) | assumption)
         obtain ⟨ad153, e153, hx153_0, hx153_1⟩ := at_T23 HR1.out x13_1 p153 q153
         cases e153
         replace p153 := eq_true p153
         replace q153 := eq_true q153
         go_wp2
         repeat (go_quiet (fail); try go_wp2)
         go_ret
         exact ⟨by first | rfl | (simp; done) | (simp [*]; done), by repeat (first | exact Drawn0.refl _ | apply Drawn0.step)⟩
        ·rw [if_neg c8] at H
         have c8b0 : (!(((rd_T23 l0 x13_1).f0) == ((rd_T23 l1 x13_1).f0)) || (!(((rd_T23 l0 x13_1).f1) == ((rd_T23 l1 x13_1).f1)))) = false := by simpa using c8
         clear c8
         have H' := Ax H
         clear H
         have p152 : 0 ≤ (x13_1 : Int) := of_decide_eq_true (by first | (with_reducible assumption) | assumption)
         have q152 : x13_1 < (l0.length : Int) := of_decide_eq_true (by first | (with_reducible assumption) | assumption)
         obtain ⟨ad152, e152, hx152_0, hx152_1⟩ := at_T23 HR0.out x13_1 p152 q152
         cases e152
         replace p152 := eq_true p152
         replace q152 := eq_true q152
         have p153 : 0 ≤ (x13_1 : Int) := of_decide_eq_true (by first | (with_reducible assumption) | assumption)
         have q153 : x13_1 < (l1.length : Int) := of_decide_eq_true (by first | (with_reducible assumption) | assumption)
         obtain ⟨ad153, e153, hx153_0, hx153_1⟩ := at_T23 HR1.out x13_1 p153 q153
         cases e153
         replace p153 := eq_true p153
         replace q153 := eq_true q153
         go_wp2
         repeat (go_quiet (fail); try go_wp2)
         go_roundg k1
         case measure => have := HK1.out; omega
         case rel => exact ⟨(wrap64 (x13_1 + 1)), rS, H', ⟨by have := HK1.out; omega⟩, by repeat (first | exact Drawn0.refl _ | apply Drawn0.step)⟩
       ·rw [if_neg c7] at H
        exact absurd H (by simp)
      ·rw [if_neg c6] at H
       exact absurd H (by simp)
     ·rw [if_neg c5] at H
      exact absurd H (by simp)
    ·rw [if_neg c4] at H
     have c4b0 : decide (x13_1 < (l0.length : Int)) = false := decide_eq_false c4
     clear c4
     obtain rfl := Option.some.inj H
     go_wp2
     repeat (go_quiet (fail); try go_wp2)
     go_ret
     exact ⟨by first | rfl | (simp; done) | (simp [*]; done), by repeat (first | exact Drawn0.refl _ | apply Drawn0.step)⟩
 ·rw [if_neg c3] at H
  have c3b0 : ((l0.length : Int) == (l1.length : Int)) = false := beq_eq_false_iff_ne.mpr c3
  have c3b1 : ((l0.length : Int) != (l1.length : Int)) = true := bne_iff_ne.mpr c3
  have c3b2 : (l0.length == l1.length) = false := by first | simpa using c3 | (simp at c3 ⊢; omega)
  obtain rfl := Option.some.inj H
  go_enter Try.func22, Try.ntmps22
  go_wp2
  repeat (go_quiet (fail); try go_wp2)
  go_ret
  exact ⟨by first | rfl | (simp; done) | (simp [*]; done), by repeat (first | exact Drawn0.refl _ | apply Drawn0.step)⟩
theorem event_runw {P : Program} {ops : Array Oper} {o : Oper} {rest : List Oper} {a : Act} {Q : Exit → Act → World → Prop} {W w1 : World} {v : Value} (hw : o.guard = none ∨ Region.wanted o (yielded ops a.tmps) = true) (hrun : (execOp a.eval o).run P W = .ok (.value v) w1) (h : wpList P ops Q rest (a.put o.dst v) w1) : wpList P ops Q (o :: rest) a W := by
 rcases hw with hw | hw
 ·exact Kd.event_run hw hrun h
 ·unfold wpList
  rw [if_pos hw]
  refine .inl ?_
  unfold Oper.wp
  rw [hrun]
  exact h
theorem R_litg {α : Type} {P : Program} {ops : Array Oper} {o : Oper} {rest : List Oper} {a : Act} {Q : Exit → Act → World → Prop} (d : Kd α) {w0 W : World} (base e : Nat) (hgd : o.guard = none ∨ Region.wanted o (yielded ops a.tmps) = true) {N : Tmp} (_hd : o.dst = some N) {xs : List α} {inner : List Value} {ok okp : Nat → Prop}
  (hrun : (execOp a.eval o).run P W = .ok (.value (.slice (some ⟨W.heap.size, 0, none⟩) xs.length xs.length)) (W.alloc (.cells inner.toArray e)))
  (hrep : Reps (d.M W base okp) d.sz xs inner) (hok : ∀ k, okp k → ok k) (hfresh : ok W.heap.size) (HB : Below base w0 W) (hbase : base ≤ W.heap.size) (hm : xs.length ≤ 9223372036854775807)
  (h : ∀ v1 w1, d.R e w1 base ok v1 xs → Below base w0 w1 → W.grownBy w1 none → (∃ b, v1.ownBlock = some b ∧ W.heap.size ≤ b) → wpList P ops Q rest (a.put o.dst v1) w1) : wpList P ops Q (o :: rest) a W := by
 refine event_runw hgd hrun (h _ _ ⟨fun k hk => ?_, inner, ?_, ?_⟩ (HB.alloc hbase _) (World.grownBy_alloc W _ none) ⟨W.heap.size, by simp [Value.ownBlock], Nat.le_refl _⟩)
 ·have : W.heap.size = k := by simpa [Value.ownBlock] using hk
  subst this
  exact hfresh
 ·have h2 := World.ownsRow_lit (base := base) (e := e) (size := d.sz) W inner.toArray xs.length hbase (by simpa [maxLen] using hm) (by simpa using hrep.1)
  simpa using h2
 ·refine hrep.imp_ (fun p c hp => d.M_mono (fun k hk => ⟨hok k hk.1, fun he => ?_⟩) (Kd.M_below (d.M_bound hp) (below_alloc (Below.refl _ _) _)))
  have h3 : k = W.heap.size := by simpa [Value.ownBlock] using he
  have := hk.2.2.1
  omega
def spoorlaw20_lives.f (k : Nat)  : Option (Bool) := (line_Make.f k 0 9 (([(⟨0, (⟨3, 1⟩ : S35)⟩ : S46), (⟨3, (⟨3, 1⟩ : S35)⟩ : S46), (⟨5, (⟨1, 2⟩ : S35)⟩ : S46)] : List (S46)))).bind fun bt160 => ((line_At.f k 0 9 bt160.1 4).bind fun bt164 => ((line_When.f k 0 9 bt160.1 1 2).bind fun bt168 => ((line_Cut.f k 0 9 bt160.1 4 5).bind fun bt172 => ((line_Make.f k 0 9 (([(⟨0, (⟨3, 1⟩ : S35)⟩ : S46)] : List (S46)))).bind fun bt179 => ((line_Differ.f k 0 9 bt160.1 bt179.1).bind fun bt183 => ((line_At.f k 0 9 bt160.1 10).bind fun bt187 => ((line_Make.f k 0 9 (([(⟨1, (⟨3, 1⟩ : S35)⟩ : S46)] : List (S46)))).bind fun bt194 => ((spoorref20_Same.f k bt160.1 (([(⟨(⟨0, 4⟩ : S23), (⟨3, 1⟩ : S35)⟩ : S52), (⟨(⟨5, 9⟩ : S23), (⟨1, 2⟩ : S35)⟩ : S52)] : List (S52)))).bind fun t201 => (if t201 = true then (if bt160.2 = 0 then (if (bt164.1 == 3 && (bt164.2.1 == 1)) = true then (if bt164.2.2 = 0 then ((spoorref19_Same.f k bt168.1 (([(⟨5, 9⟩ : S23)] : List (S23)))).bind fun t205 => (if t205 = true then (if bt168.2 = 0 then ((spoorref20_Same.f k bt172.1 (([(⟨(⟨4, 4⟩ : S23), (⟨3, 1⟩ : S35)⟩ : S52), (⟨(⟨5, 5⟩ : S23), (⟨1, 2⟩ : S35)⟩ : S52)] : List (S52)))).bind fun t209 => (if t209 = true then (if bt172.2 = 0 then (if bt179.2 = 0 then ((spoorref19_Same.f k bt183.1 (([(⟨5, 9⟩ : S23)] : List (S23)))).bind fun t213 => (if t213 = true then (if bt183.2 = 0 then (if bt187.2.2 = 1 then (if bt194.2 = 2 then ((line_Check.f k 0 9 bt160.1).bind fun t214 => (some (t214 == 0))) else (none)) else (none)) else (none)) else (none))) else (none)) else (none)) else (none))) else (none)) else (none))) else (none)) else (none)) else (none)) else (none))))))))))
theorem spoorlaw20_lives.mono : ∀ k, LeO (spoorlaw20_lives.f k ) (spoorlaw20_lives.f (k + 1) ) := by
 intro  k
 unfold spoorlaw20_lives.f
 repeat' first
   | (with_reducible exact line_At.mono _ _ _ _ _)
   | (with_reducible exact line_Check.mono _ _ _ _)
   | (with_reducible exact line_Cut.mono _ _ _ _ _ _)
   | (with_reducible exact line_Differ.mono _ _ _ _ _)
   | (with_reducible exact line_Make.mono _ _ _ _)
   | (with_reducible exact line_When.mono _ _ _ _ _ _)
   | (with_reducible exact spoorref19_Same.mono _ _ _)
   | (with_reducible exact spoorref20_Same.mono _ _ _)
   | (with_reducible exact LeO.refl _)
   | (with_reducible exact LeO.none _)
   | (with_reducible refine LeO.ite ?_ ?_)
   | (with_reducible refine LeO.bind ?_ (fun _ => ?_))
   | exact line_At.mono _ _ _ _ _
   | exact line_Check.mono _ _ _ _
   | exact line_Cut.mono _ _ _ _ _ _
   | exact line_Differ.mono _ _ _ _ _
   | exact line_Make.mono _ _ _ _
   | exact line_When.mono _ _ _ _ _ _
   | exact spoorref19_Same.mono _ _ _
   | exact spoorref20_Same.mono _ _ _
   | exact LeO.none _
   | refine LeO.ite ?_ ?_
   | refine LeO.bind ?_ (fun _ => ?_)
end Go.Proofs.Ytghklhdooemjdaa.Q
end
section
namespace Go.Proofs.Ytghklhdooemjdaa.Q
open Go.RowKit Go.Proofs.YtghklhdooemjdaaW.PrintWords Go.Proofs.YtghklhdooemjdaaW.PrintLast Go.Proofs.YtghklhdooemjdaaW.PrintMore
attribute [local go_sem] max2_int min2_int max_two min_two max_three min_three max_four min_four   -- for this text's walks alone
set_option linter.unusedVariables false
set_option linter.unusedSimpArgs false
attribute [local go_sem high] eqA35
set_option maxHeartbeats 8000000 in
set_option maxRecDepth 100000 in
theorem spoorlaw20_lives.calls (k : Nat)  (r : Bool) (w : World) (h : spoorlaw20_lives.f k  = some r) :
  Calls Try.prog 10 #[] w fun e w' => e = .returned (.bool r) ∧ Below w.heap.size w w' := by
 have hu23 := Try.underlying23
 have hu35 := Try.underlying35
 have hu46 := Try.underlying46
 have hu52 := Try.underlying52
 have HB := Ax (Below.refl w.heap.size w)
 have H : ((line_Make.f k 0 9 (([(⟨0, (⟨3, 1⟩ : S35)⟩ : S46), (⟨3, (⟨3, 1⟩ : S35)⟩ : S46), (⟨5, (⟨1, 2⟩ : S35)⟩ : S46)] : List (S46)))).bind fun bt160 => ((line_At.f k 0 9 bt160.1 4).bind fun bt164 => ((line_When.f k 0 9 bt160.1 1 2).bind fun bt168 => ((line_Cut.f k 0 9 bt160.1 4 5).bind fun bt172 => ((line_Make.f k 0 9 (([(⟨0, (⟨3, 1⟩ : S35)⟩ : S46)] : List (S46)))).bind fun bt179 => ((line_Differ.f k 0 9 bt160.1 bt179.1).bind fun bt183 => ((line_At.f k 0 9 bt160.1 10).bind fun bt187 => ((line_Make.f k 0 9 (([(⟨1, (⟨3, 1⟩ : S35)⟩ : S46)] : List (S46)))).bind fun bt194 => ((spoorref20_Same.f k bt160.1 (([(⟨(⟨0, 4⟩ : S23), (⟨3, 1⟩ : S35)⟩ : S52), (⟨(⟨5, 9⟩ : S23), (⟨1, 2⟩ : S35)⟩ : S52)] : List (S52)))).bind fun t201 => (if t201 = true then (if bt160.2 = 0 then (if (bt164.1 == 3 && (bt164.2.1 == 1)) = true then (if bt164.2.2 = 0 then ((spoorref19_Same.f k bt168.1 (([(⟨5, 9⟩ : S23)] : List (S23)))).bind fun t205 => (if t205 = true then (if bt168.2 = 0 then ((spoorref20_Same.f k bt172.1 (([(⟨(⟨4, 4⟩ : S23), (⟨3, 1⟩ : S35)⟩ : S52), (⟨(⟨5, 5⟩ : S23), (⟨1, 2⟩ : S35)⟩ : S52)] : List (S52)))).bind fun t209 => (if t209 = true then (if bt172.2 = 0 then (if bt179.2 = 0 then ((spoorref19_Same.f k bt183.1 (([(⟨5, 9⟩ : S23)] : List (S23)))).bind fun t213 => (if t213 = true then (if bt183.2 = 0 then (if bt187.2.2 = 1 then (if bt194.2 = 2 then ((line_Check.f k 0 9 bt160.1).bind fun t214 => (some (t214 == 0))) else (none)) else (none)) else (none)) else (none))) else (none)) else (none)) else (none))) else (none)) else (none))) else (none)) else (none)) else (none)) else (none))))))))))) = some r := h
 clear h
 obtain ⟨y157, hy157⟩ : ∃ y_ : List (S46), y_ = (([(⟨0, (⟨3, 1⟩ : S35)⟩ : S46), (⟨3, (⟨3, 1⟩ : S35)⟩ : S46), (⟨5, (⟨1, 2⟩ : S35)⟩ : S46)] : List (S46))) := ⟨_, rfl⟩
 replace H : ((line_Make.f k 0 9 y157).bind fun bt160 => ((line_At.f k 0 9 bt160.1 4).bind fun bt164 => ((line_When.f k 0 9 bt160.1 1 2).bind fun bt168 => ((line_Cut.f k 0 9 bt160.1 4 5).bind fun bt172 => ((line_Make.f k 0 9 (([(⟨0, (⟨3, 1⟩ : S35)⟩ : S46)] : List (S46)))).bind fun bt179 => ((line_Differ.f k 0 9 bt160.1 bt179.1).bind fun bt183 => ((line_At.f k 0 9 bt160.1 10).bind fun bt187 => ((line_Make.f k 0 9 (([(⟨1, (⟨3, 1⟩ : S35)⟩ : S46)] : List (S46)))).bind fun bt194 => ((spoorref20_Same.f k bt160.1 (([(⟨(⟨0, 4⟩ : S23), (⟨3, 1⟩ : S35)⟩ : S52), (⟨(⟨5, 9⟩ : S23), (⟨1, 2⟩ : S35)⟩ : S52)] : List (S52)))).bind fun t201 => (if t201 = true then (if bt160.2 = 0 then (if (bt164.1 == 3 && (bt164.2.1 == 1)) = true then (if bt164.2.2 = 0 then ((spoorref19_Same.f k bt168.1 (([(⟨5, 9⟩ : S23)] : List (S23)))).bind fun t205 => (if t205 = true then (if bt168.2 = 0 then ((spoorref20_Same.f k bt172.1 (([(⟨(⟨4, 4⟩ : S23), (⟨3, 1⟩ : S35)⟩ : S52), (⟨(⟨5, 5⟩ : S23), (⟨1, 2⟩ : S35)⟩ : S52)] : List (S52)))).bind fun t209 => (if t209 = true then (if bt172.2 = 0 then (if bt179.2 = 0 then ((spoorref19_Same.f k bt183.1 (([(⟨5, 9⟩ : S23)] : List (S23)))).bind fun t213 => (if t213 = true then (if bt183.2 = 0 then (if bt187.2.2 = 1 then (if bt194.2 = 2 then ((line_Check.f k 0 9 bt160.1).bind fun t214 => (some (t214 == 0))) else (none)) else (none)) else (none)) else (none))) else (none)) else (none)) else (none))) else (none)) else (none))) else (none)) else (none)) else (none)) else (none))))))))))) = some r := by first | (rw [hy157]; with_reducible exact H) | (have H2_ := (Option.bind_some _ _).symm.trans H; rw [hy157]; with_reducible exact H2_) | (have H2_ := (Option.bind_some _ _).symm.trans H; with_reducible exact H2_) | with_reducible exact H | (rw [hy157]; exact H) | exact H
 have Ny157 := Ax hy157
 clear hy157
 replace H := Option.bind_eq_some_iff.mp H
 obtain ⟨⟨t160, t163⟩, A10, H⟩ := H
 replace H : ((line_At.f k 0 9 t160 4).bind fun bt164 => ((line_When.f k 0 9 t160 1 2).bind fun bt168 => ((line_Cut.f k 0 9 t160 4 5).bind fun bt172 => ((line_Make.f k 0 9 (([(⟨0, (⟨3, 1⟩ : S35)⟩ : S46)] : List (S46)))).bind fun bt179 => ((line_Differ.f k 0 9 t160 bt179.1).bind fun bt183 => ((line_At.f k 0 9 t160 10).bind fun bt187 => ((line_Make.f k 0 9 (([(⟨1, (⟨3, 1⟩ : S35)⟩ : S46)] : List (S46)))).bind fun bt194 => ((spoorref20_Same.f k t160 (([(⟨(⟨0, 4⟩ : S23), (⟨3, 1⟩ : S35)⟩ : S52), (⟨(⟨5, 9⟩ : S23), (⟨1, 2⟩ : S35)⟩ : S52)] : List (S52)))).bind fun t201 => (if t201 = true then (if t163 = 0 then (if (bt164.1 == 3 && (bt164.2.1 == 1)) = true then (if bt164.2.2 = 0 then ((spoorref19_Same.f k bt168.1 (([(⟨5, 9⟩ : S23)] : List (S23)))).bind fun t205 => (if t205 = true then (if bt168.2 = 0 then ((spoorref20_Same.f k bt172.1 (([(⟨(⟨4, 4⟩ : S23), (⟨3, 1⟩ : S35)⟩ : S52), (⟨(⟨5, 5⟩ : S23), (⟨1, 2⟩ : S35)⟩ : S52)] : List (S52)))).bind fun t209 => (if t209 = true then (if bt172.2 = 0 then (if bt179.2 = 0 then ((spoorref19_Same.f k bt183.1 (([(⟨5, 9⟩ : S23)] : List (S23)))).bind fun t213 => (if t213 = true then (if bt183.2 = 0 then (if bt187.2.2 = 1 then (if bt194.2 = 2 then ((line_Check.f k 0 9 t160).bind fun t214 => (some (t214 == 0))) else (none)) else (none)) else (none)) else (none))) else (none)) else (none)) else (none))) else (none)) else (none))) else (none)) else (none)) else (none)) else (none)))))))))) = some r := H
 have A1 := Ax A10
 clear A10
 replace H := Option.bind_eq_some_iff.mp H
 obtain ⟨⟨t164, t165, t166⟩, A20, H⟩ := H
 replace H : ((line_When.f k 0 9 t160 1 2).bind fun bt168 => ((line_Cut.f k 0 9 t160 4 5).bind fun bt172 => ((line_Make.f k 0 9 (([(⟨0, (⟨3, 1⟩ : S35)⟩ : S46)] : List (S46)))).bind fun bt179 => ((line_Differ.f k 0 9 t160 bt179.1).bind fun bt183 => ((line_At.f k 0 9 t160 10).bind fun bt187 => ((line_Make.f k 0 9 (([(⟨1, (⟨3, 1⟩ : S35)⟩ : S46)] : List (S46)))).bind fun bt194 => ((spoorref20_Same.f k t160 (([(⟨(⟨0, 4⟩ : S23), (⟨3, 1⟩ : S35)⟩ : S52), (⟨(⟨5, 9⟩ : S23), (⟨1, 2⟩ : S35)⟩ : S52)] : List (S52)))).bind fun t201 => (if t201 = true then (if t163 = 0 then (if (t164 == 3 && (t165 == 1)) = true then (if t166 = 0 then ((spoorref19_Same.f k bt168.1 (([(⟨5, 9⟩ : S23)] : List (S23)))).bind fun t205 => (if t205 = true then (if bt168.2 = 0 then ((spoorref20_Same.f k bt172.1 (([(⟨(⟨4, 4⟩ : S23), (⟨3, 1⟩ : S35)⟩ : S52), (⟨(⟨5, 5⟩ : S23), (⟨1, 2⟩ : S35)⟩ : S52)] : List (S52)))).bind fun t209 => (if t209 = true then (if bt172.2 = 0 then (if bt179.2 = 0 then ((spoorref19_Same.f k bt183.1 (([(⟨5, 9⟩ : S23)] : List (S23)))).bind fun t213 => (if t213 = true then (if bt183.2 = 0 then (if bt187.2.2 = 1 then (if bt194.2 = 2 then ((line_Check.f k 0 9 t160).bind fun t214 => (some (t214 == 0))) else (none)) else (none)) else (none)) else (none))) else (none)) else (none)) else (none))) else (none)) else (none))) else (none)) else (none)) else (none)) else (none))))))))) = some r := H
 have A2 := Ax A20
 clear A20
 replace H := Option.bind_eq_some_iff.mp H
 obtain ⟨⟨t168, t171⟩, A30, H⟩ := H
 replace H : ((line_Cut.f k 0 9 t160 4 5).bind fun bt172 => ((line_Make.f k 0 9 (([(⟨0, (⟨3, 1⟩ : S35)⟩ : S46)] : List (S46)))).bind fun bt179 => ((line_Differ.f k 0 9 t160 bt179.1).bind fun bt183 => ((line_At.f k 0 9 t160 10).bind fun bt187 => ((line_Make.f k 0 9 (([(⟨1, (⟨3, 1⟩ : S35)⟩ : S46)] : List (S46)))).bind fun bt194 => ((spoorref20_Same.f k t160 (([(⟨(⟨0, 4⟩ : S23), (⟨3, 1⟩ : S35)⟩ : S52), (⟨(⟨5, 9⟩ : S23), (⟨1, 2⟩ : S35)⟩ : S52)] : List (S52)))).bind fun t201 => (if t201 = true then (if t163 = 0 then (if (t164 == 3 && (t165 == 1)) = true then (if t166 = 0 then ((spoorref19_Same.f k t168 (([(⟨5, 9⟩ : S23)] : List (S23)))).bind fun t205 => (if t205 = true then (if t171 = 0 then ((spoorref20_Same.f k bt172.1 (([(⟨(⟨4, 4⟩ : S23), (⟨3, 1⟩ : S35)⟩ : S52), (⟨(⟨5, 5⟩ : S23), (⟨1, 2⟩ : S35)⟩ : S52)] : List (S52)))).bind fun t209 => (if t209 = true then (if bt172.2 = 0 then (if bt179.2 = 0 then ((spoorref19_Same.f k bt183.1 (([(⟨5, 9⟩ : S23)] : List (S23)))).bind fun t213 => (if t213 = true then (if bt183.2 = 0 then (if bt187.2.2 = 1 then (if bt194.2 = 2 then ((line_Check.f k 0 9 t160).bind fun t214 => (some (t214 == 0))) else (none)) else (none)) else (none)) else (none))) else (none)) else (none)) else (none))) else (none)) else (none))) else (none)) else (none)) else (none)) else (none)))))))) = some r := H
 have A3 := Ax A30
 clear A30
 replace H := Option.bind_eq_some_iff.mp H
 obtain ⟨⟨t172, t175⟩, A40, H⟩ := H
 replace H : ((line_Make.f k 0 9 (([(⟨0, (⟨3, 1⟩ : S35)⟩ : S46)] : List (S46)))).bind fun bt179 => ((line_Differ.f k 0 9 t160 bt179.1).bind fun bt183 => ((line_At.f k 0 9 t160 10).bind fun bt187 => ((line_Make.f k 0 9 (([(⟨1, (⟨3, 1⟩ : S35)⟩ : S46)] : List (S46)))).bind fun bt194 => ((spoorref20_Same.f k t160 (([(⟨(⟨0, 4⟩ : S23), (⟨3, 1⟩ : S35)⟩ : S52), (⟨(⟨5, 9⟩ : S23), (⟨1, 2⟩ : S35)⟩ : S52)] : List (S52)))).bind fun t201 => (if t201 = true then (if t163 = 0 then (if (t164 == 3 && (t165 == 1)) = true then (if t166 = 0 then ((spoorref19_Same.f k t168 (([(⟨5, 9⟩ : S23)] : List (S23)))).bind fun t205 => (if t205 = true then (if t171 = 0 then ((spoorref20_Same.f k t172 (([(⟨(⟨4, 4⟩ : S23), (⟨3, 1⟩ : S35)⟩ : S52), (⟨(⟨5, 5⟩ : S23), (⟨1, 2⟩ : S35)⟩ : S52)] : List (S52)))).bind fun t209 => (if t209 = true then (if t175 = 0 then (if bt179.2 = 0 then ((spoorref19_Same.f k bt183.1 (([(⟨5, 9⟩ : S23)] : List (S23)))).bind fun t213 => (if t213 = true then (if bt183.2 = 0 then (if bt187.2.2 = 1 then (if bt194.2 = 2 then ((line_Check.f k 0 9 t160).bind fun t214 => (some (t214 == 0))) else (none)) else (none)) else (none)) else (none))) else (none)) else (none)) else (none))) else (none)) else (none))) else (none)) else (none)) else (none)) else (none))))))) = some r := H
 have A4 := Ax A40
 clear A40
 obtain ⟨y176, hy176⟩ : ∃ y_ : List (S46), y_ = (([(⟨0, (⟨3, 1⟩ : S35)⟩ : S46)] : List (S46))) := ⟨_, rfl⟩
 replace H : ((line_Make.f k 0 9 y176).bind fun bt179 => ((line_Differ.f k 0 9 t160 bt179.1).bind fun bt183 => ((line_At.f k 0 9 t160 10).bind fun bt187 => ((line_Make.f k 0 9 (([(⟨1, (⟨3, 1⟩ : S35)⟩ : S46)] : List (S46)))).bind fun bt194 => ((spoorref20_Same.f k t160 (([(⟨(⟨0, 4⟩ : S23), (⟨3, 1⟩ : S35)⟩ : S52), (⟨(⟨5, 9⟩ : S23), (⟨1, 2⟩ : S35)⟩ : S52)] : List (S52)))).bind fun t201 => (if t201 = true then (if t163 = 0 then (if (t164 == 3 && (t165 == 1)) = true then (if t166 = 0 then ((spoorref19_Same.f k t168 (([(⟨5, 9⟩ : S23)] : List (S23)))).bind fun t205 => (if t205 = true then (if t171 = 0 then ((spoorref20_Same.f k t172 (([(⟨(⟨4, 4⟩ : S23), (⟨3, 1⟩ : S35)⟩ : S52), (⟨(⟨5, 5⟩ : S23), (⟨1, 2⟩ : S35)⟩ : S52)] : List (S52)))).bind fun t209 => (if t209 = true then (if t175 = 0 then (if bt179.2 = 0 then ((spoorref19_Same.f k bt183.1 (([(⟨5, 9⟩ : S23)] : List (S23)))).bind fun t213 => (if t213 = true then (if bt183.2 = 0 then (if bt187.2.2 = 1 then (if bt194.2 = 2 then ((line_Check.f k 0 9 t160).bind fun t214 => (some (t214 == 0))) else (none)) else (none)) else (none)) else (none))) else (none)) else (none)) else (none))) else (none)) else (none))) else (none)) else (none)) else (none)) else (none))))))) = some r := by first | (rw [hy176]; with_reducible exact H) | (have H2_ := (Option.bind_some _ _).symm.trans H; rw [hy176]; with_reducible exact H2_) | (have H2_ := (Option.bind_some _ _).symm.trans H; with_reducible exact H2_) | with_reducible exact H | (rw [hy176]; exact H) | exact H
 have Ny176 := Ax hy176
 clear hy176
 replace H := Option.bind_eq_some_iff.mp H
 obtain ⟨⟨t179, t182⟩, A50, H⟩ := H
 replace H : ((line_Differ.f k 0 9 t160 t179).bind fun bt183 => ((line_At.f k 0 9 t160 10).bind fun bt187 => ((line_Make.f k 0 9 (([(⟨1, (⟨3, 1⟩ : S35)⟩ : S46)] : List (S46)))).bind fun bt194 => ((spoorref20_Same.f k t160 (([(⟨(⟨0, 4⟩ : S23), (⟨3, 1⟩ : S35)⟩ : S52), (⟨(⟨5, 9⟩ : S23), (⟨1, 2⟩ : S35)⟩ : S52)] : List (S52)))).bind fun t201 => (if t201 = true then (if t163 = 0 then (if (t164 == 3 && (t165 == 1)) = true then (if t166 = 0 then ((spoorref19_Same.f k t168 (([(⟨5, 9⟩ : S23)] : List (S23)))).bind fun t205 => (if t205 = true then (if t171 = 0 then ((spoorref20_Same.f k t172 (([(⟨(⟨4, 4⟩ : S23), (⟨3, 1⟩ : S35)⟩ : S52), (⟨(⟨5, 5⟩ : S23), (⟨1, 2⟩ : S35)⟩ : S52)] : List (S52)))).bind fun t209 => (if t209 = true then (if t175 = 0 then (if t182 = 0 then ((spoorref19_Same.f k bt183.1 (([(⟨5, 9⟩ : S23)] : List (S23)))).bind fun t213 => (if t213 = true then (if bt183.2 = 0 then (if bt187.2.2 = 1 then (if bt194.2 = 2 then ((line_Check.f k 0 9 t160).bind fun t214 => (some (t214 == 0))) else (none)) else (none)) else (none)) else (none))) else (none)) else (none)) else (none))) else (none)) else (none))) else (none)) else (none)) else (none)) else (none)))))) = some r := H
 have A5 := Ax A50
 clear A50
 replace H := Option.bind_eq_some_iff.mp H
 obtain ⟨⟨t183, t186⟩, A60, H⟩ := H
 replace H : ((line_At.f k 0 9 t160 10).bind fun bt187 => ((line_Make.f k 0 9 (([(⟨1, (⟨3, 1⟩ : S35)⟩ : S46)] : List (S46)))).bind fun bt194 => ((spoorref20_Same.f k t160 (([(⟨(⟨0, 4⟩ : S23), (⟨3, 1⟩ : S35)⟩ : S52), (⟨(⟨5, 9⟩ : S23), (⟨1, 2⟩ : S35)⟩ : S52)] : List (S52)))).bind fun t201 => (if t201 = true then (if t163 = 0 then (if (t164 == 3 && (t165 == 1)) = true then (if t166 = 0 then ((spoorref19_Same.f k t168 (([(⟨5, 9⟩ : S23)] : List (S23)))).bind fun t205 => (if t205 = true then (if t171 = 0 then ((spoorref20_Same.f k t172 (([(⟨(⟨4, 4⟩ : S23), (⟨3, 1⟩ : S35)⟩ : S52), (⟨(⟨5, 5⟩ : S23), (⟨1, 2⟩ : S35)⟩ : S52)] : List (S52)))).bind fun t209 => (if t209 = true then (if t175 = 0 then (if t182 = 0 then ((spoorref19_Same.f k t183 (([(⟨5, 9⟩ : S23)] : List (S23)))).bind fun t213 => (if t213 = true then (if t186 = 0 then (if bt187.2.2 = 1 then (if bt194.2 = 2 then ((line_Check.f k 0 9 t160).bind fun t214 => (some (t214 == 0))) else (none)) else (none)) else (none)) else (none))) else (none)) else (none)) else (none))) else (none)) else (none))) else (none)) else (none)) else (none)) else (none))))) = some r := H
 have A6 := Ax A60
 clear A60
 replace H := Option.bind_eq_some_iff.mp H
 obtain ⟨⟨t187, t188, t189⟩, A70, H⟩ := H
 replace H : ((line_Make.f k 0 9 (([(⟨1, (⟨3, 1⟩ : S35)⟩ : S46)] : List (S46)))).bind fun bt194 => ((spoorref20_Same.f k t160 (([(⟨(⟨0, 4⟩ : S23), (⟨3, 1⟩ : S35)⟩ : S52), (⟨(⟨5, 9⟩ : S23), (⟨1, 2⟩ : S35)⟩ : S52)] : List (S52)))).bind fun t201 => (if t201 = true then (if t163 = 0 then (if (t164 == 3 && (t165 == 1)) = true then (if t166 = 0 then ((spoorref19_Same.f k t168 (([(⟨5, 9⟩ : S23)] : List (S23)))).bind fun t205 => (if t205 = true then (if t171 = 0 then ((spoorref20_Same.f k t172 (([(⟨(⟨4, 4⟩ : S23), (⟨3, 1⟩ : S35)⟩ : S52), (⟨(⟨5, 5⟩ : S23), (⟨1, 2⟩ : S35)⟩ : S52)] : List (S52)))).bind fun t209 => (if t209 = true then (if t175 = 0 then (if t182 = 0 then ((spoorref19_Same.f k t183 (([(⟨5, 9⟩ : S23)] : List (S23)))).bind fun t213 => (if t213 = true then (if t186 = 0 then (if t189 = 1 then (if bt194.2 = 2 then ((line_Check.f k 0 9 t160).bind fun t214 => (some (t214 == 0))) else (none)) else (none)) else (none)) else (none))) else (none)) else (none)) else (none))) else (none)) else (none))) else (none)) else (none)) else (none)) else (none)))) = some r := H
 have A7 := Ax A70
 clear A70
 obtain ⟨y191, hy191⟩ : ∃ y_ : List (S46), y_ = (([(⟨1, (⟨3, 1⟩ : S35)⟩ : S46)] : List (S46))) := ⟨_, rfl⟩
 replace H : ((line_Make.f k 0 9 y191).bind fun bt194 => ((spoorref20_Same.f k t160 (([(⟨(⟨0, 4⟩ : S23), (⟨3, 1⟩ : S35)⟩ : S52), (⟨(⟨5, 9⟩ : S23), (⟨1, 2⟩ : S35)⟩ : S52)] : List (S52)))).bind fun t201 => (if t201 = true then (if t163 = 0 then (if (t164 == 3 && (t165 == 1)) = true then (if t166 = 0 then ((spoorref19_Same.f k t168 (([(⟨5, 9⟩ : S23)] : List (S23)))).bind fun t205 => (if t205 = true then (if t171 = 0 then ((spoorref20_Same.f k t172 (([(⟨(⟨4, 4⟩ : S23), (⟨3, 1⟩ : S35)⟩ : S52), (⟨(⟨5, 5⟩ : S23), (⟨1, 2⟩ : S35)⟩ : S52)] : List (S52)))).bind fun t209 => (if t209 = true then (if t175 = 0 then (if t182 = 0 then ((spoorref19_Same.f k t183 (([(⟨5, 9⟩ : S23)] : List (S23)))).bind fun t213 => (if t213 = true then (if t186 = 0 then (if t189 = 1 then (if bt194.2 = 2 then ((line_Check.f k 0 9 t160).bind fun t214 => (some (t214 == 0))) else (none)) else (none)) else (none)) else (none))) else (none)) else (none)) else (none))) else (none)) else (none))) else (none)) else (none)) else (none)) else (none)))) = some r := by first | (rw [hy191]; with_reducible exact H) | (have H2_ := (Option.bind_some _ _).symm.trans H; rw [hy191]; with_reducible exact H2_) | (have H2_ := (Option.bind_some _ _).symm.trans H; with_reducible exact H2_) | with_reducible exact H | (rw [hy191]; exact H) | exact H
 have Ny191 := Ax hy191
 clear hy191
 replace H := Option.bind_eq_some_iff.mp H
 obtain ⟨⟨t194, t197⟩, A80, H⟩ := H
 replace H : ((spoorref20_Same.f k t160 (([(⟨(⟨0, 4⟩ : S23), (⟨3, 1⟩ : S35)⟩ : S52), (⟨(⟨5, 9⟩ : S23), (⟨1, 2⟩ : S35)⟩ : S52)] : List (S52)))).bind fun t201 => (if t201 = true then (if t163 = 0 then (if (t164 == 3 && (t165 == 1)) = true then (if t166 = 0 then ((spoorref19_Same.f k t168 (([(⟨5, 9⟩ : S23)] : List (S23)))).bind fun t205 => (if t205 = true then (if t171 = 0 then ((spoorref20_Same.f k t172 (([(⟨(⟨4, 4⟩ : S23), (⟨3, 1⟩ : S35)⟩ : S52), (⟨(⟨5, 5⟩ : S23), (⟨1, 2⟩ : S35)⟩ : S52)] : List (S52)))).bind fun t209 => (if t209 = true then (if t175 = 0 then (if t182 = 0 then ((spoorref19_Same.f k t183 (([(⟨5, 9⟩ : S23)] : List (S23)))).bind fun t213 => (if t213 = true then (if t186 = 0 then (if t189 = 1 then (if t197 = 2 then ((line_Check.f k 0 9 t160).bind fun t214 => (some (t214 == 0))) else (none)) else (none)) else (none)) else (none))) else (none)) else (none)) else (none))) else (none)) else (none))) else (none)) else (none)) else (none)) else (none))) = some r := H
 have A8 := Ax A80
 clear A80
 obtain ⟨y198, hy198⟩ : ∃ y_ : List (S52), y_ = (([(⟨(⟨0, 4⟩ : S23), (⟨3, 1⟩ : S35)⟩ : S52), (⟨(⟨5, 9⟩ : S23), (⟨1, 2⟩ : S35)⟩ : S52)] : List (S52))) := ⟨_, rfl⟩
 replace H : ((spoorref20_Same.f k t160 y198).bind fun t201 => (if t201 = true then (if t163 = 0 then (if (t164 == 3 && (t165 == 1)) = true then (if t166 = 0 then ((spoorref19_Same.f k t168 (([(⟨5, 9⟩ : S23)] : List (S23)))).bind fun t205 => (if t205 = true then (if t171 = 0 then ((spoorref20_Same.f k t172 (([(⟨(⟨4, 4⟩ : S23), (⟨3, 1⟩ : S35)⟩ : S52), (⟨(⟨5, 5⟩ : S23), (⟨1, 2⟩ : S35)⟩ : S52)] : List (S52)))).bind fun t209 => (if t209 = true then (if t175 = 0 then (if t182 = 0 then ((spoorref19_Same.f k t183 (([(⟨5, 9⟩ : S23)] : List (S23)))).bind fun t213 => (if t213 = true then (if t186 = 0 then (if t189 = 1 then (if t197 = 2 then ((line_Check.f k 0 9 t160).bind fun t214 => (some (t214 == 0))) else (none)) else (none)) else (none)) else (none))) else (none)) else (none)) else (none))) else (none)) else (none))) else (none)) else (none)) else (none)) else (none))) = some r := by first | (rw [hy198]; with_reducible exact H) | (have H2_ := (Option.bind_some _ _).symm.trans H; rw [hy198]; with_reducible exact H2_) | (have H2_ := (Option.bind_some _ _).symm.trans H; with_reducible exact H2_) | with_reducible exact H | (rw [hy198]; exact H) | exact H
 have Ny198 := Ax hy198
 clear hy198
 replace H := Option.bind_eq_some_iff.mp H
 obtain ⟨t201, A90, H⟩ := H
 replace H : (if t201 = true then (if t163 = 0 then (if (t164 == 3 && (t165 == 1)) = true then (if t166 = 0 then ((spoorref19_Same.f k t168 (([(⟨5, 9⟩ : S23)] : List (S23)))).bind fun t205 => (if t205 = true then (if t171 = 0 then ((spoorref20_Same.f k t172 (([(⟨(⟨4, 4⟩ : S23), (⟨3, 1⟩ : S35)⟩ : S52), (⟨(⟨5, 5⟩ : S23), (⟨1, 2⟩ : S35)⟩ : S52)] : List (S52)))).bind fun t209 => (if t209 = true then (if t175 = 0 then (if t182 = 0 then ((spoorref19_Same.f k t183 (([(⟨5, 9⟩ : S23)] : List (S23)))).bind fun t213 => (if t213 = true then (if t186 = 0 then (if t189 = 1 then (if t197 = 2 then ((line_Check.f k 0 9 t160).bind fun t214 => (some (t214 == 0))) else (none)) else (none)) else (none)) else (none))) else (none)) else (none)) else (none))) else (none)) else (none))) else (none)) else (none)) else (none)) else (none)) = some r := H
 have A9 := Ax A90
 clear A90
 by_cases c10 : t201 = true
 ·subst c10
  have H1 : (if t163 = 0 then (if (t164 == 3 && (t165 == 1)) = true then (if t166 = 0 then ((spoorref19_Same.f k t168 (([(⟨5, 9⟩ : S23)] : List (S23)))).bind fun t205 => (if t205 = true then (if t171 = 0 then ((spoorref20_Same.f k t172 (([(⟨(⟨4, 4⟩ : S23), (⟨3, 1⟩ : S35)⟩ : S52), (⟨(⟨5, 5⟩ : S23), (⟨1, 2⟩ : S35)⟩ : S52)] : List (S52)))).bind fun t209 => (if t209 = true then (if t175 = 0 then (if t182 = 0 then ((spoorref19_Same.f k t183 (([(⟨5, 9⟩ : S23)] : List (S23)))).bind fun t213 => (if t213 = true then (if t186 = 0 then (if t189 = 1 then (if t197 = 2 then ((line_Check.f k 0 9 t160).bind fun t214 => (some (t214 == 0))) else (none)) else (none)) else (none)) else (none))) else (none)) else (none)) else (none))) else (none)) else (none))) else (none)) else (none)) else (none)) = some r := by rw [if_pos rfl] at H; exact H
  clear H
  have H := H1
  clear H1
  by_cases c11 : t163 = 0
  ·rw [if_pos c11] at H
   have c11b0 : (t163 == 0) = true := beq_iff_eq.mpr c11
   have c11b1 : (t163 != 0) = false := bne_eq_false_iff_eq.mpr c11
   clear c11
   by_cases c12 : (t164 == 3 && (t165 == 1)) = true
   ·rw [if_pos c12] at H
    have c12b0 : (t164 == 3 && (t165 == 1)) = true := c12
    (try (have c12b1 : decide (t164 = 3 && (t165 == 1)) = true := by simpa using c12))
    (try (have c12b2 : (t164 == 3 && (t165 == 1)) = true := by simpa using c12))
    clear c12
    by_cases c13 : t166 = 0
    ·rw [if_pos c13] at H
     have c13b0 : (t166 == 0) = true := beq_iff_eq.mpr c13
     have c13b1 : (t166 != 0) = false := bne_eq_false_iff_eq.mpr c13
     clear c13
     obtain ⟨y202, hy202⟩ : ∃ y_ : List (S23), y_ = (([(⟨5, 9⟩ : S23)] : List (S23))) := ⟨_, rfl⟩
     replace H : ((spoorref19_Same.f k t168 y202).bind fun t205 => (if t205 = true then (if t171 = 0 then ((spoorref20_Same.f k t172 (([(⟨(⟨4, 4⟩ : S23), (⟨3, 1⟩ : S35)⟩ : S52), (⟨(⟨5, 5⟩ : S23), (⟨1, 2⟩ : S35)⟩ : S52)] : List (S52)))).bind fun t209 => (if t209 = true then (if t175 = 0 then (if t182 = 0 then ((spoorref19_Same.f k t183 (([(⟨5, 9⟩ : S23)] : List (S23)))).bind fun t213 => (if t213 = true then (if t186 = 0 then (if t189 = 1 then (if t197 = 2 then ((line_Check.f k 0 9 t160).bind fun t214 => (some (t214 == 0))) else (none)) else (none)) else (none)) else (none))) else (none)) else (none)) else (none))) else (none)) else (none))) = some r := by first | (rw [hy202]; with_reducible exact H) | (have H2_ := (Option.bind_some _ _).symm.trans H; rw [hy202]; with_reducible exact H2_) | (have H2_ := (Option.bind_some _ _).symm.trans H; with_reducible exact H2_) | with_reducible exact H | (rw [hy202]; exact H) | exact H
     have Ny202 := Ax hy202
     clear hy202
     replace H := Option.bind_eq_some_iff.mp H
     obtain ⟨t205, A140, H⟩ := H
     replace H : (if t205 = true then (if t171 = 0 then ((spoorref20_Same.f k t172 (([(⟨(⟨4, 4⟩ : S23), (⟨3, 1⟩ : S35)⟩ : S52), (⟨(⟨5, 5⟩ : S23), (⟨1, 2⟩ : S35)⟩ : S52)] : List (S52)))).bind fun t209 => (if t209 = true then (if t175 = 0 then (if t182 = 0 then ((spoorref19_Same.f k t183 (([(⟨5, 9⟩ : S23)] : List (S23)))).bind fun t213 => (if t213 = true then (if t186 = 0 then (if t189 = 1 then (if t197 = 2 then ((line_Check.f k 0 9 t160).bind fun t214 => (some (t214 == 0))) else (none)) else (none)) else (none)) else (none))) else (none)) else (none)) else (none))) else (none)) else (none)) = some r := H
     have A14 := Ax A140
     clear A140
     by_cases c15 : t205 = true
     ·subst c15
      have H1 : (if t171 = 0 then ((spoorref20_Same.f k t172 (([(⟨(⟨4, 4⟩ : S23), (⟨3, 1⟩ : S35)⟩ : S52), (⟨(⟨5, 5⟩ : S23), (⟨1, 2⟩ : S35)⟩ : S52)] : List (S52)))).bind fun t209 => (if t209 = true then (if t175 = 0 then (if t182 = 0 then ((spoorref19_Same.f k t183 (([(⟨5, 9⟩ : S23)] : List (S23)))).bind fun t213 => (if t213 = true then (if t186 = 0 then (if t189 = 1 then (if t197 = 2 then ((line_Check.f k 0 9 t160).bind fun t214 => (some (t214 == 0))) else (none)) else (none)) else (none)) else (none))) else (none)) else (none)) else (none))) else (none)) = some r := by rw [if_pos rfl] at H; exact H
      clear H
      have H := H1
      clear H1
      by_cases c16 : t171 = 0
      ·rw [if_pos c16] at H
       have c16b0 : (t171 == 0) = true := beq_iff_eq.mpr c16
       have c16b1 : (t171 != 0) = false := bne_eq_false_iff_eq.mpr c16
       clear c16
       obtain ⟨y206, hy206⟩ : ∃ y_ : List (S52), y_ = (([(⟨(⟨4, 4⟩ : S23), (⟨3, 1⟩ : S35)⟩ : S52), (⟨(⟨5, 5⟩ : S23), (⟨1, 2⟩ : S35)⟩ : S52)] : List (S52))) := ⟨_, rfl⟩
       replace H : ((spoorref20_Same.f k t172 y206).bind fun t209 => (if t209 = true then (if t175 = 0 then (if t182 = 0 then ((spoorref19_Same.f k t183 (([(⟨5, 9⟩ : S23)] : List (S23)))).bind fun t213 => (if t213 = true then (if t186 = 0 then (if t189 = 1 then (if t197 = 2 then ((line_Check.f k 0 9 t160).bind fun t214 => (some (t214 == 0))) else (none)) else (none)) else (none)) else (none))) else (none)) else (none)) else (none))) = some r := by first | (rw [hy206]; with_reducible exact H) | (have H2_ := (Option.bind_some _ _).symm.trans H; rw [hy206]; with_reducible exact H2_) | (have H2_ := (Option.bind_some _ _).symm.trans H; with_reducible exact H2_) | with_reducible exact H | (rw [hy206]; exact H) | exact H
       have Ny206 := Ax hy206
       clear hy206
       replace H := Option.bind_eq_some_iff.mp H
       obtain ⟨t209, A170, H⟩ := H
       replace H : (if t209 = true then (if t175 = 0 then (if t182 = 0 then ((spoorref19_Same.f k t183 (([(⟨5, 9⟩ : S23)] : List (S23)))).bind fun t213 => (if t213 = true then (if t186 = 0 then (if t189 = 1 then (if t197 = 2 then ((line_Check.f k 0 9 t160).bind fun t214 => (some (t214 == 0))) else (none)) else (none)) else (none)) else (none))) else (none)) else (none)) else (none)) = some r := H
       have A17 := Ax A170
       clear A170
       by_cases c18 : t209 = true
       ·subst c18
        have H1 : (if t175 = 0 then (if t182 = 0 then ((spoorref19_Same.f k t183 (([(⟨5, 9⟩ : S23)] : List (S23)))).bind fun t213 => (if t213 = true then (if t186 = 0 then (if t189 = 1 then (if t197 = 2 then ((line_Check.f k 0 9 t160).bind fun t214 => (some (t214 == 0))) else (none)) else (none)) else (none)) else (none))) else (none)) else (none)) = some r := by rw [if_pos rfl] at H; exact H
        clear H
        have H := H1
        clear H1
        by_cases c19 : t175 = 0
        ·rw [if_pos c19] at H
         have c19b0 : (t175 == 0) = true := beq_iff_eq.mpr c19
         have c19b1 : (t175 != 0) = false := bne_eq_false_iff_eq.mpr c19
         clear c19
         by_cases c20 : t182 = 0
         ·rw [if_pos c20] at H
          have c20b0 : (t182 == 0) = true := beq_iff_eq.mpr c20
          have c20b1 : (t182 != 0) = false := bne_eq_false_iff_eq.mpr c20
          clear c20
          obtain ⟨y210, hy210⟩ : ∃ y_ : List (S23), y_ = (([(⟨5, 9⟩ : S23)] : List (S23))) := ⟨_, rfl⟩
          replace H : ((spoorref19_Same.f k t183 y210).bind fun t213 => (if t213 = true then (if t186 = 0 then (if t189 = 1 then (if t197 = 2 then ((line_Check.f k 0 9 t160).bind fun t214 => (some (t214 == 0))) else (none)) else (none)) else (none)) else (none))) = some r := by first | (rw [hy210]; with_reducible exact H) | (have H2_ := (Option.bind_some _ _).symm.trans H; rw [hy210]; with_reducible exact H2_) | (have H2_ := (Option.bind_some _ _).symm.trans H; with_reducible exact H2_) | with_reducible exact H | (rw [hy210]; exact H) | exact H
          have Ny210 := Ax hy210
          clear hy210
          replace H := Option.bind_eq_some_iff.mp H
          obtain ⟨t213, A210, H⟩ := H
          replace H : (if t213 = true then (if t186 = 0 then (if t189 = 1 then (if t197 = 2 then ((line_Check.f k 0 9 t160).bind fun t214 => (some (t214 == 0))) else (none)) else (none)) else (none)) else (none)) = some r := H
          have A21 := Ax A210
          clear A210
          by_cases c22 : t213 = true
          ·subst c22
           have H1 : (if t186 = 0 then (if t189 = 1 then (if t197 = 2 then ((line_Check.f k 0 9 t160).bind fun t214 => (some (t214 == 0))) else (none)) else (none)) else (none)) = some r := by rw [if_pos rfl] at H; exact H
           clear H
           have H := H1
           clear H1
           by_cases c23 : t186 = 0
           ·rw [if_pos c23] at H
            have c23b0 : (t186 == 0) = true := beq_iff_eq.mpr c23
            have c23b1 : (t186 != 0) = false := bne_eq_false_iff_eq.mpr c23
            clear c23
            by_cases c24 : t189 = 1
            ·rw [if_pos c24] at H
             have c24b0 : (t189 == 1) = true := beq_iff_eq.mpr c24
             have c24b1 : (t189 != 1) = false := bne_eq_false_iff_eq.mpr c24
             clear c24
             by_cases c25 : t197 = 2
             ·rw [if_pos c25] at H
              have c25b0 : (t197 == 2) = true := beq_iff_eq.mpr c25
              have c25b1 : (t197 != 2) = false := bne_eq_false_iff_eq.mpr c25
              clear c25
              replace H := Option.bind_eq_some_iff.mp H
              obtain ⟨t214, A260, H⟩ := H
              replace H : (some (t214 == 0)) = some r := H
              have A26 := Ax A260
              clear A260
              obtain rfl := Option.some.inj H
              go_enter Try.func10, Try.ntmps10
              try simp only [List.append_eq, List.cons_append, List.nil_append]
              go_wp2_with (first | ((with_reducible refine gate_dst (N := 1) rfl ?_); refine box_event ?hg (N := 1) ?hd (cs := #[.int .i64 0, .int .i64 0]) (t := 23) ?hr ?_; (case hd => rfl); (case hg => rfl); (case hr => first | (go_simp; done) | (go_simp; rfl)); intro gb154 hg w27 hbox hb; have n0_ := Bs0 HB hb; have n1_ := Ax (hbox); have n2_ := Gw0 HB hg; have n3_ := Gw0 HB hg; clear HB; have HB := n0_; have BK154 := n1_; have GW154 := n2_; have GE154 := n3_; clear n0_ n1_ n2_ n3_; clear hb hbox hg; obtain ⟨hcz28_0, hcz28_1, hfz28_0, hfz28_1⟩ := cl2 BK154) | ((with_reducible refine gate_dst (N := 2) rfl ?_); refine box_event ?hg (N := 2) ?hd (cs := #[.int .u8 0, .int .i64 0]) (t := 35) ?hr ?_; (case hd => rfl); (case hg => rfl); (case hr => first | (go_simp; done) | (go_simp; rfl)); intro gb155 hg w29 hbox hb; have n0_ := Ax (blk_below (g := gb154) (o := .cells #[.int .i64 0, .int .i64 9] 23 (0, 0)) (by (with_reducible repeat (first | refine blk_drewN ?_ _ | refine blk_drew ?_ | refine blk_alloc ?_ _)); refine blk_put (cs := #[.int .i64 0, .int .i64 0]) ?_ 1 _ rfl; (with_reducible repeat (first | refine blk_drewN ?_ _ | refine blk_drew ?_ | refine blk_alloc ?_ _)); refine blk_put (cs := #[.int .i64 0, .int .i64 0]) ?_ 0 _ rfl; (with_reducible repeat (first | refine blk_drewN ?_ _ | refine blk_drew ?_ | refine blk_alloc ?_ _)); exact BK154.out) hb); have n1_ := Bs1 HB hb GE154.out; have n2_ := Ax (hbox); have n3_ := Gw1 HB hg GE154.out; have n4_ := Gw1 HB hg GE154.out; have n5_ := Ax ((by rw [hg]; exact Nat.ne_of_lt (blk_lt (g := gb154) (o := .cells #[.int .i64 0, .int .i64 9] 23 (0, 0)) (by (with_reducible repeat (first | refine blk_drewN ?_ _ | refine blk_drew ?_ | refine blk_alloc ?_ _)); refine blk_put (cs := #[.int .i64 0, .int .i64 0]) ?_ 1 _ rfl; (with_reducible repeat (first | refine blk_drewN ?_ _ | refine blk_drew ?_ | refine blk_alloc ?_ _)); refine blk_put (cs := #[.int .i64 0, .int .i64 0]) ?_ 0 _ rfl; (with_reducible repeat (first | refine blk_drewN ?_ _ | refine blk_drew ?_ | refine blk_alloc ?_ _)); exact BK154.out)) : gb154 ≠ gb155)); have n6_ := Ax ((by rw [hg]; exact Nat.ne_of_gt (blk_lt (g := gb154) (o := .cells #[.int .i64 0, .int .i64 9] 23 (0, 0)) (by (with_reducible repeat (first | refine blk_drewN ?_ _ | refine blk_drew ?_ | refine blk_alloc ?_ _)); refine blk_put (cs := #[.int .i64 0, .int .i64 0]) ?_ 1 _ rfl; (with_reducible repeat (first | refine blk_drewN ?_ _ | refine blk_drew ?_ | refine blk_alloc ?_ _)); refine blk_put (cs := #[.int .i64 0, .int .i64 0]) ?_ 0 _ rfl; (with_reducible repeat (first | refine blk_drewN ?_ _ | refine blk_drew ?_ | refine blk_alloc ?_ _)); exact BK154.out)) : gb155 ≠ gb154)); clear BK154; clear HB; have BK154 := n0_; have HB := n1_; have BK155 := n2_; have GW155 := n3_; have GE155 := n4_; have NB154_155 := n5_; have NB155_154 := n6_; clear n0_ n1_ n2_ n3_ n4_ n5_ n6_; clear hb hbox hg) | ((with_reducible refine gate_dst (N := 3) rfl ?_); refine box_event ?hg (N := 3) ?hd (cs := #[.int .u8 0, .int .i64 0]) (t := 35) ?hr ?_; (case hd => rfl); (case hg => rfl); (case hr => first | (go_simp; done) | (go_simp; rfl)); intro gb156 hg w30 hbox hb; have n0_ := Bx0 BK154 hb; have n1_ := Bx0 BK155 hb; have n2_ := Bs2 HB hb GE154.out GE155.out; have n3_ := Ax (hbox); have n4_ := Gw2 HB hg GE154.out GE155.out; have n5_ := Gw2 HB hg GE154.out GE155.out; have n6_ := Nl0 BK154 hg; have n7_ := Nr0 BK154 hg; have n8_ := Nl0 BK155 hg; have n9_ := Nr0 BK155 hg; clear BK154; clear BK155; clear HB; have BK154 := n0_; have BK155 := n1_; have HB := n2_; have BK156 := n3_; have GW156 := n4_; have GE156 := n5_; have NB154_156 := n6_; have NB156_154 := n7_; have NB155_156 := n8_; have NB156_155 := n9_; clear n0_ n1_ n2_ n3_ n4_ n5_ n6_ n7_ n8_ n9_; clear hb hbox hg; have hnb31 := NB155_154.out; have hnc31 := NB154_155.out; have hnb32 := NB155_156.out; have hnc32 := NB156_155.out; obtain ⟨hcz33_0, hcz33_1, hfz33_0, hfz33_1⟩ := cl2 BK155; have hnb34 := NB156_154.out; have hnc34 := NB154_156.out; obtain ⟨hcz35_0, hcz35_1, hfz35_0, hfz35_1⟩ := cl2 BK156; obtain ⟨hcz36_0, hcz36_1, hfz36_0, hfz36_1⟩ := cl2 BK154) | ((with_reducible refine gate_dst (N := 31) rfl ?_); refine R_litg k46 _ 46 ?hg (N := 31) ?hd (xs := ([(⟨0, (⟨3, 1⟩ : S35)⟩ : S46), (⟨3, (⟨3, 1⟩ : S35)⟩ : S46), (⟨5, (⟨1, 2⟩ : S35)⟩ : S46)] : List (S46))) (inner := [.int .i64 0, .int .u8 3, .int .i64 1, .int .i64 3, .int .u8 3, .int .i64 1, .int .i64 5, .int .u8 1, .int .i64 2]) (ok := fun _ => True) (okp := fun _ => True) ?hr ?hp (fun _ hk => hk) trivial (Below.refl _ _) (Nat.le_refl _) (by simp) ?_; (case hd => rfl); (case hg => first | exact Or.inl rfl | exact Or.inr rfl); (case hr => first | (go_simp; done) | (go_simp; rfl)); (case hp => exact (Reps.c3 (show Kd.M k46 _ _ _ (⟨0, (⟨3, 1⟩ : S35)⟩ : S46) [.int .i64 0, .int .u8 3, .int .i64 1] from (k46_mkM _ _ _ (⟨0, (⟨3, 1⟩ : S35)⟩ : S46) )) (Reps.c3 (show Kd.M k46 _ _ _ (⟨3, (⟨3, 1⟩ : S35)⟩ : S46) [.int .i64 3, .int .u8 3, .int .i64 1] from (k46_mkM _ _ _ (⟨3, (⟨3, 1⟩ : S35)⟩ : S46) )) (Reps.c3 (show Kd.M k46 _ _ _ (⟨5, (⟨1, 2⟩ : S35)⟩ : S46) [.int .i64 5, .int .u8 1, .int .i64 2] from (k46_mkM _ _ _ (⟨5, (⟨1, 2⟩ : S35)⟩ : S46) )) (Reps.none _ _))))); intro v158 w37 ho38 hb hg_ hnew_; clear hg_ hnew_; (first | rw [← Ny157.out] at ho38 | (simp only [Int.reduceToNat] at ho38; rw [← Ny157.out] at ho38)); have n0_ := Ax (Kd.R_lower ho38 (below_size (bw3 HB.out GE154.out GE155.out GE156.out))); have n1_ := Bx4 BK154 hb NB154_156.out NB154_156.out NB154_155.out NB154_155.out; have n2_ := Ax (blk_below (g := gb155) (o := .cells #[.int .u8 3, .int .i64 1] 35 (0, 0)) (by (with_reducible repeat (first | refine blk_drewN ?_ _ | refine blk_drew ?_ | refine blk_alloc ?_ _)); refine blk_far ?_ NB155_156.out _; (with_reducible repeat (first | refine blk_drewN ?_ _ | refine blk_drew ?_ | refine blk_alloc ?_ _)); refine blk_far ?_ NB155_156.out _; (with_reducible repeat (first | refine blk_drewN ?_ _ | refine blk_drew ?_ | refine blk_alloc ?_ _)); refine blk_put (cs := #[.int .u8 3, .int .i64 0]) ?_ 1 _ rfl; (with_reducible repeat (first | refine blk_drewN ?_ _ | refine blk_drew ?_ | refine blk_alloc ?_ _)); refine blk_put (cs := #[.int .u8 0, .int .i64 0]) ?_ 0 _ rfl; (with_reducible repeat (first | refine blk_drewN ?_ _ | refine blk_drew ?_ | refine blk_alloc ?_ _)); exact BK155.out) hb); have n3_ := Ax (blk_below (g := gb156) (o := .cells #[.int .u8 1, .int .i64 2] 35 (0, 0)) (by (with_reducible repeat (first | refine blk_drewN ?_ _ | refine blk_drew ?_ | refine blk_alloc ?_ _)); refine blk_put (cs := #[.int .u8 1, .int .i64 0]) ?_ 1 _ rfl; (with_reducible repeat (first | refine blk_drewN ?_ _ | refine blk_drew ?_ | refine blk_alloc ?_ _)); refine blk_put (cs := #[.int .u8 0, .int .i64 0]) ?_ 0 _ rfl; (with_reducible repeat (first | refine blk_drewN ?_ _ | refine blk_drew ?_ | refine blk_alloc ?_ _)); refine blk_far ?_ NB156_155.out _; (with_reducible repeat (first | refine blk_drewN ?_ _ | refine blk_drew ?_ | refine blk_alloc ?_ _)); refine blk_far ?_ NB156_155.out _; (with_reducible repeat (first | refine blk_drewN ?_ _ | refine blk_drew ?_ | refine blk_alloc ?_ _)); exact BK156.out) hb); have n4_ := Bs3 HB hb GE154.out GE155.out GE156.out; clear BK154; clear BK155; clear BK156; clear HB; have HO159 := n0_; have BK154 := n1_; have BK155 := n2_; have BK156 := n3_; have HB := n4_; clear n0_ n1_ n2_ n3_ n4_; clear hb ho38; obtain ⟨Ao39, co39, eo39⟩ := Kd.R_slice HO159.out; subst eo39) | ((with_reducible refine gate_callee (f := 8) rfl ?_); refine goesL_ (some 32) rfl rfl Try.func8 (by kernel_rfl) rfl #[.agg #[.int .i64 0, .int .i64 9], .slice Ao39 y157.length co39] rfl gS ?_; (with_reducible refine (line_Make.calls k 0 9 _ _ y157 t160 t163 _ ?side1 ?side2 A1.out).mono ?_); (case side1 => repeat (first | exact (Kd.R_reads' HO159.out).2.2 | (with_reducible refine Kd.C_alloc ?_ _) | (with_reducible refine Kd.C_drewN ?_ _) | (with_reducible refine Kd.C_drew ?_))); (case side2 => exact (Kd.R_reads' HO159.out).2.1); rintro e w40 ⟨v161, rfl, ho0, hb⟩; refine ⟨_, rfl, ?_⟩; have n0_ := Ax (Kd.R_below (by (with_reducible repeat (first | apply Kd.R_alloc | apply Kd.R_drewN | apply Kd.R_drew)); exact HO159.out) hb); have n1_ := Ax (Kd.R_lower ho0 (below_size (bw3 HB.out GE154.out GE155.out GE156.out))); have n2_ := Bx0 BK154 hb; have n3_ := Bx0 BK155 hb; have n4_ := Bx0 BK156 hb; have n5_ := Bs3 HB hb GE154.out GE155.out GE156.out; clear HO159; clear BK154; clear BK155; clear BK156; clear HB; have HO159 := n0_; have HO162 := n1_; have BK154 := n2_; have BK155 := n3_; have BK156 := n4_; have HB := n5_; clear n0_ n1_ n2_ n3_ n4_ n5_; (try clear hb); (try clear ho0); obtain ⟨hcz41_0, hcz41_1, hfz41_0, hfz41_1⟩ := cl2 BK154; obtain ⟨Ao42, co42, eo42⟩ := Kd.R_slice HO162.out; subst eo42) | ((with_reducible refine gate_callee (f := 14) rfl ?_); refine goesL_ (some 38) rfl rfl Try.func14 (by kernel_rfl) rfl #[.agg #[.int .i64 0, .int .i64 9], .slice Ao42 t160.length co42, .int .i64 4] rfl gS ?_; (with_reducible refine (line_At.calls k 0 9 _ _ t160 4 t164 t165 t166 _ ?side1 ?side2 A2.out).mono ?_); (case side1 => repeat (first | exact (Kd.R_reads' HO162.out).2.2 | (with_reducible refine Kd.C_alloc ?_ _) | (with_reducible refine Kd.C_drewN ?_ _) | (with_reducible refine Kd.C_drew ?_))); (case side2 => exact (Kd.R_reads' HO162.out).2.1); rintro e w43 ⟨rfl, hb⟩; refine ⟨_, rfl, ?_⟩; have n0_ := Ax (Kd.R_below (by (with_reducible repeat (first | apply Kd.R_alloc | apply Kd.R_drewN | apply Kd.R_drew)); exact HO159.out) hb); have n1_ := Ax (Kd.R_below (by (with_reducible repeat (first | apply Kd.R_alloc | apply Kd.R_drewN | apply Kd.R_drew)); exact HO162.out) hb); have n2_ := Bx0 BK154 hb; have n3_ := Bx0 BK155 hb; have n4_ := Bx0 BK156 hb; have n5_ := Bs3 HB hb GE154.out GE155.out GE156.out; clear HO159; clear HO162; clear BK154; clear BK155; clear BK156; clear HB; have HO159 := n0_; have HO162 := n1_; have BK154 := n2_; have BK155 := n3_; have BK156 := n4_; have HB := n5_; clear n0_ n1_ n2_ n3_ n4_ n5_; (try clear hb)) | ((with_reducible refine gate_dst (N := 6) rfl ?_); refine box_event ?hg (N := 6) ?hd (cs := #[.int .u8 0, .int .i64 0]) (t := 35) ?hr ?_; (case hd => rfl); (case hg => rfl); (case hr => first | (go_simp; done) | (go_simp; rfl)); intro gb167 hg w44 hbox hb; have n0_ := Ax (Kd.R_below (by (with_reducible repeat (first | apply Kd.R_alloc | apply Kd.R_drewN | apply Kd.R_drew)); exact HO159.out) hb); have n1_ := Ax (Kd.R_below (by (with_reducible repeat (first | apply Kd.R_alloc | apply Kd.R_drewN | apply Kd.R_drew)); exact HO162.out) hb); have n2_ := Bx0 BK154 hb; have n3_ := Bx0 BK155 hb; have n4_ := Bx0 BK156 hb; have n5_ := Bs3 HB hb GE154.out GE155.out GE156.out; have n6_ := Ax (hbox); have n7_ := Gw3 HB hg GE154.out GE155.out GE156.out; have n8_ := Gw3 HB hg GE154.out GE155.out GE156.out; have n9_ := Nl0 BK154 hg; have n10_ := Nr0 BK154 hg; have n11_ := Nl0 BK155 hg; have n12_ := Nr0 BK155 hg; have n13_ := Nl0 BK156 hg; have n14_ := Nr0 BK156 hg; clear HO159; clear HO162; clear BK154; clear BK155; clear BK156; clear HB; have HO159 := n0_; have HO162 := n1_; have BK154 := n2_; have BK155 := n3_; have BK156 := n4_; have HB := n5_; have BK167 := n6_; have GW167 := n7_; have GE167 := n8_; have NB154_167 := n9_; have NB167_154 := n10_; have NB155_167 := n11_; have NB167_155 := n12_; have NB156_167 := n13_; have NB167_156 := n14_; clear n0_ n1_ n2_ n3_ n4_ n5_ n6_ n7_ n8_ n9_ n10_ n11_ n12_ n13_ n14_; clear hb hbox hg; have hnb45 := NB167_154.out; have hnc45 := NB154_167.out; have hnb46 := NB167_155.out; have hnc46 := NB155_167.out; have hnb47 := NB167_156.out; have hnc47 := NB156_167.out; obtain ⟨hcz48_0, hcz48_1, hfz48_0, hfz48_1⟩ := cl2 BK167; obtain ⟨hcz49_0, hcz49_1, hfz49_0, hfz49_1⟩ := cl2 BK154; obtain ⟨hcz50_0, hcz50_1, hfz50_0, hfz50_1⟩ := cl2 BK156) | ((with_reducible refine gate_callee (f := 16) rfl ?_); refine goesL_ (some 45) rfl rfl Try.func16 (by kernel_rfl) rfl #[.agg #[.int .i64 0, .int .i64 9], .slice Ao42 t160.length co42, .agg #[.int .u8 1, .int .i64 2]] rfl gS ?_; (with_reducible refine (line_When.calls k 0 9 _ _ t160 1 2 t168 t171 _ ?side1 ?side2 A3.out).mono ?_); (case side1 => refine (Kd.R_reads' (e := 52) (base := w.heap.size) (ok := fun k_ => True) (n := t160.length) (c := co42) ?_).2.2; exact (by (with_reducible repeat (first | apply Kd.R_alloc | apply Kd.R_drewN | apply Kd.R_drew)); exact (Kd.R_mono (Kd.R_far (p := ⟨gb167, 1, none⟩) (Kd.R_far (p := ⟨gb167, 0, none⟩) (Kd.R_types HO162.out BK167.out (by decide)) (fun _ hk => hk.2) (.int .u8 t164)) (fun _ hk => hk.2) (.int .i64 t165)) (fun _ h_ => h_.1)))); (case side2 => exact (Kd.R_reads' HO162.out).2.1); rintro e w51 ⟨v169, rfl, ho0, hb⟩; refine ⟨_, rfl, ?_⟩; have n0_ := Ax (Kd.R_below (by (with_reducible repeat (first | apply Kd.R_alloc | apply Kd.R_drewN | apply Kd.R_drew)); exact (Kd.R_mono (Kd.R_far (p := ⟨gb167, 1, none⟩) (Kd.R_far (p := ⟨gb167, 0, none⟩) (Kd.R_types HO159.out BK167.out (by decide)) (fun _ hk => hk.2) (.int .u8 t164)) (fun _ hk => hk.2) (.int .i64 t165)) (fun _ h_ => h_.1))) hb); have n1_ := Ax (Kd.R_below (by (with_reducible repeat (first | apply Kd.R_alloc | apply Kd.R_drewN | apply Kd.R_drew)); exact (Kd.R_mono (Kd.R_far (p := ⟨gb167, 1, none⟩) (Kd.R_far (p := ⟨gb167, 0, none⟩) (Kd.R_types HO162.out BK167.out (by decide)) (fun _ hk => hk.2) (.int .u8 t164)) (fun _ hk => hk.2) (.int .i64 t165)) (fun _ h_ => h_.1))) hb); have n2_ := Ax (Kd.R_lower (Kd.R_newB ho0 (g := gb154) (o := .cells #[.int .i64 0, .int .i64 9] 23 (0, 0)) (bf2 BK154.out NB154_167.out NB154_167.out)) (below_size (bw4 HB.out GE154.out GE155.out GE156.out GE167.out))); have n3_ := Bx2 BK154 hb NB154_167.out NB154_167.out; have n4_ := Bx2 BK155 hb NB155_167.out NB155_167.out; have n5_ := Bx2 BK156 hb NB156_167.out NB156_167.out; have n6_ := Ax (blk_below (g := gb167) (o := .cells #[.int .u8 t164, .int .i64 t165] 35 (0, 0)) (by (with_reducible repeat (first | refine blk_drewN ?_ _ | refine blk_drew ?_ | refine blk_alloc ?_ _)); refine blk_put (cs := #[.int .u8 t164, .int .i64 0]) ?_ 1 _ rfl; (with_reducible repeat (first | refine blk_drewN ?_ _ | refine blk_drew ?_ | refine blk_alloc ?_ _)); refine blk_put (cs := #[.int .u8 0, .int .i64 0]) ?_ 0 _ rfl; (with_reducible repeat (first | refine blk_drewN ?_ _ | refine blk_drew ?_ | refine blk_alloc ?_ _)); exact BK167.out) hb); have n7_ := Bs4 HB hb GE154.out GE155.out GE156.out GE167.out; clear HO159; clear HO162; clear BK154; clear BK155; clear BK156; clear BK167; clear HB; have HO159 := n0_; have HO162 := n1_; have HO170 := n2_; have BK154 := n3_; have BK155 := n4_; have BK156 := n5_; have BK167 := n6_; have HB := n7_; clear n0_ n1_ n2_ n3_ n4_ n5_ n6_ n7_; (try clear hb); (try clear ho0); obtain ⟨hcz52_0, hcz52_1, hfz52_0, hfz52_1⟩ := cl2 BK154) | ((with_reducible refine gate_callee (f := 18) rfl ?_); refine goesL_ (some 52) rfl rfl Try.func18 (by kernel_rfl) rfl #[.agg #[.int .i64 0, .int .i64 9], .slice Ao42 t160.length co42, .agg #[.int .i64 4, .int .i64 5]] rfl gS ?_; (with_reducible refine (line_Cut.calls k 0 9 _ _ t160 4 5 t172 t175 _ ?side1 ?side2 A4.out).mono ?_); (case side1 => repeat (first | exact (Kd.R_reads' HO162.out).2.2 | (with_reducible refine Kd.C_alloc ?_ _) | (with_reducible refine Kd.C_drewN ?_ _) | (with_reducible refine Kd.C_drew ?_))); (case side2 => exact (Kd.R_reads' HO162.out).2.1); rintro e w53 ⟨v173, rfl, ho0, hb⟩; refine ⟨_, rfl, ?_⟩; have n0_ := Ax (Kd.R_below (by (with_reducible repeat (first | apply Kd.R_alloc | apply Kd.R_drewN | apply Kd.R_drew)); exact HO159.out) hb); have n1_ := Ax (Kd.R_elder' (by (with_reducible repeat (first | apply Kd.R_alloc | apply Kd.R_drewN | apply Kd.R_drew)); exact HO162.out) (Kd.R_base ho0) hb); have n2_ := Ax (Kd.R_below (by (with_reducible repeat (first | apply Kd.R_alloc | apply Kd.R_drewN | apply Kd.R_drew)); exact HO170.out) hb); have n3_ := Ax (Kd.R_lower (Kd.R_new' ho0 (Kd.R_lt (by (with_reducible repeat (first | apply Kd.R_alloc | apply Kd.R_drewN | apply Kd.R_drew)); exact HO162.out))) (below_size (bw4 HB.out GE154.out GE155.out GE156.out GE167.out))); have n4_ := Bx0 BK154 hb; have n5_ := Bx0 BK155 hb; have n6_ := Bx0 BK156 hb; have n7_ := Bx0 BK167 hb; have n8_ := Bs4 HB hb GE154.out GE155.out GE156.out GE167.out; clear HO159; clear HO162; clear HO170; clear BK154; clear BK155; clear BK156; clear BK167; clear HB; have HO159 := n0_; have HO162 := n1_; have HO170 := n2_; have HO174 := n3_; have BK154 := n4_; have BK155 := n5_; have BK156 := n6_; have BK167 := n7_; have HB := n8_; clear n0_ n1_ n2_ n3_ n4_ n5_ n6_ n7_ n8_; (try clear hb); (try clear ho0); obtain ⟨hcz54_0, hcz54_1, hfz54_0, hfz54_1⟩ := cl2 BK154; obtain ⟨hcz55_0, hcz55_1, hfz55_0, hfz55_1⟩ := cl2 BK155) | ((with_reducible refine gate_dst (N := 59) rfl ?_); refine R_litg k46 _ 46 ?hg (N := 59) ?hd (xs := ([(⟨0, (⟨3, 1⟩ : S35)⟩ : S46)] : List (S46))) (inner := [.int .i64 0, .int .u8 3, .int .i64 1]) (ok := fun _ => True) (okp := fun _ => True) ?hr ?hp (fun _ hk => hk) trivial (Below.refl _ _) (Nat.le_refl _) (by simp) ?_; (case hd => rfl); (case hg => first | exact Or.inl rfl | exact Or.inr rfl); (case hr => first | (go_simp; done) | (go_simp; rfl)); (case hp => exact (Reps.c3 (show Kd.M k46 _ _ _ (⟨0, (⟨3, 1⟩ : S35)⟩ : S46) [.int .i64 0, .int .u8 3, .int .i64 1] from (k46_mkM _ _ _ (⟨0, (⟨3, 1⟩ : S35)⟩ : S46) )) (Reps.none _ _))); intro v177 w56 ho57 hb hg_ hnew_; clear hg_ hnew_; (first | rw [← Ny176.out] at ho57 | (simp only [Int.reduceToNat] at ho57; rw [← Ny176.out] at ho57)); have n0_ := Ax (Kd.R_elder' (by (with_reducible repeat (first | apply Kd.R_alloc | apply Kd.R_drewN | apply Kd.R_drew)); exact HO159.out) (Kd.R_base ho57) hb); have n1_ := Ax (Kd.R_below (by (with_reducible repeat (first | apply Kd.R_alloc | apply Kd.R_drewN | apply Kd.R_drew)); exact HO162.out) hb); have n2_ := Ax (Kd.R_below (by (with_reducible repeat (first | apply Kd.R_alloc | apply Kd.R_drewN | apply Kd.R_drew)); exact HO170.out) hb); have n3_ := Ax (Kd.R_below (by (with_reducible repeat (first | apply Kd.R_alloc | apply Kd.R_drewN | apply Kd.R_drew)); exact HO174.out) hb); have n4_ := Ax (Kd.R_lower (Kd.R_new' ho57 (Kd.R_lt (by (with_reducible repeat (first | apply Kd.R_alloc | apply Kd.R_drewN | apply Kd.R_drew)); exact HO159.out))) (below_size (bw4 HB.out GE154.out GE155.out GE156.out GE167.out))); have n5_ := Bx0 BK154 hb; have n6_ := Bx0 BK155 hb; have n7_ := Bx0 BK156 hb; have n8_ := Bx0 BK167 hb; have n9_ := Bs4 HB hb GE154.out GE155.out GE156.out GE167.out; clear HO159; clear HO162; clear HO170; clear HO174; clear BK154; clear BK155; clear BK156; clear BK167; clear HB; have HO159 := n0_; have HO162 := n1_; have HO170 := n2_; have HO174 := n3_; have HO178 := n4_; have BK154 := n5_; have BK155 := n6_; have BK156 := n7_; have BK167 := n8_; have HB := n9_; clear n0_ n1_ n2_ n3_ n4_ n5_ n6_ n7_ n8_ n9_; clear hb ho57; obtain ⟨Ao58, co58, eo58⟩ := Kd.R_slice HO178.out; subst eo58) | ((with_reducible refine gate_callee (f := 8) rfl ?_); refine goesL_ (some 60) rfl rfl Try.func8 (by kernel_rfl) rfl #[.agg #[.int .i64 0, .int .i64 9], .slice Ao58 y176.length co58] rfl gS ?_; (with_reducible refine (line_Make.calls k 0 9 _ _ y176 t179 t182 _ ?side1 ?side2 A5.out).mono ?_); (case side1 => repeat (first | exact (Kd.R_reads' HO178.out).2.2 | (with_reducible refine Kd.C_alloc ?_ _) | (with_reducible refine Kd.C_drewN ?_ _) | (with_reducible refine Kd.C_drew ?_))); (case side2 => exact (Kd.R_reads' HO178.out).2.1); rintro e w59 ⟨v180, rfl, ho0, hb⟩; refine ⟨_, rfl, ?_⟩; have n0_ := Ax (Kd.R_below (by (with_reducible repeat (first | apply Kd.R_alloc | apply Kd.R_drewN | apply Kd.R_drew)); exact HO159.out) hb); have n1_ := Ax (Kd.R_elder' (by (with_reducible repeat (first | apply Kd.R_alloc | apply Kd.R_drewN | apply Kd.R_drew)); exact HO162.out) (Kd.R_base ho0) hb); have n2_ := Ax (Kd.R_below (by (with_reducible repeat (first | apply Kd.R_alloc | apply Kd.R_drewN | apply Kd.R_drew)); exact HO170.out) hb); have n3_ := Ax (Kd.R_elder' (by (with_reducible repeat (first | apply Kd.R_alloc | apply Kd.R_drewN | apply Kd.R_drew)); exact HO174.out) (Kd.R_base ho0) hb); have n4_ := Ax (Kd.R_below (by (with_reducible repeat (first | apply Kd.R_alloc | apply Kd.R_drewN | apply Kd.R_drew)); exact HO178.out) hb); have n5_ := Ax (Kd.R_lower (Kd.R_new' (Kd.R_new' ho0 (Kd.R_lt (by (with_reducible repeat (first | apply Kd.R_alloc | apply Kd.R_drewN | apply Kd.R_drew)); exact HO162.out))) (Kd.R_lt (by (with_reducible repeat (first | apply Kd.R_alloc | apply Kd.R_drewN | apply Kd.R_drew)); exact HO174.out))) (below_size (bw4 HB.out GE154.out GE155.out GE156.out GE167.out))); have n6_ := Bx0 BK154 hb; have n7_ := Bx0 BK155 hb; have n8_ := Bx0 BK156 hb; have n9_ := Bx0 BK167 hb; have n10_ := Bs4 HB hb GE154.out GE155.out GE156.out GE167.out; clear HO159; clear HO162; clear HO170; clear HO174; clear HO178; clear BK154; clear BK155; clear BK156; clear BK167; clear HB; have HO159 := n0_; have HO162 := n1_; have HO170 := n2_; have HO174 := n3_; have HO178 := n4_; have HO181 := n5_; have BK154 := n6_; have BK155 := n7_; have BK156 := n8_; have BK167 := n9_; have HB := n10_; clear n0_ n1_ n2_ n3_ n4_ n5_ n6_ n7_ n8_ n9_ n10_; (try clear hb); (try clear ho0); obtain ⟨hcz60_0, hcz60_1, hfz60_0, hfz60_1⟩ := cl2 BK154; obtain ⟨Ao61, co61, eo61⟩ := Kd.R_slice HO181.out; subst eo61) | ((with_reducible refine gate_callee (f := 20) rfl ?_); refine goesL_ (some 67) rfl rfl Try.func20 (by kernel_rfl) rfl #[.agg #[.int .i64 0, .int .i64 9], .slice Ao42 t160.length co42, .slice Ao61 t179.length co61] rfl gS ?_; (with_reducible refine (line_Differ.calls k 0 9 _ _ t160 _ _ t179 t183 t186 _ ?side1 ?side2 ?side3 ?side4 A6.out).mono ?_); (case side1 => repeat (first | exact (Kd.R_reads' HO162.out).2.2 | (with_reducible refine Kd.C_alloc ?_ _) | (with_reducible refine Kd.C_drewN ?_ _) | (with_reducible refine Kd.C_drew ?_))); (case side2 => exact (Kd.R_reads' HO162.out).2.1); (case side3 => repeat (first | exact (Kd.R_reads' HO181.out).2.2 | (with_reducible refine Kd.C_alloc ?_ _) | (with_reducible refine Kd.C_drewN ?_ _) | (with_reducible refine Kd.C_drew ?_))); (case side4 => exact (Kd.R_reads' HO181.out).2.1); rintro e w62 ⟨v184, rfl, ho0, hb⟩; refine ⟨_, rfl, ?_⟩; have n0_ := Ax (Kd.R_below (by (with_reducible repeat (first | apply Kd.R_alloc | apply Kd.R_drewN | apply Kd.R_drew)); exact HO159.out) hb); have n1_ := Ax (Kd.R_below (by (with_reducible repeat (first | apply Kd.R_alloc | apply Kd.R_drewN | apply Kd.R_drew)); exact HO162.out) hb); have n2_ := Ax (Kd.R_elder' (by (with_reducible repeat (first | apply Kd.R_alloc | apply Kd.R_drewN | apply Kd.R_drew)); exact HO170.out) (Kd.R_base ho0) hb); have n3_ := Ax (Kd.R_below (by (with_reducible repeat (first | apply Kd.R_alloc | apply Kd.R_drewN | apply Kd.R_drew)); exact HO174.out) hb); have n4_ := Ax (Kd.R_below (by (with_reducible repeat (first | apply Kd.R_alloc | apply Kd.R_drewN | apply Kd.R_drew)); exact HO178.out) hb); have n5_ := Ax (Kd.R_below (by (with_reducible repeat (first | apply Kd.R_alloc | apply Kd.R_drewN | apply Kd.R_drew)); exact HO181.out) hb); have n6_ := Ax (Kd.R_lower (Kd.R_newB (Kd.R_new' ho0 (Kd.R_lt (by (with_reducible repeat (first | apply Kd.R_alloc | apply Kd.R_drewN | apply Kd.R_drew)); exact HO170.out))) (g := gb154) (o := .cells #[.int .i64 0, .int .i64 9] 23 (0, 0)) (bf0 BK154.out)) (below_size (bw4 HB.out GE154.out GE155.out GE156.out GE167.out))); have n7_ := Bx0 BK154 hb; have n8_ := Bx0 BK155 hb; have n9_ := Bx0 BK156 hb; have n10_ := Bx0 BK167 hb; have n11_ := Bs4 HB hb GE154.out GE155.out GE156.out GE167.out; clear HO159; clear HO162; clear HO170; clear HO174; clear HO178; clear HO181; clear BK154; clear BK155; clear BK156; clear BK167; clear HB; have HO159 := n0_; have HO162 := n1_; have HO170 := n2_; have HO174 := n3_; have HO178 := n4_; have HO181 := n5_; have HO185 := n6_; have BK154 := n7_; have BK155 := n8_; have BK156 := n9_; have BK167 := n10_; have HB := n11_; clear n0_ n1_ n2_ n3_ n4_ n5_ n6_ n7_ n8_ n9_ n10_ n11_; (try clear hb); (try clear ho0); obtain ⟨hcz63_0, hcz63_1, hfz63_0, hfz63_1⟩ := cl2 BK154) | ((with_reducible refine gate_callee (f := 14) rfl ?_); refine goesL_ (some 73) rfl rfl Try.func14 (by kernel_rfl) rfl #[.agg #[.int .i64 0, .int .i64 9], .slice Ao42 t160.length co42, .int .i64 10] rfl gS ?_; (with_reducible refine (line_At.calls k 0 9 _ _ t160 10 t187 t188 t189 _ ?side1 ?side2 A7.out).mono ?_); (case side1 => repeat (first | exact (Kd.R_reads' HO162.out).2.2 | (with_reducible refine Kd.C_alloc ?_ _) | (with_reducible refine Kd.C_drewN ?_ _) | (with_reducible refine Kd.C_drew ?_))); (case side2 => exact (Kd.R_reads' HO162.out).2.1); rintro e w64 ⟨rfl, hb⟩; refine ⟨_, rfl, ?_⟩; have n0_ := Ax (Kd.R_below (by (with_reducible repeat (first | apply Kd.R_alloc | apply Kd.R_drewN | apply Kd.R_drew)); exact HO159.out) hb); have n1_ := Ax (Kd.R_below (by (with_reducible repeat (first | apply Kd.R_alloc | apply Kd.R_drewN | apply Kd.R_drew)); exact HO162.out) hb); have n2_ := Ax (Kd.R_below (by (with_reducible repeat (first | apply Kd.R_alloc | apply Kd.R_drewN | apply Kd.R_drew)); exact HO170.out) hb); have n3_ := Ax (Kd.R_below (by (with_reducible repeat (first | apply Kd.R_alloc | apply Kd.R_drewN | apply Kd.R_drew)); exact HO174.out) hb); have n4_ := Ax (Kd.R_below (by (with_reducible repeat (first | apply Kd.R_alloc | apply Kd.R_drewN | apply Kd.R_drew)); exact HO178.out) hb); have n5_ := Ax (Kd.R_below (by (with_reducible repeat (first | apply Kd.R_alloc | apply Kd.R_drewN | apply Kd.R_drew)); exact HO181.out) hb); have n6_ := Ax (Kd.R_below (by (with_reducible repeat (first | apply Kd.R_alloc | apply Kd.R_drewN | apply Kd.R_drew)); exact HO185.out) hb); have n7_ := Bx0 BK154 hb; have n8_ := Bx0 BK155 hb; have n9_ := Bx0 BK156 hb; have n10_ := Bx0 BK167 hb; have n11_ := Bs4 HB hb GE154.out GE155.out GE156.out GE167.out; clear HO159; clear HO162; clear HO170; clear HO174; clear HO178; clear HO181; clear HO185; clear BK154; clear BK155; clear BK156; clear BK167; clear HB; have HO159 := n0_; have HO162 := n1_; have HO170 := n2_; have HO174 := n3_; have HO178 := n4_; have HO181 := n5_; have HO185 := n6_; have BK154 := n7_; have BK155 := n8_; have BK156 := n9_; have BK167 := n10_; have HB := n11_; clear n0_ n1_ n2_ n3_ n4_ n5_ n6_ n7_ n8_ n9_ n10_ n11_; (try clear hb)) | ((with_reducible refine gate_dst (N := 16) rfl ?_); refine box_event ?hg (N := 16) ?hd (cs := #[.int .u8 0, .int .i64 0]) (t := 35) ?hr ?_; (case hd => rfl); (case hg => rfl); (case hr => first | (go_simp; done) | (go_simp; rfl)); intro gb190 hg w65 hbox hb; have n0_ := Ax (Kd.R_below (by (with_reducible repeat (first | apply Kd.R_alloc | apply Kd.R_drewN | apply Kd.R_drew)); exact HO159.out) hb); have n1_ := Ax (Kd.R_below (by (with_reducible repeat (first | apply Kd.R_alloc | apply Kd.R_drewN | apply Kd.R_drew)); exact HO162.out) hb); have n2_ := Ax (Kd.R_below (by (with_reducible repeat (first | apply Kd.R_alloc | apply Kd.R_drewN | apply Kd.R_drew)); exact HO170.out) hb); have n3_ := Ax (Kd.R_below (by (with_reducible repeat (first | apply Kd.R_alloc | apply Kd.R_drewN | apply Kd.R_drew)); exact HO174.out) hb); have n4_ := Ax (Kd.R_below (by (with_reducible repeat (first | apply Kd.R_alloc | apply Kd.R_drewN | apply Kd.R_drew)); exact HO178.out) hb); have n5_ := Ax (Kd.R_below (by (with_reducible repeat (first | apply Kd.R_alloc | apply Kd.R_drewN | apply Kd.R_drew)); exact HO181.out) hb); have n6_ := Ax (Kd.R_below (by (with_reducible repeat (first | apply Kd.R_alloc | apply Kd.R_drewN | apply Kd.R_drew)); exact HO185.out) hb); have n7_ := Bx0 BK154 hb; have n8_ := Bx0 BK155 hb; have n9_ := Bx0 BK156 hb; have n10_ := Bx0 BK167 hb; have n11_ := Bs4 HB hb GE154.out GE155.out GE156.out GE167.out; have n12_ := Ax (hbox); have n13_ := Gw4 HB hg GE154.out GE155.out GE156.out GE167.out; have n14_ := Gw4 HB hg GE154.out GE155.out GE156.out GE167.out; have n15_ := Nl0 BK154 hg; have n16_ := Nr0 BK154 hg; have n17_ := Nl0 BK155 hg; have n18_ := Nr0 BK155 hg; have n19_ := Nl0 BK156 hg; have n20_ := Nr0 BK156 hg; have n21_ := Nl0 BK167 hg; have n22_ := Nr0 BK167 hg; clear HO159; clear HO162; clear HO170; clear HO174; clear HO178; clear HO181; clear HO185; clear BK154; clear BK155; clear BK156; clear BK167; clear HB; have HO159 := n0_; have HO162 := n1_; have HO170 := n2_; have HO174 := n3_; have HO178 := n4_; have HO181 := n5_; have HO185 := n6_; have BK154 := n7_; have BK155 := n8_; have BK156 := n9_; have BK167 := n10_; have HB := n11_; have BK190 := n12_; have GW190 := n13_; have GE190 := n14_; have NB154_190 := n15_; have NB190_154 := n16_; have NB155_190 := n17_; have NB190_155 := n18_; have NB156_190 := n19_; have NB190_156 := n20_; have NB167_190 := n21_; have NB190_167 := n22_; clear n0_ n1_ n2_ n3_ n4_ n5_ n6_ n7_ n8_ n9_ n10_ n11_ n12_ n13_ n14_ n15_ n16_ n17_ n18_ n19_ n20_ n21_ n22_; clear hb hbox hg; have hnb66 := NB190_154.out; have hnc66 := NB154_190.out; have hnb67 := NB190_155.out; have hnc67 := NB155_190.out; have hnb68 := NB190_156.out; have hnc68 := NB156_190.out; have hnb69 := NB190_167.out; have hnc69 := NB167_190.out; obtain ⟨hcz70_0, hcz70_1, hfz70_0, hfz70_1⟩ := cl2 BK190; obtain ⟨hcz71_0, hcz71_1, hfz71_0, hfz71_1⟩ := cl2 BK154; obtain ⟨hcz72_0, hcz72_1, hfz72_0, hfz72_1⟩ := cl2 BK155) | ((with_reducible refine gate_dst (N := 80) rfl ?_); refine R_litg k46 _ 46 ?hg (N := 80) ?hd (xs := ([(⟨1, (⟨3, 1⟩ : S35)⟩ : S46)] : List (S46))) (inner := [.int .i64 1, .int .u8 3, .int .i64 1]) (ok := fun _ => True) (okp := fun _ => True) ?hr ?hp (fun _ hk => hk) trivial (Below.refl _ _) (Nat.le_refl _) (by simp) ?_; (case hd => rfl); (case hg => first | exact Or.inl rfl | exact Or.inr rfl); (case hr => first | (go_simp; done) | (go_simp; rfl)); (case hp => exact (Reps.c3 (show Kd.M k46 _ _ _ (⟨1, (⟨3, 1⟩ : S35)⟩ : S46) [.int .i64 1, .int .u8 3, .int .i64 1] from (k46_mkM _ _ _ (⟨1, (⟨3, 1⟩ : S35)⟩ : S46) )) (Reps.none _ _))); intro v192 w73 ho74 hb hg_ hnew_; clear hg_ hnew_; (first | rw [← Ny191.out] at ho74 | (simp only [Int.reduceToNat] at ho74; rw [← Ny191.out] at ho74)); have n0_ := Ax (Kd.R_elder' (by (with_reducible repeat (first | apply Kd.R_alloc | apply Kd.R_drewN | apply Kd.R_drew)); exact (Kd.R_mono (Kd.R_far (p := ⟨gb190, 1, none⟩) (Kd.R_far (p := ⟨gb190, 0, none⟩) (Kd.R_types HO159.out BK190.out (by decide)) (fun _ hk => hk.2) (.int .u8 t187)) (fun _ hk => hk.2) (.int .i64 t188)) (fun _ h_ => h_.1))) (Kd.R_base ho74) hb); have n1_ := Ax (Kd.R_below (by (with_reducible repeat (first | apply Kd.R_alloc | apply Kd.R_drewN | apply Kd.R_drew)); exact (Kd.R_mono (Kd.R_far (p := ⟨gb190, 1, none⟩) (Kd.R_far (p := ⟨gb190, 0, none⟩) (Kd.R_types HO162.out BK190.out (by decide)) (fun _ hk => hk.2) (.int .u8 t187)) (fun _ hk => hk.2) (.int .i64 t188)) (fun _ h_ => h_.1))) hb); have n2_ := Ax (Kd.R_below (by (with_reducible repeat (first | apply Kd.R_alloc | apply Kd.R_drewN | apply Kd.R_drew)); exact (Kd.R_mono (Kd.R_far (p := ⟨gb190, 1, none⟩) (Kd.R_far (p := ⟨gb190, 0, none⟩) (Kd.R_types HO170.out BK190.out (by decide)) (fun _ hk => hk.2) (.int .u8 t187)) (fun _ hk => hk.2) (.int .i64 t188)) (fun _ h_ => h_.1))) hb); have n3_ := Ax (Kd.R_below (by (with_reducible repeat (first | apply Kd.R_alloc | apply Kd.R_drewN | apply Kd.R_drew)); exact (Kd.R_mono (Kd.R_far (p := ⟨gb190, 1, none⟩) (Kd.R_far (p := ⟨gb190, 0, none⟩) (Kd.R_types HO174.out BK190.out (by decide)) (fun _ hk => hk.2) (.int .u8 t187)) (fun _ hk => hk.2) (.int .i64 t188)) (fun _ h_ => h_.1))) hb); have n4_ := Ax (Kd.R_elder' (by (with_reducible repeat (first | apply Kd.R_alloc | apply Kd.R_drewN | apply Kd.R_drew)); exact (Kd.R_mono (Kd.R_far (p := ⟨gb190, 1, none⟩) (Kd.R_far (p := ⟨gb190, 0, none⟩) (Kd.R_types HO178.out BK190.out (by decide)) (fun _ hk => hk.2) (.int .u8 t187)) (fun _ hk => hk.2) (.int .i64 t188)) (fun _ h_ => h_.1))) (Kd.R_base ho74) hb); have n5_ := Ax (Kd.R_below (by (with_reducible repeat (first | apply Kd.R_alloc | apply Kd.R_drewN | apply Kd.R_drew)); exact (Kd.R_mono (Kd.R_far (p := ⟨gb190, 1, none⟩) (Kd.R_far (p := ⟨gb190, 0, none⟩) (Kd.R_types HO181.out BK190.out (by decide)) (fun _ hk => hk.2) (.int .u8 t187)) (fun _ hk => hk.2) (.int .i64 t188)) (fun _ h_ => h_.1))) hb); have n6_ := Ax (Kd.R_below (by (with_reducible repeat (first | apply Kd.R_alloc | apply Kd.R_drewN | apply Kd.R_drew)); exact (Kd.R_mono (Kd.R_far (p := ⟨gb190, 1, none⟩) (Kd.R_far (p := ⟨gb190, 0, none⟩) (Kd.R_types HO185.out BK190.out (by decide)) (fun _ hk => hk.2) (.int .u8 t187)) (fun _ hk => hk.2) (.int .i64 t188)) (fun _ h_ => h_.1))) hb); have n7_ := Ax (Kd.R_lower (Kd.R_new' (Kd.R_new' ho74 (Kd.R_lt (by (with_reducible repeat (first | apply Kd.R_alloc | apply Kd.R_drewN | apply Kd.R_drew)); exact (Kd.R_mono (Kd.R_far (p := ⟨gb190, 1, none⟩) (Kd.R_far (p := ⟨gb190, 0, none⟩) (Kd.R_types HO159.out BK190.out (by decide)) (fun _ hk => hk.2) (.int .u8 t187)) (fun _ hk => hk.2) (.int .i64 t188)) (fun _ h_ => h_.1))))) (Kd.R_lt (by (with_reducible repeat (first | apply Kd.R_alloc | apply Kd.R_drewN | apply Kd.R_drew)); exact (Kd.R_mono (Kd.R_far (p := ⟨gb190, 1, none⟩) (Kd.R_far (p := ⟨gb190, 0, none⟩) (Kd.R_types HO178.out BK190.out (by decide)) (fun _ hk => hk.2) (.int .u8 t187)) (fun _ hk => hk.2) (.int .i64 t188)) (fun _ h_ => h_.1))))) (below_size (bw5 HB.out GE154.out GE155.out GE156.out GE167.out GE190.out))); have n8_ := Bx2 BK154 hb NB154_190.out NB154_190.out; have n9_ := Bx2 BK155 hb NB155_190.out NB155_190.out; have n10_ := Bx2 BK156 hb NB156_190.out NB156_190.out; have n11_ := Bx2 BK167 hb NB167_190.out NB167_190.out; have n12_ := Ax (blk_below (g := gb190) (o := .cells #[.int .u8 t187, .int .i64 t188] 35 (0, 0)) (by (with_reducible repeat (first | refine blk_drewN ?_ _ | refine blk_drew ?_ | refine blk_alloc ?_ _)); refine blk_put (cs := #[.int .u8 t187, .int .i64 0]) ?_ 1 _ rfl; (with_reducible repeat (first | refine blk_drewN ?_ _ | refine blk_drew ?_ | refine blk_alloc ?_ _)); refine blk_put (cs := #[.int .u8 0, .int .i64 0]) ?_ 0 _ rfl; (with_reducible repeat (first | refine blk_drewN ?_ _ | refine blk_drew ?_ | refine blk_alloc ?_ _)); exact BK190.out) hb); have n13_ := Bs5 HB hb GE154.out GE155.out GE156.out GE167.out GE190.out; clear HO159; clear HO162; clear HO170; clear HO174; clear HO178; clear HO181; clear HO185; clear BK154; clear BK155; clear BK156; clear BK167; clear BK190; clear HB; have HO159 := n0_; have HO162 := n1_; have HO170 := n2_; have HO174 := n3_; have HO178 := n4_; have HO181 := n5_; have HO185 := n6_; have HO193 := n7_; have BK154 := n8_; have BK155 := n9_; have BK156 := n10_; have BK167 := n11_; have BK190 := n12_; have HB := n13_; clear n0_ n1_ n2_ n3_ n4_ n5_ n6_ n7_ n8_ n9_ n10_ n11_ n12_ n13_; clear hb ho74; obtain ⟨Ao75, co75, eo75⟩ := Kd.R_slice HO193.out; subst eo75) | ((with_reducible refine gate_callee (f := 8) rfl ?_); refine goesL_ (some 81) rfl rfl Try.func8 (by kernel_rfl) rfl #[.agg #[.int .i64 0, .int .i64 9], .slice Ao75 y191.length co75] rfl gS ?_; (with_reducible refine (line_Make.calls k 0 9 _ _ y191 t194 t197 _ ?side1 ?side2 A8.out).mono ?_); (case side1 => repeat (first | exact (Kd.R_reads' HO193.out).2.2 | (with_reducible refine Kd.C_alloc ?_ _) | (with_reducible refine Kd.C_drewN ?_ _) | (with_reducible refine Kd.C_drew ?_))); (case side2 => exact (Kd.R_reads' HO193.out).2.1); rintro e w76 ⟨v195, rfl, ho0, hb⟩; refine ⟨_, rfl, ?_⟩; have n0_ := Ax (Kd.R_below (by (with_reducible repeat (first | apply Kd.R_alloc | apply Kd.R_drewN | apply Kd.R_drew)); exact HO159.out) hb); have n1_ := Ax (Kd.R_elder' (by (with_reducible repeat (first | apply Kd.R_alloc | apply Kd.R_drewN | apply Kd.R_drew)); exact HO162.out) (Kd.R_base ho0) hb); have n2_ := Ax (Kd.R_below (by (with_reducible repeat (first | apply Kd.R_alloc | apply Kd.R_drewN | apply Kd.R_drew)); exact HO170.out) hb); have n3_ := Ax (Kd.R_elder' (by (with_reducible repeat (first | apply Kd.R_alloc | apply Kd.R_drewN | apply Kd.R_drew)); exact HO174.out) (Kd.R_base ho0) hb); have n4_ := Ax (Kd.R_below (by (with_reducible repeat (first | apply Kd.R_alloc | apply Kd.R_drewN | apply Kd.R_drew)); exact HO178.out) hb); have n5_ := Ax (Kd.R_elder' (by (with_reducible repeat (first | apply Kd.R_alloc | apply Kd.R_drewN | apply Kd.R_drew)); exact HO181.out) (Kd.R_base ho0) hb); have n6_ := Ax (Kd.R_below (by (with_reducible repeat (first | apply Kd.R_alloc | apply Kd.R_drewN | apply Kd.R_drew)); exact HO185.out) hb); have n7_ := Ax (Kd.R_below (by (with_reducible repeat (first | apply Kd.R_alloc | apply Kd.R_drewN | apply Kd.R_drew)); exact HO193.out) hb); have n8_ := Ax (Kd.R_lower (Kd.R_new' (Kd.R_new' (Kd.R_new' ho0 (Kd.R_lt (by (with_reducible repeat (first | apply Kd.R_alloc | apply Kd.R_drewN | apply Kd.R_drew)); exact HO162.out))) (Kd.R_lt (by (with_reducible repeat (first | apply Kd.R_alloc | apply Kd.R_drewN | apply Kd.R_drew)); exact HO174.out))) (Kd.R_lt (by (with_reducible repeat (first | apply Kd.R_alloc | apply Kd.R_drewN | apply Kd.R_drew)); exact HO181.out))) (below_size (bw5 HB.out GE154.out GE155.out GE156.out GE167.out GE190.out))); have n9_ := Bx0 BK154 hb; have n10_ := Bx0 BK155 hb; have n11_ := Bx0 BK156 hb; have n12_ := Bx0 BK167 hb; have n13_ := Bx0 BK190 hb; have n14_ := Bs5 HB hb GE154.out GE155.out GE156.out GE167.out GE190.out; clear HO159; clear HO162; clear HO170; clear HO174; clear HO178; clear HO181; clear HO185; clear HO193; clear BK154; clear BK155; clear BK156; clear BK167; clear BK190; clear HB; have HO159 := n0_; have HO162 := n1_; have HO170 := n2_; have HO174 := n3_; have HO178 := n4_; have HO181 := n5_; have HO185 := n6_; have HO193 := n7_; have HO196 := n8_; have BK154 := n9_; have BK155 := n10_; have BK156 := n11_; have BK167 := n12_; have BK190 := n13_; have HB := n14_; clear n0_ n1_ n2_ n3_ n4_ n5_ n6_ n7_ n8_ n9_ n10_ n11_ n12_ n13_ n14_; (try clear hb); (try clear ho0); obtain ⟨hcz77_0, hcz77_1, hfz77_0, hfz77_1⟩ := cl2 BK155; obtain ⟨hcz78_0, hcz78_1, hfz78_0, hfz78_1⟩ := cl2 BK156) | ((with_reducible refine gate_dst (N := 91) rfl ?_); refine R_litg k52 _ 52 ?hg (N := 91) ?hd (xs := ([(⟨(⟨0, 4⟩ : S23), (⟨3, 1⟩ : S35)⟩ : S52), (⟨(⟨5, 9⟩ : S23), (⟨1, 2⟩ : S35)⟩ : S52)] : List (S52))) (inner := [.int .i64 0, .int .i64 4, .int .u8 3, .int .i64 1, .int .i64 5, .int .i64 9, .int .u8 1, .int .i64 2]) (ok := fun _ => True) (okp := fun _ => True) ?hr ?hp (fun _ hk => hk) trivial (Below.refl _ _) (Nat.le_refl _) (by simp) ?_; (case hd => rfl); (case hg => first | exact Or.inl rfl | exact Or.inr rfl); (case hr => first | (go_simp; done) | (go_simp; rfl)); (case hp => exact (Reps.c4 (show Kd.M k52 _ _ _ (⟨(⟨0, 4⟩ : S23), (⟨3, 1⟩ : S35)⟩ : S52) [.int .i64 0, .int .i64 4, .int .u8 3, .int .i64 1] from (k52_mkM _ _ _ (⟨(⟨0, 4⟩ : S23), (⟨3, 1⟩ : S35)⟩ : S52) )) (Reps.c4 (show Kd.M k52 _ _ _ (⟨(⟨5, 9⟩ : S23), (⟨1, 2⟩ : S35)⟩ : S52) [.int .i64 5, .int .i64 9, .int .u8 1, .int .i64 2] from (k52_mkM _ _ _ (⟨(⟨5, 9⟩ : S23), (⟨1, 2⟩ : S35)⟩ : S52) )) (Reps.none _ _)))); intro v199 w79 ho80 hb hg_ hnew_; clear hg_ hnew_; (first | rw [← Ny198.out] at ho80 | (simp only [Int.reduceToNat] at ho80; rw [← Ny198.out] at ho80)); have n0_ := Ax (Kd.R_below (by (with_reducible repeat (first | apply Kd.R_alloc | apply Kd.R_drewN | apply Kd.R_drew)); exact HO159.out) hb); have n1_ := Ax (Kd.R_elder' (by (with_reducible repeat (first | apply Kd.R_alloc | apply Kd.R_drewN | apply Kd.R_drew)); exact HO162.out) (Kd.R_base ho80) hb); have n2_ := Ax (Kd.R_below (by (with_reducible repeat (first | apply Kd.R_alloc | apply Kd.R_drewN | apply Kd.R_drew)); exact HO170.out) hb); have n3_ := Ax (Kd.R_elder' (by (with_reducible repeat (first | apply Kd.R_alloc | apply Kd.R_drewN | apply Kd.R_drew)); exact HO174.out) (Kd.R_base ho80) hb); have n4_ := Ax (Kd.R_below (by (with_reducible repeat (first | apply Kd.R_alloc | apply Kd.R_drewN | apply Kd.R_drew)); exact HO178.out) hb); have n5_ := Ax (Kd.R_elder' (by (with_reducible repeat (first | apply Kd.R_alloc | apply Kd.R_drewN | apply Kd.R_drew)); exact HO181.out) (Kd.R_base ho80) hb); have n6_ := Ax (Kd.R_below (by (with_reducible repeat (first | apply Kd.R_alloc | apply Kd.R_drewN | apply Kd.R_drew)); exact HO185.out) hb); have n7_ := Ax (Kd.R_below (by (with_reducible repeat (first | apply Kd.R_alloc | apply Kd.R_drewN | apply Kd.R_drew)); exact HO193.out) hb); have n8_ := Ax (Kd.R_elder' (by (with_reducible repeat (first | apply Kd.R_alloc | apply Kd.R_drewN | apply Kd.R_drew)); exact HO196.out) (Kd.R_base ho80) hb); have n9_ := Ax (Kd.R_lower (Kd.R_new' (Kd.R_new' (Kd.R_new' (Kd.R_new' ho80 (Kd.R_lt (by (with_reducible repeat (first | apply Kd.R_alloc | apply Kd.R_drewN | apply Kd.R_drew)); exact HO162.out))) (Kd.R_lt (by (with_reducible repeat (first | apply Kd.R_alloc | apply Kd.R_drewN | apply Kd.R_drew)); exact HO174.out))) (Kd.R_lt (by (with_reducible repeat (first | apply Kd.R_alloc | apply Kd.R_drewN | apply Kd.R_drew)); exact HO181.out))) (Kd.R_lt (by (with_reducible repeat (first | apply Kd.R_alloc | apply Kd.R_drewN | apply Kd.R_drew)); exact HO196.out))) (below_size (bw5 HB.out GE154.out GE155.out GE156.out GE167.out GE190.out))); have n10_ := Bx0 BK154 hb; have n11_ := Bx0 BK155 hb; have n12_ := Bx0 BK156 hb; have n13_ := Bx0 BK167 hb; have n14_ := Bx0 BK190 hb; have n15_ := Bs5 HB hb GE154.out GE155.out GE156.out GE167.out GE190.out; clear HO159; clear HO162; clear HO170; clear HO174; clear HO178; clear HO181; clear HO185; clear HO193; clear HO196; clear BK154; clear BK155; clear BK156; clear BK167; clear BK190; clear HB; have HO159 := n0_; have HO162 := n1_; have HO170 := n2_; have HO174 := n3_; have HO178 := n4_; have HO181 := n5_; have HO185 := n6_; have HO193 := n7_; have HO196 := n8_; have HO200 := n9_; have BK154 := n10_; have BK155 := n11_; have BK156 := n12_; have BK167 := n13_; have BK190 := n14_; have HB := n15_; clear n0_ n1_ n2_ n3_ n4_ n5_ n6_ n7_ n8_ n9_ n10_ n11_ n12_ n13_ n14_ n15_; clear hb ho80; obtain ⟨Ao81, co81, eo81⟩ := Kd.R_slice HO200.out; subst eo81) | ((with_reducible refine gate_callee (f := 11) rfl ?_); refine goesL_ (some 92) rfl rfl Try.func11 (by kernel_rfl) rfl #[.slice Ao42 t160.length co42, .slice Ao81 y198.length co81] rfl gS ?_; (with_reducible refine (spoorref20_Same.calls k _ _ t160 _ _ y198 true _ ?side1 ?side2 ?side3 ?side4 A9.out).mono ?_); (case side1 => repeat (first | exact (Kd.R_reads' HO162.out).2.2 | (with_reducible refine Kd.C_alloc ?_ _) | (with_reducible refine Kd.C_drewN ?_ _) | (with_reducible refine Kd.C_drew ?_))); (case side2 => exact (Kd.R_reads' HO162.out).2.1); (case side3 => repeat (first | exact (Kd.R_reads' HO200.out).2.2 | (with_reducible refine Kd.C_alloc ?_ _) | (with_reducible refine Kd.C_drewN ?_ _) | (with_reducible refine Kd.C_drew ?_))); (case side4 => exact (Kd.R_reads' HO200.out).2.1); rintro e w' ⟨rfl, ⟨nd, rfl⟩⟩; refine ⟨_, rfl, ?_⟩; obtain ⟨hcz82_0, hcz82_1, hfz82_0, hfz82_1⟩ := cl2 BK167; obtain ⟨hcz83_0, hcz83_1, hfz83_0, hfz83_1⟩ := cl2 BK155) | ((with_reducible refine gate_dst (N := 109) rfl ?_); refine R_litg k23 _ 23 ?hg (N := 109) ?hd (xs := ([(⟨5, 9⟩ : S23)] : List (S23))) (inner := [.int .i64 5, .int .i64 9]) (ok := fun _ => True) (okp := fun _ => True) ?hr ?hp (fun _ hk => hk) trivial (Below.refl _ _) (Nat.le_refl _) (by simp) ?_; (case hd => rfl); (case hg => first | exact Or.inl rfl | exact Or.inr rfl); (case hr => first | (go_simp; done) | (go_simp; rfl)); (case hp => exact (Reps.c2 (show Kd.M k23 _ _ _ (⟨5, 9⟩ : S23) [.int .i64 5, .int .i64 9] from (k23_mkM _ _ _ (⟨5, 9⟩ : S23) )) (Reps.none _ _))); intro v203 w84 ho85 hb hg_ hnew_; clear hg_ hnew_; (first | rw [← Ny202.out] at ho85 | (simp only [Int.reduceToNat] at ho85; rw [← Ny202.out] at ho85)); have n0_ := Ax (Kd.R_below (by (with_reducible repeat (first | apply Kd.R_alloc | apply Kd.R_drewN | apply Kd.R_drew)); exact HO159.out) hb); have n1_ := Ax (Kd.R_below (by (with_reducible repeat (first | apply Kd.R_alloc | apply Kd.R_drewN | apply Kd.R_drew)); exact HO162.out) hb); have n2_ := Ax (Kd.R_elder' (by (with_reducible repeat (first | apply Kd.R_alloc | apply Kd.R_drewN | apply Kd.R_drew)); exact HO170.out) (Kd.R_base ho85) hb); have n3_ := Ax (Kd.R_below (by (with_reducible repeat (first | apply Kd.R_alloc | apply Kd.R_drewN | apply Kd.R_drew)); exact HO174.out) hb); have n4_ := Ax (Kd.R_below (by (with_reducible repeat (first | apply Kd.R_alloc | apply Kd.R_drewN | apply Kd.R_drew)); exact HO178.out) hb); have n5_ := Ax (Kd.R_below (by (with_reducible repeat (first | apply Kd.R_alloc | apply Kd.R_drewN | apply Kd.R_drew)); exact HO181.out) hb); have n6_ := Ax (Kd.R_elder' (by (with_reducible repeat (first | apply Kd.R_alloc | apply Kd.R_drewN | apply Kd.R_drew)); exact HO185.out) (Kd.R_base ho85) hb); have n7_ := Ax (Kd.R_below (by (with_reducible repeat (first | apply Kd.R_alloc | apply Kd.R_drewN | apply Kd.R_drew)); exact HO193.out) hb); have n8_ := Ax (Kd.R_below (by (with_reducible repeat (first | apply Kd.R_alloc | apply Kd.R_drewN | apply Kd.R_drew)); exact HO196.out) hb); have n9_ := Ax (Kd.R_below (by (with_reducible repeat (first | apply Kd.R_alloc | apply Kd.R_drewN | apply Kd.R_drew)); exact HO200.out) hb); have n10_ := Ax (Kd.R_lower (Kd.R_newB (Kd.R_new' (Kd.R_new' ho85 (Kd.R_lt (by (with_reducible repeat (first | apply Kd.R_alloc | apply Kd.R_drewN | apply Kd.R_drew)); exact HO170.out))) (Kd.R_lt (by (with_reducible repeat (first | apply Kd.R_alloc | apply Kd.R_drewN | apply Kd.R_drew)); exact HO185.out))) (g := gb154) (o := .cells #[.int .i64 0, .int .i64 9] 23 (0, 0)) (bf0 BK154.out)) (below_size (bw5 HB.out GE154.out GE155.out GE156.out GE167.out GE190.out))); have n11_ := Bx0 BK154 hb; have n12_ := Bx0 BK155 hb; have n13_ := Bx0 BK156 hb; have n14_ := Bx0 BK167 hb; have n15_ := Bx0 BK190 hb; have n16_ := Bs5 HB hb GE154.out GE155.out GE156.out GE167.out GE190.out; clear HO159; clear HO162; clear HO170; clear HO174; clear HO178; clear HO181; clear HO185; clear HO193; clear HO196; clear HO200; clear BK154; clear BK155; clear BK156; clear BK167; clear BK190; clear HB; have HO159 := n0_; have HO162 := n1_; have HO170 := n2_; have HO174 := n3_; have HO178 := n4_; have HO181 := n5_; have HO185 := n6_; have HO193 := n7_; have HO196 := n8_; have HO200 := n9_; have HO204 := n10_; have BK154 := n11_; have BK155 := n12_; have BK156 := n13_; have BK167 := n14_; have BK190 := n15_; have HB := n16_; clear n0_ n1_ n2_ n3_ n4_ n5_ n6_ n7_ n8_ n9_ n10_ n11_ n12_ n13_ n14_ n15_ n16_; clear hb ho85; obtain ⟨Ao86, co86, eo86⟩ := Kd.R_slice HO170.out; subst eo86; obtain ⟨Ao87, co87, eo87⟩ := Kd.R_slice HO204.out; subst eo87) | (go_at_call 22; (with_reducible refine (spoorref19_Same.calls k _ _ t168 _ _ y202 true _ ?side1 ?side2 ?side3 ?side4 A14.out).mono ?_); (case side1 => repeat (first | exact (Kd.R_reads' HO170.out).2.2 | (with_reducible refine Kd.C_alloc ?_ _) | (with_reducible refine Kd.C_drewN ?_ _) | (with_reducible refine Kd.C_drew ?_))); (case side2 => exact (Kd.R_reads' HO170.out).2.1); (case side3 => repeat (first | exact (Kd.R_reads' HO204.out).2.2 | (with_reducible refine Kd.C_alloc ?_ _) | (with_reducible refine Kd.C_drewN ?_ _) | (with_reducible refine Kd.C_drew ?_))); (case side4 => exact (Kd.R_reads' HO204.out).2.1); rintro e w' ⟨rfl, ⟨nd, rfl⟩⟩; obtain ⟨hcz88_0, hcz88_1, hfz88_0, hfz88_1⟩ := cl2 BK155; obtain ⟨hcz89_0, hcz89_1, hfz89_0, hfz89_1⟩ := cl2 BK156) | ((with_reducible refine gate_dst (N := 124) rfl ?_); refine R_litg k52 _ 52 ?hg (N := 124) ?hd (xs := ([(⟨(⟨4, 4⟩ : S23), (⟨3, 1⟩ : S35)⟩ : S52), (⟨(⟨5, 5⟩ : S23), (⟨1, 2⟩ : S35)⟩ : S52)] : List (S52))) (inner := [.int .i64 4, .int .i64 4, .int .u8 3, .int .i64 1, .int .i64 5, .int .i64 5, .int .u8 1, .int .i64 2]) (ok := fun _ => True) (okp := fun _ => True) ?hr ?hp (fun _ hk => hk) trivial (Below.refl _ _) (Nat.le_refl _) (by simp) ?_; (case hd => rfl); (case hg => first | exact Or.inl rfl | exact Or.inr rfl); (case hr => first | (go_simp; done) | (go_simp; rfl)); (case hp => exact (Reps.c4 (show Kd.M k52 _ _ _ (⟨(⟨4, 4⟩ : S23), (⟨3, 1⟩ : S35)⟩ : S52) [.int .i64 4, .int .i64 4, .int .u8 3, .int .i64 1] from (k52_mkM _ _ _ (⟨(⟨4, 4⟩ : S23), (⟨3, 1⟩ : S35)⟩ : S52) )) (Reps.c4 (show Kd.M k52 _ _ _ (⟨(⟨5, 5⟩ : S23), (⟨1, 2⟩ : S35)⟩ : S52) [.int .i64 5, .int .i64 5, .int .u8 1, .int .i64 2] from (k52_mkM _ _ _ (⟨(⟨5, 5⟩ : S23), (⟨1, 2⟩ : S35)⟩ : S52) )) (Reps.none _ _)))); intro v207 w90 ho91 hb hg_ hnew_; clear hg_ hnew_; (first | rw [← Ny206.out] at ho91 | (simp only [Int.reduceToNat] at ho91; rw [← Ny206.out] at ho91)); have n0_ := Ax (Kd.R_below (by (with_reducible repeat (first | apply Kd.R_alloc | apply Kd.R_drewN | apply Kd.R_drew)); exact HO159.out) hb); have n1_ := Ax (Kd.R_elder' (by (with_reducible repeat (first | apply Kd.R_alloc | apply Kd.R_drewN | apply Kd.R_drew)); exact HO162.out) (Kd.R_base ho91) hb); have n2_ := Ax (Kd.R_below (by (with_reducible repeat (first | apply Kd.R_alloc | apply Kd.R_drewN | apply Kd.R_drew)); exact HO170.out) hb); have n3_ := Ax (Kd.R_elder' (by (with_reducible repeat (first | apply Kd.R_alloc | apply Kd.R_drewN | apply Kd.R_drew)); exact HO174.out) (Kd.R_base ho91) hb); have n4_ := Ax (Kd.R_below (by (with_reducible repeat (first | apply Kd.R_alloc | apply Kd.R_drewN | apply Kd.R_drew)); exact HO178.out) hb); have n5_ := Ax (Kd.R_elder' (by (with_reducible repeat (first | apply Kd.R_alloc | apply Kd.R_drewN | apply Kd.R_drew)); exact HO181.out) (Kd.R_base ho91) hb); have n6_ := Ax (Kd.R_below (by (with_reducible repeat (first | apply Kd.R_alloc | apply Kd.R_drewN | apply Kd.R_drew)); exact HO185.out) hb); have n7_ := Ax (Kd.R_below (by (with_reducible repeat (first | apply Kd.R_alloc | apply Kd.R_drewN | apply Kd.R_drew)); exact HO193.out) hb); have n8_ := Ax (Kd.R_elder' (by (with_reducible repeat (first | apply Kd.R_alloc | apply Kd.R_drewN | apply Kd.R_drew)); exact HO196.out) (Kd.R_base ho91) hb); have n9_ := Ax (Kd.R_elder' (by (with_reducible repeat (first | apply Kd.R_alloc | apply Kd.R_drewN | apply Kd.R_drew)); exact HO200.out) (Kd.R_base ho91) hb); have n10_ := Ax (Kd.R_below (by (with_reducible repeat (first | apply Kd.R_alloc | apply Kd.R_drewN | apply Kd.R_drew)); exact HO204.out) hb); have n11_ := Ax (Kd.R_lower (Kd.R_new' (Kd.R_new' (Kd.R_new' (Kd.R_new' (Kd.R_new' ho91 (Kd.R_lt (by (with_reducible repeat (first | apply Kd.R_alloc | apply Kd.R_drewN | apply Kd.R_drew)); exact HO162.out))) (Kd.R_lt (by (with_reducible repeat (first | apply Kd.R_alloc | apply Kd.R_drewN | apply Kd.R_drew)); exact HO174.out))) (Kd.R_lt (by (with_reducible repeat (first | apply Kd.R_alloc | apply Kd.R_drewN | apply Kd.R_drew)); exact HO181.out))) (Kd.R_lt (by (with_reducible repeat (first | apply Kd.R_alloc | apply Kd.R_drewN | apply Kd.R_drew)); exact HO196.out))) (Kd.R_lt (by (with_reducible repeat (first | apply Kd.R_alloc | apply Kd.R_drewN | apply Kd.R_drew)); exact HO200.out))) (below_size (bw5 HB.out GE154.out GE155.out GE156.out GE167.out GE190.out))); have n12_ := Bx0 BK154 hb; have n13_ := Bx0 BK155 hb; have n14_ := Bx0 BK156 hb; have n15_ := Bx0 BK167 hb; have n16_ := Bx0 BK190 hb; have n17_ := Bs5 HB hb GE154.out GE155.out GE156.out GE167.out GE190.out; clear HO159; clear HO162; clear HO170; clear HO174; clear HO178; clear HO181; clear HO185; clear HO193; clear HO196; clear HO200; clear HO204; clear BK154; clear BK155; clear BK156; clear BK167; clear BK190; clear HB; have HO159 := n0_; have HO162 := n1_; have HO170 := n2_; have HO174 := n3_; have HO178 := n4_; have HO181 := n5_; have HO185 := n6_; have HO193 := n7_; have HO196 := n8_; have HO200 := n9_; have HO204 := n10_; have HO208 := n11_; have BK154 := n12_; have BK155 := n13_; have BK156 := n14_; have BK167 := n15_; have BK190 := n16_; have HB := n17_; clear n0_ n1_ n2_ n3_ n4_ n5_ n6_ n7_ n8_ n9_ n10_ n11_ n12_ n13_ n14_ n15_ n16_ n17_; clear hb ho91; obtain ⟨Ao92, co92, eo92⟩ := Kd.R_slice HO174.out; subst eo92; obtain ⟨Ao93, co93, eo93⟩ := Kd.R_slice HO208.out; subst eo93) | (go_at_call 11; (with_reducible refine (spoorref20_Same.calls k _ _ t172 _ _ y206 true _ ?side1 ?side2 ?side3 ?side4 A17.out).mono ?_); (case side1 => repeat (first | exact (Kd.R_reads' HO174.out).2.2 | (with_reducible refine Kd.C_alloc ?_ _) | (with_reducible refine Kd.C_drewN ?_ _) | (with_reducible refine Kd.C_drew ?_))); (case side2 => exact (Kd.R_reads' HO174.out).2.1); (case side3 => repeat (first | exact (Kd.R_reads' HO208.out).2.2 | (with_reducible refine Kd.C_alloc ?_ _) | (with_reducible refine Kd.C_drewN ?_ _) | (with_reducible refine Kd.C_drew ?_))); (case side4 => exact (Kd.R_reads' HO208.out).2.1); rintro e w' ⟨rfl, ⟨nd, rfl⟩⟩) | ((with_reducible refine gate_dst (N := 138) rfl ?_); refine R_litg k23 _ 23 ?hg (N := 138) ?hd (xs := ([(⟨5, 9⟩ : S23)] : List (S23))) (inner := [.int .i64 5, .int .i64 9]) (ok := fun _ => True) (okp := fun _ => True) ?hr ?hp (fun _ hk => hk) trivial (Below.refl _ _) (Nat.le_refl _) (by simp) ?_; (case hd => rfl); (case hg => first | exact Or.inl rfl | exact Or.inr rfl); (case hr => first | (go_simp; done) | (go_simp; rfl)); (case hp => exact (Reps.c2 (show Kd.M k23 _ _ _ (⟨5, 9⟩ : S23) [.int .i64 5, .int .i64 9] from (k23_mkM _ _ _ (⟨5, 9⟩ : S23) )) (Reps.none _ _))); intro v211 w94 ho95 hb hg_ hnew_; clear hg_ hnew_; (first | rw [← Ny210.out] at ho95 | (simp only [Int.reduceToNat] at ho95; rw [← Ny210.out] at ho95)); have n0_ := Ax (Kd.R_below (by (with_reducible repeat (first | apply Kd.R_alloc | apply Kd.R_drewN | apply Kd.R_drew)); exact HO159.out) hb); have n1_ := Ax (Kd.R_below (by (with_reducible repeat (first | apply Kd.R_alloc | apply Kd.R_drewN | apply Kd.R_drew)); exact HO162.out) hb); have n2_ := Ax (Kd.R_elder' (by (with_reducible repeat (first | apply Kd.R_alloc | apply Kd.R_drewN | apply Kd.R_drew)); exact HO170.out) (Kd.R_base ho95) hb); have n3_ := Ax (Kd.R_below (by (with_reducible repeat (first | apply Kd.R_alloc | apply Kd.R_drewN | apply Kd.R_drew)); exact HO174.out) hb); have n4_ := Ax (Kd.R_below (by (with_reducible repeat (first | apply Kd.R_alloc | apply Kd.R_drewN | apply Kd.R_drew)); exact HO178.out) hb); have n5_ := Ax (Kd.R_below (by (with_reducible repeat (first | apply Kd.R_alloc | apply Kd.R_drewN | apply Kd.R_drew)); exact HO181.out) hb); have n6_ := Ax (Kd.R_elder' (by (with_reducible repeat (first | apply Kd.R_alloc | apply Kd.R_drewN | apply Kd.R_drew)); exact HO185.out) (Kd.R_base ho95) hb); have n7_ := Ax (Kd.R_below (by (with_reducible repeat (first | apply Kd.R_alloc | apply Kd.R_drewN | apply Kd.R_drew)); exact HO193.out) hb); have n8_ := Ax (Kd.R_below (by (with_reducible repeat (first | apply Kd.R_alloc | apply Kd.R_drewN | apply Kd.R_drew)); exact HO196.out) hb); have n9_ := Ax (Kd.R_below (by (with_reducible repeat (first | apply Kd.R_alloc | apply Kd.R_drewN | apply Kd.R_drew)); exact HO200.out) hb); have n10_ := Ax (Kd.R_elder' (by (with_reducible repeat (first | apply Kd.R_alloc | apply Kd.R_drewN | apply Kd.R_drew)); exact HO204.out) (Kd.R_base ho95) hb); have n11_ := Ax (Kd.R_below (by (with_reducible repeat (first | apply Kd.R_alloc | apply Kd.R_drewN | apply Kd.R_drew)); exact HO208.out) hb); have n12_ := Ax (Kd.R_lower (Kd.R_newB (Kd.R_new' (Kd.R_new' (Kd.R_new' ho95 (Kd.R_lt (by (with_reducible repeat (first | apply Kd.R_alloc | apply Kd.R_drewN | apply Kd.R_drew)); exact HO170.out))) (Kd.R_lt (by (with_reducible repeat (first | apply Kd.R_alloc | apply Kd.R_drewN | apply Kd.R_drew)); exact HO185.out))) (Kd.R_lt (by (with_reducible repeat (first | apply Kd.R_alloc | apply Kd.R_drewN | apply Kd.R_drew)); exact HO204.out))) (g := gb154) (o := .cells #[.int .i64 0, .int .i64 9] 23 (0, 0)) (bf0 BK154.out)) (below_size (bw5 HB.out GE154.out GE155.out GE156.out GE167.out GE190.out))); have n13_ := Bx0 BK154 hb; have n14_ := Bx0 BK155 hb; have n15_ := Bx0 BK156 hb; have n16_ := Bx0 BK167 hb; have n17_ := Bx0 BK190 hb; have n18_ := Bs5 HB hb GE154.out GE155.out GE156.out GE167.out GE190.out; clear HO159; clear HO162; clear HO170; clear HO174; clear HO178; clear HO181; clear HO185; clear HO193; clear HO196; clear HO200; clear HO204; clear HO208; clear BK154; clear BK155; clear BK156; clear BK167; clear BK190; clear HB; have HO159 := n0_; have HO162 := n1_; have HO170 := n2_; have HO174 := n3_; have HO178 := n4_; have HO181 := n5_; have HO185 := n6_; have HO193 := n7_; have HO196 := n8_; have HO200 := n9_; have HO204 := n10_; have HO208 := n11_; have HO212 := n12_; have BK154 := n13_; have BK155 := n14_; have BK156 := n15_; have BK167 := n16_; have BK190 := n17_; have HB := n18_; clear n0_ n1_ n2_ n3_ n4_ n5_ n6_ n7_ n8_ n9_ n10_ n11_ n12_ n13_ n14_ n15_ n16_ n17_ n18_; clear hb ho95; obtain ⟨Ao96, co96, eo96⟩ := Kd.R_slice HO185.out; subst eo96; obtain ⟨Ao97, co97, eo97⟩ := Kd.R_slice HO212.out; subst eo97) | (go_at_call 22; (with_reducible refine (spoorref19_Same.calls k _ _ t183 _ _ y210 true _ ?side1 ?side2 ?side3 ?side4 A21.out).mono ?_); (case side1 => repeat (first | exact (Kd.R_reads' HO185.out).2.2 | (with_reducible refine Kd.C_alloc ?_ _) | (with_reducible refine Kd.C_drewN ?_ _) | (with_reducible refine Kd.C_drew ?_))); (case side2 => exact (Kd.R_reads' HO185.out).2.1); (case side3 => repeat (first | exact (Kd.R_reads' HO212.out).2.2 | (with_reducible refine Kd.C_alloc ?_ _) | (with_reducible refine Kd.C_drewN ?_ _) | (with_reducible refine Kd.C_drew ?_))); (case side4 => exact (Kd.R_reads' HO212.out).2.1); rintro e w' ⟨rfl, ⟨nd, rfl⟩⟩; obtain ⟨hcz98_0, hcz98_1, hfz98_0, hfz98_1⟩ := cl2 BK154) | (go_at_call 12; (with_reducible refine (line_Check.calls k 0 9 _ _ t160 t214 _ ?side1 ?side2 A26.out).mono ?_); (case side1 => repeat (first | exact (Kd.R_reads' HO162.out).2.2 | (with_reducible refine Kd.C_alloc ?_ _) | (with_reducible refine Kd.C_drewN ?_ _) | (with_reducible refine Kd.C_drew ?_))); (case side2 => exact (Kd.R_reads' HO162.out).2.1); rintro e w99 ⟨rfl, hb⟩; have n0_ := Ax (Kd.R_below (by (with_reducible repeat (first | apply Kd.R_alloc | apply Kd.R_drewN | apply Kd.R_drew)); exact HO159.out) hb); have n1_ := Ax (Kd.R_below (by (with_reducible repeat (first | apply Kd.R_alloc | apply Kd.R_drewN | apply Kd.R_drew)); exact HO162.out) hb); have n2_ := Ax (Kd.R_below (by (with_reducible repeat (first | apply Kd.R_alloc | apply Kd.R_drewN | apply Kd.R_drew)); exact HO170.out) hb); have n3_ := Ax (Kd.R_below (by (with_reducible repeat (first | apply Kd.R_alloc | apply Kd.R_drewN | apply Kd.R_drew)); exact HO174.out) hb); have n4_ := Ax (Kd.R_below (by (with_reducible repeat (first | apply Kd.R_alloc | apply Kd.R_drewN | apply Kd.R_drew)); exact HO178.out) hb); have n5_ := Ax (Kd.R_below (by (with_reducible repeat (first | apply Kd.R_alloc | apply Kd.R_drewN | apply Kd.R_drew)); exact HO181.out) hb); have n6_ := Ax (Kd.R_below (by (with_reducible repeat (first | apply Kd.R_alloc | apply Kd.R_drewN | apply Kd.R_drew)); exact HO185.out) hb); have n7_ := Ax (Kd.R_below (by (with_reducible repeat (first | apply Kd.R_alloc | apply Kd.R_drewN | apply Kd.R_drew)); exact HO193.out) hb); have n8_ := Ax (Kd.R_below (by (with_reducible repeat (first | apply Kd.R_alloc | apply Kd.R_drewN | apply Kd.R_drew)); exact HO196.out) hb); have n9_ := Ax (Kd.R_below (by (with_reducible repeat (first | apply Kd.R_alloc | apply Kd.R_drewN | apply Kd.R_drew)); exact HO200.out) hb); have n10_ := Ax (Kd.R_below (by (with_reducible repeat (first | apply Kd.R_alloc | apply Kd.R_drewN | apply Kd.R_drew)); exact HO204.out) hb); have n11_ := Ax (Kd.R_below (by (with_reducible repeat (first | apply Kd.R_alloc | apply Kd.R_drewN | apply Kd.R_drew)); exact HO208.out) hb); have n12_ := Ax (Kd.R_below (by (with_reducible repeat (first | apply Kd.R_alloc | apply Kd.R_drewN | apply Kd.R_drew)); exact HO212.out) hb); have n13_ := Bx0 BK154 hb; have n14_ := Bx0 BK155 hb; have n15_ := Bx0 BK156 hb; have n16_ := Bx0 BK167 hb; have n17_ := Bx0 BK190 hb; have n18_ := Bs5 HB hb GE154.out GE155.out GE156.out GE167.out GE190.out; clear HO159; clear HO162; clear HO170; clear HO174; clear HO178; clear HO181; clear HO185; clear HO193; clear HO196; clear HO200; clear HO204; clear HO208; clear HO212; clear BK154; clear BK155; clear BK156; clear BK167; clear BK190; clear HB; have HO159 := n0_; have HO162 := n1_; have HO170 := n2_; have HO174 := n3_; have HO178 := n4_; have HO181 := n5_; have HO185 := n6_; have HO193 := n7_; have HO196 := n8_; have HO200 := n9_; have HO204 := n10_; have HO208 := n11_; have HO212 := n12_; have BK154 := n13_; have BK155 := n14_; have BK156 := n15_; have BK167 := n16_; have BK190 := n17_; have HB := n18_; clear n0_ n1_ n2_ n3_ n4_ n5_ n6_ n7_ n8_ n9_ n10_ n11_ n12_ n13_ n14_ n15_ n16_ n17_ n18_; (try clear hb)))
              go_ret
              exact ⟨eS, bw5 HB.out GE154.out GE155.out GE156.out GE167.out GE190.out⟩
             ·rw [if_neg c25] at H
              exact absurd H (by simp)
            ·rw [if_neg c24] at H
             exact absurd H (by simp)
           ·rw [if_neg c23] at H
            exact absurd H (by simp)
          ·replace c22 := Bool.eq_false_iff.mpr c22
           subst c22
           have H1 : (none) = some r := by rw [if_neg (show ¬ (false = true) by decide)] at H; exact H
           clear H
           have H := H1
           clear H1
           exact absurd H (by simp)
         ·rw [if_neg c20] at H
          exact absurd H (by simp)
        ·rw [if_neg c19] at H
         exact absurd H (by simp)
       ·replace c18 := Bool.eq_false_iff.mpr c18
        subst c18
        have H1 : (none) = some r := by rw [if_neg (show ¬ (false = true) by decide)] at H; exact H
        clear H
        have H := H1
        clear H1
        exact absurd H (by simp)
      ·rw [if_neg c16] at H
       exact absurd H (by simp)
     ·replace c15 := Bool.eq_false_iff.mpr c15
      subst c15
      have H1 : (none) = some r := by rw [if_neg (show ¬ (false = true) by decide)] at H; exact H
      clear H
      have H := H1
      clear H1
      exact absurd H (by simp)
    ·rw [if_neg c13] at H
     exact absurd H (by simp)
   ·rw [if_neg c12] at H
    exact absurd H (by simp)
  ·rw [if_neg c11] at H
   exact absurd H (by simp)
 ·replace c10 := Bool.eq_false_iff.mpr c10
  subst c10
  have H1 : (none) = some r := by rw [if_neg (show ¬ (false = true) by decide)] at H; exact H
  clear H
  have H := H1
  clear H1
  exact absurd H (by simp)
mutual
def spoorlaw20_LineTells.j0 : Nat → List (S46) → Int → Int → Bool → Int → Int → Option (Bool)
 | 0, _, _, _, _, _, _ => none
 | k + 1, x1, x2, x10, x52, x225000, x225001 => if x52 = true then (none) else (spoorlaw20_LineTells.l0 k x2 x10 x1 (x1.length : Int) 0 x225000 x225001 0 0)
def spoorlaw20_LineTells.l0 : Nat → Int → Int → List (S46) → Int → Int → Int → Int → Int → Int → Option (Bool)
 | 0, _, _, _, _, _, _, _, _, _ => none
 | k + 1, x2, x10, x54, x55, x56, x225000, x225001, x227000, x227001 => if x56 < x55 then (if 0 ≤ x56 then (if x56 < (x54.length : Int) then (if ((rd_T46 x54 x56).f0) ≤ x2 then (spoorlaw20_LineTells.l0 k x2 x10 x54 x55 (wrap64 (x56 + 1)) x225000 x225001 ((rd_T46 x54 x56).f1.f0) ((rd_T46 x54 x56).f1.f1)) else (spoorlaw20_LineTells.l0 k x2 x10 x54 x55 (wrap64 (x56 + 1)) x225000 x225001 x227000 x227001)) else (none)) else (none)) else (if x10 = 0 then (some (x225000 == x227000 && (x225001 == x227001))) else (some true))
end
def spoorlaw20_LineTells.f (k : Nat) (a0_0 : Int) (a0_1 : Int) (l1 : List (S46)) (a2 : Int) : Option (Bool) := (spoorlaw20_lives.f k).bind fun t216 => (if t216 = true then ((line_Make.f k a0_0 a0_1 l1).bind fun bt217 => (if bt217.2 = 0 then ((line_At.f k a0_0 a0_1 bt217.1 a2).bind fun bt221 => ((line_Check.f k a0_0 a0_1 bt217.1).bind fun t225 => (if t225 = 0 then (if a0_0 ≤ a2 then (spoorlaw20_LineTells.j0 k l1 a2 bt221.2.2 ((bt221.2.2 == 0) != (decide (a2 ≤ a0_1))) bt221.1 bt221.2.1) else (spoorlaw20_LineTells.j0 k l1 a2 bt221.2.2 ((bt221.2.2 == 0) != false) bt221.1 bt221.2.1)) else (spoorlaw20_LineTells.j0 k l1 a2 bt221.2.2 true bt221.1 bt221.2.1)))) else (some ((bt217.1.length : Int) == 0)))) else (none))
set_option maxHeartbeats 8000000 in
set_option maxRecDepth 100000 in
theorem spoorlaw20_LineTells.calls (k : Nat) (a0_0 : Int) (a0_1 : Int) (A1 : Option Addr) (c1 : Nat) (l1 : List (S46)) (a2 : Int) (r : Bool) (w : World) (hr1 : Kd.C k46 w A1 l1.length l1) (hc1 : l1.length ≤ c1) (h : spoorlaw20_LineTells.f k a0_0 a0_1 l1 a2 = some r) :
  Calls Try.prog 5 #[.agg #[.int .i64 a0_0, .int .i64 a0_1], .slice A1 l1.length c1, .int .i64 a2] w fun e w' => e = .returned (.bool r) ∧ Below w.heap.size w w' := by
 have hu23 := Try.underlying23
 have hu35 := Try.underlying35
 have hu46 := Try.underlying46
 have HR1 := Ax hr1
 have HC1 := Ax hc1
 clear hr1 hc1
 have HB := Ax (Below.refl w.heap.size w)
 have H : ((spoorlaw20_lives.f k).bind fun t216 => (if t216 = true then ((line_Make.f k a0_0 a0_1 l1).bind fun bt217 => (if bt217.2 = 0 then ((line_At.f k a0_0 a0_1 bt217.1 a2).bind fun bt221 => ((line_Check.f k a0_0 a0_1 bt217.1).bind fun t225 => (if t225 = 0 then (if a0_0 ≤ a2 then (spoorlaw20_LineTells.j0 k l1 a2 bt221.2.2 ((bt221.2.2 == 0) != (decide (a2 ≤ a0_1))) bt221.1 bt221.2.1) else (spoorlaw20_LineTells.j0 k l1 a2 bt221.2.2 ((bt221.2.2 == 0) != false) bt221.1 bt221.2.1)) else (spoorlaw20_LineTells.j0 k l1 a2 bt221.2.2 true bt221.1 bt221.2.1)))) else (some ((bt217.1.length : Int) == 0)))) else (none))) = some r := h
 clear h
 replace H := Option.bind_eq_some_iff.mp H
 obtain ⟨t216, A40, H⟩ := H
 replace H : (if t216 = true then ((line_Make.f k a0_0 a0_1 l1).bind fun bt217 => (if bt217.2 = 0 then ((line_At.f k a0_0 a0_1 bt217.1 a2).bind fun bt221 => ((line_Check.f k a0_0 a0_1 bt217.1).bind fun t225 => (if t225 = 0 then (if a0_0 ≤ a2 then (spoorlaw20_LineTells.j0 k l1 a2 bt221.2.2 ((bt221.2.2 == 0) != (decide (a2 ≤ a0_1))) bt221.1 bt221.2.1) else (spoorlaw20_LineTells.j0 k l1 a2 bt221.2.2 ((bt221.2.2 == 0) != false) bt221.1 bt221.2.1)) else (spoorlaw20_LineTells.j0 k l1 a2 bt221.2.2 true bt221.1 bt221.2.1)))) else (some ((bt217.1.length : Int) == 0)))) else (none)) = some r := H
 have A4 := Ax A40
 clear A40
 by_cases c5 : t216 = true
 ·subst c5
  have H1 : ((line_Make.f k a0_0 a0_1 l1).bind fun bt217 => (if bt217.2 = 0 then ((line_At.f k a0_0 a0_1 bt217.1 a2).bind fun bt221 => ((line_Check.f k a0_0 a0_1 bt217.1).bind fun t225 => (if t225 = 0 then (if a0_0 ≤ a2 then (spoorlaw20_LineTells.j0 k l1 a2 bt221.2.2 ((bt221.2.2 == 0) != (decide (a2 ≤ a0_1))) bt221.1 bt221.2.1) else (spoorlaw20_LineTells.j0 k l1 a2 bt221.2.2 ((bt221.2.2 == 0) != false) bt221.1 bt221.2.1)) else (spoorlaw20_LineTells.j0 k l1 a2 bt221.2.2 true bt221.1 bt221.2.1)))) else (some ((bt217.1.length : Int) == 0)))) = some r := by rw [if_pos rfl] at H; exact H
  clear H
  have H := H1
  clear H1
  replace H := Option.bind_eq_some_iff.mp H
  obtain ⟨⟨t217, t220⟩, A60, H⟩ := H
  replace H : (if t220 = 0 then ((line_At.f k a0_0 a0_1 t217 a2).bind fun bt221 => ((line_Check.f k a0_0 a0_1 t217).bind fun t225 => (if t225 = 0 then (if a0_0 ≤ a2 then (spoorlaw20_LineTells.j0 k l1 a2 bt221.2.2 ((bt221.2.2 == 0) != (decide (a2 ≤ a0_1))) bt221.1 bt221.2.1) else (spoorlaw20_LineTells.j0 k l1 a2 bt221.2.2 ((bt221.2.2 == 0) != false) bt221.1 bt221.2.1)) else (spoorlaw20_LineTells.j0 k l1 a2 bt221.2.2 true bt221.1 bt221.2.1)))) else (some ((t217.length : Int) == 0))) = some r := H
  have A6 := Ax A60
  clear A60
  by_cases c7 : t220 = 0
  ·rw [if_pos c7] at H
   have c7b0 : (t220 == 0) = true := beq_iff_eq.mpr c7
   have c7b1 : (t220 != 0) = false := bne_eq_false_iff_eq.mpr c7
   clear c7
   replace H := Option.bind_eq_some_iff.mp H
   obtain ⟨⟨t221, t222, t223⟩, A80, H⟩ := H
   replace H : ((line_Check.f k a0_0 a0_1 t217).bind fun t225 => (if t225 = 0 then (if a0_0 ≤ a2 then (spoorlaw20_LineTells.j0 k l1 a2 t223 ((t223 == 0) != (decide (a2 ≤ a0_1))) t221 t222) else (spoorlaw20_LineTells.j0 k l1 a2 t223 ((t223 == 0) != false) t221 t222)) else (spoorlaw20_LineTells.j0 k l1 a2 t223 true t221 t222))) = some r := H
   have A8 := Ax A80
   clear A80
   have HC9 := Ax H
   clear H
   go_enter Try.func5, Try.ntmps5
   go_upto_region 7 with (first | ((with_reducible refine gate_dst (N := 3) rfl ?_); refine box_event ?hg (N := 3) ?hd (cs := #[.int .i64 a0_0, .int .i64 a0_1]) (t := 23) ?hr ?_; (case hd => rfl); (case hg => rfl); (case hr => first | (go_simp; done) | (go_simp; rfl)); intro gb215 hg w10 hbox hb; have n0_ := Bs0 HB hb; have n1_ := Ax (hbox); have n2_ := Gw0 HB hg; have n3_ := Gw0 HB hg; clear HB; have HB := n0_; have BK215 := n1_; have GW215 := n2_; have GE215 := n3_; clear n0_ n1_ n2_ n3_; clear hb hbox hg) | ((with_reducible refine gate_callee (f := 10) rfl ?_); refine goesL_ (some 14) rfl rfl Try.func10 (by kernel_rfl) rfl #[] rfl gS ?_; (with_reducible refine (spoorlaw20_lives.calls k  true _ A4.out).mono ?_); rintro e w11 ⟨rfl, hb⟩; refine ⟨_, rfl, ?_⟩; replace BK215 := Bx0 BK215 hb; replace HB := Bs1 HB hb GE215.out; (try clear hb); obtain ⟨hcz12_0, hcz12_1, hfz12_0, hfz12_1⟩ := cl2 BK215) | ((with_reducible refine gate_callee (f := 8) rfl ?_); refine goesL_ (some 19) rfl rfl Try.func8 (by kernel_rfl) rfl #[.agg #[.int .i64 a0_0, .int .i64 a0_1], .slice A1 l1.length c1] rfl gS ?_; (with_reducible refine (line_Make.calls k a0_0 a0_1 _ _ l1 t217 t220 _ ?side1 ?side2 A6.out).mono ?_); (case side1 => repeat (first | exact (Kd.C_below HR1.out HB.out) | (with_reducible refine Kd.C_alloc ?_ _) | (with_reducible refine Kd.C_drewN ?_ _) | (with_reducible refine Kd.C_drew ?_))); (case side2 => exact HC1.out); rintro e w13 ⟨v218, rfl, ho0, hb⟩; refine ⟨_, rfl, ?_⟩; have HO219 := Ax (Kd.R_lower ho0 (below_size (bw1 HB.out GE215.out))); replace BK215 := Bx0 BK215 hb; replace HB := Bs1 HB hb GE215.out; (try clear hb); (try clear ho0); obtain ⟨hcz14_0, hcz14_1, hfz14_0, hfz14_1⟩ := cl2 BK215; obtain ⟨Ao15, co15, eo15⟩ := Kd.R_slice HO219.out; subst eo15) | ((with_reducible refine gate_callee (f := 14) rfl ?_); refine goesL_ (some 31) rfl rfl Try.func14 (by kernel_rfl) rfl #[.agg #[.int .i64 a0_0, .int .i64 a0_1], .slice Ao15 t217.length co15, .int .i64 a2] rfl gS ?_; (with_reducible refine (line_At.calls k a0_0 a0_1 _ _ t217 a2 t221 t222 t223 _ ?side1 ?side2 A8.out).mono ?_); (case side1 => repeat (first | exact (Kd.R_reads' HO219.out).2.2 | (with_reducible refine Kd.C_alloc ?_ _) | (with_reducible refine Kd.C_drewN ?_ _) | (with_reducible refine Kd.C_drew ?_))); (case side2 => exact (Kd.R_reads' HO219.out).2.1); rintro e w16 ⟨rfl, hb⟩; refine ⟨_, rfl, ?_⟩; have n0_ := Ax (Kd.R_below (by (with_reducible repeat (first | apply Kd.R_alloc | apply Kd.R_drewN | apply Kd.R_drew)); exact HO219.out) hb); have n1_ := Bx0 BK215 hb; have n2_ := Bs1 HB hb GE215.out; clear HO219; clear BK215; clear HB; have HO219 := n0_; have BK215 := n1_; have HB := n2_; clear n0_ n1_ n2_; (try clear hb)) | ((with_reducible refine gate_dst (N := 9) rfl ?_); refine box_event ?hg (N := 9) ?hd (cs := #[.int .u8 0, .int .i64 0]) (t := 35) ?hr ?_; (case hd => rfl); (case hg => rfl); (case hr => first | (go_simp; done) | (go_simp; rfl)); intro gb224 hg w17 hbox hb; have n0_ := Ax (Kd.R_below (by (with_reducible repeat (first | apply Kd.R_alloc | apply Kd.R_drewN | apply Kd.R_drew)); exact HO219.out) hb); have n1_ := Bx0 BK215 hb; have n2_ := Bs1 HB hb GE215.out; have n3_ := Ax (hbox); have n4_ := Gw1 HB hg GE215.out; have n5_ := Gw1 HB hg GE215.out; have n6_ := Nl0 BK215 hg; have n7_ := Nr0 BK215 hg; clear HO219; clear BK215; clear HB; have HO219 := n0_; have BK215 := n1_; have HB := n2_; have BK224 := n3_; have GW224 := n4_; have GE224 := n5_; have NB215_224 := n6_; have NB224_215 := n7_; clear n0_ n1_ n2_ n3_ n4_ n5_ n6_ n7_; clear hb hbox hg; have hnb18 := NB224_215.out; have hnc18 := NB215_224.out; obtain ⟨hcz19_0, hcz19_1, hfz19_0, hfz19_1⟩ := cl2 BK224))
   (try simp only [Act.put, List.setIfInBounds_toArray, List.set_cons_zero, List.set_cons_succ])
   go_cut [52] (fun v52 wc => ∃ (kq : Nat) (x52_8 : Bool), v52 = .bool x52_8 ∧ Aside0 (spoorlaw20_LineTells.j0 kq l1 a2 t223 x52_8 t221 t222 = some r) ∧ Aside0 (kq ≤ k) ∧ Aside0 (wc.heap[gb215]? = some (.cells #[.int .i64 a0_0, .int .i64 a0_1] 23 (0, 0))) ∧ Aside0 (wc.heap[gb224]? = some (.cells #[.int .u8 t221, .int .i64 t222] 35 (0, 0))) ∧ Aside0 (Below w.heap.size w wc))
   case first =>
    have H := HC9.out
    clear HC9
    replace H := Option.bind_eq_some_iff.mp H
    obtain ⟨t225, A200, H⟩ := H
    replace H : (if t225 = 0 then (if a0_0 ≤ a2 then (spoorlaw20_LineTells.j0 k l1 a2 t223 ((t223 == 0) != (decide (a2 ≤ a0_1))) t221 t222) else (spoorlaw20_LineTells.j0 k l1 a2 t223 ((t223 == 0) != false) t221 t222)) else (spoorlaw20_LineTells.j0 k l1 a2 t223 true t221 t222)) = some r := H
    have A20 := Ax A200
    clear A200
    by_cases c21 : t225 = 0
    ·rw [if_pos c21] at H
     have c21b0 : (t225 == 0) = true := beq_iff_eq.mpr c21
     have c21b1 : (t225 != 0) = false := bne_eq_false_iff_eq.mpr c21
     clear c21
     (first | rw [c21b0] | (simp only [i64_w, i32_w]; rw [c21b0]) | skip)
     by_cases c22 : a0_0 ≤ a2
     ·rw [if_pos c22] at H
      have c22b0 : decide (a0_0 ≤ a2) = true := decide_eq_true c22
      clear c22
      have H' := Ax H
      clear H
      have hnb23 := NB215_224.out
      have hnc23 := NB224_215.out
      obtain ⟨hcz24_0, hcz24_1, hfz24_0, hfz24_1⟩ := cl2 BK215
      go_wp2_with (first | ((with_reducible refine gate_callee (f := 12) rfl ?_); refine goesL_ (some 36) rfl rfl Try.func12 (by kernel_rfl) rfl #[.agg #[.int .i64 a0_0, .int .i64 a0_1], .slice Ao15 t217.length co15] rfl gS ?_; (with_reducible refine (line_Check.calls k a0_0 a0_1 _ _ t217 t225 _ ?side1 ?side2 A20.out).mono ?_); (case side1 => refine (Kd.R_reads' (e := 52) (base := w.heap.size) (ok := fun k_ => True) (n := t217.length) (c := co15) ?_).2.2; exact (by (with_reducible repeat (first | apply Kd.R_alloc | apply Kd.R_drewN | apply Kd.R_drew)); exact (Kd.R_mono (Kd.R_far (p := ⟨gb224, 1, none⟩) (Kd.R_far (p := ⟨gb224, 0, none⟩) (Kd.R_types HO219.out BK224.out (by decide)) (fun _ hk => hk.2) (.int .u8 t221)) (fun _ hk => hk.2) (.int .i64 t222)) (fun _ h_ => h_.1)))); (case side2 => exact (Kd.R_reads' HO219.out).2.1); rintro e w25 ⟨rfl, hb⟩; refine ⟨_, rfl, ?_⟩; have n0_ := Ax (Kd.R_below (by (with_reducible repeat (first | apply Kd.R_alloc | apply Kd.R_drewN | apply Kd.R_drew)); exact (Kd.R_mono (Kd.R_far (p := ⟨gb224, 1, none⟩) (Kd.R_far (p := ⟨gb224, 0, none⟩) (Kd.R_types HO219.out BK224.out (by decide)) (fun _ hk => hk.2) (.int .u8 t221)) (fun _ hk => hk.2) (.int .i64 t222)) (fun _ h_ => h_.1))) hb); have n1_ := Bx2 BK215 hb NB215_224.out NB215_224.out; have n2_ := Ax (blk_below (g := gb224) (o := .cells #[.int .u8 t221, .int .i64 t222] 35 (0, 0)) (by (with_reducible repeat (first | refine blk_drewN ?_ _ | refine blk_drew ?_ | refine blk_alloc ?_ _)); refine blk_put (cs := #[.int .u8 t221, .int .i64 0]) ?_ 1 _ rfl; (with_reducible repeat (first | refine blk_drewN ?_ _ | refine blk_drew ?_ | refine blk_alloc ?_ _)); refine blk_put (cs := #[.int .u8 0, .int .i64 0]) ?_ 0 _ rfl; (with_reducible repeat (first | refine blk_drewN ?_ _ | refine blk_drew ?_ | refine blk_alloc ?_ _)); exact BK224.out) hb); have n3_ := Bs2 HB hb GE215.out GE224.out; clear HO219; clear BK215; clear BK224; clear HB; have HO219 := n0_; have BK215 := n1_; have BK224 := n2_; have HB := n3_; clear n0_ n1_ n2_ n3_; (try clear hb); obtain ⟨hcz26_0, hcz26_1, hfz26_0, hfz26_1⟩ := cl2 BK215))
      go_meet
      case rel => exact ⟨_, (((t223 == 0) != (decide (a2 ≤ a0_1)))), rS, H', ⟨by first | omega | exact Nat.le_refl _⟩, ⟨bf0 BK215.out⟩, ⟨bf0 BK224.out⟩, ⟨bw2 HB.out GE215.out GE224.out⟩⟩
     ·rw [if_neg c22] at H
      have c22b0 : decide (a0_0 ≤ a2) = false := decide_eq_false c22
      clear c22
      have H' := Ax H
      clear H
      have hnb27 := NB215_224.out
      have hnc27 := NB224_215.out
      obtain ⟨hcz28_0, hcz28_1, hfz28_0, hfz28_1⟩ := cl2 BK215
      go_wp2_with (first | ((with_reducible refine gate_callee (f := 12) rfl ?_); refine goesL_ (some 36) rfl rfl Try.func12 (by kernel_rfl) rfl #[.agg #[.int .i64 a0_0, .int .i64 a0_1], .slice Ao15 t217.length co15] rfl gS ?_; (with_reducible refine (line_Check.calls k a0_0 a0_1 _ _ t217 t225 _ ?side1 ?side2 A20.out).mono ?_); (case side1 => refine (Kd.R_reads' (e := 52) (base := w.heap.size) (ok := fun k_ => True) (n := t217.length) (c := co15) ?_).2.2; exact (by (with_reducible repeat (first | apply Kd.R_alloc | apply Kd.R_drewN | apply Kd.R_drew)); exact (Kd.R_mono (Kd.R_far (p := ⟨gb224, 1, none⟩) (Kd.R_far (p := ⟨gb224, 0, none⟩) (Kd.R_types HO219.out BK224.out (by decide)) (fun _ hk => hk.2) (.int .u8 t221)) (fun _ hk => hk.2) (.int .i64 t222)) (fun _ h_ => h_.1)))); (case side2 => exact (Kd.R_reads' HO219.out).2.1); rintro e w29 ⟨rfl, hb⟩; refine ⟨_, rfl, ?_⟩; have n0_ := Ax (Kd.R_below (by (with_reducible repeat (first | apply Kd.R_alloc | apply Kd.R_drewN | apply Kd.R_drew)); exact (Kd.R_mono (Kd.R_far (p := ⟨gb224, 1, none⟩) (Kd.R_far (p := ⟨gb224, 0, none⟩) (Kd.R_types HO219.out BK224.out (by decide)) (fun _ hk => hk.2) (.int .u8 t221)) (fun _ hk => hk.2) (.int .i64 t222)) (fun _ h_ => h_.1))) hb); have n1_ := Bx2 BK215 hb NB215_224.out NB215_224.out; have n2_ := Ax (blk_below (g := gb224) (o := .cells #[.int .u8 t221, .int .i64 t222] 35 (0, 0)) (by (with_reducible repeat (first | refine blk_drewN ?_ _ | refine blk_drew ?_ | refine blk_alloc ?_ _)); refine blk_put (cs := #[.int .u8 t221, .int .i64 0]) ?_ 1 _ rfl; (with_reducible repeat (first | refine blk_drewN ?_ _ | refine blk_drew ?_ | refine blk_alloc ?_ _)); refine blk_put (cs := #[.int .u8 0, .int .i64 0]) ?_ 0 _ rfl; (with_reducible repeat (first | refine blk_drewN ?_ _ | refine blk_drew ?_ | refine blk_alloc ?_ _)); exact BK224.out) hb); have n3_ := Bs2 HB hb GE215.out GE224.out; clear HO219; clear BK215; clear BK224; clear HB; have HO219 := n0_; have BK215 := n1_; have BK224 := n2_; have HB := n3_; clear n0_ n1_ n2_ n3_; (try clear hb); obtain ⟨hcz30_0, hcz30_1, hfz30_0, hfz30_1⟩ := cl2 BK215))
      go_meet
      case rel => exact ⟨_, (((t223 == 0) != false)), rS, H', ⟨by first | omega | exact Nat.le_refl _⟩, ⟨bf0 BK215.out⟩, ⟨bf0 BK224.out⟩, ⟨bw2 HB.out GE215.out GE224.out⟩⟩
    ·rw [if_neg c21] at H
     have c21b0 : (t225 == 0) = false := beq_eq_false_iff_ne.mpr c21
     have c21b1 : (t225 != 0) = true := bne_iff_ne.mpr c21
     (first | rw [c21b0] | (simp only [i64_w, i32_w]; rw [c21b0]) | skip)
     have H' := Ax H
     clear H
     have hnb31 := NB215_224.out
     have hnc31 := NB224_215.out
     obtain ⟨hcz32_0, hcz32_1, hfz32_0, hfz32_1⟩ := cl2 BK215
     go_wp2_with (first | ((with_reducible refine gate_callee (f := 12) rfl ?_); refine goesL_ (some 36) rfl rfl Try.func12 (by kernel_rfl) rfl #[.agg #[.int .i64 a0_0, .int .i64 a0_1], .slice Ao15 t217.length co15] rfl gS ?_; (with_reducible refine (line_Check.calls k a0_0 a0_1 _ _ t217 t225 _ ?side1 ?side2 A20.out).mono ?_); (case side1 => refine (Kd.R_reads' (e := 52) (base := w.heap.size) (ok := fun k_ => True) (n := t217.length) (c := co15) ?_).2.2; exact (by (with_reducible repeat (first | apply Kd.R_alloc | apply Kd.R_drewN | apply Kd.R_drew)); exact (Kd.R_mono (Kd.R_far (p := ⟨gb224, 1, none⟩) (Kd.R_far (p := ⟨gb224, 0, none⟩) (Kd.R_types HO219.out BK224.out (by decide)) (fun _ hk => hk.2) (.int .u8 t221)) (fun _ hk => hk.2) (.int .i64 t222)) (fun _ h_ => h_.1)))); (case side2 => exact (Kd.R_reads' HO219.out).2.1); rintro e w33 ⟨rfl, hb⟩; refine ⟨_, rfl, ?_⟩; have n0_ := Ax (Kd.R_below (by (with_reducible repeat (first | apply Kd.R_alloc | apply Kd.R_drewN | apply Kd.R_drew)); exact (Kd.R_mono (Kd.R_far (p := ⟨gb224, 1, none⟩) (Kd.R_far (p := ⟨gb224, 0, none⟩) (Kd.R_types HO219.out BK224.out (by decide)) (fun _ hk => hk.2) (.int .u8 t221)) (fun _ hk => hk.2) (.int .i64 t222)) (fun _ h_ => h_.1))) hb); have n1_ := Bx2 BK215 hb NB215_224.out NB215_224.out; have n2_ := Ax (blk_below (g := gb224) (o := .cells #[.int .u8 t221, .int .i64 t222] 35 (0, 0)) (by (with_reducible repeat (first | refine blk_drewN ?_ _ | refine blk_drew ?_ | refine blk_alloc ?_ _)); refine blk_put (cs := #[.int .u8 t221, .int .i64 0]) ?_ 1 _ rfl; (with_reducible repeat (first | refine blk_drewN ?_ _ | refine blk_drew ?_ | refine blk_alloc ?_ _)); refine blk_put (cs := #[.int .u8 0, .int .i64 0]) ?_ 0 _ rfl; (with_reducible repeat (first | refine blk_drewN ?_ _ | refine blk_drew ?_ | refine blk_alloc ?_ _)); exact BK224.out) hb); have n3_ := Bs2 HB hb GE215.out GE224.out; clear HO219; clear BK215; clear BK224; clear HB; have HO219 := n0_; have BK215 := n1_; have BK224 := n2_; have HB := n3_; clear n0_ n1_ n2_ n3_; (try clear hb)))
     go_meet
     case rel => exact ⟨_, (true), rS, H', ⟨by first | omega | exact Nat.le_refl _⟩, ⟨bf0 BK215.out⟩, ⟨bf0 BK224.out⟩, ⟨bw2 HB.out GE215.out GE224.out⟩⟩
   case rest =>
    clear HC9
    try clear c1
    try clear c2
    try clear p2
    try clear c3
    try clear c5
    try clear c7
    try clear c7b0
    try clear c7b1
    try clear c8
    try clear c10
    try clear c12
    try clear c14
    try clear c18
    try clear c21
    try clear c21b0
    try clear c21b1
    try clear c22
    try clear c22b0
    try clear c23
    try clear c27
    try clear c31
    try clear hcz12_0
    try clear hcz12_1
    try clear hcz14_0
    try clear hcz14_1
    try clear hcz19_0
    try clear hcz19_1
    try clear hcz24_0
    try clear hcz24_1
    try clear hcz26_0
    try clear hcz26_1
    try clear hcz28_0
    try clear hcz28_1
    try clear hcz30_0
    try clear hcz30_1
    try clear hcz32_0
    try clear hcz32_1
    try clear hfz12_0
    try clear hfz12_1
    try clear hfz14_0
    try clear hfz14_1
    try clear hfz19_0
    try clear hfz19_1
    try clear hfz24_0
    try clear hfz24_1
    try clear hfz26_0
    try clear hfz26_1
    try clear hfz28_0
    try clear hfz28_1
    try clear hfz30_0
    try clear hfz30_1
    try clear hfz32_0
    try clear hfz32_1
    obtain ⟨kq, x52_8, rfl, HA, HJ8, BK215, BK224, HB⟩ := hcut
    cases kq with
    | zero => exact absurd HA.out (by simp [spoorlaw20_LineTells.j0])
    | succ kj8 =>
     have H := HA.out
     clear HA
     simp only [spoorlaw20_LineTells.j0] at H
     by_cases c34 : x52_8 = true
     ·subst c34
      have H1 : (none) = some r := by rw [if_pos rfl] at H; exact H
      clear H
      have H := H1
      clear H1
      exact absurd H (by simp)
     ·replace c34 := Bool.eq_false_iff.mpr c34
      subst c34
      have H1 : (spoorlaw20_LineTells.l0 kj8 a2 t223 l1 (l1.length : Int) 0 t221 t222 0 0) = some r := by rw [if_neg (show ¬ (false = true) by decide)] at H; exact H
      clear H
      have H := H1
      clear H1
      have H' := Ax H
      clear H
      go_wp2_with (first | ((with_reducible refine gate_dst (N := 11) rfl ?_); refine box_event ?hg (N := 11) ?hd (cs := #[.int .u8 0, .int .i64 0]) (t := 35) ?hr ?_; (case hd => rfl); (case hg => rfl); (case hr => first | (go_simp; done) | (go_simp; rfl)); intro gb226 hg w35 hbox hb; have n0_ := Bx0 BK215 hb; have n1_ := Bx0 BK224 hb; have n2_ := Bs2 HB hb GE215.out GE224.out; have n3_ := Ax (hbox); have n4_ := Gw2 HB hg GE215.out GE224.out; have n5_ := Gw2 HB hg GE215.out GE224.out; have n6_ := Nl0 BK215 hg; have n7_ := Nr0 BK215 hg; have n8_ := Nl0 BK224 hg; have n9_ := Nr0 BK224 hg; clear BK215; clear BK224; clear HB; have BK215 := n0_; have BK224 := n1_; have HB := n2_; have BK226 := n3_; have GW226 := n4_; have GE226 := n5_; have NB215_226 := n6_; have NB226_215 := n7_; have NB224_226 := n8_; have NB226_224 := n9_; clear n0_ n1_ n2_ n3_ n4_ n5_ n6_ n7_ n8_ n9_; clear hb hbox hg; have hnb36 := NB226_215.out; have hnc36 := NB215_226.out; have hnb37 := NB226_224.out; have hnc37 := NB224_226.out; obtain ⟨hcz38_0, hcz38_1, hfz38_0, hfz38_1⟩ := cl2 BK226))
      go_loopg [56] kj8 (fun kq v56 w' => ∃ (x56_2 : Int) (x227000_2 : Int) (x227001_2 : Int), v56 = .int .i64 x56_2 ∧ Aside0 (spoorlaw20_LineTells.l0 kq a2 t223 l1 (l1.length : Int) x56_2 t221 t222 x227000_2 x227001_2 = some r) ∧ Aside0 (kq ≤ kj8) ∧ Aside0 (w'.heap[gb215]? = some (.cells #[.int .i64 a0_0, .int .i64 a0_1] 23 (0, 0))) ∧ Aside0 (w'.heap[gb224]? = some (.cells #[.int .u8 t221, .int .i64 t222] 35 (0, 0))) ∧ Aside0 (w'.heap[gb226]? = some (.cells #[.int .u8 x227000_2, .int .i64 x227001_2] 35 (0, 0))) ∧ Aside0 (Below w.heap.size w w'))
      case atStart => exact ⟨(0), (0), (0), rS, H', ⟨Nat.le_refl _⟩, ⟨bf2 BK215.out NB215_226.out NB215_226.out⟩, ⟨bf2 BK224.out NB224_226.out NB224_226.out⟩, ⟨by (with_reducible repeat (first | refine blk_drewN ?_ _ | refine blk_drew ?_ | refine blk_alloc ?_ _)); refine blk_put (cs := #[.int .u8 0, .int .i64 0]) ?_ 1 _ rfl; (with_reducible repeat (first | refine blk_drewN ?_ _ | refine blk_drew ?_ | refine blk_alloc ?_ _)); refine blk_put (cs := #[.int .u8 0, .int .i64 0]) ?_ 0 _ rfl; (with_reducible repeat (first | refine blk_drewN ?_ _ | refine blk_drew ?_ | refine blk_alloc ?_ _)); exact BK226.out⟩, ⟨bw3 HB.out GE215.out GE224.out GE226.out⟩⟩
      case round =>
       clear H'
       try clear c1
       try clear c2
       try clear p2
       try clear c3
       try clear c5
       try clear c7
       try clear c7b0
       try clear c7b1
       try clear c8
       try clear c10
       try clear c12
       try clear c14
       try clear c18
       try clear c21
       try clear c21b0
       try clear c21b1
       try clear c22
       try clear c22b0
       try clear c23
       try clear c27
       try clear c31
       try clear c34
       try clear c36
       try clear c37
       try clear hcz12_0
       try clear hcz12_1
       try clear hcz14_0
       try clear hcz14_1
       try clear hcz19_0
       try clear hcz19_1
       try clear hcz24_0
       try clear hcz24_1
       try clear hcz26_0
       try clear hcz26_1
       try clear hcz28_0
       try clear hcz28_1
       try clear hcz30_0
       try clear hcz30_1
       try clear hcz32_0
       try clear hcz32_1
       try clear hcz38_0
       try clear hcz38_1
       try clear hfz12_0
       try clear hfz12_1
       try clear hfz14_0
       try clear hfz14_1
       try clear hfz19_0
       try clear hfz19_1
       try clear hfz24_0
       try clear hfz24_1
       try clear hfz26_0
       try clear hfz26_1
       try clear hfz28_0
       try clear hfz28_1
       try clear hfz30_0
       try clear hfz30_1
       try clear hfz32_0
       try clear hfz32_1
       try clear hfz38_0
       try clear hfz38_1
       try clear p2
       obtain ⟨x56_2, x227000_2, x227001_2, rfl, HA, HK2, BK215, BK224, BK226, HB⟩ := hrel
       cases gk with
       | zero => exact absurd HA.out (by simp [spoorlaw20_LineTells.l0])
       | succ k2 =>
        have H := HA.out
        clear HA
        simp only [spoorlaw20_LineTells.l0] at H
        by_cases c39 : x56_2 < (l1.length : Int)
        ·rw [if_pos c39] at H
         have c39b0 : decide (x56_2 < (l1.length : Int)) = true := decide_eq_true c39
         clear c39
         by_cases c40 : 0 ≤ x56_2
         ·rw [if_pos c40] at H
          have c40b0 : decide (0 ≤ x56_2) = true := decide_eq_true c40
          clear c40
          by_cases c41 : x56_2 < (l1.length : Int)
          ·rw [if_pos c41] at H
           have c41b0 : decide (x56_2 < (l1.length : Int)) = true := decide_eq_true c41
           clear c41
           by_cases c42 : ((rd_T46 l1 x56_2).f0) ≤ a2
           ·rw [if_pos c42] at H
            have c42b0 : decide (((rd_T46 l1 x56_2).f0) ≤ a2) = true := decide_eq_true c42
            clear c42
            have H' := Ax H
            clear H
            have p227 : 0 ≤ (x56_2 : Int) := of_decide_eq_true (by first | (with_reducible assumption) | assumption)
            have q227 : x56_2 < (l1.length : Int) := of_decide_eq_true (by first | (with_reducible assumption) | assumption)
            obtain ⟨ad227, e227, hx227_0, hx227_1, hx227_2⟩ := at_T46 HR1.out x56_2 p227 q227
            cases e227
            replace hx227_0 := (HB.out.cell (World.block_lt_of_cell? w _ hx227_0)).trans hx227_0
            replace hx227_1 := (HB.out.cell (World.block_lt_of_cell? w _ hx227_1)).trans hx227_1
            replace hx227_2 := (HB.out.cell (World.block_lt_of_cell? w _ hx227_2)).trans hx227_2
            replace p227 := eq_true p227
            replace q227 := eq_true q227
            go_wp2_with (first | ((with_reducible refine gate_dst (N := 13) rfl ?_); refine box_event ?hg (N := 13) ?hd (cs := #[.int .i64 0, .int .u8 0, .int .i64 0]) (t := 46) ?hr ?_; (case hd => rfl); (case hg => rfl); (case hr => first | (go_simp; done) | (go_simp; rfl)); intro gb228 hg w43 hbox hb; have n0_ := Bx0 BK215 hb; have n1_ := Bx0 BK224 hb; have n2_ := Bx0 BK226 hb; have n3_ := Bs3 HB hb GE215.out GE224.out GE226.out; have n4_ := Ax (hbox); have n5_ := Gw3 HB hg GE215.out GE224.out GE226.out; have n6_ := Gw3 HB hg GE215.out GE224.out GE226.out; have n7_ := Nl0 BK215 hg; have n8_ := Nr0 BK215 hg; have n9_ := Nl0 BK224 hg; have n10_ := Nr0 BK224 hg; have n11_ := Nl0 BK226 hg; have n12_ := Nr0 BK226 hg; clear BK215; clear BK224; clear BK226; clear HB; have BK215 := n0_; have BK224 := n1_; have BK226 := n2_; have HB := n3_; have BK228 := n4_; have GW228 := n5_; have GE228 := n6_; have NB215_228 := n7_; have NB228_215 := n8_; have NB224_228 := n9_; have NB228_224 := n10_; have NB226_228 := n11_; have NB228_226 := n12_; clear n0_ n1_ n2_ n3_ n4_ n5_ n6_ n7_ n8_ n9_ n10_ n11_ n12_; clear hb hbox hg; have hnb44 := NB228_215.out; have hnc44 := NB215_228.out; have hnb45 := NB228_224.out; have hnc45 := NB224_228.out; have hnb46 := NB228_226.out; have hnc46 := NB226_228.out; obtain ⟨hcz47_0, hcz47_1, hcz47_2, hfz47_0, hfz47_1, hfz47_2⟩ := cl3 BK228; have hnb48 := NB226_215.out; have hnc48 := NB215_226.out; have hnb49 := NB226_224.out; have hnc49 := NB224_226.out; obtain ⟨hcz50_0, hcz50_1, hfz50_0, hfz50_1⟩ := cl2 BK226))
            go_roundg k2
            case measure => have := HJ8.out; have := HK2.out; omega
            case rel => exact ⟨(wrap64 (x56_2 + 1)), ((rd_T46 l1 x56_2).f1.f0), ((rd_T46 l1 x56_2).f1.f1), rS, H', ⟨by have := HJ8.out; have := HK2.out; omega⟩, ⟨bf5 BK215.out NB215_226.out NB215_226.out NB215_228.out NB215_228.out NB215_228.out⟩, ⟨bf5 BK224.out NB224_226.out NB224_226.out NB224_228.out NB224_228.out NB224_228.out⟩, ⟨by (with_reducible repeat (first | refine blk_drewN ?_ _ | refine blk_drew ?_ | refine blk_alloc ?_ _)); refine blk_put (cs := #[.int .u8 ((rd_T46 l1 x56_2).f1.f0), .int .i64 x227001_2]) ?_ 1 _ rfl; (with_reducible repeat (first | refine blk_drewN ?_ _ | refine blk_drew ?_ | refine blk_alloc ?_ _)); refine blk_put (cs := #[.int .u8 x227000_2, .int .i64 x227001_2]) ?_ 0 _ rfl; (with_reducible repeat (first | refine blk_drewN ?_ _ | refine blk_drew ?_ | refine blk_alloc ?_ _)); refine blk_far ?_ NB226_228.out _; (with_reducible repeat (first | refine blk_drewN ?_ _ | refine blk_drew ?_ | refine blk_alloc ?_ _)); refine blk_far ?_ NB226_228.out _; (with_reducible repeat (first | refine blk_drewN ?_ _ | refine blk_drew ?_ | refine blk_alloc ?_ _)); refine blk_far ?_ NB226_228.out _; (with_reducible repeat (first | refine blk_drewN ?_ _ | refine blk_drew ?_ | refine blk_alloc ?_ _)); exact BK226.out⟩, ⟨bw4 HB.out GE215.out GE224.out GE226.out GE228.out⟩⟩
           ·rw [if_neg c42] at H
            have c42b0 : decide (((rd_T46 l1 x56_2).f0) ≤ a2) = false := decide_eq_false c42
            clear c42
            have H' := Ax H
            clear H
            have p227 : 0 ≤ (x56_2 : Int) := of_decide_eq_true (by first | (with_reducible assumption) | assumption)
            have q227 : x56_2 < (l1.length : Int) := of_decide_eq_true (by first | (with_reducible assumption) | assumption)
            obtain ⟨ad227, e227, hx227_0, hx227_1, hx227_2⟩ := at_T46 HR1.out x56_2 p227 q227
            cases e227
            replace hx227_0 := (HB.out.cell (World.block_lt_of_cell? w _ hx227_0)).trans hx227_0
            replace hx227_1 := (HB.out.cell (World.block_lt_of_cell? w _ hx227_1)).trans hx227_1
            replace hx227_2 := (HB.out.cell (World.block_lt_of_cell? w _ hx227_2)).trans hx227_2
            replace p227 := eq_true p227
            replace q227 := eq_true q227
            go_wp2_with (first | ((with_reducible refine gate_dst (N := 13) rfl ?_); refine box_event ?hg (N := 13) ?hd (cs := #[.int .i64 0, .int .u8 0, .int .i64 0]) (t := 46) ?hr ?_; (case hd => rfl); (case hg => rfl); (case hr => first | (go_simp; done) | (go_simp; rfl)); intro gb228 hg w51 hbox hb; have n0_ := Bx0 BK215 hb; have n1_ := Bx0 BK224 hb; have n2_ := Bx0 BK226 hb; have n3_ := Bs3 HB hb GE215.out GE224.out GE226.out; have n4_ := Ax (hbox); have n5_ := Gw3 HB hg GE215.out GE224.out GE226.out; have n6_ := Gw3 HB hg GE215.out GE224.out GE226.out; have n7_ := Nl0 BK215 hg; have n8_ := Nr0 BK215 hg; have n9_ := Nl0 BK224 hg; have n10_ := Nr0 BK224 hg; have n11_ := Nl0 BK226 hg; have n12_ := Nr0 BK226 hg; clear BK215; clear BK224; clear BK226; clear HB; have BK215 := n0_; have BK224 := n1_; have BK226 := n2_; have HB := n3_; have BK228 := n4_; have GW228 := n5_; have GE228 := n6_; have NB215_228 := n7_; have NB228_215 := n8_; have NB224_228 := n9_; have NB228_224 := n10_; have NB226_228 := n11_; have NB228_226 := n12_; clear n0_ n1_ n2_ n3_ n4_ n5_ n6_ n7_ n8_ n9_ n10_ n11_ n12_; clear hb hbox hg; have hnb52 := NB228_215.out; have hnc52 := NB215_228.out; have hnb53 := NB228_224.out; have hnc53 := NB224_228.out; have hnb54 := NB228_226.out; have hnc54 := NB226_228.out; obtain ⟨hcz55_0, hcz55_1, hcz55_2, hfz55_0, hfz55_1, hfz55_2⟩ := cl3 BK228))
            go_roundg k2
            case measure => have := HJ8.out; have := HK2.out; omega
            case rel => exact ⟨(wrap64 (x56_2 + 1)), (x227000_2), (x227001_2), rS, H', ⟨by have := HJ8.out; have := HK2.out; omega⟩, ⟨bf3 BK215.out NB215_228.out NB215_228.out NB215_228.out⟩, ⟨bf3 BK224.out NB224_228.out NB224_228.out NB224_228.out⟩, ⟨bf3 BK226.out NB226_228.out NB226_228.out NB226_228.out⟩, ⟨bw4 HB.out GE215.out GE224.out GE226.out GE228.out⟩⟩
          ·rw [if_neg c41] at H
           exact absurd H (by simp)
         ·rw [if_neg c40] at H
          exact absurd H (by simp)
        ·rw [if_neg c39] at H
         have c39b0 : decide (x56_2 < (l1.length : Int)) = false := decide_eq_false c39
         clear c39
         by_cases c56 : t223 = 0
         ·rw [if_pos c56] at H
          have c56b0 : (t223 == 0) = true := beq_iff_eq.mpr c56
          have c56b1 : (t223 != 0) = false := bne_eq_false_iff_eq.mpr c56
          clear c56
          obtain rfl := Option.some.inj H
          have hnb57 := NB224_215.out
          have hnc57 := NB215_224.out
          have hnb58 := NB224_226.out
          have hnc58 := NB226_224.out
          obtain ⟨hcz59_0, hcz59_1, hfz59_0, hfz59_1⟩ := cl2 BK224
          have hnb60 := NB226_215.out
          have hnc60 := NB215_226.out
          obtain ⟨hcz61_0, hcz61_1, hfz61_0, hfz61_1⟩ := cl2 BK226
          go_wp2
          go_ret
          exact ⟨eS, bw3 HB.out GE215.out GE224.out GE226.out⟩
         ·rw [if_neg c56] at H
          have c56b0 : (t223 == 0) = false := beq_eq_false_iff_ne.mpr c56
          have c56b1 : (t223 != 0) = true := bne_iff_ne.mpr c56
          obtain rfl := Option.some.inj H
          go_wp2
          go_ret
          exact ⟨eS, bw3 HB.out GE215.out GE224.out GE226.out⟩
  ·rw [if_neg c7] at H
   have c7b0 : (t220 == 0) = false := beq_eq_false_iff_ne.mpr c7
   have c7b1 : (t220 != 0) = true := bne_iff_ne.mpr c7
   obtain rfl := Option.some.inj H
   go_enter Try.func5, Try.ntmps5
   go_wp2_with (first | ((with_reducible refine gate_dst (N := 3) rfl ?_); refine box_event ?hg (N := 3) ?hd (cs := #[.int .i64 a0_0, .int .i64 a0_1]) (t := 23) ?hr ?_; (case hd => rfl); (case hg => rfl); (case hr => first | (go_simp; done) | (go_simp; rfl)); intro gb215 hg w62 hbox hb; have n0_ := Bs0 HB hb; have n1_ := Ax (hbox); have n2_ := Gw0 HB hg; have n3_ := Gw0 HB hg; clear HB; have HB := n0_; have BK215 := n1_; have GW215 := n2_; have GE215 := n3_; clear n0_ n1_ n2_ n3_; clear hb hbox hg) | ((with_reducible refine gate_callee (f := 10) rfl ?_); refine goesL_ (some 14) rfl rfl Try.func10 (by kernel_rfl) rfl #[] rfl gS ?_; (with_reducible refine (spoorlaw20_lives.calls k  true _ A4.out).mono ?_); rintro e w63 ⟨rfl, hb⟩; refine ⟨_, rfl, ?_⟩; replace BK215 := Bx0 BK215 hb; replace HB := Bs1 HB hb GE215.out; (try clear hb); obtain ⟨hcz64_0, hcz64_1, hfz64_0, hfz64_1⟩ := cl2 BK215) | ((with_reducible refine gate_callee (f := 8) rfl ?_); refine goesL_ (some 19) rfl rfl Try.func8 (by kernel_rfl) rfl #[.agg #[.int .i64 a0_0, .int .i64 a0_1], .slice A1 l1.length c1] rfl gS ?_; (with_reducible refine (line_Make.calls k a0_0 a0_1 _ _ l1 t217 t220 _ ?side1 ?side2 A6.out).mono ?_); (case side1 => repeat (first | exact (Kd.C_below HR1.out HB.out) | (with_reducible refine Kd.C_alloc ?_ _) | (with_reducible refine Kd.C_drewN ?_ _) | (with_reducible refine Kd.C_drew ?_))); (case side2 => exact HC1.out); rintro e w65 ⟨v218, rfl, ho0, hb⟩; refine ⟨_, rfl, ?_⟩; have HO219 := Ax (Kd.R_lower ho0 (below_size (bw1 HB.out GE215.out))); replace BK215 := Bx0 BK215 hb; replace HB := Bs1 HB hb GE215.out; (try clear hb); (try clear ho0); obtain ⟨Ao66, co66, eo66⟩ := Kd.R_slice HO219.out; subst eo66))
   go_ret
   exact ⟨eS, bw1 HB.out GE215.out⟩
 ·replace c5 := Bool.eq_false_iff.mpr c5
  subst c5
  have H1 : (none) = some r := by rw [if_neg (show ¬ (false = true) by decide)] at H; exact H
  clear H
  have H := H1
  clear H1
  exact absurd H (by simp)
end Go.Proofs.Ytghklhdooemjdaa.Q
end
section
namespace Go.Proofs.Ytghklhdooemjdaa.Open
set_option linter.unusedVariables false
open Go.RowKit Go.WideShapes Go.Proofs.YtghklhdooemjdaaW.PrintWords Go.Proofs.YtghklhdooemjdaaW.PrintLast Go.Proofs.YtghklhdooemjdaaW.PrintMore
open Go.Proofs.Ytghklhdooemjdaa.Rows (uptoBulk uptoBulkAll)
def Opens {α : Type} (P : Program) (t : TypeId) (K : Kd α) (wf : α → Prop) (mu : α → Nat) : Prop :=
  ∀ {H : Type} (enc : TypeId × Value → H) (W : World) (spare : Nat → Bool) (held : Bool) (n : Nat) (cs : List Value) (x : DataW H × List MemPlace),
    DataW.trod enc P W 0 spare held n t cs = some x → ∃ a, K.K W a cs ∧ wf a ∧ mu a ≤ uptoBulk x.1
def wfInt (k : IntKind) (n : Int) : Prop := (Lit.int k n).wf = true
def wfAll {α : Type} (wf : α → Prop) (l : List α) : Prop := ∀ a ∈ l, wf a
def mu1 {α : Type} (_ : α) : Nat := 1
def muAll {α : Type} (mu : α → Nat) : List α → Nat
  | [] => 1
  | a :: l => mu a + muAll mu l
theorem wfAll_nil {α : Type} (wf : α → Prop) : wfAll wf [] := fun _ h => by cases h
theorem opens_int {P : Program} {t : TypeId} {k : IntKind} (hu : P.underlying t = some (.int k)) : Opens P t (Kd.int k) (wfInt k) mu1 := by
  intro H enc W spare held n cs x h
  obtain ⟨a, rfl, rfl, hw⟩ := DataW.trod_int hu h
  exact ⟨a, rfl, hw, by simp [mu1, uptoBulk]⟩
theorem muAll_len {α : Type} {mu : α → Nat} (hm : ∀ a, 1 ≤ mu a) : ∀ l : List α, l.length + 1 ≤ muAll mu l
  | [] => Nat.le_refl _
  | a :: l => by
    have := muAll_len hm l
    have := hm a
    simp only [muAll, List.length_cons]
    omega
theorem opens_list {α H : Type} {P : Program} {e : TypeId} {K : Kd α} {wf : α → Prop} {mu : α → Nat} (he : Opens P e K wf mu) (enc : TypeId × Value → H) (W : World) (spare : Nat → Bool) (held : Bool) (n : Nat) (rd : Nat → Option (List Value)) :
    ∀ (elems : List (DataW H × List MemPlace)) (off : Nat), (∀ i, i < elems.length → (rd (off + i)).bind (DataW.trod enc P W 0 spare held n e) = elems[i]?) →
      ∃ l : List α, l.length = elems.length ∧ (∀ i a, l[i]? = some a → ∃ cs, rd (off + i) = some cs ∧ K.K W a cs) ∧ wfAll wf l ∧ muAll mu l ≤ uptoBulkAll (elems.map (·.1)) + 1
  | [], off, _ => ⟨[], rfl, (fun i a h => by simp at h), wfAll_nil _, by simp [muAll, uptoBulkAll]⟩
  | x :: elems, off, h => by
    have h0 := h 0 (by simp)
    simp only [Nat.add_zero, List.getElem?_cons_zero] at h0
    obtain ⟨cs, hc, ht⟩ := Option.bind_eq_some_iff.1 h0
    obtain ⟨a, hK, hw, hm⟩ := he enc W spare held n cs x ht
    obtain ⟨l, hl, hr, hwf, hmu⟩ := opens_list he enc W spare held n rd elems (off + 1) (fun i hi => by
      have := h (i + 1) (by simp; omega)
      rw [List.getElem?_cons_succ] at this
      rwa [show off + 1 + i = off + (i + 1) by omega])
    refine ⟨a :: l, by simp [hl], ?_, ?_, ?_⟩
    · intro i b hb
      cases i with
      | zero =>
        obtain rfl : a = b := by simpa using hb
        exact ⟨cs, hc, hK⟩
      | succ i =>
        rw [List.getElem?_cons_succ] at hb
        obtain ⟨cs', h1, h2⟩ := hr i b hb
        exact ⟨cs', by rwa [show off + (i + 1) = off + 1 + i by omega], h2⟩
    · intro b hb
      rcases List.mem_cons.1 hb with rfl | hb
      · exact hw
      · exact hwf b hb
    · simp only [muAll, List.map_cons, uptoBulkAll]
      omega
theorem cells_some {W : World} {ad : Addr} {n : Nat} {cs : List Value} (h : W.cells? 0 ad n = some cs) : cs.length = n ∧ ∀ i u, cs[i]? = some u → W.cell? (ad.add i) = some u := by
  obtain ⟨_, hl, hc⟩ := World.cells?_some h
  refine ⟨hl, fun i u hi => ?_⟩
  rw [hc i (by rw [← hl]; exact (List.getElem?_eq_some_iff.1 hi).1)]
  exact hi
theorem opens_slice {α : Type} {P : Program} {t e : TypeId} {K : Kd α} {wf : α → Prop} {mu : α → Nat} (he : Opens P e K wf mu) (hu : P.underlying t = some (.slice e)) (hsz : P.cellsOf e = K.sz) (e' : Nat) :
    Opens P t (Kd.slice e' K) (fun l => wfAll wf l ∧ l.length ≤ maxLen) (muAll mu) := by
  intro H enc W spare held n cs x h
  rcases DataW.trod_slice hu h with ⟨rfl, rfl⟩ | ⟨a, len, cap, elems, rest, m, rfl, rfl, rfl, _, hlc, hcm, hel, hrd, _, _⟩
  · exact ⟨[], ⟨none, 0, rfl, Nat.le_refl _, rfl, Nat.zero_le _, fun h => absurd h (Nat.lt_irrefl _)⟩, ⟨wfAll_nil _, by simp⟩, by simp [muAll, uptoBulk]⟩
  · obtain ⟨l, hl, hr, hw, hm⟩ := opens_list he enc W spare held m (fun i => W.cells? 0 (a.add (i * P.cellsOf e)) (P.cellsOf e)) elems 0 (fun i hi => by
      rw [Nat.zero_add]
      exact hrd i (by omega))
    refine ⟨l, ⟨some a, cap, by rw [hl, hel], by omega, ?_⟩, ⟨hw, by omega⟩, ?_⟩
    · refine ⟨rfl, by simp only [maxLen] at hcm; omega, fun _ => ⟨a, rfl, fun j p hp => ?_⟩⟩
      obtain ⟨cs, hc, hK⟩ := hr j p hp
      rw [Nat.zero_add] at hc
      obtain ⟨h1, h2⟩ := cells_some hc
      refine ⟨cs, by rw [h1, hsz], hK, fun i u hi => ?_⟩
      have := h2 i u hi
      rwa [Addr.add_add, hsz] at this
    · simp only [uptoBulk]
      omega
end Go.Proofs.Ytghklhdooemjdaa.Open
end
section
namespace Go.Proofs.Ytghklhdooemjdaa.Q
set_option linter.unusedVariables false
set_option linter.unusedSimpArgs false
open Go.RowKit Go.Proofs.YtghklhdooemjdaaW.PrintWords Go.Proofs.YtghklhdooemjdaaW.PrintLast Go.Proofs.YtghklhdooemjdaaW.PrintMore Go.Proofs.Ytghklhdooemjdaa.Open
open Go.Proofs.Ytghklhdooemjdaa.Rows (uptoBulk uptoBulkAll)
def wf23 (x : S23) : Prop := (wfInt .i64) x.f0 ∧ (wfInt .i64) x.f1
def mu23 (x : S23) : Nat := mu1 x.f0 + mu1 x.f1 + 1
set_option maxRecDepth 100000 in
theorem opn23 : Opens Try.prog 23 k23 wf23 mu23 := by
  intro H enc W spare held n cs x h
  obtain ⟨xs, m, rfl, rfl, hl, hs, hf⟩ := DataW.trod_struct Try.underlying23 h
  have hc : cs.length = 2 := hl.trans (by kernel_rfl)
  have hx : xs.length = 2 := hs
  clear hl hs h
  match cs, hc, xs, hx, hf with
  | [c0, c1], _, [y0, y1], _, hf =>
    have e0 : Try.prog.cellsOf 2 = 1 := by kernel_rfl
    have e1 : Try.prog.cellsOf 2 = 1 := by kernel_rfl
    have g0 := hf 0 _ rfl
    simp only [List.getElem_toArray, List.getElem_cons_zero, List.getElem_cons_succ, e0] at g0
    obtain ⟨a0, K0, w0, m0⟩ := (opens_int Try.underlying2) enc W spare held m [c0] y0 g0
    have g1 := hf 1 _ rfl
    simp only [List.getElem_toArray, List.getElem_cons_zero, List.getElem_cons_succ, e1] at g1
    obtain ⟨a1, K1, w1, m1⟩ := (opens_int Try.underlying2) enc W spare held m [c1] y1 g1
    exact ⟨⟨a0, a1⟩, ⟨[c0], [c1], rfl, K0, K1⟩, ⟨w0, w1⟩, by simp only [mu23, List.map_cons, List.map_nil, uptoBulk, uptoBulkAll]; omega⟩
def wf35 (x : S35) : Prop := (wfInt .u8) x.f0 ∧ (wfInt .i64) x.f1
def mu35 (x : S35) : Nat := mu1 x.f0 + mu1 x.f1 + 1
set_option maxRecDepth 100000 in
theorem opn35 : Opens Try.prog 35 k35 wf35 mu35 := by
  intro H enc W spare held n cs x h
  obtain ⟨xs, m, rfl, rfl, hl, hs, hf⟩ := DataW.trod_struct Try.underlying35 h
  have hc : cs.length = 2 := hl.trans (by kernel_rfl)
  have hx : xs.length = 2 := hs
  clear hl hs h
  match cs, hc, xs, hx, hf with
  | [c0, c1], _, [y0, y1], _, hf =>
    have e0 : Try.prog.cellsOf 33 = 1 := by kernel_rfl
    have e1 : Try.prog.cellsOf 3 = 1 := by kernel_rfl
    have g0 := hf 0 _ rfl
    simp only [List.getElem_toArray, List.getElem_cons_zero, List.getElem_cons_succ, e0] at g0
    obtain ⟨a0, K0, w0, m0⟩ := (opens_int Try.underlying33) enc W spare held m [c0] y0 g0
    have g1 := hf 1 _ rfl
    simp only [List.getElem_toArray, List.getElem_cons_zero, List.getElem_cons_succ, e1] at g1
    obtain ⟨a1, K1, w1, m1⟩ := (opens_int Try.underlying3) enc W spare held m [c1] y1 g1
    exact ⟨⟨a0, a1⟩, ⟨[c0], [c1], rfl, K0, K1⟩, ⟨w0, w1⟩, by simp only [mu35, List.map_cons, List.map_nil, uptoBulk, uptoBulkAll]; omega⟩
def wf46 (x : S46) : Prop := (wfInt .i64) x.f0 ∧ wf35 x.f1
def mu46 (x : S46) : Nat := mu1 x.f0 + mu35 x.f1 + 1
set_option maxRecDepth 100000 in
theorem opn46 : Opens Try.prog 46 k46 wf46 mu46 := by
  intro H enc W spare held n cs x h
  obtain ⟨xs, m, rfl, rfl, hl, hs, hf⟩ := DataW.trod_struct Try.underlying46 h
  have hc : cs.length = 3 := hl.trans (by kernel_rfl)
  have hx : xs.length = 2 := hs
  clear hl hs h
  match cs, hc, xs, hx, hf with
  | [c0, c1, c2], _, [y0, y1], _, hf =>
    have e0 : Try.prog.cellsOf 2 = 1 := by kernel_rfl
    have e1 : Try.prog.cellsOf 35 = 2 := by kernel_rfl
    have g0 := hf 0 _ rfl
    simp only [List.getElem_toArray, List.getElem_cons_zero, List.getElem_cons_succ, e0] at g0
    obtain ⟨a0, K0, w0, m0⟩ := (opens_int Try.underlying2) enc W spare held m [c0] y0 g0
    have g1 := hf 1 _ rfl
    simp only [List.getElem_toArray, List.getElem_cons_zero, List.getElem_cons_succ, e1] at g1
    obtain ⟨a1, K1, w1, m1⟩ := opn35 enc W spare held m [c1, c2] y1 g1
    exact ⟨⟨a0, a1⟩, ⟨[c0], [c1, c2], rfl, K0, K1⟩, ⟨w0, w1⟩, by simp only [mu46, List.map_cons, List.map_nil, uptoBulk, uptoBulkAll]; omega⟩
end Go.Proofs.Ytghklhdooemjdaa.Q
end
section
namespace Go.Proofs.Ytghklhdooemjdaa.Q
set_option linter.unusedVariables false
open Go.RowKit Go.Proofs.YtghklhdooemjdaaW.PrintWords Go.Proofs.YtghklhdooemjdaaW.PrintLast Go.Proofs.YtghklhdooemjdaaW.PrintMore Go.Proofs.Ytghklhdooemjdaa.Open
def spoorlaw20_LineTells.PureUpto : Prop := ∀ (a0_0 : Int) (a0_1 : Int) (l1 : List (S46)) (a2 : Int), wf23 (⟨a0_0, a0_1⟩ : S23) → (fun l => wfAll wf46 l ∧ l.length ≤ maxLen) l1 → (wfInt .i64) a2 → mu23 (⟨a0_0, a0_1⟩ : S23) + (muAll mu46) l1 + mu1 a2 ≤ 1048576 → ∃ k, spoorlaw20_LineTells.f k a0_0 a0_1 l1 a2 = some true
end Go.Proofs.Ytghklhdooemjdaa.Q
end
section
namespace Go.Proofs.Ytghklhdooemjdaa.Base
set_option linter.unusedVariables false
open Go.RowKit Go.Proofs.YtghklhdooemjdaaW.PrintWords Go.Proofs.YtghklhdooemjdaaW.PrintLast Go.Proofs.YtghklhdooemjdaaW.PrintMore
theorem Ev.pos {α : Type} {c : Prop} [Decidable c] {f g : Nat → Option α} {r : α} (h : c) (k : Ev f r) : Ev (fun n => if c then f n else g n) r := Ev.congr (fun _ => if_pos h) k
theorem Ev.neg {α : Type} {c : Prop} [Decidable c] {f g : Nat → Option α} {r : α} (h : ¬ c) (k : Ev g r) : Ev (fun n => if c then f n else g n) r := Ev.congr (fun _ => if_neg h) k
theorem Ev.const {α : Type} {o : Option α} {r : α} (h : o = some r) : Ev (fun _ => o) r := ⟨0, fun _ _ => h⟩
theorem Ev.succ {α : Type} {g : Nat → Option α} {r : α} (h : Ev (fun k => g (k + 1)) r) : Ev g r := Ev.step (fun _ => rfl) h
theorem Ev.to {α : Type} {g : Nat → Option α} {r q : α} (h : Ev g r) (e : r = q) : Ev g q := e ▸ h
theorem w64 {n : Int} (h0 : -9223372036854775808 ≤ n) (h1 : n ≤ 9223372036854775807) : wrap64 n = n := by unfold wrap64; omega
theorem wf_i64 {n : Int} (h : (Lit.int .i64 n).wf = true) : -9223372036854775808 ≤ n ∧ n ≤ 9223372036854775807 := by
  have h1 : IntKind.i64.min ≤ n ∧ n ≤ IntKind.i64.max := by simpa [Lit.wf] using h
  have a : IntKind.i64.min = -9223372036854775808 := by decide
  have b : IntKind.i64.max = 9223372036854775807 := by decide
  omega
def Bytes (l : List Int) : Prop := ∀ x ∈ l, 0 ≤ x ∧ x < 256
theorem Bytes.nil : Bytes [] := fun _ h => by cases h
theorem Bytes.cons {x : Int} {l : List Int} (h0 : 0 ≤ x) (h1 : x < 256) (h : Bytes l) : Bytes (x :: l) := fun y hy => by
  rcases List.mem_cons.1 hy with rfl | hy
  · exact ⟨h0, h1⟩
  · exact h y hy
theorem Bytes.head {x : Int} {l : List Int} (h : Bytes (x :: l)) : 0 ≤ x ∧ x < 256 := h x (by simp)
theorem Bytes.append {a b : List Int} (ha : Bytes a) (hb : Bytes b) : Bytes (a ++ b) := fun x hx => (List.mem_append.1 hx).elim (ha x) (hb x)
theorem Bytes.left {a b : List Int} (h : Bytes (a ++ b)) : Bytes a := fun x hx => h x (by simp [hx])
theorem Bytes.right {a b : List Int} (h : Bytes (a ++ b)) : Bytes b := fun x hx => h x (by simp [hx])
theorem Bytes.drop {l : List Int} (h : Bytes l) (n : Nat) : Bytes (l.drop n) := fun x hx => h x (List.mem_of_mem_drop hx)
theorem Bytes.take {l : List Int} (h : Bytes l) (n : Nat) : Bytes (l.take n) := fun x hx => h x (List.mem_of_mem_take hx)
end Go.Proofs.Ytghklhdooemjdaa.Base
end
section
namespace Go.Proofs.Ytghklhdooemjdaa.Line
set_option linter.unusedVariables false
open Go.RowKit Go.Proofs.Ytghklhdooemjdaa.Q Go.Proofs.YtghklhdooemjdaaW.PrintWords Go.Proofs.YtghklhdooemjdaaW.PrintLast Go.Proofs.Ytghklhdooemjdaa.Base Go.Proofs.Ytghklhdooemjdaa.Open
abbrev Iv := S23
abbrev Er := S52
abbrev Vd := S35
abbrev Mk := S46
abbrev Rn := S102
theorem dlt {α : Type} {l : List α} {i : Nat} {c : α} {m : List α} (h : l.drop i = c :: m) : i < l.length := by
  have := congrArg List.length h
  simp at this
  omega
theorem dnext {α : Type} {l : List α} {i : Nat} {x : α} {r : List α} (h : l.drop i = x :: r) : l.drop (i + 1) = r := by rw [← List.drop_drop, h]; rfl
theorem rdV {l : List Er} {i : Nat} {x : Er} {r : List Er} (h : l.drop i = x :: r) : rd_T52 l (i : Int) = x := by
  have e : l[i]? = some x := by rw [← List.head?_drop, h]; rfl
  simp [rd_T52, List.getD_eq_getElem?_getD, e]
theorem rdM {l : List Mk} {i : Nat} {x : Mk} {r : List Mk} (h : l.drop i = x :: r) : rd_T46 l (i : Int) = x := by
  have e : l[i]? = some x := by rw [← List.head?_drop, h]; rfl
  simp [rd_T46, List.getD_eq_getElem?_getD, e]
theorem rdI {l : List Iv} {i : Nat} {x : Iv} {r : List Iv} (h : l.drop i = x :: r) : rd_T23 l (i : Int) = x := by
  have e : l[i]? = some x := by rw [← List.head?_drop, h]; rfl
  simp [rd_T23, List.getD_eq_getElem?_getD, e]
def runOf (x : Iv) : Rn := ⟨x.f0, x.f1⟩
theorem runs_l (l : List Iv) (hl : l.length ≤ 17592186044416) : ∀ (r : List Iv) (i : Nat) (a : List Rn), l.drop i = r → a.length = i → i ≤ l.length →
    Ev (fun k => ivl_runs.l0 k (a ++ List.replicate (l.length - i) z102) l (l.length : Int) (i : Int)) (a ++ r.map runOf)
  | [], i, a, hd, ha, hi => by
    have h1 : l.length ≤ i := List.drop_eq_nil_iff.1 hd
    refine Ev.succ ?_
    simp only [ivl_runs.l0]
    refine Ev.neg (by omega) (Ev.const ?_)
    rw [show l.length - i = 0 by omega]
    rfl
  | x :: r, i, a, hd, ha, hi => by
    have hlt := dlt hd
    refine Ev.succ ?_
    simp only [ivl_runs.l0, rdI hd]
    refine Ev.pos (by omega) (Ev.pos (by omega) (Ev.pos (by omega) (Ev.pos (by rw [List.length_append, List.length_replicate]; omega) ?_)))
    rw [w64 (by omega) (by omega), show ((i : Int) + 1) = ((i + 1 : Nat) : Int) by omega, Int.toNat_natCast]
    have e : (a ++ List.replicate (l.length - i) z102).set i (⟨x.f0, x.f1⟩ : Rn) = (a ++ [runOf x]) ++ List.replicate (l.length - (i + 1)) z102 := by
      rw [show l.length - i = (l.length - (i + 1)) + 1 by omega, List.replicate_succ, List.set_append_right _ _ (by omega), ha, Nat.sub_self, List.append_assoc]
      rfl
    rw [e]
    refine Ev.to (runs_l l hl r (i + 1) (a ++ [runOf x]) (dnext hd) (by simp [ha]) (by omega)) ?_
    rw [List.append_assoc]
    rfl
theorem runs_ev (l : List Iv) (hl : l.length ≤ 17592186044416) : Ev (fun k => ivl_runs.f k l) (l.map runOf) := by
  simp only [ivl_runs.f, Int.toNat_natCast]
  refine Ev.pos (by omega) (Ev.pos hl ?_)
  exact runs_l l hl l 0 [] rfl rfl (Nat.zero_le _)
theorem ivl_ev (l : List Iv) : Ev (fun k => ivl_Check.f k l) (if l.length ≤ 1024 ∧ soundL none (l.map runOf) = true then 0 else 2) := by
  simp only [ivl_Check.f]
  by_cases h : 1024 < (l.length : Int)
  · rw [if_neg (by omega)]
    exact Ev.pos h (Ev.const rfl)
  · refine Ev.neg h (Ev.bind (runs_ev l (by omega)) (Ev.const ?_))
    by_cases s : soundL none (l.map runOf) = true
    · rw [if_pos s, if_pos ⟨by omega, s⟩]
    · rw [if_neg s, if_neg (fun hh => s hh.2)]
def winP (a b : Int) : Prop := 0 ≤ a ∧ a ≤ b ∧ b ≤ 1099511627776
instance (a b : Int) : Decidable (winP a b) := by unfold winP; infer_instance
theorem win_ev (a b : Int) : Ev (fun k => line_window.f k a b) (decide (winP a b)) := by
  simp only [line_window.f]
  refine Ev.bind (ivl_ev _) (Ev.const ?_)
  have e : soundL none (List.map runOf [(⟨a, b⟩ : Iv)]) = decide (winP a b) := by
    show (if a < 0 ∨ b < a ∨ 1099511627776 < b then false else true) = _
    by_cases h : winP a b
    · rw [if_neg (by unfold winP at h; omega), decide_eq_true h]
    · rw [if_pos (by unfold winP at h; omega), decide_eq_false h]
  rw [e]
  by_cases h : winP a b
  · rw [decide_eq_true h, if_pos ⟨by simp, rfl⟩]; rfl
  · rw [decide_eq_false h, if_neg (fun hh => by cases hh.2)]; rfl
def stepB (w1 : Int) (p : Option Er) (x : Er) : Bool := rightB x.f1 && decide (x.f0.f0 ≤ x.f0.f1) && decide (x.f0.f1 ≤ w1) && (match p with
  | none => true
  | some q => decide (x.f0.f0 - 1 = q.f0.f1) && !(x.f1.f0 == q.f1.f0 && x.f1.f1 == q.f1.f1))
def chkB (w1 : Int) : Option Er → List Er → Bool
  | _, [] => true
  | p, x :: xs => stepB w1 p x && chkB w1 (some x) xs
def prevOf (l : List Er) (i : Nat) : Option Er := if i = 0 then none else l[i - 1]?
def ec (b : Bool) : Int := if b = true then 0 else 2
theorem j2_no (l m : List Er) (i n j a b c d e f : Int) : Ev (fun k => line_Check.j2 k l i m n j true a b c d e f) 2 := by
  refine Ev.succ ?_
  simp only [line_Check.j2]
  exact Ev.pos trivial (Ev.const rfl)
def bndE (x : Er) : Prop := -9223372036854775808 ≤ x.f0.f0 ∧ x.f0.f0 ≤ 9223372036854775807 ∧ -9223372036854775808 ≤ x.f0.f1 ∧ x.f0.f1 ≤ 9223372036854775807
theorem chk_l (l : List Er) (hw : ∀ x ∈ l, bndE x) (hl : l.length ≤ 1024) (w0 w1 : Int) (hw1 : w1 ≤ 1099511627776) : ∀ (r : List Er) (i : Nat), l.drop i = r → (∀ q, prevOf l i = some q → q.f0.f1 ≤ w1) → Ev (fun k => line_Check.l0 k l l (l.length : Int) (i : Int) w0 w1) (ec (chkB w1 (prevOf l i) r))
  | [], i, hd, hpv => by
    have h1 : l.length ≤ i := List.drop_eq_nil_iff.1 hd
    refine Ev.succ ?_
    simp only [line_Check.l0]
    exact Ev.neg (by omega) (Ev.const rfl)
  | x :: r, i, hd, hpv => by
    have hlt := dlt hd
    have hxb := hw x (List.mem_of_mem_drop (i := i) (by rw [hd]; simp))
    unfold bndE at hxb
    have hp : prevOf l (i + 1) = some x := by
      unfold prevOf
      rw [if_neg (by omega), Nat.add_sub_cancel, ← List.head?_drop, hd]
      rfl
    have ih : x.f0.f1 ≤ w1 → Ev (fun k => line_Check.l0 k l l (l.length : Int) ((i + 1 : Nat) : Int) w0 w1) (ec (chkB w1 (some x) r)) := fun hx1 => by
      have := chk_l l hw hl w0 w1 hw1 r (i + 1) (dnext hd) (fun q hq => by rw [hp] at hq; cases hq; exact hx1)
      rwa [hp] at this
    refine Ev.succ ?_
    simp only [line_Check.l0, rdV hd]
    refine Ev.pos (by omega) (Ev.pos (by omega) (Ev.pos (by omega) ?_))
    rw [right_some]
    simp only [Option.bind_some, chkB]
    by_cases h1 : rightB x.f1 = true
    · refine Ev.pos h1 ?_
      by_cases h2 : x.f0.f1 < x.f0.f0
      · have e : stepB w1 (prevOf l i) x = false := by unfold stepB; rw [decide_eq_false (show ¬ x.f0.f0 ≤ x.f0.f1 by omega)]; simp
        rw [e]
        exact Ev.pos h2 (j2_no ..)
      · refine Ev.neg h2 ?_
        by_cases h3 : x.f0.f1 > w1
        · have e : stepB w1 (prevOf l i) x = false := by unfold stepB; rw [decide_eq_false (show ¬ x.f0.f1 ≤ w1 by omega)]; simp
          rw [e, decide_eq_true h3]
          exact j2_no ..
        · rw [decide_eq_false h3]
          refine Ev.succ ?_
          simp only [line_Check.j2]
          refine Ev.neg (by simp) ?_
          by_cases h4 : (i : Int) > 0
          · refine Ev.pos h4 ?_
            obtain ⟨q, hq⟩ : ∃ q, l[i - 1]? = some q := ⟨_, List.getElem?_eq_getElem (by omega)⟩
            have hpq : prevOf l i = some q := by unfold prevOf; rw [if_neg (by omega)]; exact hq
            have hqb := hw q (List.mem_of_getElem? hq)
            unfold bndE at hqb
            have hrd : rd_T52 l (wrap64 ((i : Int) - 1)) = q := by
              rw [w64 (by omega) (by omega), show ((i : Int) - 1) = ((i - 1 : Nat) : Int) by omega]
              simp [rd_T52, List.getD_eq_getElem?_getD, hq]
            rw [hpq, hrd]
            refine Ev.pos (by rw [w64 (by omega) (by omega)]; omega) (Ev.pos (by rw [w64 (by omega) (by omega)]; omega) ?_)
            have hs : stepB w1 (some q) x = (decide (x.f0.f0 - 1 = q.f0.f1) && !(x.f1.f0 == q.f1.f0 && x.f1.f1 == q.f1.f1)) := by
              unfold stepB
              rw [h1, decide_eq_true (show x.f0.f0 ≤ x.f0.f1 by omega), decide_eq_true (show x.f0.f1 ≤ w1 by omega)]
              simp
            rw [hs]
            by_cases h5 : x.f0.f0 - 1 = q.f0.f1
            · refine Ev.pos (by rw [w64 (by omega) (by omega)]; exact h5) ?_
              rw [decide_eq_true h5]
              by_cases h6 : (x.f1.f0 == q.f1.f0 && x.f1.f1 == q.f1.f1) = true
              · rw [h6]
                exact Ev.pos rfl (Ev.const rfl)
              · refine Ev.neg h6 ?_
                rw [Bool.eq_false_iff.2 h6, w64 (by omega) (by omega), show ((i : Int) + 1) = ((i + 1 : Nat) : Int) by omega]
                exact ih (by omega)
            · rw [decide_eq_false h5]
              refine Ev.neg (fun hh => ?_) (Ev.const rfl)
              rcases Int.lt_or_le x.f0.f0 (-9223372036854775807) with hm | hm
              · have e1 : x.f0.f0 = -9223372036854775808 := by omega
                rw [e1] at hh
                have e2 : wrap64 (-9223372036854775808 - 1) = 9223372036854775807 := by unfold wrap64; omega
                rw [e2] at hh
                have := hpv q hpq
                omega
              · rw [w64 (by omega) (by omega)] at hh
                exact h5 hh
          · refine Ev.neg h4 ?_
            obtain rfl : i = 0 := by omega
            have hs : stepB w1 (prevOf l 0) x = true := by
              unfold stepB prevOf
              rw [h1, decide_eq_true (show x.f0.f0 ≤ x.f0.f1 by omega), decide_eq_true (show x.f0.f1 ≤ w1 by omega)]
              rfl
            rw [hs, w64 (by omega) (by omega)]
            exact ih (by omega)
    · refine Ev.neg h1 ?_
      have e : stepB w1 (prevOf l i) x = false := by unfold stepB; rw [Bool.eq_false_iff.2 h1]; simp
      rw [e]
      exact j2_no ..
def lineB (w0 w1 : Int) (l : List Er) : Bool := decide (winP w0 w1) && decide (0 < l.length) && decide (l.length ≤ 1024) && decide ((rd_T52 l 0).f0.f0 = w0) && decide ((rd_T52 l ((l.length - 1 : Nat) : Int)).f0.f1 = w1) && chkB w1 none l
theorem j0_no (l : List Er) (a b : Int) : Ev (fun k => line_Check.j0 k l true a b) 2 := by
  refine Ev.succ ?_
  simp only [line_Check.j0]
  exact Ev.pos trivial (Ev.const rfl)
theorem check_ev (l : List Er) (hw : ∀ x ∈ l, bndE x) (w0 w1 : Int) : Ev (fun k => line_Check.f k w0 w1 l) (ec (lineB w0 w1 l)) := by
  simp only [line_Check.f]
  refine Ev.bind (win_ev w0 w1) ?_
  by_cases c0 : winP w0 w1
  case neg =>
    have e : lineB w0 w1 l = false := by unfold lineB; rw [decide_eq_false c0]; simp
    rw [e, decide_eq_false c0]
    exact Ev.neg (by simp) (j0_no ..)
  rw [decide_eq_true c0]
  refine Ev.pos rfl ?_
  by_cases c1 : l.length = 0
  · have e : lineB w0 w1 l = false := by unfold lineB; rw [decide_eq_false (show ¬ 0 < l.length by omega)]; simp
    rw [e]
    exact Ev.pos (by omega) (j0_no ..)
  refine Ev.neg (by omega) ?_
  by_cases c2 : l.length ≤ 1024
  case neg =>
    have e : lineB w0 w1 l = false := by unfold lineB; rw [decide_eq_false c2]; simp
    rw [e]
    exact Ev.pos (by omega) (j0_no ..)
  refine Ev.neg (by omega) (Ev.pos (by omega) ?_)
  by_cases c3 : (rd_T52 l 0).f0.f0 = w0
  case neg =>
    have e : lineB w0 w1 l = false := by unfold lineB; rw [decide_eq_false c3]; simp
    rw [e]
    exact Ev.neg c3 (j0_no ..)
  refine Ev.pos c3 ?_
  rw [w64 (by omega) (by omega), show ((l.length : Int) - 1) = ((l.length - 1 : Nat) : Int) by omega]
  refine Ev.pos (by omega) (Ev.pos (by omega) ?_)
  by_cases c4 : (rd_T52 l ((l.length - 1 : Nat) : Int)).f0.f1 = w1
  case neg =>
    have e : lineB w0 w1 l = false := by unfold lineB; rw [decide_eq_false c4]; simp
    rw [e, bne_iff_ne.mpr c4]
    exact j0_no ..
  have e : lineB w0 w1 l = chkB w1 none l := by
    unfold lineB
    rw [decide_eq_true c0, decide_eq_true (show 0 < l.length by omega), decide_eq_true c2, decide_eq_true c3, decide_eq_true c4]
    simp
  rw [e, c4, bne_self_eq_false]
  refine Ev.succ ?_
  simp only [line_Check.j0]
  refine Ev.neg (by simp) ?_
  exact chk_l l hw c2 w0 w1 (by unfold winP at c0; omega) l 0 rfl (fun q hq => by simp [prevOf] at hq)
def cont : Int → List Er → Option Int
  | f, [] => some f
  | f, x :: xs => if x.f0.f0 = f ∧ f ≤ x.f0.f1 ∧ rightB x.f1 = true then cont (x.f0.f1 + 1) xs else none
def sameV (a b : Vd) : Prop := a.f0 = b.f0 ∧ a.f1 = b.f1
instance (a b : Vd) : Decidable (sameV a b) := by unfold sameV; infer_instance
theorem sameV_eq {a b : Vd} (h : sameV a b) : a = b := by
  obtain ⟨h1, h2⟩ := h
  cases a; cases b
  simp only at h1 h2
  rw [h1, h2]
def alt : Option Vd → List Er → Prop
  | _, [] => True
  | none, x :: xs => alt (some x.f1) xs
  | some v, x :: xs => ¬ sameV x.f1 v ∧ alt (some x.f1) xs
def val (t : Int) : List Er → Vd
  | [] => ⟨0, 0⟩
  | x :: xs => if t ≤ x.f0.f1 then x.f1 else val t xs
theorem cont_le : ∀ (l : List Er) (f a : Int), cont f l = some a → f ≤ a
  | [], f, a, h => by
    obtain rfl := Option.some.inj h
    omega
  | x :: xs, f, a, h => by
    unfold cont at h
    by_cases c : x.f0.f0 = f ∧ f ≤ x.f0.f1 ∧ rightB x.f1 = true
    · rw [if_pos c] at h
      have := cont_le xs _ a h
      omega
    · rw [if_neg c] at h
      cases h
theorem cont_snoc : ∀ (l : List Er) (f a : Int) (x : Er), cont f l = some a → cont f (l ++ [x]) = if x.f0.f0 = a ∧ a ≤ x.f0.f1 ∧ rightB x.f1 = true then some (x.f0.f1 + 1) else none
  | [], f, a, x, h => by
    obtain rfl := Option.some.inj h
    rfl
  | y :: ys, f, a, x, h => by
    unfold cont at h
    by_cases c : y.f0.f0 = f ∧ f ≤ y.f0.f1 ∧ rightB y.f1 = true
    · rw [if_pos c] at h
      rw [List.cons_append]
      unfold cont
      rw [if_pos c]
      exact cont_snoc ys _ a x h
    · rw [if_neg c] at h
      cases h
theorem cont_init : ∀ (l : List Er) (f a : Int) (x : Er), cont f (l ++ [x]) = some a → ∃ b, cont f l = some b ∧ x.f0.f0 = b ∧ b ≤ x.f0.f1 ∧ rightB x.f1 = true ∧ a = x.f0.f1 + 1
  | [], f, a, x, h => by
    simp only [List.nil_append, cont] at h
    by_cases c : x.f0.f0 = f ∧ f ≤ x.f0.f1 ∧ rightB x.f1 = true
    · rw [if_pos c] at h
      exact ⟨f, rfl, c.1, c.2.1, c.2.2, (Option.some.inj h).symm⟩
    · rw [if_neg c] at h
      cases h
  | y :: ys, f, a, x, h => by
    rw [List.cons_append] at h
    unfold cont at h
    by_cases c : y.f0.f0 = f ∧ f ≤ y.f0.f1 ∧ rightB y.f1 = true
    · rw [if_pos c] at h
      obtain ⟨b, h1, h2⟩ := cont_init ys _ a x h
      refine ⟨b, ?_, h2⟩
      unfold cont
      rw [if_pos c]
      exact h1
    · rw [if_neg c] at h
      cases h
theorem val_snoc (t : Int) : ∀ (l : List Er) (f a : Int) (x : Er), cont f l = some a → f ≤ t → val t (l ++ [x]) = if t < a then val t l else if t ≤ x.f0.f1 then x.f1 else ⟨0, 0⟩
  | [], f, a, x, h, hf => by
    obtain rfl := Option.some.inj h
    rw [if_neg (by omega)]
    rfl
  | y :: ys, f, a, x, h, hf => by
    unfold cont at h
    by_cases c : y.f0.f0 = f ∧ f ≤ y.f0.f1 ∧ rightB y.f1 = true
    · rw [if_pos c] at h
      have hle := cont_le _ _ _ h
      rw [List.cons_append]
      simp only [val]
      by_cases ct : t ≤ y.f0.f1
      · rw [if_pos ct, if_pos (by omega), if_pos ct]
      · rw [if_neg ct, if_neg ct]
        exact val_snoc t ys _ a x h (by omega)
    · rw [if_neg c] at h
      cases h
theorem alt_snoc : ∀ (l : List Er) (p : Option Vd) (x : Er), alt p (l ++ [x]) ↔ alt p l ∧ (∀ v, (l.getLast?.map (·.f1)).or p = some v → ¬ sameV x.f1 v)
  | [], none, x => by simp [alt]
  | [], some v, x => by simp [alt]
  | y :: ys, p, x => by
    have ih := alt_snoc ys (some y.f1) x
    have e : (((y :: ys).getLast?).map (·.f1)).or p = ((ys.getLast?).map (·.f1)).or (some y.f1) := by
      cases ys with
      | nil => simp
      | cons z zs => rw [List.getLast?_cons_cons]; cases h : (z :: zs).getLast? with
        | none => simp at h
        | some u => simp
    rw [e, List.cons_append]
    cases p with
    | none => simp only [alt]; exact ih
    | some v => simp only [alt]; rw [ih, and_assoc]
structure LineOk (w0 w1 : Int) (l : List Er) : Prop where
  win : winP w0 w1
  ne : l ≠ []
  len : l.length ≤ 1024
  cont : cont w0 l = some (w1 + 1)
  alt : alt none l
def afterE : Option Er → Int → Prop
  | none, _ => True
  | some q, f => f = q.f0.f1 + 1
theorem chk_iff (w1 : Int) : ∀ (l : List Er) (p : Option Er), chkB w1 p l = true ↔
    (l = [] ∨ ∃ x xs a, l = x :: xs ∧ afterE p x.f0.f0 ∧ cont x.f0.f0 l = some a ∧ alt (p.map (·.f1)) l ∧ a ≤ w1 + 1)
  | [], p => by simp [chkB]
  | x :: xs, p => by
    have ih := chk_iff w1 xs (some x)
    have e1 : cont x.f0.f0 (x :: xs) = if x.f0.f0 ≤ x.f0.f1 ∧ rightB x.f1 = true then cont (x.f0.f1 + 1) xs else none := by
      show (if x.f0.f0 = x.f0.f0 ∧ x.f0.f0 ≤ x.f0.f1 ∧ rightB x.f1 = true then cont (x.f0.f1 + 1) xs else none) = _
      simp
    simp only [chkB, Bool.and_eq_true, ih]
    constructor
    · rintro ⟨hs, hr⟩
      right
      unfold stepB at hs
      simp only [Bool.and_eq_true, decide_eq_true_eq] at hs
      obtain ⟨⟨⟨h1, h2⟩, h3⟩, h4⟩ := hs
      have hp : afterE p x.f0.f0 ∧ ∀ v, p.map (·.f1) = some v → ¬ sameV x.f1 v := by
        cases p with
        | none => exact ⟨trivial, fun v hv => by cases hv⟩
        | some q =>
          simp only [Bool.and_eq_true, decide_eq_true_eq, Bool.not_eq_true', Bool.and_eq_false_iff, beq_eq_false_iff_ne] at h4
          refine ⟨show x.f0.f0 = q.f0.f1 + 1 by omega, fun v hv => ?_⟩
          obtain rfl : q.f1 = v := Option.some.inj hv
          rintro ⟨g1, g2⟩
          rcases h4.2 with h | h
          · exact h g1
          · exact h g2
      have halt : ∀ ys, alt (some x.f1) ys → alt (p.map (·.f1)) (x :: ys) := fun ys hy => by
        cases hpm : p.map (·.f1) with
        | none => exact hy
        | some v => exact ⟨hp.2 v hpm, hy⟩
      rcases hr with rfl | ⟨y, ys, a, rfl, hy1, hy2, hy3, hy4⟩
      · exact ⟨x, [], x.f0.f1 + 1, rfl, hp.1, by rw [e1, if_pos ⟨h2, h1⟩]; rfl, halt _ trivial, by omega⟩
      · have hy1' : y.f0.f0 = x.f0.f1 + 1 := hy1
        exact ⟨x, y :: ys, a, rfl, hp.1, by rw [e1, if_pos ⟨h2, h1⟩, ← hy1']; exact hy2, halt _ hy3, hy4⟩
    · rintro (h | ⟨x', xs', a, h, hp, hc, ha, hle⟩)
      · cases h
      · obtain ⟨rfl, rfl⟩ := List.cons.inj h
        rw [e1] at hc
        by_cases c : x.f0.f0 ≤ x.f0.f1 ∧ rightB x.f1 = true
        case neg => rw [if_neg c] at hc; cases hc
        rw [if_pos c] at hc
        have h5 := cont_le _ _ _ hc
        have hsp : ∀ q, p = some q → x.f0.f0 - 1 = q.f0.f1 ∧ ¬ sameV x.f1 q.f1 := fun q hq => by
          subst hq
          have h6 : x.f0.f0 = q.f0.f1 + 1 := hp
          exact ⟨by omega, ha.1⟩
        have haxs : alt (some x.f1) xs := by
          cases p with
          | none => exact ha
          | some q => exact ha.2
        constructor
        · unfold stepB
          rw [c.2, decide_eq_true c.1, decide_eq_true (show x.f0.f1 ≤ w1 by omega)]
          cases p with
          | none => rfl
          | some q =>
            obtain ⟨h7, h8⟩ := hsp q rfl
            simp only [decide_eq_true h7, Bool.true_and, Bool.and_true, Bool.not_eq_true', Bool.and_eq_false_iff, beq_eq_false_iff_ne]
            by_cases g : x.f1.f0 = q.f1.f0
            · exact .inr (fun g2 => h8 ⟨g, g2⟩)
            · exact .inl g
        · cases xs with
          | nil => exact .inl rfl
          | cons y ys =>
            right
            have hy : y.f0.f0 = x.f0.f1 + 1 := by
              unfold cont at hc
              by_cases d : y.f0.f0 = x.f0.f1 + 1 ∧ x.f0.f1 + 1 ≤ y.f0.f1 ∧ rightB y.f1 = true
              · exact d.1
              · rw [if_neg d] at hc; cases hc
            exact ⟨y, ys, a, rfl, hy, by rw [hy]; exact hc, haxs, hle⟩
theorem cont_last : ∀ (l : List Er) (f a : Int) (x : Er), cont f l = some a → l.getLast? = some x → a = x.f0.f1 + 1 := by
  intro l f a x h hx
  obtain ⟨l', rfl⟩ := List.getLast?_eq_some_iff.1 hx
  obtain ⟨b, _, _, _, _, e⟩ := cont_init l' f a x h
  exact e
theorem rd_last (l : List Er) (h : l ≠ []) : l.getLast? = some (rd_T52 l ((l.length - 1 : Nat) : Int)) := by
  have hl : l.length - 1 < l.length := by have := List.length_pos_iff.2 h; omega
  rw [List.getLast?_eq_getElem?, List.getElem?_eq_getElem hl]
  simp [rd_T52, List.getD_eq_getElem?_getD, hl]
theorem line_iff (w0 w1 : Int) (l : List Er) : lineB w0 w1 l = true ↔ LineOk w0 w1 l := by
  unfold lineB
  simp only [Bool.and_eq_true, decide_eq_true_eq]
  constructor
  · rintro ⟨⟨⟨⟨⟨h1, h2⟩, h3⟩, h4⟩, h5⟩, h6⟩
    have hne : l ≠ [] := fun e => by subst e; cases h2
    rcases (chk_iff w1 l none).1 h6 with h | ⟨x, xs, a, rfl, _, hc, ha, _⟩
    · exact absurd h hne
    · have e4 : x.f0.f0 = w0 := h4
      rw [e4] at hc
      have := cont_last _ _ _ _ hc (rd_last _ hne)
      rw [h5] at this
      subst this
      exact ⟨h1, hne, h3, hc, ha⟩
  · rintro ⟨h1, h2, h3, h4, h5⟩
    have hlast := cont_last _ _ _ _ h4 (rd_last _ h2)
    have hlen := List.length_pos_iff.2 h2
    cases l with
    | nil => exact absurd rfl h2
    | cons x xs =>
      have e4 : x.f0.f0 = w0 := by
        unfold cont at h4
        by_cases d : x.f0.f0 = w0 ∧ w0 ≤ x.f0.f1 ∧ rightB x.f1 = true
        · exact d.1
        · rw [if_neg d] at h4; cases h4
      refine ⟨⟨⟨⟨⟨h1, hlen⟩, h3⟩, e4⟩, by omega⟩, (chk_iff w1 _ none).2 (.inr ⟨x, xs, w1 + 1, rfl, trivial, ?_, h5, Int.le_refl _⟩)⟩
      rw [e4]
      exact h4
abbrev Pc := S97
theorem rd_snocP (init : List Pc) (l : Pc) : rd_T97 (init ++ [l]) (((init ++ [l]).length - 1 : Nat) : Int) = l := by
  simp [rd_T97, List.getD_eq_getElem?_getD]
theorem snoc_of {α : Type} {l : List α} (h : l ≠ []) : ∃ i x, l = i ++ [x] := ⟨l.dropLast, l.getLast h, (List.dropLast_concat_getLast h).symm⟩
theorem addV_map (out : List Pc) (x : Pc) :
    (∃ i l, out.map eraOf = i ++ [l] ∧ sameV l.f1 x.f1 ∧ (addV out x).map eraOf = i ++ [⟨⟨l.f0.f0, x.f0.f1⟩, l.f1⟩]) ∨
    ((∀ v, (out.map eraOf).getLast?.map (·.f1) = some v → ¬ sameV x.f1 v) ∧ (addV out x).map eraOf = out.map eraOf ++ [eraOf x]) := by
  by_cases hn : out = []
  · subst hn
    right
    exact ⟨fun v hv => by simp at hv, by simp [addV]⟩
  · obtain ⟨i, l, rfl⟩ := snoc_of hn
    unfold addV
    rw [rd_snocP]
    by_cases c : l.f1.f0 = x.f1.f0 ∧ l.f1.f1 = x.f1.f1
    · left
      refine ⟨i.map eraOf, eraOf l, by simp, c, ?_⟩
      rw [if_pos ⟨by simp, c.1, c.2⟩]
      have e : (i ++ [l]).set ((i ++ [l]).length - 1) (⟨⟨l.f0.f0, x.f0.f1⟩, l.f1⟩ : Pc) = i ++ [⟨⟨l.f0.f0, x.f0.f1⟩, l.f1⟩] := by
        rw [List.length_append, List.length_singleton, Nat.add_sub_cancel, List.set_append_right _ _ (Nat.le_refl _), Nat.sub_self]
        rfl
      rw [e]
      simp [eraOf]
    · right
      rw [if_neg (fun h => c h.2)]
      refine ⟨fun v hv => ?_, by simp⟩
      simp only [List.map_append, List.map_cons, List.map_nil, List.getLast?_append, List.getLast?_singleton, Option.some_or, Option.map_some] at hv
      obtain rfl := Option.some.inj hv
      rintro ⟨h1, h2⟩
      exact c ⟨h1.symm, h2.symm⟩
theorem put_ok' (O O' : List Er) (w0 a z : Int) (v : Vd) (h : (∃ i l, O = i ++ [l] ∧ sameV l.f1 v ∧ O' = i ++ [⟨⟨l.f0.f0, z⟩, l.f1⟩]) ∨ ((∀ u, O.getLast?.map (·.f1) = some u → ¬ sameV v u) ∧ O' = O ++ [⟨⟨a, z⟩, v⟩]))
    (hc : cont w0 O = some a) (ha : alt none O) (hz : a ≤ z) (hv : rightB v = true) :
    cont w0 O' = some (z + 1) ∧ alt none O' ∧ O' ≠ [] ∧ ∀ t, w0 ≤ t → t ≤ z → val t O' = if t < a then val t O else v := by
  rcases h with ⟨i, l, e1, e2, e3⟩ | ⟨e1, e2⟩
  · rw [e3]
    rw [e1] at hc ha ⊢
    obtain ⟨b, h1, h2, h3, h4, h5⟩ := cont_init _ _ _ _ hc
    obtain ⟨g1, g2⟩ := (alt_snoc i none l).1 ha
    refine ⟨?_, (alt_snoc i none _).2 ⟨g1, g2⟩, by simp, fun t ht0 ht => ?_⟩
    · rw [cont_snoc _ _ _ _ h1, if_pos ⟨h2, show b ≤ z by omega, h4⟩]
    · rw [val_snoc t _ _ _ _ h1 ht0, val_snoc t _ _ _ _ h1 ht0]
      show (if t < b then val t i else if t ≤ z then l.f1 else ⟨0, 0⟩) = _
      by_cases c1 : t < a
      · rw [if_pos c1]
        by_cases c2 : t < b
        · rw [if_pos c2, if_pos c2]
        · rw [if_neg c2, if_neg c2, if_pos ht, if_pos (by omega)]
      · rw [if_neg c1, if_neg (by omega), if_pos ht]
        exact sameV_eq e2
  · rw [e2]
    refine ⟨?_, (alt_snoc _ none _).2 ⟨ha, fun u hu => e1 u (by simpa using hu)⟩, by simp, fun t ht0 ht => ?_⟩
    · rw [cont_snoc _ _ _ _ hc]
      exact if_pos ⟨rfl, hz, hv⟩
    · rw [val_snoc t _ _ _ _ hc ht0]
      by_cases c1 : t < a
      · rw [if_pos c1, if_pos c1]
      · rw [if_neg c1, if_neg c1]
        exact if_pos ht
theorem put_ok (out : List Pc) (w0 a z : Int) (v : Vd) (hc : cont w0 (out.map eraOf) = some a) (ha : alt none (out.map eraOf)) (hz : a ≤ z) (hv : rightB v = true) :
    cont w0 ((addV out ⟨⟨a, z⟩, v⟩).map eraOf) = some (z + 1) ∧ alt none ((addV out ⟨⟨a, z⟩, v⟩).map eraOf) ∧ (addV out ⟨⟨a, z⟩, v⟩).map eraOf ≠ [] ∧
      ∀ t, w0 ≤ t → t ≤ z → val t ((addV out ⟨⟨a, z⟩, v⟩).map eraOf) = if t < a then val t (out.map eraOf) else v :=
  put_ok' _ _ w0 a z v (addV_map out ⟨⟨a, z⟩, v⟩) hc ha hz hv
def wantF (t : Int) (acc : Vd) (m : Mk) : Vd := if m.f0 ≤ t then m.f1 else acc
theorem mk_ok (w0 w1 t : Int) (hw0 : 0 ≤ w0) (hw1 : w1 ≤ 1099511627776) (ht0 : w0 ≤ t) (ht1 : t ≤ w1) : ∀ (rest : List Mk) (m : Mk) (out out' : List Pc) (acc : Vd), (∀ x ∈ rest, x.f0 ≤ 9223372036854775807) →
    mk_l w1 (m :: rest) out = some out' → cont w0 (out.map eraOf) = some m.f0 → alt none (out.map eraOf) → (t < m.f0 → val t (out.map eraOf) = acc) →
      cont w0 (out'.map eraOf) = some (w1 + 1) ∧ alt none (out'.map eraOf) ∧ out'.map eraOf ≠ [] ∧ val t (out'.map eraOf) = (m :: rest).foldl (wantF t) acc
  | [], m, out, out', acc, hwf, h, hc, ha, hv => by
    unfold mk_l at h
    by_cases c : rightB m.f1 = false ∨ w1 < m.f0
    · rw [if_pos c] at h; cases h
    · rw [if_neg c] at h
      simp only [not_or, Bool.not_eq_false] at c
      obtain rfl := Option.some.inj h
      obtain ⟨p1, p2, p3, p4⟩ := put_ok out w0 m.f0 w1 m.f1 hc ha (by omega) c.1
      refine ⟨p1, p2, p3, ?_⟩
      rw [p4 t ht0 ht1]
      show _ = wantF t acc m
      unfold wantF
      by_cases d : t < m.f0
      · rw [if_pos d, if_neg (by omega)]
        exact hv d
      · rw [if_neg d, if_pos (by omega)]
  | n :: rest, m, out, out', acc, hwf, h, hc, ha, hv => by
    unfold mk_l at h
    by_cases c : rightB m.f1 = false ∨ w1 < m.f0
    · rw [if_pos c] at h; cases h
    · rw [if_neg c] at h
      simp only [not_or, Bool.not_eq_false] at c
      dsimp only at h
      by_cases d : n.f0 ≤ m.f0
      · rw [if_pos d] at h; cases h
      · rw [if_neg d] at h
        have hle := cont_le _ _ _ hc
        have hn := hwf n (by simp)
        rw [w64 (by omega) (by omega)] at h
        obtain ⟨p1, p2, p3, p4⟩ := put_ok out w0 m.f0 (n.f0 - 1) m.f1 hc ha (by omega) c.1
        rw [show n.f0 - 1 + 1 = n.f0 by omega] at p1
        refine mk_ok w0 w1 t hw0 hw1 ht0 ht1 rest n _ out' (wantF t acc m) (fun x hx => hwf x (by simp [hx])) h p1 p2 (fun htn => ?_)
        rw [p4 t ht0 (by omega)]
        unfold wantF
        by_cases d2 : t < m.f0
        · rw [if_pos d2, if_neg (by omega)]
          exact hv d2
        · rw [if_neg d2, if_pos (by omega)]
def makeV (w0 w1 : Int) (l : List Mk) : List Er × Int := if winP w0 w1 ∧ 0 < l.length ∧ (rd_T46 l 0).f0 = w0 then (match mk_l w1 l [] with
  | none => ([], 2)
  | some out => if 1024 < out.length then ([], 11) else (out.map eraOf, 0)) else ([], 2)
theorem make_ev (w0 w1 : Int) (l : List Mk) (hl : l.length * 32 ≤ 140737488355328) : Ev (fun k => line_Make.f k w0 w1 l) (makeV w0 w1 l) := by
  simp only [line_Make.f]
  refine Ev.bind (win_ev w0 w1) ?_
  unfold makeV
  by_cases c : winP w0 w1 ∧ 0 < l.length ∧ (rd_T46 l 0).f0 = w0
  · rw [if_pos c]
    exact Ev.pos ⟨decide_eq_true c.1, c.2⟩ (Ev.pos hl (Ev.const rfl))
  · rw [if_neg c]
    exact Ev.neg (fun h => c ⟨of_decide_eq_true h.1, h.2⟩) (Ev.const rfl)
theorem make_ok (w0 w1 : Int) (l : List Mk) (hwf : ∀ x ∈ l, x.f0 ≤ 9223372036854775807) (h : (makeV w0 w1 l).2 = 0) :
    LineOk w0 w1 (makeV w0 w1 l).1 ∧ ∀ t, w0 ≤ t → t ≤ w1 → val t (makeV w0 w1 l).1 = l.foldl (wantF t) ⟨0, 0⟩ := by
  unfold makeV at h ⊢
  by_cases c : winP w0 w1 ∧ 0 < l.length ∧ (rd_T46 l 0).f0 = w0
  case neg => rw [if_neg c] at h; cases h
  rw [if_pos c] at h ⊢
  obtain ⟨hw, hn, h0⟩ := c
  have hw' := hw
  obtain ⟨w1', w2', w3'⟩ := hw'
  cases l with
  | nil => cases hn
  | cons m rest =>
    have h0' : m.f0 = w0 := h0
    cases hm : mk_l w1 (m :: rest) [] with
    | none => rw [hm] at h; cases h
    | some out =>
      rw [hm] at h
      dsimp only at h ⊢
      by_cases d : 1024 < out.length
      · rw [if_pos d] at h; cases h
      · rw [if_neg d]
        have key := fun t (ht0 : w0 ≤ t) (ht1 : t ≤ w1) => mk_ok w0 w1 t w1' w3' ht0 ht1 rest m [] out ⟨0, 0⟩ (fun x hx => hwf x (by simp [hx])) hm (by rw [h0']; rfl) trivial (fun h => by omega)
        obtain ⟨k1, k2, k3, _⟩ := key w0 (Int.le_refl _) w2'
        exact ⟨⟨hw, k3, by rw [List.length_map]; omega, k1, k2⟩, fun t ht0 ht1 => (key t ht0 ht1).2.2.2⟩
theorem make_no (w0 w1 : Int) (l : List Mk) (h : (makeV w0 w1 l).2 ≠ 0) : (makeV w0 w1 l).1 = [] := by
  unfold makeV at h ⊢
  by_cases c : winP w0 w1 ∧ 0 < l.length ∧ (rd_T46 l 0).f0 = w0
  · rw [if_pos c] at h ⊢
    cases hm : mk_l w1 l [] with
    | none => rfl
    | some out =>
      rw [hm] at h
      dsimp only at h ⊢
      by_cases d : 1024 < out.length
      · rw [if_pos d]
      · rw [if_neg d] at h; exact absurd rfl h
  · rw [if_neg c]
theorem cont_bnd : ∀ (l : List Er) (f a : Int), cont f l = some a → ∀ x ∈ l, f ≤ x.f0.f0 ∧ x.f0.f0 ≤ x.f0.f1 ∧ x.f0.f1 < a
  | [], f, a, h, x, hx => by cases hx
  | y :: ys, f, a, h, x, hx => by
    unfold cont at h
    by_cases c : y.f0.f0 = f ∧ f ≤ y.f0.f1 ∧ rightB y.f1 = true
    · rw [if_pos c] at h
      have hle := cont_le _ _ _ h
      rcases List.mem_cons.1 hx with rfl | hx
      · omega
      · have := cont_bnd ys _ a h x hx
        omega
    · rw [if_neg c] at h; cases h
theorem LineOk.bnd {w0 w1 : Int} {l : List Er} (h : LineOk w0 w1 l) : ∀ x ∈ l, bndE x := fun x hx => by
  have := cont_bnd l _ _ h.cont x hx
  have hw := h.win
  unfold winP at hw
  unfold bndE
  omega
theorem idx_val (t : Int) : ∀ (l : List Er) (i : Nat), (∃ x ∈ l, t ≤ x.f0.f1) → ∃ n x, idxFrom t i l = ((i + n : Nat) : Int) ∧ l[n]? = some x ∧ x.f1 = val t l
  | [], i, h => by obtain ⟨x, hx, _⟩ := h; cases hx
  | y :: ys, i, h => by
    by_cases c : t ≤ y.f0.f1
    · exact ⟨0, y, by simp only [idxFrom, if_pos c, Nat.add_zero], rfl, by simp only [val, if_pos c]⟩
    · obtain ⟨x, hx, hxt⟩ := h
      have hx' : ∃ x ∈ ys, t ≤ x.f0.f1 := by
        rcases List.mem_cons.1 hx with rfl | hx
        · exact absurd hxt c
        · exact ⟨x, hx, hxt⟩
      obtain ⟨n, z, h1, h2, h3⟩ := idx_val t ys (i + 1) hx'
      exact ⟨n + 1, z, by simp only [idxFrom, if_neg c]; rw [h1]; omega, by simpa using h2, by simp only [val, if_neg c]; exact h3⟩
def atV (w0 w1 : Int) (l : List Er) (t : Int) : Int × Int × Int := if lineB w0 w1 l = true then (if t < w0 ∨ w1 < t then (0, 0, 1) else ((val t l).f0, (val t l).f1, 0)) else (0, 0, 2)
theorem at_ev (w0 w1 : Int) (l : List Er) (hb : ∀ x ∈ l, bndE x) (t : Int) : Ev (fun k => line_At.f k w0 w1 l t) (atV w0 w1 l t) := by
  simp only [line_At.f]
  refine Ev.bind (check_ev l hb w0 w1) ?_
  unfold atV
  by_cases c : lineB w0 w1 l = true
  case neg =>
    rw [if_neg c, Bool.eq_false_iff.2 c]
    exact Ev.pos (by decide) (Ev.const rfl)
  rw [if_pos c, c]
  refine Ev.neg (by decide) ?_
  by_cases d : t < w0 ∨ w1 < t
  · simp only [if_pos d]
    exact Ev.const rfl
  · simp only [if_neg d]
    have hok := (line_iff w0 w1 l).1 c
    have hlast := cont_last _ _ _ _ hok.cont (rd_last _ hok.ne)
    have hmem : rd_T52 l ((l.length - 1 : Nat) : Int) ∈ l := List.mem_of_getLast? (rd_last _ hok.ne)
    obtain ⟨n, x, h1, h2, h3⟩ := idx_val t l 0 ⟨_, hmem, by omega⟩
    rw [h1, Nat.zero_add]
    have e : rd_T52 l ((n : Nat) : Int) = x := by simp [rd_T52, List.getD_eq_getElem?_getD, h2]
    rw [e, h3]
    exact Ev.pos (by omega) (Ev.const rfl)
end Go.Proofs.Ytghklhdooemjdaa.Line
end
