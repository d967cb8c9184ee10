-- Merged and trimmed by this session's program wip/tools/trim.py.
import Derived.Shelf.RegionOpen
import Derived.Deep.RegionLaw
import Derived.BigQuiet
import Derived.Deep.RegionWith
import Derived.Outline
import Derived.Laws.EntriesVeiled
import Derived.Shelf.Abstract
import Derived.RangeFuncNested
import Derived.RangeFuncBox
import Derived.RangeFuncLeaves
import Derived.RangeFuncFrom
import Derived.RangeFuncCalls
import Derived.RangeFuncBound
import Derived.OwnWalkIn
import Derived.TacticsInMore
import Derived.LoopNIn
import Derived.LoopIn
import Derived.Sort.QuietIn
import Derived.Maps.AppendAt
import Derived.OrdersHeld
import Derived.OrdersIn
import Derived.TacticsIn
import Derived.Test.YtghklhdooemjdaaTLineWhole2
section
namespace Go.Proofs.Ytghklhdooemjdaa.Q
open Go.RowKit Go.Proofs.YtghklhdooemjdaaW.PrintWords Go.Proofs.YtghklhdooemjdaaW.PrintLast Go.Proofs.YtghklhdooemjdaaW.PrintMore
attribute [local go_sem] max2_int min2_int max_two min_two max_three min_three max_four min_four   -- for this text's walks alone
set_option linter.unusedVariables false
set_option linter.unusedSimpArgs false
attribute [local go_sem high] eqA23 eqA35
def LnB (w0 W : World) (g : Nat) (v : Value) (out : List S80) : Prop :=
  W.heap[g]? = some (.cells #[v] 71 (0, 0)) ∧ w0.heap.size ≤ g ∧ Kd.R k80 80 W w0.heap.size (fun k => k ≠ g) v out ∧ Below w0.heap.size w0 W
theorem LnB.below {w0 W W' : World} {g : Nat} {v : Value} {out : List S80} (h : LnB w0 W g v out) (hb : Below W.heap.size W W') : LnB w0 W' g v out :=
  ⟨blk_below h.1 hb, h.2.1, Kd.R_below h.2.2.1 hb, below_step h.2.2.2 hb⟩
theorem LnB.lt {w0 W : World} {g : Nat} {v : Value} {out : List S80} (h : LnB w0 W g v out) : g < W.heap.size := blk_lt h.1
theorem LnB.put {w0 w6 : World} {g : Nat} {v v1 : Value} {out : List S80} (hb : w6.heap[g]? = some (.cells #[v] 71 (0, 0))) (hg : w0.heap.size ≤ g) (ho : Kd.R k80 80 w6 w0.heap.size (fun k => k ≠ g) v1 out) (hB : Below w0.heap.size w0 w6) : LnB w0 (w6.setCell ⟨g, 0, none⟩ v1) g v1 out :=
  ⟨blk_set hb 0 v1, hg, Kd.R_far ho (p := ⟨g, 0, none⟩) (fun _ hk => hk) v1, hB.setCell (p := ⟨g, 0, none⟩) hg v1⟩
def KeepIn (g : Nat) (W W' : World) : Prop := W.heap.size ≤ W'.heap.size ∧ ∀ k cs t fr, g < k → W.heap[k]? = some (.cells cs t fr) → t ≠ 80 → W'.heap[k]? = some (.cells cs t fr)
theorem KeepIn.refl (g : Nat) (W : World) : KeepIn g W W := ⟨Nat.le_refl _, fun _ _ _ _ _ h _ => h⟩
theorem KeepIn.trans {g : Nat} {A B C : World} (h : KeepIn g A B) (k : KeepIn g B C) : KeepIn g A C := ⟨Nat.le_trans h.1 k.1, fun j cs t fr hj hb ht => k.2 j cs t fr hj (h.2 j cs t fr hj hb ht) ht⟩
theorem KeepIn.below {g n : Nat} {A B : World} (h : Below A.heap.size A B) : KeepIn g A B := ⟨h.size, fun _ _ _ _ _ hb _ => blk_below hb h⟩
theorem KeepIn.set {g : Nat} (W : World) (v : Value) : KeepIn g W (W.setCell ⟨g, 0, none⟩ v) := ⟨Nat.le_of_eq (World.size_setCell _ _ _).symm, fun j _ _ _ hj hb _ => (Below.heap_setCell W ⟨g, 0, none⟩ v j (fun e => by have e' : j = g := e; omega)).trans hb⟩
theorem KeepIn.setRow {g j : Nat} {W : World} {o : Nat} {cs : Array Value} {fr : Nat × Nat} (h : W.heap[j]? = some (.cells cs 80 fr)) (v : Value) : KeepIn g W (W.setCell ⟨j, o, none⟩ v) :=
  ⟨Nat.le_of_eq (World.size_setCell _ _ _).symm, fun k cs' t' fr' _ hb ht => (Below.heap_setCell W ⟨j, o, none⟩ v k (fun e => by
    have e' : k = j := e
    subst e'
    rw [h] at hb
    injection hb with hb
    injection hb with _ h2
    exact ht h2.symm)).trans hb⟩
theorem KeepIn.grown {g b : Nat} {W W' : World} {ok : Nat → Prop} {v : Value} {xs : List S80} (h : Kd.R k80 80 W b ok v xs) (hg : W.grownBy W' v.ownBlock) : KeepIn g W W' :=
  ⟨hg.size, fun k cs t fr _ hb ht => by
    refine (hg.block k (blk_lt hb) (fun e => ?_)).trans hb
    obtain ⟨inner, hown⟩ := Kd.R_own h
    obtain ⟨cells, hcs⟩ := own_typed hown k e.symm
    rw [hb] at hcs
    injection hcs with hcs
    injection hcs with _ h2
    exact ht h2⟩
theorem others_grown {b : Nat} {W W' : World} {ok : Nat → Prop} {v : Value} {xs : List S80} (h : Kd.R k80 80 W b ok v xs) (hg : W.grownBy W' v.ownBlock) : KeepsOthers W W' :=
  KeepsOthers.of_grownBy hg (fun j o hj ho => by
    obtain ⟨inner, hown⟩ := Kd.R_own h
    obtain ⟨cells, hcs⟩ := own_typed hown j hj
    rw [hcs] at ho
    cases ho
    rfl)
theorem others_below {A B : World} (h : Below A.heap.size A B) : KeepsOthers A B := KeepsOthers.of_grownBy (row := none) ⟨h.os, h.tape, h.output, h.size, fun k hk _ => h.block k hk⟩ (fun j o e _ => by cases e)
def addB (out : List S80) (x : S80) : List S80 :=
  if 0 < out.length ∧ (rd_T80 out ((out.length - 1 : Nat) : Int)).f1 = x.f1
  then out.set (out.length - 1) ⟨⟨(rd_T80 out ((out.length - 1 : Nat) : Int)).f0.f0, x.f0.f1⟩, (rd_T80 out ((out.length - 1 : Nat) : Int)).f1⟩ else out ++ [x]
theorem infoB : (Try.prog.info? 80).map (fun i => (i.zero, i.size, i.bytes)) = some (some (.agg #[(.int .i64 0), (.int .i64 0), (.bool false)]), 3, 24) := by kernel_rfl
set_option maxRecDepth 100000 in
set_option maxHeartbeats 4000000 in
theorem addB_is (g : Nat) (v : Value) (out : List S80) (x : S80) (w0 w : World) (hL : (out.length + 1) * 24 ≤ 140737488355328) (hI : LnB w0 w g v out) :
    Calls Try.prog 37 #[.pointer (some ⟨g, 0, none⟩), .agg #[.int .i64 x.f0.f0, .int .i64 x.f0.f1], .bool x.f1] w fun e w' => e = .returned (.tuple #[]) ∧ (∃ v', LnB w0 w' g v' (addB out x)) ∧ KeepIn g w w' ∧ KeepsOthers w w' := by
  have HI := Aside0.mk hI
  have HL := Aside0.mk hL
  have hI2 := (hI.below (below_alloc (Below.refl _ _) (.cells #[.int .i64 x.f0.f0, .int .i64 x.f0.f1] 23)))
  have HI3 := Aside0.mk hI2
  obtain ⟨A, c, rfl⟩ := Kd.R_slice hI.2.2.1
  clear hI hI2 hL
  go_enter Try.func37, Try.ntmps37
  have hc0 : ((w.alloc (.cells #[.int .i64 x.f0.f0, .int .i64 x.f0.f1] 23))).cell? ⟨g, 0, none⟩ = some (.slice A out.length c) := (blk_cell HI3.out.1 0).trans rfl
  have BA3 : Aside0 (((w.alloc (.cells #[.int .i64 x.f0.f0, .int .i64 x.f0.f1] 23))).heap[w.heap.size]? = some (.cells #[.int .i64 x.f0.f0, .int .i64 x.f0.f1] 23 (0, 0))) := ⟨heap_alloc_new w _⟩
  have HMX := Aside0.mk (Kd.C_max (Kd.R_reads' HI.out.2.2.1).2.2)
  by_cases hs : 0 < out.length ∧ (rd_T80 out ((out.length - 1 : Nat) : Int)).f1 = x.f1
  · have hadd : addB out x = out.set (out.length - 1) ⟨⟨(rd_T80 out ((out.length - 1 : Nat) : Int)).f0.f0, x.f0.f1⟩, (rd_T80 out ((out.length - 1 : Nat) : Int)).f1⟩ := if_pos hs
    rw [hadd]
    clear hadd
    obtain ⟨hn, hs1⟩ := hs
    obtain ⟨gr, cr, hsl, hgb, hgl, _⟩ := Kd.R_form HI3.out.2.2.1 hn
    simp only [Value.slice.injEq] at hsl
    obtain ⟨rfl, _, rfl⟩ := hsl
    obtain ⟨l, hl⟩ : ∃ l, rd_T80 out ((out.length - 1 : Nat) : Int) = l := ⟨_, rfl⟩
    rw [hl] at hs1 ⊢
    obtain ⟨ad, ead, hx0, hx1, hx2⟩ := at_T80 (Kd.R_reads' HI3.out.2.2.1).2.2 ((out.length - 1 : Nat) : Int) (by omega) (by omega)
    obtain rfl := Option.some.inj ead
    simp only [Int.toNat_natCast, add_at, Nat.zero_add] at hx0 hx1 hx2
    rw [hl] at hx2
    have hm := HMX.out
    have hq : (l.f1 == x.f1) = true := beq_iff_eq.mpr hs1
    have din : decide (0 < out.length) = true := decide_eq_true hn
    have dii : decide ((0 : Int) < (out.length : Int)) = true := decide_eq_true (by omega)
    have wi : IntKind.i64.wrap ((out.length : Int) - 1) = (out.length : Int) - 1 := by rw [i64_w]; unfold wrap64; omega
    have ti : ((out.length : Int) - 1).toNat = out.length - 1 := by omega
    have pi0 : (0 ≤ (out.length : Int) - 1) = True := eq_true (by omega)
    have qi0 : ((out.length : Int) - 1 < (out.length : Int)) = True := eq_true (by omega)
    have pi1 : (1 ≤ (out.length : Int)) = True := eq_true (by omega)
    have pi2 : (1 ≤ out.length) = True := eq_true (by omega)
    obtain ⟨cs, hcl, hcM, hcc, hcf⟩ := Kd.R_elem HI3.out.2.2.1 z80 ((out.length - 1 : Nat) : Int) (by omega) (by omega)
    have HE := Aside0.mk (show cs = _ from k80_openM hcM)
    have HL2 := Aside0.mk hl
    clear hs1 hx0 hx1 hm hl hcM
    go_wp2
    have HI4 := HI3
    have BA4 := BA3
    clear hc0 HI3 BA3 hx2 hcc hcf
    have HK4 : Aside0 (KeepIn g w (w.alloc (.cells #[.int .i64 x.f0.f0, .int .i64 x.f0.f1] 23)) ∧ KeepsOthers w (w.alloc (.cells #[.int .i64 x.f0.f0, .int .i64 x.f0.f1] 23))) := ⟨KeepIn.below (n := 0) (below_alloc (Below.refl _ _) _), KeepsOthers.alloc _ _⟩
    generalize w.alloc (.cells #[.int .i64 x.f0.f0, .int .i64 x.f0.f1] 23) = W4 at HI4 BA4 HK4 ⊢
    obtain ⟨cs4, hcl4, hcM4, hcc4, hcf4⟩ := Kd.R_elem HI4.out.2.2.1 z80 ((out.length - 1 : Nat) : Int) (by omega) (by omega)
    have HE4 := Aside0.mk (show cs4 = _ from k80_openM hcM4)
    have HCC := Aside0.mk hcc4
    have HCL := Aside0.mk hcl4
    have hcg := (blk_cell HI4.out.1 0).trans rfl
    have hca1 := (blk_cell BA4.out 1).trans (rfl : _ = some (Value.int .i64 x.f0.f1))
    have hz1 : W4.cell? ⟨gr, (out.length - 1) * 3 + 1, none⟩ = some (.int .i64 l.f0.f1) := by
      have h_ := hcc4 1 (.int .i64 l.f0.f1) (by rw [HE4.out]; simp only [Int.toNat_natCast, ← HL2.out]; rfl)
      simp only [Int.toNat_natCast] at h_
      exact h_
    have hzf : W4.frozen? ⟨gr, (out.length - 1) * 3 + 1, none⟩ = false := by
      have h_ := hcf4 1
      simp only [Int.toNat_natCast] at h_
      exact h_
    clear hcc4 hcf4 hcM4 hcl4
    have hR := (Kd.R_seg HI4.out.2.2.1 ((out.length - 1 : Nat) : Int) (by omega) (by omega) (c := cs4) (seg := [.int .i64 x.f0.f1]) (j := 1) HCL.out HCC.out (show 1 + 1 ≤ 3 by decide) (x' := (⟨⟨l.f0.f0, x.f0.f1⟩, l.f1⟩ : S80)) (okp := fun _ => False) (by rw [HE4.out]; simp only [Int.toNat_natCast]; exact (by have e_ : out.getD (out.length - 1) z80 = l := HL2.out; rw [e_]; exact k80_mkM _ _ _ (⟨⟨l.f0.f0, x.f0.f1⟩, l.f1⟩ : S80))) (fun _ hk => hk.elim)).1
    simp only [Int.toNat_natCast] at hR
    have HK5 : Aside0 (KeepIn g w (W4.setCell ⟨gr, (out.length - 1) * 3 + 1, none⟩ (.int .i64 x.f0.f1)) ∧ KeepsOthers w (W4.setCell ⟨gr, (out.length - 1) * 3 + 1, none⟩ (.int .i64 x.f0.f1))) := ⟨by
      obtain ⟨inner_, hown_⟩ := Kd.R_own HI4.out.2.2.1
      obtain ⟨cells_, hcs_⟩ := own_typed hown_ gr (by simp [Value.ownBlock])
      exact ⟨HK4.out.1.trans (KeepIn.setRow hcs_ _), HK4.out.2.trans (KeepsOthers.setCell _ _ _)⟩⟩
    have HF : Aside0 (LnB w0 (W4.setCell ⟨gr, (out.length - 1) * 3 + 1, none⟩ (.int .i64 x.f0.f1)) g (.slice (some ⟨gr, 0, none⟩) out.length c) (out.set (out.length - 1) ⟨⟨l.f0.f0, x.f0.f1⟩, l.f1⟩)) :=
      ⟨blk_far HI4.out.1 (p := ⟨gr, (out.length - 1) * 3 + 1, none⟩) (by have := HI4.out.2.2.1.1 gr (by simp [Value.ownBlock]); simpa using fun e => this e.symm) _, HI4.out.2.1, hR, HI4.out.2.2.2.setCell (p := ⟨gr, (out.length - 1) * 3 + 1, none⟩) hgb _⟩
    go_region
    all_goals
      go_wp2
      first | go_end0 | ((try simp only [Exit.inBlock, Exit.then]); refine bodyPost_ret (results_none rfl _ _ _) rfl ?_)
      first
        | exact ⟨rfl, ⟨_, HF.out⟩, HK5.out.1, HK5.out.2⟩
        | exact ⟨rfl, ⟨_, HF.out.below (below_drew1 (Below.refl _ _))⟩, HK5.out.1.trans (KeepIn.below (n := 0) (below_drew1 (Below.refl _ _))), HK5.out.2.trans (KeepsOthers.drew _)⟩
  · have hadd : addB out x = out ++ [x] := if_neg hs
    rw [hadd]
    clear hadd
    by_cases hn : 0 < out.length
    case' pos =>
      obtain ⟨l, hl⟩ : ∃ l, rd_T80 out ((out.length - 1 : Nat) : Int) = l := ⟨_, rfl⟩
      rw [hl] at hs
      obtain ⟨ad, ead, hx0, hx1, hx2⟩ := at_T80 (Kd.R_reads' HI3.out.2.2.1).2.2 ((out.length - 1 : Nat) : Int) (by omega) (by omega)
      cases ead
      simp only [Int.toNat_natCast] at hx0 hx1 hx2
      rw [hl] at hx2
      have hq : (l.f1 == x.f1) = false := beq_eq_false_iff_ne.mpr (fun h1 => hs ⟨hn, h1⟩)
      have hm := HMX.out
      have din : decide (0 < out.length) = true := decide_eq_true hn
      have dii : decide ((0 : Int) < (out.length : Int)) = true := decide_eq_true (by omega)
      have wi : IntKind.i64.wrap ((out.length : Int) - 1) = (out.length : Int) - 1 := by rw [i64_w]; unfold wrap64; omega
      have ti : ((out.length : Int) - 1).toNat = out.length - 1 := by omega
      have pi0 : (0 ≤ (out.length : Int) - 1) = True := eq_true (by omega)
      have qi0 : ((out.length : Int) - 1 < (out.length : Int)) = True := eq_true (by omega)
      have pi1 : (1 ≤ (out.length : Int)) = True := eq_true (by omega)
      have pi2 : (1 ≤ out.length) = True := eq_true (by omega)
      clear hs hx0 hx1 hm hl
      go_wp2
    case' neg =>
      have hdn : decide (0 < out.length) = false := decide_eq_false hn
      have hdi : decide ((0 : Int) < (out.length : Int)) = false := decide_eq_false (by omega)
      clear hs hn
      go_wp2
    all_goals
      have HI4 := HI3
      have BA4 := BA3
      clear hc0 HI3 BA3
      have HK4 : Aside0 (KeepIn g w (w.alloc (.cells #[.int .i64 x.f0.f0, .int .i64 x.f0.f1] 23)) ∧ KeepsOthers w (w.alloc (.cells #[.int .i64 x.f0.f0, .int .i64 x.f0.f1] 23))) := ⟨KeepIn.below (n := 0) (below_alloc (Below.refl _ _) _), KeepsOthers.alloc _ _⟩
      generalize w.alloc (.cells #[.int .i64 x.f0.f0, .int .i64 x.f0.f1] 23) = W4 at HI4 BA4 HK4 ⊢
      have HI8 := Aside0.mk (HI4.out.below (below_drew1 (Below.refl _ _)))
      have hcg := (blk_cell HI4.out.1 0).trans rfl
      have hca0 : W4.cell? ⟨w.heap.size, 0, none⟩ = some (.int .i64 x.f0.f0) := (blk_cell BA4.out 0).trans rfl
      have hca1 : W4.cell? ⟨w.heap.size, 1, none⟩ = some (.int .i64 x.f0.f1) := (blk_cell BA4.out 1).trans rfl
      have hx0 := (blk_cell (blk_alloc HI4.out.1 (.cells #[.int .i64 x.f0.f0, .int .i64 x.f0.f1, .bool x.f1] 80)) 0).trans rfl
      go_region_law (refine Kd.R_append_step k80 (w0 := w0) w0.heap.size rfl (.tmp 42) (.tmp 46) 69 80 (.agg #[(.int .i64 0), (.int .i64 0), (.bool false)]) 24 rfl Try.underlying69 infoB rfl (by decide) (by omega) _ out x [.int .i64 x.f0.f0, .int .i64 x.f0.f1, .bool x.f1] (fun k_ => k_ ≠ g) (fun _ => False) rfl rfl (k80_mkM _ _ _ _) (fun _ hk => hk.elim) ?aF HI8.out.2.2.1 HI8.out.2.2.2 HI8.out.2.2.2.size HL.out ?_; (case aF => intro k_ hk_ he_; subst he_; exact absurd (LnB.lt HI8.out) (Nat.not_lt.2 hk_)); intro v1 w6 ho hb hg hat; obtain ⟨A1, c1, rfl⟩ := Kd.R_slice ho; rw [List.length_append, List.length_singleton] at ho hat; have hB6 := blk_grown HI8.out.1 hg (Kd.R_away HI8.out.2.2.1 (fun _ hk => hk)); have HO6 := Aside0.mk ho; have HB6 := Aside0.mk hB6; have Hb6 := Aside0.mk hb; have hc64 := (blk_cell hB6 0).trans rfl; have hf64 := blk_frozen hB6 0; have HK6 := Aside0.mk (And.intro (KeepIn.grown (g := g) HI8.out.2.2.1 hg) (others_grown HI8.out.2.2.1 hg)); clear ho hb hg hat hB6)
      all_goals
        first | go_end0 | ((try simp only [Exit.inBlock, Exit.then]); refine bodyPost_ret (results_none rfl _ _ _) rfl ?_)
        exact ⟨rfl, ⟨_, LnB.put HB6.out HI8.out.2.1 (by simpa using HO6.out) Hb6.out⟩, ((HK4.out.1.trans (KeepIn.below (n := 0) (below_drew1 (Below.refl _ _)))).trans HK6.out.1).trans (KeepIn.set _ _), ((HK4.out.2.trans (KeepsOthers.drew _)).trans HK6.out.2).trans (KeepsOthers.setCell _ _ _)⟩
attribute [local go_sem high] eqA35
def pieceOf (x : S52) : S97 := ⟨x.f0, x.f1⟩
set_option maxRecDepth 100000 in
set_option maxHeartbeats 4000000 in
theorem of_is (A1 : Option Addr) (c1 : Nat) (l1 : List S52) (hL : l1.length * 32 ≤ 140737488355328) (w : World) (hr1 : Kd.C k52 w A1 l1.length l1) (hc1 : l1.length ≤ c1) :
    Calls Try.prog 36 #[.slice A1 l1.length c1] w fun e w' => e = .returned (.pointer (some ⟨w.heap.size, 0, none⟩)) ∧ ∃ v', LnV w w' w.heap.size v' (l1.map pieceOf) := by
  have HLL := Aside0.mk hL
  have HM := Aside0.mk (Kd.C_max hr1)
  have HR := Aside0.mk hr1
  have HC1 := Aside0.mk hc1
  clear hL hr1 hc1
  go_enter Try.func36, Try.ntmps36
  go_wp2
  go_loopg [10] l1.length (fun kq v10 w' => ∃ (i : Nat) (v : Value), v10 = .int .i64 (i : Int) ∧ Aside0 (i ≤ l1.length ∧ kq = l1.length - i) ∧ Aside0 (LnV w w' w.heap.size v ((l1.take i).map pieceOf)))
  case atStart => exact ⟨0, .slice none 0 0, rfl, ⟨Nat.zero_le _, rfl⟩, ⟨heap_alloc_new w _, Nat.le_refl _, Kd.R_nil _ _ _ _ _, below_alloc (Below.refl _ _) _⟩⟩
  case round =>
    obtain ⟨i, v, rfl, HJ, HI0⟩ := hrel
    have hm := HM.out
    obtain ⟨A, c, rfl⟩ := Kd.R_slice HI0.out.2.2.1
    by_cases hi : i < l1.length
    · have hd : decide ((i : Int) < (l1.length : Int)) = true := decide_eq_true (by omega)
      have hdn : decide (i < l1.length) = true := decide_eq_true hi
      have p0 : (0 : Int) ≤ (i : Int) := by omega
      have q0 : (i : Int) < (l1.length : Int) := by omega
      obtain ⟨ad, ead, hx0, hx1, hx2, hx3⟩ := at_T52 (Kd.C_below HR.out HI0.out.2.2.2) (i : Int) p0 q0
      cases ead
      simp only [Int.toNat_natCast] at hx0 hx1 hx2 hx3
      obtain ⟨x, hx⟩ : ∃ x, rd_T52 l1 (i : Int) = x := ⟨_, rfl⟩
      rw [hx] at hx0 hx1 hx2 hx3
      have HT : Aside0 ((l1.take (i + 1)).map pieceOf = (l1.take i).map pieceOf ++ [pieceOf x]) := ⟨by
        rw [List.take_succ_eq_append_getElem hi, List.map_append, ← hx]
        simp [rd_T52, List.getD_eq_getElem?_getD, hi]⟩
      have HII := Aside0.mk hi
      have HL : Aside0 ((((l1.take i).map pieceOf).length + 1) * 32 ≤ 140737488355328) := ⟨by have := HLL.out; have := HII.out; rw [List.length_map, List.length_take]; omega⟩
      replace p0 := eq_true p0
      replace q0 := eq_true q0
      clear hx
      go_wp2
      have BA4 := Aside0.mk (heap_alloc_new wr (.cells #[.int .i64 x.f0.f0, .int .i64 x.f0.f1, .int .u8 x.f1.f0, .int .i64 x.f1.f1] 52))
      have HI4 := Aside0.mk (HI0.out.below (below_alloc (Below.refl wr.heap.size wr) (.cells #[.int .i64 x.f0.f0, .int .i64 x.f0.f1, .int .u8 x.f1.f0, .int .i64 x.f1.f1] 52)))
      generalize wr.alloc (.cells #[.int .i64 x.f0.f0, .int .i64 x.f0.f1, .int .u8 x.f1.f0, .int .i64 x.f1.f1] 52) = W4 at BA4 HI4 ⊢
      have HI8 := Aside0.mk (HI4.out.below (below_drew1 (Below.refl _ _)))
      have hcg := (blk_cell HI4.out.1 0).trans rfl
      have hca0 : W4.cell? ⟨wr.heap.size, 0, none⟩ = some (.int .i64 x.f0.f0) := (blk_cell BA4.out 0).trans rfl
      have hca1 : W4.cell? ⟨wr.heap.size, 1, none⟩ = some (.int .i64 x.f0.f1) := (blk_cell BA4.out 1).trans rfl
      have hca2 : W4.cell? ⟨wr.heap.size, 2, none⟩ = some (.int .u8 x.f1.f0) := (blk_cell BA4.out 2).trans rfl
      have hca3 : W4.cell? ⟨wr.heap.size, 3, none⟩ = some (.int .i64 x.f1.f1) := (blk_cell BA4.out 3).trans rfl
      clear hx0 hx1 hx2 hx3 p0 q0
      generalize (l1.take i).map pieceOf = out at *
      have hx0 := (blk_cell (blk_alloc HI4.out.1 (.cells #[.int .i64 x.f0.f0, .int .i64 x.f0.f1, .int .u8 x.f1.f0, .int .i64 x.f1.f1] 97)) 0).trans rfl
      go_region_law (refine Kd.R_append_step k97 (w0 := w) w.heap.size rfl (.tmp 18) (.tmp 24) 59 97 (.agg #[(.int .i64 0), (.int .i64 0), (.int .u8 0), (.int .i64 0)]) 32 rfl Try.underlying59 infoV rfl (by decide) (by omega) _ out (⟨x.f0, x.f1⟩ : S97) [.int .i64 x.f0.f0, .int .i64 x.f0.f1, .int .u8 x.f1.f0, .int .i64 x.f1.f1] (fun k_ => k_ ≠ w.heap.size) (fun _ => False) rfl rfl (k97_mkM _ _ _ _) (fun _ hk => hk.elim) ?aF HI8.out.2.2.1 HI8.out.2.2.2 HI8.out.2.2.2.size HL.out ?_; (case aF => intro k_ hk_ he_; subst he_; exact absurd (LnV.lt HI8.out) (Nat.not_lt.2 hk_)); intro v1 w6 ho hb hg hat; obtain ⟨A1, c1, rfl⟩ := Kd.R_slice ho; rw [List.length_append, List.length_singleton] at ho hat; have hB6 := blk_grown HI8.out.1 hg (Kd.R_away HI8.out.2.2.1 (fun _ hk => hk)); have HO6 := Aside0.mk ho; have HB6 := Aside0.mk hB6; have Hb6 := Aside0.mk hb; have hc64 := (blk_cell hB6 0).trans rfl; have hf64 := blk_frozen hB6 0; clear ho hb hg hat hB6)
      all_goals
        go_wp2
        go_roundg (l1.length - (i + 1))
        case measure => have := HJ.out; have := HII.out; omega
        case rel => exact ⟨i + 1, _, by go_num, ⟨by have := HII.out; omega, rfl⟩, ⟨by rw [HT.out]; exact LnV.put HB6.out HI8.out.2.1 (by simpa [pieceOf] using HO6.out) Hb6.out⟩⟩
    · have hd : decide ((i : Int) < (l1.length : Int)) = false := decide_eq_false (by omega)
      have hdn : decide (i < l1.length) = false := decide_eq_false hi
      have ho := HI0.out
      generalize hv : (Value.slice A ((l1.take i).map pieceOf).length c) = vv at ho
      rw [List.take_of_length_le (by omega)] at ho
      subst hv
      have HO2 := Aside0.mk ho
      clear ho
      go_wp2
      go_ret
      exact ⟨rfl, _, HO2.out⟩
section
variable {F : Fence} {n : Nat} {P : Program} {ops : Array Oper} {Q : Exit → Act → World → Prop} {md : Region.Mode} {S : World → Prop} {ds : List Nat}
def noDefer (ops : Array Oper) : Bool := ops.all fun o => match o.op with | .defer _ => false | _ => true
theorem noDefer_spec (h : noDefer ops = true) {i : Nat} {o : Oper} (hi : ops[i]? = some o) : ∀ c, o.op ≠ .defer c := by
  intro c hc
  have h1 := Array.all_eq_true_iff_forall_mem.1 h o (Array.mem_of_getElem? hi)
  simp [hc] at h1
def wpAnyLI (F : Fence) (n : Nat) (P : Program) (md : Region.Mode) (ops : Array Oper) (Q : Exit → Act → World → Prop) (S : World → Prop) (ds : List Nat) : Nat → Array Bool → Act → World → Prop
  | 0, listed, a, w => Region.ready md ops listed = [] ∧ Q .normal a w
  | fuel + 1, listed, a, w =>
    (Region.ready md ops listed = [] → Q .normal a w) ∧
    ∀ i ∈ Region.ready md ops listed, wpOpIn F n P ops Q i (fun a' w' => (i ∉ ds → S w → S w') ∧ wpAnyLI F n P md ops Q S ds fuel (listed.setIfInBounds i true) a' w') a w
theorem anyIn_of_LI : ∀ (fuel : Nat) (listed : Array Bool) (a : Act) (w : World), wpAnyLI F n P md ops Q S ds fuel listed a w → wpAnyIn F n P md ops Q fuel listed a w
  | 0, _, _, _, h => h
  | fuel + 1, _, _, _, h => ⟨h.1, fun i hi => wpOpIn_mono (fun a' w' h' => anyIn_of_LI fuel _ a' w' h'.2) (h.2 i hi)⟩
theorem yi_wpOpI (hF : ∀ f, F.fn f) (hnd : noDefer ops = true) {i : Nat} {o : Oper} {v : Value} {a : Act} (hi : ops[i]? = some o) (hy : YieldsIf P ops S o v a)
    {K : Act → World → Prop} {w : World} (hS : S w) (h : K (a.put o.dst v) w) : wpOpIn F n P ops Q i K a w := by
  unfold Go.wpOpIn
  simp only [hi]
  rcases hy with ⟨hw, hv⟩ | ⟨hw, rfl⟩
  · simp only [hw, if_true, Oper.wpIn, Oper.semAt_eq _ _ _ (noDefer_spec hnd hi), hv w hS, Oper.uponIn]; exact ⟨fun f _ => hF f, h⟩
  · simp only [hw, Bool.false_eq_true, if_false]; exact ⟨fun f _ => hF f, h⟩
theorem yields_true {o : Oper} {v : Value} {a : Act} (h : YieldsIf P ops (fun _ => True) o v a) : Yields P ops o v a :=
  h.imp (fun ⟨hw, hv⟩ => ⟨hw, fun w => hv w trivial⟩) id
theorem wpOp_putI (hF : ∀ f, F.fn f) (hnd : noDefer ops = true) {j : Nat} {oi oj : Oper} {v : Value} (hj : ops[j]? = some oj) (hap : oi.apart ops oj = true)
    (hsi : ∀ cs b, oi.op ≠ .select cs b) (hsj : ∀ cs b, oj.op ≠ .select cs b)
    (hQ : ∀ c a w, Q (.panic c) (a.put oi.dst v) w → Q (.panic c) a w) {K : Act → World → Prop} {a : Act} {w : World}
    (hy : YieldsIf P ops S oi v a) (h : wpOpIn F n P ops Q j K (a.put oi.dst v) w) :
    wpOpIn F n P ops Q j (fun a' w' => YieldsIf P ops S oi v a' ∧ K (a'.put oi.dst v) w') a w := by
  obtain ⟨h1, h2, h3⟩ := Oper.apart_spec hap
  have keep : ∀ (a : Act), YieldsIf P ops S oi v a → ∀ u, YieldsIf P ops S oi v (a.put oj.dst u) := fun a hy u =>
    hy.of_same (execOp_put oi hsi a oj.dst u h3) (wanted_put oi a oj.dst u h3)
  have keepD : ∀ d, YieldsIf P ops S oi v { a with defers := d :: a.defers } := fun d => hy.of_same rfl rfl
  have hj' := hj
  unfold wpOpIn at *
  simp only [hj] at h ⊢
  rw [wanted_put oj a oi.dst v h1] at h
  split
  · rename_i hw
    simp only [hw, if_true] at h
    unfold Oper.wpIn at *
    refine ⟨fun f _ => hF f, ?_⟩
    have h := h.2
    rw [Oper.semAt_eq _ _ _ (noDefer_spec hnd hj), execOp_put oj hsj a oi.dst v h1] at h
    rw [Oper.semAt_eq _ _ _ (noDefer_spec hnd hj)]
    generalize (execOp a.eval oj).run P w = r at *
    cases r with
    | ok x w' =>
      cases x <;> simp only [Oper.uponIn] at h ⊢
      case value u => exact ⟨keep a hy u, by rw [← Act.put_comm a v u h2]; exact h⟩
      case skip => exact ⟨keep a hy _, by rw [← Act.put_comm a v undef h2]; exact h⟩
      case defer d =>
        refine ⟨keep _ (keepD d) _, ?_⟩
        rw [← Act.put_comm _ v undef h2, ← Act.put_defers]
        exact h
      case enter f args =>
        refine ⟨h.1, CallsIn.mono h.2 fun e w'' he => ?_⟩
        cases e with
        | returned u => exact ⟨keep a hy u, by rw [← Act.put_comm a v u h2]; exact he⟩
        | panicked c => exact hQ _ _ _ he
        | outgrown => exact he
      case row row args => exact ⟨h.1, RowsIn.mono h.2 fun u w'' he => ⟨keep a hy u, by rw [← Act.put_comm a v u h2]; exact he⟩⟩
      case round l f tmps assign body =>
        refine ⟨h.1, RoundIn.mono h.2 fun e w'' he => ?_⟩
        cases e with
        | returned u => exact ⟨keep a hy u, by rw [← Act.put_comm a v u h2]; exact he⟩
        | panicked c => exact hQ _ _ _ he
        | outgrown => exact he
    | halt x w' =>
      cases x <;> simp only [Oper.uponIn] at h ⊢
      case panic u => exact hQ _ _ _ h
  · rename_i hw
    simp only [hw] at h
    exact ⟨fun f _ => hF f, keep a hy _, by rw [← Act.put_comm a v undef h2]; exact h.2⟩
theorem wpAnyLI_first (hF : ∀ f, F.fn f) (hnd : noDefer ops = true) {i : Nat} {oi : Oper} {v : Value} (hi : ops[i]? = some oi) (hsel : ∀ (j : Nat) (o : Oper) cs b, ops[j]? = some o → o.op ≠ .select cs b)
    (hQ : ∀ c a w, Q (.panic c) (a.put oi.dst v) w → Q (.panic c) a w) (N : Nat) :
    ∀ (fuel : Nat) (listed : Array Bool) (a : Act) (w : World),
      (∀ j oj, ops[j]? = some oj → j ≠ i → listed.getD j true = false → (∀ e ∈ oj.after, Region.binds md e = true → e.on ≠ i) → oi.apart ops oj = true) →
      ListedClosed md ops listed → (∀ d ∈ ds, listed.getD d true = false → Region.reachB md ops i N d = true) →
      i ∈ Region.ready md ops listed → YieldsIf P ops S oi v a → S w →
      wpAnyLI F n P md ops Q S ds fuel (listed.setIfInBounds i true) (a.put oi.dst v) w → wpAnyLI F n P md ops Q S ds (fuel + 1) listed a w := by
  intro fuel
  induction fuel with
  | zero =>
    intro listed a w _ _ _ hr hy hS H
    refine ⟨fun h => (by rw [h] at hr; cases hr), fun j hj => ?_⟩
    by_cases hji : j = i
    · subst hji; exact yi_wpOpI hF hnd hi hy hS ⟨fun _ h => h, H⟩
    · have := ready_mono hj hji
      rw [H.1] at this
      cases this
  | succ fuel ih =>
    intro listed a w hfree hc hd hr hy hS H
    refine ⟨fun h => (by rw [h] at hr; cases hr), fun j hj => ?_⟩
    by_cases hji : j = i
    · subst hji; exact yi_wpOpI hF hnd hi hy hS ⟨fun _ h => h, H⟩
    · have h1 := H.2 j (ready_mono hj hji)
      obtain ⟨hjun, oj, hoj, hall⟩ := mem_ready.1 hj
      have hiun := (mem_ready.1 hr).1
      have hnot : ∀ e ∈ oj.after, Region.binds md e = true → e.on ≠ i := fun e he hb heq => by
        have h1 := hall e he hb
        rw [heq] at h1
        rcases Nat.lt_or_ge i listed.size with h' | h'
        · simp [h'] at hiun h1; rw [hiun] at h1; cases h1
        · simp [Array.getElem?_eq_none h'] at h1
      have hjd : j ∉ ds := fun hm => Region.reach_not_ready hc (hd j hm hjun) hiun hj
      have h2 := wpOp_putI hF hnd hoj (hfree j oj hoj hji hjun hnot) (fun cs b => hsel i oi cs b hi) (fun cs b => hsel j oj cs b hoj) hQ hy h1
      have hfree' : ∀ k ok, ops[k]? = some ok → k ≠ i → (listed.setIfInBounds j true).getD k true = false →
          (∀ e ∈ ok.after, Region.binds md e = true → e.on ≠ i) → oi.apart ops ok = true := fun k ok hk hki hun hno => by
        refine hfree k ok hk hki ?_ hno
        by_cases hjk : j = k
        · subst hjk; exact hjun
        · rw [getD_set_ne true hjk] at hun; exact hun
      have hd' : ∀ d ∈ ds, (listed.setIfInBounds j true).getD d true = false → Region.reachB md ops i N d = true := fun d hm hun => by
        refine hd d hm ?_
        by_cases hjk : j = d
        · subst hjk; exact hjun
        · rw [getD_set_ne true hjk] at hun; exact hun
      refine wpOpIn_mono (fun a' w' h3 => ⟨h3.2.1, ih (listed.setIfInBounds j true) a' w' hfree' (hc.set hj) hd' (ready_mono hr (Ne.symm hji)) h3.1 (h3.2.1 hjd hS) ?_⟩) h2
      rw [Array.setIfInBounds_comm _ _ hji]
      exact h3.2.2
theorem wpAnyLI_any (hF : ∀ f, F.fn f) (hnd : noDefer ops = true) {i : Nat} {oi : Oper} {v : Value} (hi : ops[i]? = some oi) (hsel : ∀ (j : Nat) (o : Oper) cs b, ops[j]? = some o → o.op ≠ .select cs b)
    (hQ : ∀ c a w, Q (.panic c) (a.put oi.dst v) w → Q (.panic c) a w) :
    ∀ (fuel : Nat) (listed : Array Bool) (a : Act) (w : World),
      (∀ j oj, ops[j]? = some oj → j ≠ i → listed.getD j true = false → (∀ e ∈ oj.after, Region.binds md e = true → e.on ≠ i) → oi.apart ops oj = true) →
      i ∈ Region.ready md ops listed → Yields P ops oi v a →
      wpAnyLI F n P md ops Q S ds fuel (listed.setIfInBounds i true) (a.put oi.dst v) w → wpAnyLI F n P md ops Q S ds (fuel + 1) listed a w := by
  intro fuel
  induction fuel with
  | zero =>
    intro listed a w _ hr hy H
    refine ⟨fun h => (by rw [h] at hr; cases hr), fun j hj => ?_⟩
    by_cases hji : j = i
    · subst hji; exact yi_wpOpI hF hnd hi (hy.yieldsIf (S := fun _ => True)) trivial ⟨fun _ h => h, H⟩
    · have := ready_mono hj hji
      rw [H.1] at this
      cases this
  | succ fuel ih =>
    intro listed a w hfree hr hy H
    refine ⟨fun h => (by rw [h] at hr; cases hr), fun j hj => ?_⟩
    by_cases hji : j = i
    · subst hji; exact yi_wpOpI hF hnd hi (hy.yieldsIf (S := fun _ => True)) trivial ⟨fun _ h => h, H⟩
    · have h1 := H.2 j (ready_mono hj hji)
      obtain ⟨hjun, oj, hoj, hall⟩ := mem_ready.1 hj
      have hiun := (mem_ready.1 hr).1
      have hnot : ∀ e ∈ oj.after, Region.binds md e = true → e.on ≠ i := fun e he hb heq => by
        have h1 := hall e he hb
        rw [heq] at h1
        rcases Nat.lt_or_ge i listed.size with h' | h'
        · simp [h'] at hiun h1; rw [hiun] at h1; cases h1
        · simp [Array.getElem?_eq_none h'] at h1
      have h2 := wpOp_putI hF hnd hoj (hfree j oj hoj hji hjun hnot) (fun cs b => hsel i oi cs b hi) (fun cs b => hsel j oj cs b hoj) hQ (hy.yieldsIf (S := fun _ => True)) h1
      have hfree' : ∀ k ok, ops[k]? = some ok → k ≠ i → (listed.setIfInBounds j true).getD k true = false →
          (∀ e ∈ ok.after, Region.binds md e = true → e.on ≠ i) → oi.apart ops ok = true := fun k ok hk hki hun hno => by
        refine hfree k ok hk hki ?_ hno
        by_cases hjk : j = k
        · subst hjk; exact hjun
        · rw [getD_set_ne true hjk] at hun; exact hun
      refine wpOpIn_mono (fun a' w' h3 => ⟨h3.2.1, ih (listed.setIfInBounds j true) a' w' hfree' (ready_mono hr (Ne.symm hji)) (yields_true h3.1) ?_⟩) h2
      rw [Array.setIfInBounds_comm _ _ hji]
      exact h3.2.2
theorem wpAnyLI_take (hF : ∀ f, F.fn f) (hnd : noDefer ops = true) {i : Nat} {oi : Oper} {v : Value} {fuel : Nat} {listed : Array Bool} {a : Act} {w : World} (hi : ops[i]? = some oi)
    (hs : Region.noSelect ops = true) (hf : Region.free md ops listed i = true) (hr : (Region.ready md ops listed).contains i = true)
    (hc : Region.closedB md ops listed = true) (hl : Region.lastB md ops listed ds i = true)
    (hQ : ∀ c a w, Q (.panic c) (a.put oi.dst v) w → Q (.panic c) a w) (hy : YieldsIf P ops S oi v a) (hS : S w)
    (h : wpAnyLI F n P md ops Q S ds fuel (listed.setIfInBounds i true) (a.put oi.dst v) w) : wpAnyLI F n P md ops Q S ds (fuel + 1) listed a w :=
  wpAnyLI_first hF hnd hi (Region.noSelect_spec hs) hQ ops.size fuel listed a w (Region.free_spec hi hf) (Region.closedB_spec hc)
    (fun d hm hun => by have := List.all_eq_true.1 hl d hm; rw [hun] at this; simpa using this) (by simpa using hr) hy hS h
theorem wpAnyLI_all {rs : List Nat} {fuel : Nat} {listed : Array Bool} {a : Act} {w : World} (hr : Region.ready md ops listed = rs) (hne : rs ≠ [])
    (h : ∀ i ∈ rs, wpOpIn F n P ops Q i (fun a' w' => (i ∉ ds → S w → S w') ∧ wpAnyLI F n P md ops Q S ds fuel (listed.setIfInBounds i true) a' w') a w) : wpAnyLI F n P md ops Q S ds (fuel + 1) listed a w :=
  ⟨fun h0 => absurd (hr ▸ h0) hne, hr ▸ h⟩
theorem wpAnyLI_done {listed : Array Bool} {a : Act} {w : World} (hr : Region.ready md ops listed = []) (h : Q .normal a w) :
    ∀ fuel, wpAnyLI F n P md ops Q S ds fuel listed a w
  | 0 => ⟨hr, h⟩
  | _ + 1 => ⟨fun _ => h, by rw [hr]; simp⟩
theorem startI {id m : Nat} {a : Act} {w : World} (l : Array Bool) (hm : P.follows .mixedOrders = true) (hn : ops.size = m) (hl : Array.replicate m false = l) (h : wpAnyLI F n P .any ops Q S ds m l a w.drew) : (Code.region id ops true).wpIn F n P Q a w := by
  subst hn
  subst hl
  exact wpIn_region_any hm (anyIn_of_LI _ _ _ _ h)
theorem takeI (hF : ∀ f, F.fn f) (hnd : noDefer ops = true) {i : Nat} {N : Option Tmp} {oi : Oper} {v : Value} {fuel : Nat} {l : Array Bool} {a : Act} {w : World} (l' : Array Bool) (hi : ops[i]? = some oi) (hN : oi.dst = N) (hc : takeB md ops ds l l' i = true)
    (hQ : ∀ c a w, Q (.panic c) (a.put oi.dst v) w → Q (.panic c) a w) (hy : YieldsIf P ops S oi v a) (hS : S w) {a' : Act} (ha : a.put N v = a')
    (h : wpAnyLI F n P md ops Q S ds fuel l' a' w) : wpAnyLI F n P md ops Q S ds (fuel + 1) l a w := by
  subst ha
  subst hN
  simp only [takeB, Bool.and_eq_true, beq_iff_eq] at hc
  obtain ⟨⟨⟨⟨⟨h1, h2⟩, h3⟩, h4⟩, h5⟩, h6⟩ := hc
  subst h6
  exact wpAnyLI_take hF hnd hi h1 h2 h3 h4 h5 hQ hy hS h
theorem pureI (hF : ∀ f, F.fn f) (hnd : noDefer ops = true) {i : Nat} {N : Option Tmp} {oi : Oper} {v : Value} {fuel : Nat} {l : Array Bool} {a : Act} {w : World} (l' : Array Bool) (hi : ops[i]? = some oi) (hN : oi.dst = N) (hc : anyB md ops l l' i = true)
    (hQ : ∀ c a w, Q (.panic c) (a.put oi.dst v) w → Q (.panic c) a w) (hy : Yields P ops oi v a) {a' : Act} (ha : a.put N v = a')
    (h : wpAnyLI F n P md ops Q S ds fuel l' a' w) : wpAnyLI F n P md ops Q S ds (fuel + 1) l a w := by
  subst ha
  subst hN
  simp only [anyB, Bool.and_eq_true, beq_iff_eq] at hc
  obtain ⟨⟨⟨h1, h2⟩, h3⟩, h6⟩ := hc
  subst h6
  exact wpAnyLI_any hF hnd hi (Region.noSelect_spec h1) hQ fuel l a w (Region.free_spec hi h2) (by simpa using h3) hy h
theorem lastI {i : Nat} {N : Option Tmp} {oi : Oper} {fuel : Nat} {l : Array Bool} {a : Act} {w : World} (l' : Array Bool) (hi : ops[i]? = some oi) (hN : oi.dst = N) (hc : readyB md ops l l' i = true) (hd : i ∈ ds) (hw : Region.wanted oi (yielded ops a.tmps) = true)
    (h : ∀ K : Act → World → Prop, (∀ a' w', wpAnyLI F n P md ops Q S ds fuel l' a' w' → K a' w') → Oper.wpIn F n P oi a w K Q) :
    wpAnyLI F n P md ops Q S ds (fuel + 1) l a w := by
  subst hN
  simp only [readyB, Bool.and_eq_true, beq_iff_eq] at hc
  obtain ⟨h1, h2⟩ := hc
  subst h2
  refine wpAnyLI_all h1 (by simp) (fun j hj => ?_)
  obtain rfl := List.mem_singleton.1 hj
  unfold wpOpIn
  rw [hi]
  simp only [hw, if_true]
  exact h _ (fun a' w' h' => ⟨fun hn => absurd hd hn, h'⟩)
theorem doneI {l : Array Bool} {a : Act} {w : World} {m : Nat} (hr : (Region.ready md ops l == []) = true) (h : Q .normal a w) : wpAnyLI F n P md ops Q S ds m l a w := wpAnyLI_done (by simpa using hr) h m
end
theorem R_append_in {F : Fence} {n : Nat} {P : Program} {ops : Array Oper} {rest : List Oper} {o : Oper} {a : Act} {Q : Exit → Act → World → Prop} {α : Type} (d : Kd α) {w0 W : World} (base : Nat) (hgd : o.guard = none) (s x : Operand) (t e : TypeId) (z : Value) (bytes : Nat)
    (ho : o.op = .call { callee := .builtin .append, args := #[s, x], argTypes := #[t, t] })
    (ht : P.underlying t = some (.slice e)) (hinfo : (P.info? e).map (fun i => (i.zero, i.size, i.bytes)) = some (some z, d.sz, bytes)) (hz : z.cells.size = d.sz) (hs0 : 0 < d.sz) (hb0 : 0 < bytes)
    (v : Value) (xs : List α) (p : α) (cs : List Value) (ok okp : Nat → Prop) (hs : a.eval s = v) (hx : a.eval x = .slice (some ⟨W.heap.size, 0, none⟩) 1 1) (hp : d.M W base okp p cs) (hokp : ∀ k, okp k → ok k ∧ some k ≠ v.ownBlock) (hfresh : ∀ k, W.heap.size ≤ k → ok k)
    (HO : d.R e W base ok v xs) (HB : Below base w0 W) (hbase : base ≤ W.heap.size) (hl : (xs.length + 1) * bytes ≤ 140737488355328)
    (h : ∀ v1 w1, d.R e w1 base ok v1 (xs ++ [p]) → Below base w0 w1 → W.grownBy w1 v.ownBlock → (v1.ownBlock = v.ownBlock ∨ ∃ b, v1.ownBlock = some b ∧ W.heap.size ≤ b) → wpListIn F n P ops Q rest (a.put o.dst v1) w1) :
    wpListIn F n P ops Q (o :: rest) a (W.alloc (.cells cs.toArray e)) := by
  obtain ⟨h0, inner, hown, hr⟩ := HO
  obtain ⟨i0, hi, hzz⟩ := Option.map_eq_some_iff.1 hinfo
  simp only [Prod.mk.injEq] at hzz
  obtain ⟨hz0, hz1, hz2⟩ := hzz
  have hys : cs.length = d.sz := d.K_len (d.K_of_M hp)
  have hlen : xs.length + 1 ≤ 140737488355328 := Nat.le_trans (Nat.le_mul_of_pos_right _ hb0) hl
  refine wpListIn_plain hgd fun K hK' => ?_
  obtain ⟨v', w', hrun, r1, r2, _, r4⟩ := run_append_own_at (P := P) (w := W.alloc (.cells cs.toArray e)) base t o.type e i0 z d.sz bytes ht hi hz0 hz1 hz2 hz hs0 v xs.length inner (hown.alloc _) ⟨W.heap.size, 0, none⟩ 1 1 cs (by rw [hys]; simp)
    (by simpa using World.news_of_block (cs := cs.toArray) (t := e) (fr := (0, 0)) (heap_alloc_new W (.cells cs.toArray e))) (d.K_one (d.K_of_M hp)) (by simp only [maxLen]; omega) hl (by simp; omega)
  have hg1 : W.grownBy w' v.ownBlock := World.grownBy.trans (World.grownBy_alloc W _ _) r2
  have hat : v'.ownBlock = v.ownBlock ∨ ∃ b, v'.ownBlock = some b ∧ W.heap.size ≤ b := by
    rcases r4 with r4 | r4
    · exact .inl r4
    · exact .inr ⟨_, r4, by simp⟩
  have hfin := h v' w' (Kd.R_appended h0 hr hp hokp hfresh r1 hg1 hat) ((HB.alloc hbase _).grown r2 (by simp; omega) (own_base hown)) hg1 hat
  unfold Oper.wpIn
  refine ⟨?_, ?_⟩
  · simp [Oper.about, ho, resolve, Target.leads, Sem.run_pure]
  · rw [Oper.semAt_plain F _ _ (by rw [ho]; intro c hc'; cases hc')]
    simp [execOp, ho, resolve, invoke, builtin, hs, hx, hrun, Result.andThen]
    exact hK' _ _ hfin
theorem own_grown {α : Type} {d : Kd α} {e N base : Nat} {ok : Nat → Prop} {W W' : World} {v : Value} {xs : List α} {row : Option Nat} (h : Kd.R d e W base ok v xs) (hg : W.grownBy W' row) (hr : ∀ r, row = some r → N ≤ r ∧ ∃ o : Obj, W.heap[r]? = some o ∧ o.isCells = false) : Kd.R d e W' base ok v xs := by
  refine Kd.R_mono (Kd.R_grown (Kd.R_bound h) hg (fun k hk e => ?_)) (fun k hk => hk.1)
  obtain ⟨_, _, _, q, _, cells, hc⟩ := hk
  obtain ⟨_, o, ho, hf⟩ := hr k e.symm
  rw [hc] at ho
  cases ho
  cases hf
theorem blk_grown_ {W W' : World} {row : Option Nat} {N B t : Nat} {cs : Array Value} {fr : Nat × Nat} (h : W.heap[B]? = some (.cells cs t fr)) (hg : W.grownBy W' row) (hr : ∀ r, row = some r → N ≤ r ∧ ∃ o : Obj, W.heap[r]? = some o ∧ o.isCells = false) : W'.heap[B]? = some (.cells cs t fr) :=
  (hg.block B (blk_lt h) (fun e => by
    obtain ⟨_, o, ho, hc⟩ := hr B e.symm
    rw [h] at ho
    cases ho
    cases hc)).trans h
attribute [local go_sem] Oper.semAt_some
theorem both_in (n : Nat) (p q : Option Addr) (w : World) :
    CallsIn Fence.wide n Try.prog 35 #[.pointer p, .pointer q] w fun e w' => e = .returned (.func (.func 48) #[] #[.pointer (some ⟨w.heap.size, 0, none⟩), .pointer (some ⟨w.heap.size + 1, 0, none⟩)]) ∧ w' = (w.alloc (.cells #[.pointer p] 58)).alloc (.cells #[.pointer q] 58) := by
  refine callsIn_of_wp Try.func35 rfl trivial ?_ rfl
  simp only [Try.ntmps35, List.size_toArray, List.length_cons, List.length_nil, Nat.reduceAdd, Nat.reduceSub, Array.replicate_succ, Array.replicate_zero, List.push_toArray, List.append_toArray, List.nil_append, List.cons_append]
  gi_wp2
  go_ret
  exact ⟨rfl, rfl⟩
attribute [local go_sem] Oper.semAt_some
def intSz : Value → Nat
  | .int _ x => x.toNat
  | _ => 0
theorem cell_alloc_ne {W : World} {o : Obj} {a : Addr} (h : (a.block = W.heap.size) = False) : (W.alloc o).cell? a = W.cell? a := by
  have h' : ¬ a.block = W.heap.size := by simpa using h
  have e : (W.alloc o).heap[a.block]? = W.heap[a.block]? := by
    show (W.heap.push o)[a.block]? = _
    rw [Array.getElem?_push, if_neg h']
  simp only [World.cell?, e]
attribute [local go_sem] cell_alloc_ne
abbrev PcV := S97
def bothL : Nat → List PcV → List PcV → List (PcV × PcV)
  | 0, _, _ => []
  | _, [], _ => []
  | _, _, [] => []
  | n + 1, x :: xs, y :: ys => (x, y) :: bothL n (if x.f0.f1 = (if y.f0.f1 < x.f0.f1 then y.f0.f1 else x.f0.f1) then xs else x :: xs) (if y.f0.f1 = (if y.f0.f1 < x.f0.f1 then y.f0.f1 else x.f0.f1) then ys else y :: ys)
def mxf (p : PcV × PcV) : Int := if p.1.f0.f0 < p.2.f0.f0 then p.2.f0.f0 else p.1.f0.f0
def mnt (p : PcV × PcV) : Int := if p.2.f0.f1 < p.1.f0.f1 then p.2.f0.f1 else p.1.f0.f1
def encB (p : PcV × PcV) : Array Value := #[.agg #[.int .i64 (mxf p), .int .i64 (mnt p)], .agg #[.int .u8 p.1.f1.f0, .int .i64 p.1.f1.f1, .int .u8 p.2.f1.f0, .int .i64 p.2.f1.f1]]
theorem KeepIn.cells {g k t : Nat} {W W' : World} {cs : Array Value} {fr : Nat × Nat} (hk : KeepIn g W W') (hg : g < k) (h : W.heap[k]? = some (.cells cs t fr)) (ht : t ≠ 80) : W'.heap[k]? = some (.cells cs t fr) := hk.2 k cs t fr hg h ht
theorem KeepIn.row {g : Nat} {W W' : World} {v : Value} {xs : List PcV} (hk : KeepIn g W W') (h : Kd.R k97 97 W 0 (fun k => g < k) v xs) : Kd.R k97 97 W' 0 (fun k => g < k) v xs :=
  Kd.R_mono (Kd.R_step (Kd.R_bound h) (fun k h1 _ => by
    obtain ⟨h2, _, h3, q, hq, cs, hc⟩ := h1
    exact (hk.cells h2 hc ((by decide : ∀ q, q ∈ 97 :: k97.E → q ≠ 80) q hq)).trans hc.symm)) (fun _ h1 => h1.1)
structure BothIn (g Ba Bb ga gb : Nat) (la lb : List PcV) (Aa Ab : Option Addr) (ca cb : Nat) (W : World) : Prop where
  lt : g < Ba ∧ g < Bb ∧ g < ga ∧ g < gb ∧ g < W.heap.size
  ba : W.heap[Ba]? = some (.cells #[.pointer (some ⟨ga, 0, none⟩)] 58 (0, 0))
  bb : W.heap[Bb]? = some (.cells #[.pointer (some ⟨gb, 0, none⟩)] 58 (0, 0))
  al : W.heap[ga]? = some (.cells #[.slice Aa la.length ca] 61 (0, 0))
  bl : W.heap[gb]? = some (.cells #[.slice Ab lb.length cb] 61 (0, 0))
  ra : Kd.R k97 97 W 0 (fun k => g < k) (.slice Aa la.length ca) la
  rb : Kd.R k97 97 W 0 (fun k => g < k) (.slice Ab lb.length cb) lb
theorem BothIn.keep {g Ba Bb ga gb : Nat} {la lb : List PcV} {Aa Ab : Option Addr} {ca cb : Nat} {W W' : World} (h : BothIn g Ba Bb ga gb la lb Aa Ab ca cb W) (hk : KeepIn g W W') : BothIn g Ba Bb ga gb la lb Aa Ab ca cb W' :=
  ⟨⟨h.lt.1, h.lt.2.1, h.lt.2.2.1, h.lt.2.2.2.1, Nat.lt_of_lt_of_le h.lt.2.2.2.2 hk.1⟩, hk.cells h.lt.1 h.ba (by decide), hk.cells h.lt.2.1 h.bb (by decide), hk.cells h.lt.2.2.1 h.al (by decide), hk.cells h.lt.2.2.2.1 h.bl (by decide), hk.row h.ra, hk.row h.rb⟩
theorem BothIn.below {g Ba Bb ga gb : Nat} {la lb : List PcV} {Aa Ab : Option Addr} {ca cb : Nat} {W W' : World} (h : BothIn g Ba Bb ga gb la lb Aa Ab ca cb W) (hb : Below W.heap.size W W') : BothIn g Ba Bb ga gb la lb Aa Ab ca cb W' :=
  h.keep (KeepIn.below (n := 0) hb)
theorem bothL_cons (n : Nat) (x : PcV) (xs : List PcV) (y : PcV) (ys : List PcV) : bothL (n + 1) (x :: xs) (y :: ys) = (x, y) :: bothL n (if x.f0.f1 = (if y.f0.f1 < x.f0.f1 then y.f0.f1 else x.f0.f1) then xs else x :: xs) (if y.f0.f1 = (if y.f0.f1 < x.f0.f1 then y.f0.f1 else x.f0.f1) then ys else y :: ys) := rfl
theorem bothL_nl (m : Nat) (b : List PcV) : bothL m [] b = [] := by cases m <;> rfl
theorem bothL_nr (m : Nat) (a : List PcV) : bothL m a [] = [] := by cases m <;> cases a <;> rfl
theorem bi_y {i j m a b d : Nat} (h : i ≤ a ∧ j ≤ b ∧ (a - i) + (b - j) ≤ m + 1 ∧ d + (m + 1) ≤ a + b) : d < a + b := by omega
theorem bi_xy {i j m a b d : Nat} (h : i ≤ a ∧ j ≤ b ∧ (a - i) + (b - j) ≤ m + 1 ∧ d + (m + 1) ≤ a + b) (h2 : i < a ∧ j < b) : i + 1 ≤ a ∧ j + 1 ≤ b ∧ (a - (i + 1)) + (b - (j + 1)) ≤ m ∧ d + 1 + m ≤ a + b := by omega
theorem bi_x {i j m a b d : Nat} (h : i ≤ a ∧ j ≤ b ∧ (a - i) + (b - j) ≤ m + 1 ∧ d + (m + 1) ≤ a + b) (h2 : i < a ∧ j < b) : i + 1 ≤ a ∧ j ≤ b ∧ (a - (i + 1)) + (b - j) ≤ m ∧ d + 1 + m ≤ a + b := by omega
theorem bi_n {i j m a b d : Nat} (h : i ≤ a ∧ j ≤ b ∧ (a - i) + (b - j) ≤ m + 1 ∧ d + (m + 1) ≤ a + b) (h2 : i < a ∧ j < b) : i ≤ a ∧ j + 1 ≤ b ∧ (a - i) + (b - (j + 1)) ≤ m ∧ d + 1 + m ≤ a + b := by omega
theorem bm_xy {i j a b : Nat} (h2 : i < a ∧ j < b) : (a - intSz (.int .i64 ((i : Int) + 1))) + (b - intSz (.int .i64 ((j : Int) + 1))) < (a - intSz (.int .i64 (i : Int))) + (b - intSz (.int .i64 (j : Int))) := by simp only [intSz]; omega
theorem bm_x {i j a b : Nat} (h2 : i < a ∧ j < b) : (a - intSz (.int .i64 ((i : Int) + 1))) + (b - intSz (.int .i64 (j : Int))) < (a - intSz (.int .i64 (i : Int))) + (b - intSz (.int .i64 (j : Int))) := by simp only [intSz]; omega
theorem bm_n {i j a b : Nat} (h2 : i < a ∧ j < b) : (a - intSz (.int .i64 (i : Int))) + (b - intSz (.int .i64 ((j : Int) + 1))) < (a - intSz (.int .i64 (i : Int))) + (b - intSz (.int .i64 (j : Int))) := by simp only [intSz]; omega
theorem cast1 (i : Nat) : Value.int .i64 ((i : Int) + 1) = Value.int .i64 ((i + 1 : Nat) : Int) := rfl
set_option maxRecDepth 100000 in
set_option maxHeartbeats 4000000 in
theorem both1_in (n : Nat) (hn : 1 ≤ n) (l g Ba Bb ga gb : Nat) (la lb : List PcV) (Aa Ab : Option Addr) (ca cb : Nat) (J Jx : List (PcV × PcV) → World → Prop)
    (hY : ∀ pre x W, J pre W → pre.length < la.length + lb.length → YieldAt Fence.wide (n - 1) Try.prog l (encB x) W fun e W' =>
      (e = .returned (.bool true) ∧ J (pre ++ [x]) W' ∧ KeepIn g W W') ∨ (e = .returned (.bool false) ∧ Jx (pre ++ [x]) W'))
    (hJg : ∀ pre W W', J pre W → W.grownBy W' none → J pre W')
    (W : World) (hB : BothIn g Ba Bb ga gb la lb Aa Ab ca cb W) (h0 : J [] W) :
    CallsIn Fence.wide n Try.prog 48 #[.func (.yield l) #[] #[], .pointer (some ⟨Ba, 0, none⟩), .pointer (some ⟨Bb, 0, none⟩)] W fun e W' => (∃ v, e = .returned v) ∧
      ((∃ ys, ys = bothL (la.length + lb.length) la lb ∧ J ys W') ∨ (∃ pre, Jx pre W')) := by
  have HMA := Aside0.mk (Kd.C_max (Kd.R_reads' hB.ra).2.2)
  have HMB := Aside0.mk (Kd.C_max (Kd.R_reads' hB.rb).2.2)
  refine callsIn_of_wp Try.func48 rfl trivial ?_ rfl
  simp only [Try.ntmps48, List.size_toArray, List.length_cons, List.length_nil, Nat.reduceAdd, Nat.reduceSub, Array.replicate_succ, Array.replicate_zero, List.push_toArray, List.append_toArray, List.nil_append, List.cons_append]
  gi_wp2
  gi_loopw [4, 5] (fun v4 v5 wr => ∃ (i j m : Nat) (ds : List (PcV × PcV)), v4 = .int .i64 (i : Int) ∧ v5 = .int .i64 (j : Int) ∧ Aside0 (i ≤ la.length ∧ j ≤ lb.length ∧ (la.length - i) + (lb.length - j) ≤ m ∧ ds.length + m ≤ la.length + lb.length) ∧ Aside0 (bothL (la.length + lb.length) la lb = ds ++ bothL m (la.drop i) (lb.drop j)) ∧ Aside0 (BothIn g Ba Bb ga gb la lb Aa Ab ca cb wr) ∧ J ds wr)
    (fun v4 v5 _ => (la.length - intSz v4) + (lb.length - intSz v5))
  case atStart => exact ⟨0, 0, la.length + lb.length, [], rfl, rfl, ⟨Nat.zero_le _, Nat.zero_le _, Nat.le_refl _, by simp⟩, ⟨rfl⟩, ⟨hB⟩, h0⟩
  case round =>
    obtain ⟨i, j, m, ds, rfl, rfl, HI, HL, HB, hJ⟩ := hrel
    have hm := HMA.out
    have hm2 := HMB.out
    have ba0 := (blk_cell HB.out.ba 0).trans rfl
    have bb0 := (blk_cell HB.out.bb 0).trans rfl
    have la0 := (blk_cell HB.out.al 0).trans rfl
    have lb0 := (blk_cell HB.out.bl 0).trans rfl
    by_cases hij : i < la.length ∧ j < lb.length
    · obtain ⟨hi, hj⟩ := hij
      have hd : decide ((i : Int) < (la.length : Int)) = true := decide_eq_true (by omega)
      have hdn : decide (i < la.length) = true := decide_eq_true hi
      have hd2 : decide ((j : Int) < (lb.length : Int)) = true := decide_eq_true (by omega)
      have hdn2 : decide (j < lb.length) = true := decide_eq_true hj
      have p0 : (0 : Int) ≤ (i : Int) := by omega
      have q0 : (i : Int) < (la.length : Int) := by omega
      have p1 : (0 : Int) ≤ (j : Int) := by omega
      have q1 : (j : Int) < (lb.length : Int) := by omega
      obtain ⟨ad, ead, hx0, hx1, hx2, hx3⟩ := at_T97 (Kd.R_reads' HB.out.ra).2.2 (i : Int) p0 q0
      obtain ⟨bd, ebd, hy0, hy1, hy2, hy3⟩ := at_T97 (Kd.R_reads' HB.out.rb).2.2 (j : Int) p1 q1
      cases ead
      cases ebd
      simp only [Int.toNat_natCast] at hx0 hx1 hx2 hx3 hy0 hy1 hy2 hy3
      obtain ⟨x, hx⟩ : ∃ x, rd_T97 la (i : Int) = x := ⟨_, rfl⟩
      obtain ⟨y, hy⟩ : ∃ y, rd_T97 lb (j : Int) = y := ⟨_, rfl⟩
      have HX := Aside0.mk hx
      have HY2 := Aside0.mk hy
      rw [hx] at hx0 hx1 hx2 hx3
      rw [hy] at hy0 hy1 hy2 hy3
      replace p0 := eq_true p0
      replace q0 := eq_true q0
      replace p1 := eq_true p1
      replace q1 := eq_true q1
      clear hx hy
      have lBa := blk_lt HB.out.ba
      have lBb := blk_lt HB.out.bb
      have lga := blk_lt HB.out.al
      have lgb := blk_lt HB.out.bl
      have lad : (ad.add (i * 4)).block < wr.heap.size := World.block_lt_of_cell? wr (ad.add (i * 4)) hx0
      have lbd : (bd.add (j * 4)).block < wr.heap.size := World.block_lt_of_cell? wr (bd.add (j * 4)) hy0
      have e1 : (Ba = wr.heap.size) = False := eq_false (by omega)
      have e2 : (Bb = wr.heap.size) = False := eq_false (by omega)
      have e3 : (ga = wr.heap.size) = False := eq_false (by omega)
      have e4 : (gb = wr.heap.size) = False := eq_false (by omega)
      have f1 : (Ba = wr.heap.size + 1) = False := eq_false (by omega)
      have f2 : (Bb = wr.heap.size + 1) = False := eq_false (by omega)
      have f3 : (ga = wr.heap.size + 1) = False := eq_false (by omega)
      have f4 : (gb = wr.heap.size + 1) = False := eq_false (by omega)
      have e7 : ((ad.add (i * 4)).block = wr.heap.size) = False := eq_false (by omega)
      have e8 : ((bd.add (j * 4)).block = wr.heap.size) = False := eq_false (by omega)
      have f7 : ((ad.add (i * 4)).block = wr.heap.size + 1) = False := eq_false (by omega)
      have f8 : ((bd.add (j * 4)).block = wr.heap.size + 1) = False := eq_false (by omega)
      clear lBa lBb lga lgb lad lbd
      obtain ⟨mx, hmx⟩ : ∃ mx, (if x.f0.f0 < y.f0.f0 then y.f0.f0 else x.f0.f0) = mx := ⟨_, rfl⟩
      obtain ⟨mt, hmt⟩ : ∃ mt, (if y.f0.f1 < x.f0.f1 then y.f0.f1 else x.f0.f1) = mt := ⟨_, rfl⟩
      have hc : x.f0.f1 = mt ∨ y.f0.f1 = mt := by rw [← hmt]; split <;> simp
      have hrdx : Aside0 (la.drop i = x :: la.drop (i + 1)) := ⟨by
        rw [List.drop_eq_getElem_cons hi, ← HX.out]
        simp [rd_T97, List.getD_eq_getElem?_getD, hi]⟩
      have hrdy : Aside0 (lb.drop j = y :: lb.drop (j + 1)) := ⟨by
        rw [List.drop_eq_getElem_cons hj, ← HY2.out]
        simp [rd_T97, List.getD_eq_getElem?_getD, hj]⟩
      have HII := Aside0.mk (And.intro hi hj)
      obtain ⟨m, rfl⟩ : ∃ m', m = m' + 1 := ⟨m - 1, by have := HI.out; omega⟩
      have wi : IntKind.i64.wrap ((i : Int) + 1) = (i : Int) + 1 := by rw [i64_w]; unfold wrap64; omega
      have wj : IntKind.i64.wrap ((j : Int) + 1) = (j : Int) + 1 := by rw [i64_w]; unfold wrap64; omega
      clear hi hj
      gi_wp2
      gi_region
      · have HBb := Aside0.mk (below_drew1 (below_alloc (below_alloc (Below.refl wr.heap.size wr) (.cells #[.int .i64 x.f0.f0, .int .i64 x.f0.f1, .int .u8 x.f1.f0, .int .i64 x.f1.f1] 97)) (.cells #[.int .i64 y.f0.f0, .int .i64 y.f0.f1, .int .u8 y.f1.f0, .int .i64 y.f1.f1] 97)))
        have WX := Aside0.mk (blk_drew (blk_alloc (heap_alloc_new wr (.cells #[.int .i64 x.f0.f0, .int .i64 x.f0.f1, .int .u8 x.f1.f0, .int .i64 x.f1.f1] 97)) (.cells #[.int .i64 y.f0.f0, .int .i64 y.f0.f1, .int .u8 y.f1.f0, .int .i64 y.f1.f1] 97)))
        have WY : Aside0 (((wr.alloc (.cells #[.int .i64 x.f0.f0, .int .i64 x.f0.f1, .int .u8 x.f1.f0, .int .i64 x.f1.f1] 97)).alloc (.cells #[.int .i64 y.f0.f0, .int .i64 y.f0.f1, .int .u8 y.f1.f0, .int .i64 y.f1.f1] 97)).drew.heap[wr.heap.size + 1]? = some (.cells #[.int .i64 y.f0.f0, .int .i64 y.f0.f1, .int .u8 y.f1.f0, .int .i64 y.f1.f1] 97 (0, 0))) := ⟨blk_drew (by
          have := heap_alloc_new (wr.alloc (.cells #[.int .i64 x.f0.f0, .int .i64 x.f0.f1, .int .u8 x.f1.f0, .int .i64 x.f1.f1] 97)) (.cells #[.int .i64 y.f0.f0, .int .i64 y.f0.f1, .int .u8 y.f1.f0, .int .i64 y.f1.f1] 97)
          rwa [World.size_alloc] at this)⟩
        generalize ((wr.alloc (.cells #[.int .i64 x.f0.f0, .int .i64 x.f0.f1, .int .u8 x.f1.f0, .int .i64 x.f1.f1] 97)).alloc (.cells #[.int .i64 y.f0.f0, .int .i64 y.f0.f1, .int .u8 y.f1.f0, .int .i64 y.f1.f1] 97)).drew = W2 at HBb WX WY ⊢
        have hgx : g < wr.heap.size := by have := HB.out.lt; omega
        have hgy : g < wr.heap.size + 1 := by have := HB.out.lt; omega
        have HB2 := Aside0.mk (HB.out.below HBb.out)
        have hJ2 : J ds W2 := hJg _ _ _ hJ ⟨HBb.out.os, HBb.out.tape, HBb.out.output, HBb.out.size, fun k hk _ => HBb.out.block k hk⟩
        have hxc0 := (blk_cell WX.out 0).trans rfl
        have hxc1 := (blk_cell WX.out 1).trans rfl
        have hxc2 := (blk_cell WX.out 2).trans rfl
        have hxc3 := (blk_cell WX.out 3).trans rfl
        have hyc0 := (blk_cell WY.out 0).trans rfl
        have hyc1 := (blk_cell WY.out 1).trans rfl
        have hyc2 := (blk_cell WY.out 2).trans rfl
        have hyc3 := (blk_cell WY.out 3).trans rfl
        obtain ⟨fn, tmps, assign, body, hy, hR⟩ := hY ds (x, y) W2 hJ2 (bi_y HI.out)
        dsimp only [encB] at hy
        rw [show mxf (x, y) = mx from hmx, show mnt (x, y) = mt from hmt] at hy
        as_aux_lemma =>
          gi_wp2
          refine hR.mono ?_
          rintro e W3 (⟨rfl, hJ3, hK3⟩ | ⟨rfl, hJx3⟩)
          rotate_left
          · gi_wp2
            refine bodyPost_ret (results_none rfl _ _ _) rfl ?_
            exact ⟨⟨_, rfl⟩, .inr ⟨_, hJx3⟩⟩
          have WX3 := Aside0.mk (hK3.cells hgx WX.out (by decide))
          have WY3 := Aside0.mk (hK3.cells hgy WY.out (by decide))
          have HB3 := Aside0.mk (HB2.out.keep hK3)
          have hxz1 := (blk_cell WX3.out 1).trans rfl
          have hyz1 := (blk_cell WY3.out 1).trans rfl
          clear hy hR hJ hJ2 hK3 hxc0 hxc1 hxc2 hxc3 hyc0 hyc1 hyc2 hyc3
          by_cases c1 : x.f0.f1 = mt
          · have b1 : (x.f0.f1 == mt) = true := beq_iff_eq.mpr c1
            by_cases c2 : y.f0.f1 = mt
            · have b2 : (y.f0.f1 == mt) = true := beq_iff_eq.mpr c2
              have HL2 : Aside0 (bothL (la.length + lb.length) la lb = (ds ++ [(x, y)]) ++ bothL m (la.drop (i + 1)) (lb.drop (j + 1))) := ⟨by rw [HL.out, hrdx.out, hrdy.out, bothL_cons, hmt, if_pos c1, if_pos c2, List.append_assoc]; rfl⟩
              clear c1 c2
              gi_wp2
              go_roundw
              case rel => exact ⟨i + 1, j + 1, m, _, cast1 i, cast1 j, ⟨by rw [List.length_append, List.length_singleton]; exact bi_xy HI.out HII.out⟩, HL2, HB3, hJ3⟩
              case measure => exact bm_xy HII.out
            · have b2 : (y.f0.f1 == mt) = false := beq_eq_false_iff_ne.mpr c2
              have HL2 : Aside0 (bothL (la.length + lb.length) la lb = (ds ++ [(x, y)]) ++ bothL m (la.drop (i + 1)) (lb.drop j)) := ⟨by rw [HL.out, hrdx.out, hrdy.out, bothL_cons, hmt, if_pos c1, if_neg c2, List.append_assoc]; rfl⟩
              clear c1 c2
              gi_wp2
              go_roundw
              case rel => exact ⟨i + 1, j, m, _, cast1 i, rfl, ⟨by rw [List.length_append, List.length_singleton]; exact bi_x HI.out HII.out⟩, HL2, HB3, hJ3⟩
              case measure => exact bm_x HII.out
          · have b1 : (x.f0.f1 == mt) = false := beq_eq_false_iff_ne.mpr c1
            have c2 : y.f0.f1 = mt := hc.resolve_left c1
            have b2 : (y.f0.f1 == mt) = true := beq_iff_eq.mpr c2
            have HL2 : Aside0 (bothL (la.length + lb.length) la lb = (ds ++ [(x, y)]) ++ bothL m (la.drop i) (lb.drop (j + 1))) := ⟨by rw [HL.out, hrdx.out, hrdy.out, bothL_cons, hmt, if_neg c1, if_pos c2, List.append_assoc]; rfl⟩
            clear c1 c2
            gi_wp2
            go_roundw
            case rel => exact ⟨i, j + 1, m, _, rfl, cast1 j, ⟨by rw [List.length_append, List.length_singleton]; exact bi_n HI.out HII.out⟩, HL2, HB3, hJ3⟩
            case measure => exact bm_n HII.out
      · have HBb := Aside0.mk (below_drew1 (below_alloc (below_alloc (Below.refl wr.heap.size wr) (.cells #[.int .i64 y.f0.f0, .int .i64 y.f0.f1, .int .u8 y.f1.f0, .int .i64 y.f1.f1] 97)) (.cells #[.int .i64 x.f0.f0, .int .i64 x.f0.f1, .int .u8 x.f1.f0, .int .i64 x.f1.f1] 97)))
        have WY := Aside0.mk (blk_drew (blk_alloc (heap_alloc_new wr (.cells #[.int .i64 y.f0.f0, .int .i64 y.f0.f1, .int .u8 y.f1.f0, .int .i64 y.f1.f1] 97)) (.cells #[.int .i64 x.f0.f0, .int .i64 x.f0.f1, .int .u8 x.f1.f0, .int .i64 x.f1.f1] 97)))
        have WX : Aside0 (((wr.alloc (.cells #[.int .i64 y.f0.f0, .int .i64 y.f0.f1, .int .u8 y.f1.f0, .int .i64 y.f1.f1] 97)).alloc (.cells #[.int .i64 x.f0.f0, .int .i64 x.f0.f1, .int .u8 x.f1.f0, .int .i64 x.f1.f1] 97)).drew.heap[wr.heap.size + 1]? = some (.cells #[.int .i64 x.f0.f0, .int .i64 x.f0.f1, .int .u8 x.f1.f0, .int .i64 x.f1.f1] 97 (0, 0))) := ⟨blk_drew (by
          have := heap_alloc_new (wr.alloc (.cells #[.int .i64 y.f0.f0, .int .i64 y.f0.f1, .int .u8 y.f1.f0, .int .i64 y.f1.f1] 97)) (.cells #[.int .i64 x.f0.f0, .int .i64 x.f0.f1, .int .u8 x.f1.f0, .int .i64 x.f1.f1] 97)
          rwa [World.size_alloc] at this)⟩
        generalize ((wr.alloc (.cells #[.int .i64 y.f0.f0, .int .i64 y.f0.f1, .int .u8 y.f1.f0, .int .i64 y.f1.f1] 97)).alloc (.cells #[.int .i64 x.f0.f0, .int .i64 x.f0.f1, .int .u8 x.f1.f0, .int .i64 x.f1.f1] 97)).drew = W2 at HBb WX WY ⊢
        have hgx : g < wr.heap.size + 1 := by have := HB.out.lt; omega
        have hgy : g < wr.heap.size := by have := HB.out.lt; omega
        have HB2 := Aside0.mk (HB.out.below HBb.out)
        have hJ2 : J ds W2 := hJg _ _ _ hJ ⟨HBb.out.os, HBb.out.tape, HBb.out.output, HBb.out.size, fun k hk _ => HBb.out.block k hk⟩
        have hxc0 := (blk_cell WX.out 0).trans rfl
        have hxc1 := (blk_cell WX.out 1).trans rfl
        have hxc2 := (blk_cell WX.out 2).trans rfl
        have hxc3 := (blk_cell WX.out 3).trans rfl
        have hyc0 := (blk_cell WY.out 0).trans rfl
        have hyc1 := (blk_cell WY.out 1).trans rfl
        have hyc2 := (blk_cell WY.out 2).trans rfl
        have hyc3 := (blk_cell WY.out 3).trans rfl
        obtain ⟨fn, tmps, assign, body, hy, hR⟩ := hY ds (x, y) W2 hJ2 (bi_y HI.out)
        dsimp only [encB] at hy
        rw [show mxf (x, y) = mx from hmx, show mnt (x, y) = mt from hmt] at hy
        as_aux_lemma =>
          gi_wp2
          refine hR.mono ?_
          rintro e W3 (⟨rfl, hJ3, hK3⟩ | ⟨rfl, hJx3⟩)
          rotate_left
          · gi_wp2
            refine bodyPost_ret (results_none rfl _ _ _) rfl ?_
            exact ⟨⟨_, rfl⟩, .inr ⟨_, hJx3⟩⟩
          have WX3 := Aside0.mk (hK3.cells hgx WX.out (by decide))
          have WY3 := Aside0.mk (hK3.cells hgy WY.out (by decide))
          have HB3 := Aside0.mk (HB2.out.keep hK3)
          have hxz1 := (blk_cell WX3.out 1).trans rfl
          have hyz1 := (blk_cell WY3.out 1).trans rfl
          clear hy hR hJ hJ2 hK3 hxc0 hxc1 hxc2 hxc3 hyc0 hyc1 hyc2 hyc3
          by_cases c1 : x.f0.f1 = mt
          · have b1 : (x.f0.f1 == mt) = true := beq_iff_eq.mpr c1
            by_cases c2 : y.f0.f1 = mt
            · have b2 : (y.f0.f1 == mt) = true := beq_iff_eq.mpr c2
              have HL2 : Aside0 (bothL (la.length + lb.length) la lb = (ds ++ [(x, y)]) ++ bothL m (la.drop (i + 1)) (lb.drop (j + 1))) := ⟨by rw [HL.out, hrdx.out, hrdy.out, bothL_cons, hmt, if_pos c1, if_pos c2, List.append_assoc]; rfl⟩
              clear c1 c2
              gi_wp2
              go_roundw
              case rel => exact ⟨i + 1, j + 1, m, _, cast1 i, cast1 j, ⟨by rw [List.length_append, List.length_singleton]; exact bi_xy HI.out HII.out⟩, HL2, HB3, hJ3⟩
              case measure => exact bm_xy HII.out
            · have b2 : (y.f0.f1 == mt) = false := beq_eq_false_iff_ne.mpr c2
              have HL2 : Aside0 (bothL (la.length + lb.length) la lb = (ds ++ [(x, y)]) ++ bothL m (la.drop (i + 1)) (lb.drop j)) := ⟨by rw [HL.out, hrdx.out, hrdy.out, bothL_cons, hmt, if_pos c1, if_neg c2, List.append_assoc]; rfl⟩
              clear c1 c2
              gi_wp2
              go_roundw
              case rel => exact ⟨i + 1, j, m, _, cast1 i, rfl, ⟨by rw [List.length_append, List.length_singleton]; exact bi_x HI.out HII.out⟩, HL2, HB3, hJ3⟩
              case measure => exact bm_x HII.out
          · have b1 : (x.f0.f1 == mt) = false := beq_eq_false_iff_ne.mpr c1
            have c2 : y.f0.f1 = mt := hc.resolve_left c1
            have b2 : (y.f0.f1 == mt) = true := beq_iff_eq.mpr c2
            have HL2 : Aside0 (bothL (la.length + lb.length) la lb = (ds ++ [(x, y)]) ++ bothL m (la.drop i) (lb.drop (j + 1))) := ⟨by rw [HL.out, hrdx.out, hrdy.out, bothL_cons, hmt, if_neg c1, if_pos c2, List.append_assoc]; rfl⟩
            clear c1 c2
            gi_wp2
            go_roundw
            case rel => exact ⟨i, j + 1, m, _, rfl, cast1 j, ⟨by rw [List.length_append, List.length_singleton]; exact bi_n HI.out HII.out⟩, HL2, HB3, hJ3⟩
            case measure => exact bm_n HII.out
    · have hex : ds = bothL (la.length + lb.length) la lb := by
        by_cases hi : i < la.length
        · have hj : ¬ j < lb.length := fun h => hij ⟨hi, h⟩
          have e : lb.drop j = [] := List.drop_eq_nil_of_le (by omega)
          rw [HL.out, e, bothL_nr, List.append_nil]
        · have e : la.drop i = [] := List.drop_eq_nil_of_le (by omega)
          rw [HL.out, e, bothL_nl, List.append_nil]
      by_cases hi : i < la.length
      case' pos =>
        have hd : decide ((i : Int) < (la.length : Int)) = true := decide_eq_true (by omega)
        have hdn : decide (i < la.length) = true := decide_eq_true hi
        have hj : ¬ j < lb.length := fun h => hij ⟨hi, h⟩
        have hd2 : decide ((j : Int) < (lb.length : Int)) = false := decide_eq_false (by omega)
        have hdn2 : decide (j < lb.length) = false := decide_eq_false hj
        clear hj
      case' neg =>
        have hd : decide ((i : Int) < (la.length : Int)) = false := decide_eq_false (by omega)
        have hdn : decide (i < la.length) = false := decide_eq_false hi
      all_goals
        clear hij hi
        gi_wp2
        first | go_end0 | ((try simp only [Exit.inBlock, Exit.then]); refine bodyPost_ret (results_none rfl _ _ _) rfl ?_)
        exact ⟨⟨_, rfl⟩, .inl ⟨ds, hex, hJ⟩⟩
attribute [local go_sem] Oper.semAt_some
attribute [local go_sem high] eqA35
def ofPair (p : PcV × PcV) : S80 := ⟨⟨mxf p, mnt p⟩, (!p.1.f1.f0 == p.2.f1.f0 || !p.1.f1.f1 == p.2.f1.f1)⟩
def putP (out : List S80) (p : PcV × PcV) : List S80 := addB out (ofPair p)
def differL (a b : List S52) : List S80 := (bothL ((a.map pieceOf).length + (b.map pieceOf).length) (a.map pieceOf) (b.map pieceOf)).foldl putP []
def heldB (p : S80) : Option S23 := if p.f1 = true then some p.f0 else none
theorem addB_len (out : List S80) (x : S80) : (addB out x).length ≤ out.length + 1 := by unfold addB; split <;> simp
theorem puts_len : ∀ (ps : List (PcV × PcV)) (out : List S80), (ps.foldl putP out).length ≤ out.length + ps.length
  | [], _ => Nat.le_refl _
  | p :: ps, out => by
    have h1 := puts_len ps (putP out p)
    have h2 := addB_len out (ofPair p)
    have h3 : (putP out p).length ≤ out.length + 1 := h2
    simp only [List.foldl_cons, List.length_cons]
    omega
theorem bothL_len : ∀ (n : Nat) (a b : List PcV), (bothL n a b).length ≤ n
  | 0, _, _ => Nat.zero_le _
  | n + 1, [], b => by simp [bothL]
  | n + 1, x :: xs, [] => by simp [bothL]
  | n + 1, x :: xs, y :: ys => by
    rw [bothL_cons, List.length_cons]
    exact Nat.succ_le_succ (bothL_len n _ _)
def line_Differ.f (k : Nat) (a0_0 a0_1 : Int) (l1 l2 : List S52) : Option (List S23 × Int) := (line_Check.f k a0_0 a0_1 l1).bind fun y => if y ≠ 0 then some ([], 2) else (line_Check.f k a0_0 a0_1 l2).bind fun z => if z ≠ 0 then some ([], 2) else
  if (l1.length + l2.length + 1) * 32 ≤ 140737488355328 then some (if 1024 < ((differL l1 l2).filterMap heldB).length then ([], 11) else ((differL l1 l2).filterMap heldB, 0)) else none
theorem line_Differ.mono : ∀ a0 a1 a2 a3 k, LeO (line_Differ.f k a0 a1 a2 a3) (line_Differ.f (k + 1) a0 a1 a2 a3) := by
  intro a0 a1 a2 a3 k
  unfold line_Differ.f
  exact LeO.bind (line_Check.mono _ _ _ _) (fun _ => LeO.ite (LeO.refl _) (LeO.bind (line_Check.mono _ _ _ _) (fun _ => LeO.refl _)))
structure DiffIn (w0 W2 W : World) (g Bx : Nat) (pre : List (PcV × PcV)) : Prop where
  line : ∃ v, LnB w0 W g v (pre.foldl putP [])
  box : W.heap[Bx]? = some (.cells #[.pointer (some ⟨g, 0, none⟩)] 68 (0, 0))
  size : W2.heap.size ≤ W.heap.size
theorem DiffIn.own {w0 W2 A B : World} {g Bx N : Nat} {pre : List (PcV × PcV)} {row : Option Nat} (h : DiffIn w0 W2 A g Bx pre) (hg : A.grownBy B row) (hr : ∀ r, row = some r → N ≤ r ∧ ∃ o : Obj, A.heap[r]? = some o ∧ o.isCells = false) (hN : w0.heap.size ≤ N) : DiffIn w0 W2 B g Bx pre := by
  obtain ⟨⟨v, h1, h2, h3, h4⟩, h5, h6⟩ := h
  exact ⟨⟨v, blk_grown_ h1 hg hr, h2, own_grown h3 hg hr, h4.grown hg h4.size (fun k e => by have := (hr k e).1; omega)⟩, blk_grown_ h5 hg hr, Nat.le_trans h6 hg.size⟩
theorem len_ok {a b p q n m : Nat} (h1 : (a + b + 1) * 32 ≤ 140737488355328) (h2 : n ≤ ([] : List S80).length + m) (h3 : m < p + q) (hp : p = a) (hq : q = b) : (n + 1) * 24 ≤ 140737488355328 := by
  rw [List.length_nil] at h2
  refine Nat.le_trans (Nat.mul_le_mul (show n + 1 ≤ a + b + 1 from ?_) (by decide)) h1
  clear h1
  omega
theorem len_ok2 {a b n i m : Nat} (h1 : (a + b + 1) * 32 ≤ 140737488355328) (h2 : n ≤ a + b) (h3 : i < n) (h4 : m ≤ i) : (m + 1) * 16 ≤ 140737488355328 := by
  refine Nat.le_trans (Nat.mul_le_mul (show m + 1 ≤ a + b + 1 from ?_) (by decide)) h1
  clear h1
  omega
theorem dm1 {i n : Nat} (h : i < n) : n - intSz (.int .i64 ((i : Int) + 1)) < n - intSz (.int .i64 (i : Int)) := by simp only [intSz]; omega
theorem blk_below' {W W' : World} {k : Nat} {o : Obj} (h : W.heap[k]? = some o) (hk : k < W.heap.size) (hb : Below W.heap.size W W') : W'.heap[k]? = some o := (hb.block k hk).trans h
theorem DiffIn.below {w0 W2 A B : World} {g Bx : Nat} {pre : List (PcV × PcV)} (h : DiffIn w0 W2 A g Bx pre) (hb : Below A.heap.size A B) : DiffIn w0 W2 B g Bx pre := by
  obtain ⟨⟨v, h1⟩, h5, h6⟩ := h
  exact ⟨⟨v, h1.below hb⟩, blk_below h5 hb, Nat.le_trans h6 hb.size⟩
theorem KeepIn.putWalk {g l : Nat} {W : World} {o : Obj} (h : W.heap[l]? = some o) (hc : o.isCells = false) (o' : Obj) : KeepIn g W (W.putObj l o') := by
  have hg := grownBy_putObj' W l o'
  refine ⟨hg.size, fun k cs t fr _ hb _ => (hg.block k (blk_lt hb) (fun e => ?_)).trans hb⟩
  have e' : k = l := Option.some.inj e
  subst e'
  rw [h] at hb
  cases hb
  cases hc
set_option maxRecDepth 100000 in
set_option maxHeartbeats 4000000 in
theorem line_Differ.walk (k : Nat) (a0_0 a0_1 : Int) (A1 : Option Addr) (c1 : Nat) (l1 : List S52) (A2 : Option Addr) (c2 : Nat) (l2 : List S52) (w : World) (hr1 : Kd.C k52 w A1 l1.length l1) (hc1 : l1.length ≤ c1) (hr2 : Kd.C k52 w A2 l2.length l2) (hc2 : l2.length ≤ c2)
    (h1 : line_Check.f k a0_0 a0_1 l1 = some 0) (h2 : line_Check.f k a0_0 a0_1 l2 = some 0) (hl : (l1.length + l2.length + 1) * 32 ≤ 140737488355328) :
    Calls Try.prog 20 #[.agg #[.int .i64 a0_0, .int .i64 a0_1], .slice A1 l1.length c1, .slice A2 l2.length c2] w fun e w' => ∃ v0_ : Value, e = .returned (.tuple #[v0_, .int .i64 (if 1024 < ((differL l1 l2).filterMap heldB).length then 11 else 0)]) ∧ Kd.R k23 23 w' w.heap.size (fun _ => True) v0_ (if 1024 < ((differL l1 l2).filterMap heldB).length then [] else (differL l1 l2).filterMap heldB) ∧ Below w.heap.size w w' := by
  refine (callsIn_wide (n := 4)).1 ?_
  have HC1 := Aside0.mk hc1
  have HC2 := Aside0.mk hc2
  have H1 := Aside0.mk h1
  have H2 := Aside0.mk h2
  have HL := Aside0.mk hl
  have HB := Aside0.mk (below_alloc (Below.refl w.heap.size w) (.cells #[.int .i64 a0_0, .int .i64 a0_1] 23))
  have HR1 := Aside0.mk (Kd.C_below hr1 HB.out)
  have HR2 := Aside0.mk (Kd.C_below hr2 HB.out)
  have BK := Aside0.mk (heap_alloc_new w (.cells #[.int .i64 a0_0, .int .i64 a0_1] 23))
  have HZ : w.heap.size + 1 ≤ (w.alloc (.cells #[.int .i64 a0_0, .int .i64 a0_1] 23)).heap.size := by rw [World.size_alloc]; exact Nat.le_refl _
  clear hr1 hc1 hr2 hc2 h1 h2 hl
  refine callsIn_of_wp_marks Try.func20 rfl trivial ?_ rfl
  simp only [Try.ntmps20, List.size_toArray, List.length_cons, List.length_nil, Nat.reduceAdd, Nat.reduceSub, Array.replicate_succ, Array.replicate_zero, List.push_toArray, List.append_toArray, List.nil_append, List.cons_append]
  have hc0 := (blk_cell BK.out 0).trans rfl
  have hc1 := (blk_cell BK.out 1).trans rfl
  gi_wp2
  refine ⟨trivial, ?_⟩
  refine (callsIn_wide.2 (line_Check.calls k a0_0 a0_1 A1 c1 l1 0 _ HR1.out HC1.out H1.out)).mono ?_
  rintro e w1 ⟨rfl, hb1⟩
  have BK1 := Aside0.mk (blk_below BK.out hb1)
  have HR2' := Aside0.mk (Kd.C_below HR2.out hb1)
  have HR1' := Aside0.mk (Kd.C_below HR1.out hb1)
  have HB1 := Aside0.mk (below_step HB.out hb1)
  have HZ1 := Nat.le_trans HZ hb1.size
  clear hb1 hc0 hc1 HR1 HR2 HB HZ BK
  have hc0 := (blk_cell BK1.out 0).trans rfl
  have hc1 := (blk_cell BK1.out 1).trans rfl
  gi_wp2
  refine ⟨trivial, ?_⟩
  refine (callsIn_wide.2 (line_Check.calls k a0_0 a0_1 A2 c2 l2 0 _ HR2'.out HC2.out H2.out)).mono ?_
  rintro e w2 ⟨rfl, hb1⟩
  have HR2 := Aside0.mk (Kd.C_below HR2'.out hb1)
  have HR1 := Aside0.mk (Kd.C_below HR1'.out hb1)
  have HB2 := Aside0.mk (below_step HB1.out hb1)
  clear hb1 hc0 hc1 HR1' HR2' HB1 BK1
  gi_wp2
  have HLB : Aside0 (LnB w2 ((w2.alloc (.cells #[.slice none 0 0] 71)).alloc (.cells #[.pointer (some ⟨w2.heap.size, 0, none⟩)] 68)) w2.heap.size (.slice none 0 0) []) :=
    ⟨blk_alloc (heap_alloc_new w2 _) _, Nat.le_refl _, Kd.R_nil _ _ _ _ _, below_alloc (below_alloc (Below.refl _ _) _) _⟩
  have HBX : Aside0 (((w2.alloc (.cells #[.slice none 0 0] 71)).alloc (.cells #[.pointer (some ⟨w2.heap.size, 0, none⟩)] 68)).heap[w2.heap.size + 1]? = some (.cells #[.pointer (some ⟨w2.heap.size, 0, none⟩)] 68 (0, 0))) := ⟨by
    have := heap_alloc_new (w2.alloc (.cells #[.slice none 0 0] 71)) (.cells #[.pointer (some ⟨w2.heap.size, 0, none⟩)] 68)
    rwa [World.size_alloc] at this⟩
  have HR1' := Aside0.mk (Kd.C_below HR1.out HLB.out.2.2.2)
  have HR2' := Aside0.mk (Kd.C_below HR2.out HLB.out.2.2.2)
  have hz3 : w2.heap.size + 2 = ((w2.alloc (.cells #[.slice none 0 0] 71)).alloc (.cells #[.pointer (some ⟨w2.heap.size, 0, none⟩)] 68)).heap.size := by rw [World.size_alloc, World.size_alloc]
  clear HR1 HR2
  generalize ((w2.alloc (.cells #[.slice none 0 0] 71)).alloc (.cells #[.pointer (some ⟨w2.heap.size, 0, none⟩)] 68)) = W3 at HLB HBX HR1' HR2' hz3 ⊢
  refine ⟨trivial, ?_⟩
  refine (callsIn_wide.2 (of_is A1 c1 l1 (by have := HL.out; omega) W3 HR1'.out HC1.out)).mono ?_
  rintro e w4 ⟨rfl, v4, hV4⟩
  have hz4 := hV4.2.2.2.size
  have hs4 := hV4.lt
  have HR2 := Aside0.mk (Kd.C_below HR2'.out hV4.2.2.2)
  have HV4 := Aside0.mk hV4
  clear hV4 HR1' HR2'
  gi_wp2
  refine ⟨trivial, ?_⟩
  refine (callsIn_wide.2 (of_is A2 c2 l2 (by have := HL.out; omega) w4 HR2.out HC2.out)).mono ?_
  rintro e w5 ⟨rfl, v5, hV5⟩
  have hz5 := hV5.2.2.2.size
  have hs5 := hV5.lt
  have HV5 := Aside0.mk hV5
  clear hV5 HR2
  gi_wp2
  refine ⟨trivial, ?_⟩
  refine (both_in _ _ _ _).mono ?_
  rintro e w6 ⟨rfl, rfl⟩
  gi_wp2
  obtain ⟨Aa, ca, rfl⟩ := Kd.R_slice HV4.out.2.2.1
  obtain ⟨Ab, cb, rfl⟩ := Kd.R_slice HV5.out.2.2.1
  have hb6 : Below w5.heap.size w5 ((w5.alloc (.cells #[.pointer (some ⟨W3.heap.size, 0, none⟩)] 58)).alloc (.cells #[.pointer (some ⟨w4.heap.size, 0, none⟩)] 58)) := below_alloc (below_alloc (Below.refl _ _) _) _
  have hba : ((w5.alloc (.cells #[.pointer (some ⟨W3.heap.size, 0, none⟩)] 58)).alloc (.cells #[.pointer (some ⟨w4.heap.size, 0, none⟩)] 58)).heap[w5.heap.size]? = some (.cells #[.pointer (some ⟨W3.heap.size, 0, none⟩)] 58 (0, 0)) := blk_alloc (heap_alloc_new w5 _) _
  have hbb : ((w5.alloc (.cells #[.pointer (some ⟨W3.heap.size, 0, none⟩)] 58)).alloc (.cells #[.pointer (some ⟨w4.heap.size, 0, none⟩)] 58)).heap[w5.heap.size + 1]? = some (.cells #[.pointer (some ⟨w4.heap.size, 0, none⟩)] 58 (0, 0)) := by
    have := heap_alloc_new (w5.alloc (.cells #[.pointer (some ⟨W3.heap.size, 0, none⟩)] 58)) (.cells #[.pointer (some ⟨w4.heap.size, 0, none⟩)] 58)
    rwa [World.size_alloc] at this
  have hz6 : w5.heap.size + 2 = ((w5.alloc (.cells #[.pointer (some ⟨W3.heap.size, 0, none⟩)] 58)).alloc (.cells #[.pointer (some ⟨w4.heap.size, 0, none⟩)] 58)).heap.size := by rw [World.size_alloc, World.size_alloc]
  generalize ((w5.alloc (.cells #[.pointer (some ⟨W3.heap.size, 0, none⟩)] 58)).alloc (.cells #[.pointer (some ⟨w4.heap.size, 0, none⟩)] 58)) = w6 at hb6 hba hbb hz6 ⊢
  have HBI : Aside0 (BothIn w2.heap.size w5.heap.size (w5.heap.size + 1) W3.heap.size w4.heap.size (l1.map pieceOf) (l2.map pieceOf) Aa Ab ca cb w6) := ⟨by
    have h4 := HV4.out.below HV5.out.2.2.2
    have h46 := h4.below hb6
    have h56 := HV5.out.below hb6
    refine ⟨⟨by omega, by omega, by omega, by omega, by omega⟩, hba, hbb, h46.1, h56.1, Kd.R_mono (Kd.R_lower (Kd.R_bound h46.2.2.1) (Nat.zero_le _)) (fun k hk => by have := hk.2.1; omega), Kd.R_mono (Kd.R_lower (Kd.R_bound h56.2.2.1) (Nat.zero_le _)) (fun k hk => by have := hk.2.1; omega)⟩⟩
  have HLB5 := ((HLB.out.below HV4.out.2.2.2).below HV5.out.2.2.2).below hb6
  have HBX5 := blk_below (blk_below (blk_below HBX.out HV4.out.2.2.2) HV5.out.2.2.2) hb6
  have hD0 : DiffIn w2 w6 w6 w2.heap.size (w2.heap.size + 1) [] := ⟨⟨_, HLB5⟩, HBX5, Nat.le_refl _⟩
  clear HLB5 HBX5 hb6 hba hbb
  have hl1 : (l1.map pieceOf).length = l1.length := List.length_map _
  have hl2 : (l2.map pieceOf).length = l2.length := List.length_map _
  have hseq : SeqStopsK Fence.wide 3 Try.prog 48 #[.pointer (some ⟨w5.heap.size, 0, none⟩), .pointer (some ⟨w5.heap.size + 1, 0, none⟩)] encB (KeepIn w2.heap.size) (fun ys => ys = bothL ((l1.map pieceOf).length + (l2.map pieceOf).length) (l1.map pieceOf) (l2.map pieceOf)) (fun _ => True) ((l1.map pieceOf).length + (l2.map pieceOf).length) w6 := fun l J Jx W hW hJ _ hY h0 =>
    (both1_in 3 (by omega) l w2.heap.size w5.heap.size (w5.heap.size + 1) W3.heap.size w4.heap.size (l1.map pieceOf) (l2.map pieceOf) Aa Ab ca cb J Jx hY (fun _ _ _ h hg => hJ _ _ _ none h hg (fun _ e => by cases e)) W (HBI.out.below hW) h0).mono (by
      rintro e W' ⟨hv, (⟨ys, hys, hj⟩ | ⟨pre, hj⟩)⟩
      · exact ⟨hv, .inl ⟨ys, hys, hj⟩⟩
      · exact ⟨hv, .inr ⟨pre, trivial, hj⟩⟩)
  refine wpIn_rangeFunc_ownH rfl (by omega) (gf := 48) (lb := #[.pointer (some ⟨w5.heap.size, 0, none⟩), .pointer (some ⟨w5.heap.size + 1, 0, none⟩)]) rfl trivial (enters_of Try.func48 (by kernel_rfl) rfl)
    hseq (fun h k => h.trans k) (fun W l o o' _ ho hc _ => KeepIn.putWalk ho hc o') (Below.refl _ _) (fun _ => rfl)
    (fun pre W => DiffIn w2 w6 W w2.heap.size (w2.heap.size + 1) pre)
    (fun _ _ _ => False)
    (fun s A B row h hg hr => h.own hg hr (by omega))
    (fun _ _ _ _ _ hs _ _ => hs)
    hD0
    (fun x a' W => ∃ B9 B10, w6.heap.size ≤ B9 ∧ w6.heap.size ≤ B10 ∧ W.heap[B9]? = some (.cells #[.int .i64 (mxf x), .int .i64 (mnt x)] 23 (0, 0)) ∧ W.heap[B10]? = some (.cells #[.int .u8 x.1.f1.f0, .int .i64 x.1.f1.f1, .int .u8 x.2.f1.f0, .int .i64 x.2.f1.f1] 77 (0, 0)) ∧ a' = { tmps := #[.agg #[.int .i64 a0_0, .int .i64 a0_1], .slice A1 l1.length c1, .slice A2 l2.length c2, .pointer (some ⟨w.heap.size, 0, none⟩), undef, undef, .slice none 0 0, .int .i64 0, .pointer (some ⟨w2.heap.size + 1, 0, none⟩), .pointer (some ⟨B9, 0, none⟩), .pointer (some ⟨B10, 0, none⟩), undef, undef, undef, .agg #[.int .i64 a0_0, .int .i64 a0_1], .slice A1 l1.length c1, .int .i64 0, .bool false, .bool false, .agg #[.int .i64 a0_0, .int .i64 a0_1], .slice A2 l2.length c2, .int .i64 0, .bool false, .bool false, .agg #[.slice none 0 0], .pointer (some ⟨w2.heap.size, 0, none⟩), .slice A1 l1.length c1, .pointer (some ⟨W3.heap.size, 0, none⟩), .slice A2 l2.length c2, .pointer (some ⟨w4.heap.size, 0, none⟩), .func (.func 48) #[] #[.pointer (some ⟨w5.heap.size, 0, none⟩), .pointer (some ⟨w5.heap.size + 1, 0, none⟩)], .agg #[.int .i64 (mxf x), .int .i64 (mnt x)], .agg #[.int .u8 x.1.f1.f0, .int .i64 x.1.f1.f1, .int .u8 x.2.f1.f0, .int .i64 x.2.f1.f1], undef, undef, undef, undef, undef, undef, undef, undef, undef, undef, undef, undef, undef, undef, undef, undef, undef, undef, undef, undef, undef, undef, undef, undef, undef, undef, undef, undef, undef], defers := [] })
    (fun x a' _ A B row ⟨B9, B10, h1, h2, h3, h4, h5⟩ hg hr => ⟨B9, B10, h1, h2, blk_grown_ h3 hg hr, blk_grown_ h4 hg hr, h5⟩) ?assign ?body ?done ?stop
  case assign =>
    rintro l pre x W K hI hK
    dsimp only [encB]
    gi_wp2
    have hb : Below W.heap.size W ((W.alloc (.cells #[.int .i64 (mxf x), .int .i64 (mnt x)] 23)).alloc (.cells #[.int .u8 x.1.f1.f0, .int .i64 x.1.f1.f1, .int .u8 x.2.f1.f0, .int .i64 x.2.f1.f1] 77)) := below_alloc (below_alloc (Below.refl _ _) _) _
    refine hK _ _ ((others_below hb).from _) (KeepIn.below (n := 0) hb) (hI.below hb) ⟨W.heap.size, W.heap.size + 1, hI.size, Nat.le_trans hI.size (Nat.le_succ _), ?_, ?_, rfl⟩
    · exact blk_alloc (heap_alloc_new W _) _
    have := heap_alloc_new (W.alloc (.cells #[.int .i64 (mxf x), .int .i64 (mnt x)] 23)) (.cells #[.int .u8 x.1.f1.f0, .int .i64 x.1.f1.f1, .int .u8 x.2.f1.f0, .int .i64 x.2.f1.f1] 77)
    rwa [World.size_alloc] at this
  case body =>
    rintro l pre x a' W hl hr hI ⟨B9, B10, hB9, hB10, h9, h10, rfl⟩ hlt
    obtain ⟨v, hv⟩ := hI.line
    have HV := Aside0.mk hv
    have HI := Aside0.mk hI
    have HLEN : Aside0 (((pre.foldl putP []).length + 1) * 24 ≤ 140737488355328) := ⟨len_ok HL.out (puts_len pre []) hlt hl1 hl2⟩
    have HPX : Aside0 ((pre ++ [x]).foldl putP [] = addB (pre.foldl putP []) (ofPair x)) := ⟨by rw [List.foldl_append]; rfl⟩
    have hcx := (blk_cell hI.box 0).trans (rfl : _ = some (Value.pointer (some ⟨w2.heap.size, 0, none⟩)))
    have hc90 := (blk_cell h9 0).trans (rfl : _ = some (Value.int .i64 (mxf x)))
    have hc91 := (blk_cell h9 1).trans (rfl : _ = some (Value.int .i64 (mnt x)))
    have hp0 := (blk_cell h10 0).trans (rfl : _ = some (Value.int .u8 x.1.f1.f0))
    have hp1 := (blk_cell h10 1).trans (rfl : _ = some (Value.int .i64 x.1.f1.f1))
    have hp2 := (blk_cell h10 2).trans (rfl : _ = some (Value.int .u8 x.2.f1.f0))
    have hp3 := (blk_cell h10 3).trans (rfl : _ = some (Value.int .i64 x.2.f1.f1))
    have HVD := Aside0.mk (hv.below (below_drew1 (Below.refl W.heap.size W)))
    have HID := Aside0.mk (hI.below (below_drew1 (Below.refl W.heap.size W)))
    clear hv hI h9 h10 hl hr hlt HV HI
    have hmo : Try.prog.follows .mixedOrders = true := by kernel_rfl
    gi_wp2
    refine startI (m := 8) (S := fun w' => w'.cell? ⟨w2.heap.size + 1, 0, none⟩ = some (.pointer (some ⟨w2.heap.size, 0, none⟩)) ∧ w'.cell? ⟨B9, 0, none⟩ = some (.int .i64 (mxf x)) ∧ w'.cell? ⟨B9, 1, none⟩ = some (.int .i64 (mnt x)) ∧ w'.cell? ⟨B10, 0, none⟩ = some (.int .u8 x.1.f1.f0) ∧ w'.cell? ⟨B10, 1, none⟩ = some (.int .i64 x.1.f1.f1) ∧ w'.cell? ⟨B10, 2, none⟩ = some (.int .u8 x.2.f1.f0) ∧ w'.cell? ⟨B10, 3, none⟩ = some (.int .i64 x.2.f1.f1)) (ds := [7]) #[false,false,false,false,false,false,false,false] hmo rfl rfl ?_
    have hHeld : W.drew.cell? ⟨w2.heap.size + 1, 0, none⟩ = some (.pointer (some ⟨w2.heap.size, 0, none⟩)) ∧ W.drew.cell? ⟨B9, 0, none⟩ = some (.int .i64 (mxf x)) ∧ W.drew.cell? ⟨B9, 1, none⟩ = some (.int .i64 (mnt x)) ∧ W.drew.cell? ⟨B10, 0, none⟩ = some (.int .u8 x.1.f1.f0) ∧ W.drew.cell? ⟨B10, 1, none⟩ = some (.int .i64 x.1.f1.f1) ∧ W.drew.cell? ⟨B10, 2, none⟩ = some (.int .u8 x.2.f1.f0) ∧ W.drew.cell? ⟨B10, 3, none⟩ = some (.int .i64 x.2.f1.f1) := ⟨hcx, hc90, hc91, hp0, hp1, hp2, hp3⟩
    refine takeI (fun _ => trivial) (by kernel_rfl) (i := 0) (N := some 33) (v := ?_) (a' := ?_) #[true,false,false,false,false,false,false,false] rfl rfl (by kernel_rfl) (fun _ _ _ h => h) (Or.inl ⟨by rfl, ?_⟩) hHeld ?_ ?_
    rotate_left
    · rintro w' ⟨s0, s1, s2, s3, s4, s5, s6⟩
      go_simp
      with_reducible rfl
    rotate_left
    · simp only [Go.Act.put]
      rfl
    refine takeI (fun _ => trivial) (by kernel_rfl) (i := 1) (N := some 34) (v := ?_) (a' := ?_) #[true,true,false,false,false,false,false,false] rfl rfl (by kernel_rfl) (fun _ _ _ h => h) (Or.inl ⟨by rfl, ?_⟩) hHeld ?_ ?_
    rotate_left
    · rintro w' ⟨s0, s1, s2, s3, s4, s5, s6⟩
      go_simp
      with_reducible rfl
    rotate_left
    · simp only [Go.Act.put]
      rfl
    refine pureI (fun _ => trivial) (by kernel_rfl) (i := 2) (N := some 35) (v := ?_) (a' := ?_) #[true,true,true,false,false,false,false,false] rfl rfl (by kernel_rfl) (fun _ _ _ h => h) (Or.inl ⟨by rfl, ?_⟩) ?_ ?_
    rotate_left
    · intro w'
      go_simp
      with_reducible rfl
    rotate_left
    · simp only [Go.Act.put]
      rfl
    refine takeI (fun _ => trivial) (by kernel_rfl) (i := 3) (N := some 36) (v := ?_) (a' := ?_) #[true,true,true,true,false,false,false,false] rfl rfl (by kernel_rfl) (fun _ _ _ h => h) (Or.inl ⟨by rfl, ?_⟩) hHeld ?_ ?_
    rotate_left
    · rintro w' ⟨s0, s1, s2, s3, s4, s5, s6⟩
      go_simp
      with_reducible rfl
    rotate_left
    · simp only [Go.Act.put]
      rfl
    refine pureI (fun _ => trivial) (by kernel_rfl) (i := 4) (N := some 37) (v := ?_) (a' := ?_) #[true,true,true,true,true,false,false,false] rfl rfl (by kernel_rfl) (fun _ _ _ h => h) (Or.inl ⟨by rfl, ?_⟩) ?_ ?_
    rotate_left
    · intro w'
      go_simp
      with_reducible rfl
    rotate_left
    · simp only [Go.Act.put]
      rfl
    refine takeI (fun _ => trivial) (by kernel_rfl) (i := 5) (N := some 38) (v := ?_) (a' := ?_) #[true,true,true,true,true,true,false,false] rfl rfl (by kernel_rfl) (fun _ _ _ h => h) (Or.inl ⟨by rfl, ?_⟩) hHeld ?_ ?_
    rotate_left
    · rintro w' ⟨s0, s1, s2, s3, s4, s5, s6⟩
      go_simp
      with_reducible rfl
    rotate_left
    · simp only [Go.Act.put]
      rfl
    refine pureI (fun _ => trivial) (by kernel_rfl) (i := 6) (N := some 39) (v := ?_) (a' := ?_) #[true,true,true,true,true,true,true,false] rfl rfl (by kernel_rfl) (fun _ _ _ h => h) (Or.inl ⟨by rfl, ?_⟩) ?_ ?_
    rotate_left
    · intro w'
      go_simp
      with_reducible rfl
    rotate_left
    · simp only [Go.Act.put]
      rfl
    refine lastI (i := 7) (N := some 40) #[true,true,true,true,true,true,true,true] rfl rfl (by kernel_rfl) (by decide) (by rfl) (fun K hK => ?_)
    clear hHeld
    go_simp
    refine ⟨trivial, ?_⟩
    refine (CallsIn.inRound l (callsIn_wide.2 (addB_is w2.heap.size v (pre.foldl putP []) (ofPair x) w2 W.drew HLEN.out HVD.out))).mono ?_
    rintro e w7 ⟨rfl, ⟨v7, hl7⟩, hk7, ho7⟩
    refine hK _ _ (doneI (by kernel_rfl) ?_)
    simp only [Exit.inBlock]
    have hI := HID.out
    refine ⟨((KeepsOthers.drew W).trans ho7).from _, (KeepIn.below (n := 0) (below_drew1 (Below.refl W.heap.size W))).trans hk7, ⟨⟨v7, by rw [HPX.out]; exact hl7⟩, hk7.2 _ _ _ _ (Nat.lt_succ_self _) hI.box (by decide), Nat.le_trans hI.size hk7.1⟩⟩
  case done =>
    rintro D xs W hD hxs hI hDd
    obtain ⟨v, hv⟩ := hI.line
    obtain ⟨out, hout⟩ : ∃ out, differL l1 l2 = out := ⟨_, rfl⟩
    have e1 : xs.foldl putP [] = out := by rw [hxs]; exact hout
    have hln : out.length ≤ l1.length + l2.length := by
      have q1 := puts_len xs []
      have q2 := bothL_len ((l1.map pieceOf).length + (l2.map pieceOf).length) (l1.map pieceOf) (l2.map pieceOf)
      rw [← hxs] at q2
      rw [e1, List.length_nil, Nat.zero_add] at q1
      rw [hl1, hl2] at q2
      exact Nat.le_trans q1 q2
    rw [e1] at hv
    have HOUT := Aside0.mk hout
    obtain ⟨A, c, rfl⟩ := Kd.R_slice hv.2.2.1
    have hcx := (blk_cell hI.box 0).trans (rfl : _ = some (Value.pointer (some ⟨w2.heap.size, 0, none⟩)))
    have hcl := (blk_cell hv.1 0).trans (rfl : _ = some (Value.slice A out.length c))
    have HC := Aside0.mk (Kd.R_reads' hv.2.2.1).2.2
    have HM := Aside0.mk (Kd.C_max HC.out)
    have HBW := Aside0.mk (below_step HB2.out (hv.2.2.2))
    have HLN := Aside0.mk hln
    have HD := Aside0.mk hDd
    have HDl := blk_lt hDd
    have HDw : Aside0 (w.heap.size ≤ D) := ⟨Nat.le_trans (Nat.le_trans HB2.out.size (by omega)) hD⟩
    clear hI hv hDd e1 hxs hout hln hD
    gi_wp2
    clear hcx hcl
    gi_loopw [11, 46] (fun v11 v46 wr => ∃ (i : Nat), v46 = .int .i64 (i : Int) ∧ Aside0 (i ≤ out.length) ∧ Aside0 (Kd.R k23 23 wr W.heap.size (fun _ => True) v11 ((out.take i).filterMap heldB)) ∧ Aside0 (Below W.heap.size W wr))
      (fun _ v46 _ => out.length - intSz v46)
    case atStart => exact ⟨0, rfl, ⟨Nat.zero_le _⟩, ⟨Kd.R_nil _ _ _ _ _⟩, ⟨Below.refl _ _⟩⟩
    case round =>
      obtain ⟨i, rfl, HJ, HO, Hb⟩ := hrel
      have hm := HM.out
      obtain ⟨A3, c3, rfl⟩ := Kd.R_slice HO.out
      by_cases hi : i < out.length
      · have hd : decide ((i : Int) < (out.length : Int)) = true := decide_eq_true (by omega)
        have hdn : decide (i < out.length) = true := decide_eq_true hi
        have p0 : (0 : Int) ≤ (i : Int) := by omega
        have q0 : (i : Int) < (out.length : Int) := by omega
        obtain ⟨ad, ead, hx0, hx1, hx2⟩ := at_T80 (Kd.C_below HC.out Hb.out) (i : Int) p0 q0
        cases ead
        simp only [Int.toNat_natCast] at hx0 hx1 hx2
        obtain ⟨x, hx⟩ : ∃ x, rd_T80 out (i : Int) = x := ⟨_, rfl⟩
        rw [hx] at hx0 hx1 hx2
        have htk : (out.take (i + 1)).filterMap heldB = (out.take i).filterMap heldB ++ (heldB x).toList := by
          rw [List.take_succ_eq_append_getElem hi, List.filterMap_append, ← hx]
          have e2 : rd_T80 out (i : Int) = out[i] := by simp [rd_T80, List.getD_eq_getElem?_getD, hi]
          rw [e2, List.filterMap_cons, List.filterMap_nil]
          cases heldB out[i] <;> rfl
        have HT := Aside0.mk htk
        have HII := Aside0.mk hi
        have HLL : Aside0 ((((out.take i).filterMap heldB).length + 1) * 16 ≤ 140737488355328) := ⟨len_ok2 HL.out HLN.out hi (Nat.le_trans (List.length_filterMap_le _ _) (by rw [List.length_take]; exact Nat.min_le_left _ _))⟩
        have wi : IntKind.i64.wrap ((i : Int) + 1) = (i : Int) + 1 := by rw [i64_w]; unfold wrap64; omega
        replace p0 := eq_true p0
        replace q0 := eq_true q0
        clear hx htk hi
        by_cases hh : x.f1 = true
        · have HT1 : Aside0 ((out.take (i + 1)).filterMap heldB = (out.take i).filterMap heldB ++ [x.f0]) := ⟨by rw [HT.out]; simp only [heldB, if_pos hh]; rfl⟩
          rw [hh] at hx2
          clear hh
          gi_wp2_with (gi_at_builtin; refine R_append_in k23 (w0 := W) W.heap.size rfl (.tmp 52) (.tmp 55) 38 23 (.agg #[(.int .i64 0), (.int .i64 0)]) 16 rfl Try.underlying38 info23 rfl (by decide) (by omega) _ ((out.take i).filterMap heldB) x.f0 [.int .i64 x.f0.f0, .int .i64 x.f0.f1] (fun _ => True) (fun _ => False) rfl ?aX (k23_mkM _ _ _ x.f0) (fun _ hk => hk.elim) (fun _ _ => trivial) (Kd.R_alloc HO.out (.cells #[.int .i64 x.f0.f0, .int .i64 x.f0.f1, .bool true] 80)) (below_alloc Hb.out (.cells #[.int .i64 x.f0.f0, .int .i64 x.f0.f1, .bool true] 80)) (below_alloc Hb.out _).size HLL.out ?_; (case aX => first | rfl | (go_simp; done) | (go_simp; rfl)); intro v1 w1 ho1 hb1 hg1 hat1; have HO1 := Aside0.mk ho1; have Hb1 := Aside0.mk hb1; clear ho1 hb1 hg1 hat1)
          go_roundw
          case rel => exact ⟨i + 1, cast1 i, ⟨HII.out⟩, ⟨by rw [HT1.out]; exact HO1.out⟩, Hb1⟩
          case measure => exact dm1 HII.out
        · have hh0 : x.f1 = false := by cases hq : x.f1 with | true => exact absurd hq hh | false => rfl
          have HT1 : Aside0 ((out.take (i + 1)).filterMap heldB = (out.take i).filterMap heldB) := ⟨by rw [HT.out]; simp only [heldB, if_neg hh]; exact List.append_nil _⟩
          rw [hh0] at hx2
          clear hh hh0
          gi_wp2
          go_roundw
          case rel => exact ⟨i + 1, cast1 i, ⟨HII.out⟩, ⟨by rw [HT1.out]; exact Kd.R_alloc HO.out _⟩, ⟨below_alloc Hb.out _⟩⟩
          case measure => exact dm1 HII.out
      · have hd : decide ((i : Int) < (out.length : Int)) = false := decide_eq_false (by omega)
        have hdn : decide (i < out.length) = false := decide_eq_false hi
        have ho := HO.out
        generalize hv : (Value.slice A3 ((out.take i).filterMap heldB).length c3) = vv at ho
        rw [List.take_of_length_le (by omega)] at ho
        subst hv
        have hlen : ((out.take i).filterMap heldB).length = (out.filterMap heldB).length := by rw [List.take_of_length_le (by omega)]
        rw [hlen] at ho
        have HO2 := Aside0.mk ho
        have e := HOUT.out
        subst e
        clear ho HO
        rw [hlen] at *
        by_cases hc : 1024 < ((differL l1 l2).filterMap heldB).length
        · have hdc : decide ((1024 : Int) < (((differL l1 l2).filterMap heldB).length : Int)) = true := decide_eq_true (by omega)
          have hdc2 : decide (1024 < ((differL l1 l2).filterMap heldB).length) = true := decide_eq_true hc
          gi_wp2
          have hDd := blk_below' HD.out HDl Hb.out
          have hgr := grownBy_putObj' wr D (.deferred none)
          have hrr : ∀ r, some D = some r → w.heap.size ≤ r ∧ ∃ o : Obj, wr.heap[r]? = some o ∧ o.isCells = false := fun r e => by cases e; exact ⟨HDw.out, _, hDd, rfl⟩
          refine ⟨by simp, .inl ⟨_, _, rfl, run_takeDeferred hDd, ?_⟩⟩
          exact ⟨_, results_list (rs := [.tmp 6, .tmp 7]) rfl (by simp) (.tmp (.tmp .nil)), _, rfl, Kd.R_nil _ _ _ _ _, (below_step HBW.out Hb.out).grown hgr (below_step HBW.out Hb.out).size (fun k e => (hrr k e).1)⟩
        · have hdc : decide ((1024 : Int) < (((differL l1 l2).filterMap heldB).length : Int)) = false := decide_eq_false (by omega)
          have hdc2 : decide (1024 < ((differL l1 l2).filterMap heldB).length) = false := decide_eq_false hc
          gi_wp2
          have hDd := blk_below' HD.out HDl Hb.out
          have hgr := grownBy_putObj' wr D (.deferred none)
          have hrr : ∀ r, some D = some r → w.heap.size ≤ r ∧ ∃ o : Obj, wr.heap[r]? = some o ∧ o.isCells = false := fun r e => by cases e; exact ⟨HDw.out, _, hDd, rfl⟩
          refine ⟨by simp, .inl ⟨_, _, rfl, run_takeDeferred hDd, ?_⟩⟩
          exact ⟨_, results_list (rs := [.tmp 6, .tmp 7]) rfl (by simp) (.tmp (.tmp .nil)), _, rfl, Kd.R_lower (own_grown HO2.out hgr hrr) HBW.out.size, (below_step HBW.out Hb.out).grown hgr (below_step HBW.out Hb.out).size (fun k e => (hrr k e).1)⟩
  case stop =>
    rintro D c pre W _ _ h _
    exact h.elim
set_option maxRecDepth 100000 in
set_option maxHeartbeats 4000000 in
theorem line_Differ.calls (k : Nat) (a0_0 : Int) (a0_1 : Int) (A1 : Option Addr) (c1 : Nat) (l1 : List (S52)) (A2 : Option Addr) (c2 : Nat) (l2 : List (S52)) (r1 : List (S23)) (r2 : Int) (w : World) (hr1 : Kd.C k52 w A1 l1.length l1) (hc1 : l1.length ≤ c1) (hr2 : Kd.C k52 w A2 l2.length l2) (hc2 : l2.length ≤ c2) (h : line_Differ.f k a0_0 a0_1 l1 l2 = some (r1, r2)) :
    Calls Try.prog 20 #[.agg #[.int .i64 a0_0, .int .i64 a0_1], .slice A1 l1.length c1, .slice A2 l2.length c2] w fun e w' => ∃ v0_ : Value, e = .returned (.tuple #[v0_, .int .i64 r2]) ∧ Kd.R k23 23 w' w.heap.size (fun _ => True) v0_ r1 ∧ Below w.heap.size w w' := by
  obtain ⟨y, hy, h⟩ := Option.bind_eq_some_iff.mp h
  by_cases cy : y = 0
  · subst cy
    rw [if_neg (by simp)] at h
    obtain ⟨z, hz, h⟩ := Option.bind_eq_some_iff.mp h
    by_cases cz : z = 0
    · subst cz
      rw [if_neg (by simp)] at h
      by_cases hl : (l1.length + l2.length + 1) * 32 ≤ 140737488355328
      case neg => rw [if_neg hl] at h; cases h
      rw [if_pos hl] at h
      have e := Option.some.inj h
      clear h
      refine (line_Differ.walk k a0_0 a0_1 A1 c1 l1 A2 c2 l2 w hr1 hc1 hr2 hc2 hy hz hl).mono ?_
      rintro e_ w' ⟨v, hv, ho, hb⟩
      by_cases hc : 1024 < ((differL l1 l2).filterMap heldB).length
      · rw [if_pos hc] at e hv ho
        obtain ⟨e1, e2⟩ := Prod.mk.inj e
        subst e1
        subst e2
        exact ⟨v, hv, ho, hb⟩
      · rw [if_neg hc] at e hv ho
        obtain ⟨e1, e2⟩ := Prod.mk.inj e
        subst e1
        subst e2
        exact ⟨v, hv, ho, hb⟩
    · rw [if_pos cz] at h
      obtain ⟨e1, e2⟩ := Prod.mk.inj (Option.some.inj h)
      subst e1
      subst e2
      have d0 : (z != 0) = true := bne_iff_ne.mpr cz
      have H1 := Aside0.mk hy
      have H2 := Aside0.mk hz
      have HC1 := Aside0.mk hc1
      have HC2 := Aside0.mk hc2
      have HB := Aside0.mk (below_alloc (Below.refl w.heap.size w) (.cells #[.int .i64 a0_0, .int .i64 a0_1] 23))
      have HR1 := Aside0.mk (Kd.C_below hr1 HB.out)
      have HR2 := Aside0.mk (Kd.C_below hr2 HB.out)
      have BK := Aside0.mk (heap_alloc_new w (.cells #[.int .i64 a0_0, .int .i64 a0_1] 23))
      clear hr1 hc1 hr2 hc2 hy hz h cz
      go_enter Try.func20, Try.ntmps20
      have hc0 := (blk_cell BK.out 0).trans rfl
      have hc1 := (blk_cell BK.out 1).trans rfl
      go_wp2_with (first
        | (go_at_call_of 12 A1; refine (line_Check.calls k a0_0 a0_1 A1 c1 l1 0 _ HR1.out HC1.out H1.out).mono ?_; rintro e w5 ⟨rfl, hb5⟩; have BK5 := Aside0.mk (blk_below BK.out hb5); have HB5 := Aside0.mk (below_step HB.out hb5); have HR25 := Aside0.mk (Kd.C_below HR2.out hb5); have hs0 := (blk_cell BK5.out 0).trans rfl; have hs1 := (blk_cell BK5.out 1).trans rfl; clear hb5)
        | (go_at_call_of 12 A2; refine (line_Check.calls k a0_0 a0_1 A2 c2 l2 z _ HR25.out HC2.out H2.out).mono ?_; rintro e w6 ⟨rfl, hb6⟩; have HB6 := Aside0.mk (below_step HB5.out hb6); clear hb6))
      go_ret2
      exact ⟨_, rfl, Kd.R_nil _ _ _ _ _, HB6.out⟩
  · rw [if_pos cy] at h
    obtain ⟨e1, e2⟩ := Prod.mk.inj (Option.some.inj h)
    subst e1
    subst e2
    have d0 : (y != 0) = true := bne_iff_ne.mpr cy
    have H1 := Aside0.mk hy
    have HC1 := Aside0.mk hc1
    have HB := Aside0.mk (below_alloc (Below.refl w.heap.size w) (.cells #[.int .i64 a0_0, .int .i64 a0_1] 23))
    have HR1 := Aside0.mk (Kd.C_below hr1 HB.out)
    have BK := Aside0.mk (heap_alloc_new w (.cells #[.int .i64 a0_0, .int .i64 a0_1] 23))
    clear hr1 hc1 hr2 hc2 hy h cy
    go_enter Try.func20, Try.ntmps20
    have hc0 := (blk_cell BK.out 0).trans rfl
    have hc1 := (blk_cell BK.out 1).trans rfl
    go_wp2_with (go_at_call 12; refine (line_Check.calls k a0_0 a0_1 A1 c1 l1 y _ HR1.out HC1.out H1.out).mono ?_; rintro e w5 ⟨rfl, hb5⟩; have HB5 := Aside0.mk (below_step HB.out hb5); clear hb5)
    go_ret2
    exact ⟨_, rfl, Kd.R_nil _ _ _ _ _, HB5.out⟩
def spoorref19_Same.l0 : Nat → List (S23) → List (S23) → Int → Int → Option (Bool)
 | 0, _, _, _, _ => none
 | k + 1, x0, x1, x12, x13 => if x13 < x12 then (if 0 ≤ x13 then (if x13 < (x0.length : Int) then (if x13 < (x1.length : Int) then (if (!(((rd_T23 x0 x13).f0) == ((rd_T23 x1 x13).f0)) || (!(((rd_T23 x0 x13).f1) == ((rd_T23 x1 x13).f1)))) = true then (some false) else (spoorref19_Same.l0 k x0 x1 x12 (wrap64 (x13 + 1)))) else (none)) else (none)) else (none)) else (some true)
def spoorref19_Same.f (k : Nat) (l0 : List (S23)) (l1 : List (S23)) : Option (Bool) := if (l0.length : Int) = (l1.length : Int) then (spoorref19_Same.l0 k l0 l1 (l0.length : Int) 0) else (some false)
theorem spoorref19_Same.mono_l : ∀ k, (∀ y0 y1 y2 y3, LeO (spoorref19_Same.l0 k y0 y1 y2 y3) (spoorref19_Same.l0 (k + 1) y0 y1 y2 y3))
 | 0 => fun _ _ _ _ r h => by simp [spoorref19_Same.l0] at h
 | k + 1 => by
  have ih0 := spoorref19_Same.mono_l k
  ·intro y0 y1 y2 y3
   unfold spoorref19_Same.l0
   repeat' first
   | (with_reducible exact ih0 _ _ _ _)
   | (with_reducible exact LeO.refl _)
   | (with_reducible exact LeO.none _)
   | (with_reducible refine LeO.ite ?_ ?_)
   | (with_reducible refine LeO.bind ?_ (fun _ => ?_))
   | exact ih0 _ _ _ _
   | exact LeO.none _
   | refine LeO.ite ?_ ?_
   | refine LeO.bind ?_ (fun _ => ?_)
theorem spoorref19_Same.mono : ∀ a0 a1 k, LeO (spoorref19_Same.f k a0 a1) (spoorref19_Same.f (k + 1) a0 a1) := by
 intro a0 a1 k
 have ih0 := spoorref19_Same.mono_l k
 unfold spoorref19_Same.f
 repeat' first
   | (with_reducible exact ih0 _ _ _ _)
   | (with_reducible exact LeO.refl _)
   | (with_reducible exact LeO.none _)
   | (with_reducible refine LeO.ite ?_ ?_)
   | (with_reducible refine LeO.bind ?_ (fun _ => ?_))
   | exact ih0 _ _ _ _
   | exact LeO.none _
   | refine LeO.ite ?_ ?_
   | refine LeO.bind ?_ (fun _ => ?_)
set_option maxHeartbeats 8000000 in
set_option maxRecDepth 100000 in
theorem spoorref19_Same.calls (k : Nat) (A0 : Option Addr) (c0 : Nat) (l0 : List (S23)) (A1 : Option Addr) (c1 : Nat) (l1 : List (S23)) (r : Bool) (w : World) (hr0 : Kd.C k23 w A0 l0.length l0) (hc0 : l0.length ≤ c0) (hr1 : Kd.C k23 w A1 l1.length l1) (hc1 : l1.length ≤ c1) (h : spoorref19_Same.f k l0 l1 = some r) :
  Calls Try.prog 22 #[.slice A0 l0.length c0, .slice A1 l1.length c1] w fun e w' => e = .returned (.bool r) ∧ Drawn0 w w' := by
 have hu23 := Try.underlying23
 have HR0 := Ax hr0
 have HC0 := Ax hc0
 clear hr0 hc0
 have HR1 := Ax hr1
 have HC1 := Ax hc1
 clear hr1 hc1
 have H : (if (l0.length : Int) = (l1.length : Int) then (spoorref19_Same.l0 k l0 l1 (l0.length : Int) 0) else (some false)) = some r := h
 clear h
 by_cases c3 : (l0.length : Int) = (l1.length : Int)
 ·rw [if_pos c3] at H
  have c3b0 : ((l0.length : Int) == (l1.length : Int)) = true := beq_iff_eq.mpr c3
  have c3b1 : ((l0.length : Int) != (l1.length : Int)) = false := bne_eq_false_iff_eq.mpr c3
  have c3b2 : (l0.length == l1.length) = true := by first | simpa using c3 | (simp at c3 ⊢; omega)
  clear c3
  have H' := Ax H
  clear H
  go_enter Try.func22, Try.ntmps22
  go_wp2
  repeat (go_quiet (fail); try go_wp2)
  go_loopg [13] k (fun kq v13 w' => ∃ (x13_1 : Int), v13 = .int .i64 x13_1 ∧ Aside0 (spoorref19_Same.l0 kq l0 l1 (l0.length : Int) x13_1 = some r) ∧ Aside0 (kq ≤ k) ∧ Drawn0 w w')
  case atStart => exact ⟨(0), rS, H', ⟨Nat.le_refl _⟩, by repeat (first | exact Drawn0.refl _ | apply Drawn0.step)⟩
  case round =>
   clear H'
   try clear c1
   try clear c2
   try clear p2
   try clear c3
   try clear c3b0
   try clear c3b1
   try clear c3b2
   obtain ⟨x13_1, rfl, HA, HK1, ⟨m1, rfl⟩⟩ := hrel
   cases gk with
   | zero => exact absurd HA.out (by simp [spoorref19_Same.l0])
   | succ k1 =>
    have H := HA.out
    clear HA
    simp only [spoorref19_Same.l0] at H
    by_cases c4 : x13_1 < (l0.length : Int)
    ·rw [if_pos c4] at H
     have c4b0 : decide (x13_1 < (l0.length : Int)) = true := decide_eq_true c4
     clear c4
     by_cases c5 : 0 ≤ x13_1
     ·rw [if_pos c5] at H
      have c5b0 : decide (0 ≤ x13_1) = true := decide_eq_true c5
      clear c5
      by_cases c6 : x13_1 < (l0.length : Int)
      ·rw [if_pos c6] at H
       have c6b0 : decide (x13_1 < (l0.length : Int)) = true := decide_eq_true c6
       clear c6
       by_cases c7 : x13_1 < (l1.length : Int)
       ·rw [if_pos c7] at H
        have c7b0 : decide (x13_1 < (l1.length : Int)) = true := decide_eq_true c7
        clear c7
        by_cases c8 : (!(((rd_T23 l0 x13_1).f0) == ((rd_T23 l1 x13_1).f0)) || (!(((rd_T23 l0 x13_1).f1) == ((rd_T23 l1 x13_1).f1)))) = true
        ·rw [if_pos c8] at H
         have c8b0 : (!(((rd_T23 l0 x13_1).f0) == ((rd_T23 l1 x13_1).f0)) || (!(((rd_T23 l0 x13_1).f1) == ((rd_T23 l1 x13_1).f1)))) = true := c8
         clear c8
         obtain rfl := Option.some.inj H
         have p150 : 0 ≤ (x13_1 : Int) := of_decide_eq_true (by first | (with_reducible assumption) | assumption)
         have q150 : x13_1 < (l0.length : Int) := of_decide_eq_true (by first | (with_reducible assumption) | assumption)
         obtain ⟨ad150, e150, hx150_0, hx150_1⟩ := at_T23 HR0.out x13_1 p150 q150
         cases e150
         replace p150 := eq_true p150
         replace q150 := eq_true q150
         have p151 : 0 ≤ (x13_1 : Int) := of_decide_eq_true (by first | (with_reducible assumption) | assumption)
         have q151 : x13_1 < (l1.length : Int) := of_decide_eq_true (by first | (with_reducible assumption) | assumption)
         obtain ⟨ad151, e151, hx151_0, hx151_1⟩ := at_T23 HR1.out x13_1 p151 q151
         cases e151
         replace p151 := eq_true p151
         replace q151 := eq_true q151
         go_wp2
         repeat (go_quiet (fail); try go_wp2)
         go_ret
         exact ⟨by first | rfl | (simp; done) | (simp [*]; done), by repeat (first | exact Drawn0.refl _ | apply Drawn0.step)⟩
        ·rw [if_neg c8] at H
         have c8b0 : (!(((rd_T23 l0 x13_1).f0) == ((rd_T23 l1 x13_1).f0)) || (!(((rd_T23 l0 x13_1).f1) == ((rd_T23 l1 x13_1).f1)))) = false := by simpa using c8
         clear c8
         have H' := Ax H
         clear H
         have p150 : 0 ≤ (x13_1 : Int) := of_decide_eq_true (by first | (with_reducible assumption) | assumption)
         have q150 : x13_1 < (l0.length : Int) := of_decide_eq_true (by first | (with_reducible assumption) | assumption)
         obtain ⟨ad150, e150, hx150_0, hx150_1⟩ := at_T23 HR0.out x13_1 p150 q150
         cases e150
         replace p150 := eq_true p150
         replace q150 := eq_true q150
         have p151 : 0 ≤ (x13_1 : Int) := of_decide_eq_true (by first | (with_reducible assumption) | assumption)
         have q151 : x13_1 < (l1.length : Int) := of_decide_eq_true (by first | (with_reducible assumption) | assumption)
         obtain ⟨ad151, e151, hx151_0, hx151_1⟩ := at_T23 HR1.out x13_1 p151 q151
         cases e151
         replace p151 := eq_true p151
         replace q151 := eq_true q151
         go_wp2
         repeat (go_quiet (fail); try go_wp2)
         go_roundg k1
         case measure => have := HK1.out; omega
         case rel => exact ⟨(wrap64 (x13_1 + 1)), rS, H', ⟨by have := HK1.out; omega⟩, by repeat (first | exact Drawn0.refl _ | apply Drawn0.step)⟩
       ·rw [if_neg c7] at H
        exact absurd H (by simp)
      ·rw [if_neg c6] at H
       exact absurd H (by simp)
     ·rw [if_neg c5] at H
      exact absurd H (by simp)
    ·rw [if_neg c4] at H
     have c4b0 : decide (x13_1 < (l0.length : Int)) = false := decide_eq_false c4
     clear c4
     obtain rfl := Option.some.inj H
     go_wp2
     repeat (go_quiet (fail); try go_wp2)
     go_ret
     exact ⟨by first | rfl | (simp; done) | (simp [*]; done), by repeat (first | exact Drawn0.refl _ | apply Drawn0.step)⟩
 ·rw [if_neg c3] at H
  have c3b0 : ((l0.length : Int) == (l1.length : Int)) = false := beq_eq_false_iff_ne.mpr c3
  have c3b1 : ((l0.length : Int) != (l1.length : Int)) = true := bne_iff_ne.mpr c3
  have c3b2 : (l0.length == l1.length) = false := by first | simpa using c3 | (simp at c3 ⊢; omega)
  obtain rfl := Option.some.inj H
  go_enter Try.func22, Try.ntmps22
  go_wp2
  repeat (go_quiet (fail); try go_wp2)
  go_ret
  exact ⟨by first | rfl | (simp; done) | (simp [*]; done), by repeat (first | exact Drawn0.refl _ | apply Drawn0.step)⟩
theorem event_runw {P : Program} {ops : Array Oper} {o : Oper} {rest : List Oper} {a : Act} {Q : Exit → Act → World → Prop} {W w1 : World} {v : Value} (hw : o.guard = none ∨ Region.wanted o (yielded ops a.tmps) = true) (hrun : (execOp a.eval o).run P W = .ok (.value v) w1) (h : wpList P ops Q rest (a.put o.dst v) w1) : wpList P ops Q (o :: rest) a W := by
 rcases hw with hw | hw
 ·exact Kd.event_run hw hrun h
 ·unfold wpList
  rw [if_pos hw]
  refine .inl ?_
  unfold Oper.wp
  rw [hrun]
  exact h
theorem R_litg {α : Type} {P : Program} {ops : Array Oper} {o : Oper} {rest : List Oper} {a : Act} {Q : Exit → Act → World → Prop} (d : Kd α) {w0 W : World} (base e : Nat) (hgd : o.guard = none ∨ Region.wanted o (yielded ops a.tmps) = true) {N : Tmp} (_hd : o.dst = some N) {xs : List α} {inner : List Value} {ok okp : Nat → Prop}
  (hrun : (execOp a.eval o).run P W = .ok (.value (.slice (some ⟨W.heap.size, 0, none⟩) xs.length xs.length)) (W.alloc (.cells inner.toArray e)))
  (hrep : Reps (d.M W base okp) d.sz xs inner) (hok : ∀ k, okp k → ok k) (hfresh : ok W.heap.size) (HB : Below base w0 W) (hbase : base ≤ W.heap.size) (hm : xs.length ≤ 9223372036854775807)
  (h : ∀ v1 w1, d.R e w1 base ok v1 xs → Below base w0 w1 → W.grownBy w1 none → (∃ b, v1.ownBlock = some b ∧ W.heap.size ≤ b) → wpList P ops Q rest (a.put o.dst v1) w1) : wpList P ops Q (o :: rest) a W := by
 refine event_runw hgd hrun (h _ _ ⟨fun k hk => ?_, inner, ?_, ?_⟩ (HB.alloc hbase _) (World.grownBy_alloc W _ none) ⟨W.heap.size, by simp [Value.ownBlock], Nat.le_refl _⟩)
 ·have : W.heap.size = k := by simpa [Value.ownBlock] using hk
  subst this
  exact hfresh
 ·have h2 := World.ownsRow_lit (base := base) (e := e) (size := d.sz) W inner.toArray xs.length hbase (by simpa [maxLen] using hm) (by simpa using hrep.1)
  simpa using h2
 ·refine hrep.imp_ (fun p c hp => d.M_mono (fun k hk => ⟨hok k hk.1, fun he => ?_⟩) (Kd.M_below (d.M_bound hp) (below_alloc (Below.refl _ _) _)))
  have h3 : k = W.heap.size := by simpa [Value.ownBlock] using he
  have := hk.2.2.1
  omega
def spoorlaw20_lives.f (k : Nat)  : Option (Bool) := (line_Make.f k 0 9 (([(⟨0, (⟨3, 1⟩ : S35)⟩ : S46), (⟨3, (⟨3, 1⟩ : S35)⟩ : S46), (⟨5, (⟨1, 2⟩ : S35)⟩ : S46)] : List (S46)))).bind fun bt158 => ((line_At.f k 0 9 bt158.1 4).bind fun bt162 => ((line_When.f k 0 9 bt158.1 1 2).bind fun bt166 => ((line_Cut.f k 0 9 bt158.1 4 5).bind fun bt170 => ((line_Make.f k 0 9 (([(⟨0, (⟨3, 1⟩ : S35)⟩ : S46)] : List (S46)))).bind fun bt177 => ((line_Differ.f k 0 9 bt158.1 bt177.1).bind fun bt181 => ((line_At.f k 0 9 bt158.1 10).bind fun bt185 => ((line_Make.f k 0 9 (([(⟨1, (⟨3, 1⟩ : S35)⟩ : S46)] : List (S46)))).bind fun bt192 => ((spoorref20_Same.f k bt158.1 (([(⟨(⟨0, 4⟩ : S23), (⟨3, 1⟩ : S35)⟩ : S52), (⟨(⟨5, 9⟩ : S23), (⟨1, 2⟩ : S35)⟩ : S52)] : List (S52)))).bind fun t199 => (if t199 = true then (if bt158.2 = 0 then (if (bt162.1 == 3 && (bt162.2.1 == 1)) = true then (if bt162.2.2 = 0 then ((spoorref19_Same.f k bt166.1 (([(⟨5, 9⟩ : S23)] : List (S23)))).bind fun t203 => (if t203 = true then (if bt166.2 = 0 then ((spoorref20_Same.f k bt170.1 (([(⟨(⟨4, 4⟩ : S23), (⟨3, 1⟩ : S35)⟩ : S52), (⟨(⟨5, 5⟩ : S23), (⟨1, 2⟩ : S35)⟩ : S52)] : List (S52)))).bind fun t207 => (if t207 = true then (if bt170.2 = 0 then (if bt177.2 = 0 then ((spoorref19_Same.f k bt181.1 (([(⟨5, 9⟩ : S23)] : List (S23)))).bind fun t211 => (if t211 = true then (if bt181.2 = 0 then (if bt185.2.2 = 1 then (if bt192.2 = 2 then ((line_Check.f k 0 9 bt158.1).bind fun t212 => (some (t212 == 0))) else (none)) else (none)) else (none)) else (none))) else (none)) else (none)) else (none))) else (none)) else (none))) else (none)) else (none)) else (none)) else (none))))))))))
theorem spoorlaw20_lives.mono : ∀ k, LeO (spoorlaw20_lives.f k ) (spoorlaw20_lives.f (k + 1) ) := by
 intro  k
 unfold spoorlaw20_lives.f
 repeat' first
   | (with_reducible exact line_At.mono _ _ _ _ _)
   | (with_reducible exact line_Check.mono _ _ _ _)
   | (with_reducible exact line_Cut.mono _ _ _ _ _ _)
   | (with_reducible exact line_Differ.mono _ _ _ _ _)
   | (with_reducible exact line_Make.mono _ _ _ _)
   | (with_reducible exact line_When.mono _ _ _ _ _ _)
   | (with_reducible exact spoorref19_Same.mono _ _ _)
   | (with_reducible exact spoorref20_Same.mono _ _ _)
   | (with_reducible exact LeO.refl _)
   | (with_reducible exact LeO.none _)
   | (with_reducible refine LeO.ite ?_ ?_)
   | (with_reducible refine LeO.bind ?_ (fun _ => ?_))
   | exact line_At.mono _ _ _ _ _
   | exact line_Check.mono _ _ _ _
   | exact line_Cut.mono _ _ _ _ _ _
   | exact line_Differ.mono _ _ _ _ _
   | exact line_Make.mono _ _ _ _
   | exact line_When.mono _ _ _ _ _ _
   | exact spoorref19_Same.mono _ _ _
   | exact spoorref20_Same.mono _ _ _
   | exact LeO.none _
   | refine LeO.ite ?_ ?_
   | refine LeO.bind ?_ (fun _ => ?_)
end Go.Proofs.Ytghklhdooemjdaa.Q
end
section
namespace Go.Proofs.Ytghklhdooemjdaa.Q
open Go.RowKit Go.Proofs.YtghklhdooemjdaaW.PrintWords Go.Proofs.YtghklhdooemjdaaW.PrintLast Go.Proofs.YtghklhdooemjdaaW.PrintMore
attribute [local go_sem] max2_int min2_int max_two min_two max_three min_three max_four min_four   -- for this text's walks alone
set_option linter.unusedVariables false
set_option linter.unusedSimpArgs false
attribute [local go_sem high] eqA35
set_option maxHeartbeats 8000000 in
set_option maxRecDepth 100000 in
theorem spoorlaw20_lives.calls (k : Nat)  (r : Bool) (w : World) (h : spoorlaw20_lives.f k  = some r) :
  Calls Try.prog 10 #[] w fun e w' => e = .returned (.bool r) ∧ Below w.heap.size w w' := by
 have hu23 := Try.underlying23
 have hu35 := Try.underlying35
 have hu46 := Try.underlying46
 have hu52 := Try.underlying52
 have HB := Ax (Below.refl w.heap.size w)
 have H : ((line_Make.f k 0 9 (([(⟨0, (⟨3, 1⟩ : S35)⟩ : S46), (⟨3, (⟨3, 1⟩ : S35)⟩ : S46), (⟨5, (⟨1, 2⟩ : S35)⟩ : S46)] : List (S46)))).bind fun bt158 => ((line_At.f k 0 9 bt158.1 4).bind fun bt162 => ((line_When.f k 0 9 bt158.1 1 2).bind fun bt166 => ((line_Cut.f k 0 9 bt158.1 4 5).bind fun bt170 => ((line_Make.f k 0 9 (([(⟨0, (⟨3, 1⟩ : S35)⟩ : S46)] : List (S46)))).bind fun bt177 => ((line_Differ.f k 0 9 bt158.1 bt177.1).bind fun bt181 => ((line_At.f k 0 9 bt158.1 10).bind fun bt185 => ((line_Make.f k 0 9 (([(⟨1, (⟨3, 1⟩ : S35)⟩ : S46)] : List (S46)))).bind fun bt192 => ((spoorref20_Same.f k bt158.1 (([(⟨(⟨0, 4⟩ : S23), (⟨3, 1⟩ : S35)⟩ : S52), (⟨(⟨5, 9⟩ : S23), (⟨1, 2⟩ : S35)⟩ : S52)] : List (S52)))).bind fun t199 => (if t199 = true then (if bt158.2 = 0 then (if (bt162.1 == 3 && (bt162.2.1 == 1)) = true then (if bt162.2.2 = 0 then ((spoorref19_Same.f k bt166.1 (([(⟨5, 9⟩ : S23)] : List (S23)))).bind fun t203 => (if t203 = true then (if bt166.2 = 0 then ((spoorref20_Same.f k bt170.1 (([(⟨(⟨4, 4⟩ : S23), (⟨3, 1⟩ : S35)⟩ : S52), (⟨(⟨5, 5⟩ : S23), (⟨1, 2⟩ : S35)⟩ : S52)] : List (S52)))).bind fun t207 => (if t207 = true then (if bt170.2 = 0 then (if bt177.2 = 0 then ((spoorref19_Same.f k bt181.1 (([(⟨5, 9⟩ : S23)] : List (S23)))).bind fun t211 => (if t211 = true then (if bt181.2 = 0 then (if bt185.2.2 = 1 then (if bt192.2 = 2 then ((line_Check.f k 0 9 bt158.1).bind fun t212 => (some (t212 == 0))) else (none)) else (none)) else (none)) else (none))) else (none)) else (none)) else (none))) else (none)) else (none))) else (none)) else (none)) else (none)) else (none))))))))))) = some r := h
 clear h
 obtain ⟨y155, hy155⟩ : ∃ y_ : List (S46), y_ = (([(⟨0, (⟨3, 1⟩ : S35)⟩ : S46), (⟨3, (⟨3, 1⟩ : S35)⟩ : S46), (⟨5, (⟨1, 2⟩ : S35)⟩ : S46)] : List (S46))) := ⟨_, rfl⟩
 replace H : ((line_Make.f k 0 9 y155).bind fun bt158 => ((line_At.f k 0 9 bt158.1 4).bind fun bt162 => ((line_When.f k 0 9 bt158.1 1 2).bind fun bt166 => ((line_Cut.f k 0 9 bt158.1 4 5).bind fun bt170 => ((line_Make.f k 0 9 (([(⟨0, (⟨3, 1⟩ : S35)⟩ : S46)] : List (S46)))).bind fun bt177 => ((line_Differ.f k 0 9 bt158.1 bt177.1).bind fun bt181 => ((line_At.f k 0 9 bt158.1 10).bind fun bt185 => ((line_Make.f k 0 9 (([(⟨1, (⟨3, 1⟩ : S35)⟩ : S46)] : List (S46)))).bind fun bt192 => ((spoorref20_Same.f k bt158.1 (([(⟨(⟨0, 4⟩ : S23), (⟨3, 1⟩ : S35)⟩ : S52), (⟨(⟨5, 9⟩ : S23), (⟨1, 2⟩ : S35)⟩ : S52)] : List (S52)))).bind fun t199 => (if t199 = true then (if bt158.2 = 0 then (if (bt162.1 == 3 && (bt162.2.1 == 1)) = true then (if bt162.2.2 = 0 then ((spoorref19_Same.f k bt166.1 (([(⟨5, 9⟩ : S23)] : List (S23)))).bind fun t203 => (if t203 = true then (if bt166.2 = 0 then ((spoorref20_Same.f k bt170.1 (([(⟨(⟨4, 4⟩ : S23), (⟨3, 1⟩ : S35)⟩ : S52), (⟨(⟨5, 5⟩ : S23), (⟨1, 2⟩ : S35)⟩ : S52)] : List (S52)))).bind fun t207 => (if t207 = true then (if bt170.2 = 0 then (if bt177.2 = 0 then ((spoorref19_Same.f k bt181.1 (([(⟨5, 9⟩ : S23)] : List (S23)))).bind fun t211 => (if t211 = true then (if bt181.2 = 0 then (if bt185.2.2 = 1 then (if bt192.2 = 2 then ((line_Check.f k 0 9 bt158.1).bind fun t212 => (some (t212 == 0))) else (none)) else (none)) else (none)) else (none))) else (none)) else (none)) else (none))) else (none)) else (none))) else (none)) else (none)) else (none)) else (none))))))))))) = some r := by first | (rw [hy155]; with_reducible exact H) | (have H2_ := (Option.bind_some _ _).symm.trans H; rw [hy155]; with_reducible exact H2_) | (have H2_ := (Option.bind_some _ _).symm.trans H; with_reducible exact H2_) | with_reducible exact H | (rw [hy155]; exact H) | exact H
 have Ny155 := Ax hy155
 clear hy155
 replace H := Option.bind_eq_some_iff.mp H
 obtain ⟨⟨t158, t161⟩, A10, H⟩ := H
 replace H : ((line_At.f k 0 9 t158 4).bind fun bt162 => ((line_When.f k 0 9 t158 1 2).bind fun bt166 => ((line_Cut.f k 0 9 t158 4 5).bind fun bt170 => ((line_Make.f k 0 9 (([(⟨0, (⟨3, 1⟩ : S35)⟩ : S46)] : List (S46)))).bind fun bt177 => ((line_Differ.f k 0 9 t158 bt177.1).bind fun bt181 => ((line_At.f k 0 9 t158 10).bind fun bt185 => ((line_Make.f k 0 9 (([(⟨1, (⟨3, 1⟩ : S35)⟩ : S46)] : List (S46)))).bind fun bt192 => ((spoorref20_Same.f k t158 (([(⟨(⟨0, 4⟩ : S23), (⟨3, 1⟩ : S35)⟩ : S52), (⟨(⟨5, 9⟩ : S23), (⟨1, 2⟩ : S35)⟩ : S52)] : List (S52)))).bind fun t199 => (if t199 = true then (if t161 = 0 then (if (bt162.1 == 3 && (bt162.2.1 == 1)) = true then (if bt162.2.2 = 0 then ((spoorref19_Same.f k bt166.1 (([(⟨5, 9⟩ : S23)] : List (S23)))).bind fun t203 => (if t203 = true then (if bt166.2 = 0 then ((spoorref20_Same.f k bt170.1 (([(⟨(⟨4, 4⟩ : S23), (⟨3, 1⟩ : S35)⟩ : S52), (⟨(⟨5, 5⟩ : S23), (⟨1, 2⟩ : S35)⟩ : S52)] : List (S52)))).bind fun t207 => (if t207 = true then (if bt170.2 = 0 then (if bt177.2 = 0 then ((spoorref19_Same.f k bt181.1 (([(⟨5, 9⟩ : S23)] : List (S23)))).bind fun t211 => (if t211 = true then (if bt181.2 = 0 then (if bt185.2.2 = 1 then (if bt192.2 = 2 then ((line_Check.f k 0 9 t158).bind fun t212 => (some (t212 == 0))) else (none)) else (none)) else (none)) else (none))) else (none)) else (none)) else (none))) else (none)) else (none))) else (none)) else (none)) else (none)) else (none)))))))))) = some r := H
 have A1 := Ax A10
 clear A10
 replace H := Option.bind_eq_some_iff.mp H
 obtain ⟨⟨t162, t163, t164⟩, A20, H⟩ := H
 replace H : ((line_When.f k 0 9 t158 1 2).bind fun bt166 => ((line_Cut.f k 0 9 t158 4 5).bind fun bt170 => ((line_Make.f k 0 9 (([(⟨0, (⟨3, 1⟩ : S35)⟩ : S46)] : List (S46)))).bind fun bt177 => ((line_Differ.f k 0 9 t158 bt177.1).bind fun bt181 => ((line_At.f k 0 9 t158 10).bind fun bt185 => ((line_Make.f k 0 9 (([(⟨1, (⟨3, 1⟩ : S35)⟩ : S46)] : List (S46)))).bind fun bt192 => ((spoorref20_Same.f k t158 (([(⟨(⟨0, 4⟩ : S23), (⟨3, 1⟩ : S35)⟩ : S52), (⟨(⟨5, 9⟩ : S23), (⟨1, 2⟩ : S35)⟩ : S52)] : List (S52)))).bind fun t199 => (if t199 = true then (if t161 = 0 then (if (t162 == 3 && (t163 == 1)) = true then (if t164 = 0 then ((spoorref19_Same.f k bt166.1 (([(⟨5, 9⟩ : S23)] : List (S23)))).bind fun t203 => (if t203 = true then (if bt166.2 = 0 then ((spoorref20_Same.f k bt170.1 (([(⟨(⟨4, 4⟩ : S23), (⟨3, 1⟩ : S35)⟩ : S52), (⟨(⟨5, 5⟩ : S23), (⟨1, 2⟩ : S35)⟩ : S52)] : List (S52)))).bind fun t207 => (if t207 = true then (if bt170.2 = 0 then (if bt177.2 = 0 then ((spoorref19_Same.f k bt181.1 (([(⟨5, 9⟩ : S23)] : List (S23)))).bind fun t211 => (if t211 = true then (if bt181.2 = 0 then (if bt185.2.2 = 1 then (if bt192.2 = 2 then ((line_Check.f k 0 9 t158).bind fun t212 => (some (t212 == 0))) else (none)) else (none)) else (none)) else (none))) else (none)) else (none)) else (none))) else (none)) else (none))) else (none)) else (none)) else (none)) else (none))))))))) = some r := H
 have A2 := Ax A20
 clear A20
 replace H := Option.bind_eq_some_iff.mp H
 obtain ⟨⟨t166, t169⟩, A30, H⟩ := H
 replace H : ((line_Cut.f k 0 9 t158 4 5).bind fun bt170 => ((line_Make.f k 0 9 (([(⟨0, (⟨3, 1⟩ : S35)⟩ : S46)] : List (S46)))).bind fun bt177 => ((line_Differ.f k 0 9 t158 bt177.1).bind fun bt181 => ((line_At.f k 0 9 t158 10).bind fun bt185 => ((line_Make.f k 0 9 (([(⟨1, (⟨3, 1⟩ : S35)⟩ : S46)] : List (S46)))).bind fun bt192 => ((spoorref20_Same.f k t158 (([(⟨(⟨0, 4⟩ : S23), (⟨3, 1⟩ : S35)⟩ : S52), (⟨(⟨5, 9⟩ : S23), (⟨1, 2⟩ : S35)⟩ : S52)] : List (S52)))).bind fun t199 => (if t199 = true then (if t161 = 0 then (if (t162 == 3 && (t163 == 1)) = true then (if t164 = 0 then ((spoorref19_Same.f k t166 (([(⟨5, 9⟩ : S23)] : List (S23)))).bind fun t203 => (if t203 = true then (if t169 = 0 then ((spoorref20_Same.f k bt170.1 (([(⟨(⟨4, 4⟩ : S23), (⟨3, 1⟩ : S35)⟩ : S52), (⟨(⟨5, 5⟩ : S23), (⟨1, 2⟩ : S35)⟩ : S52)] : List (S52)))).bind fun t207 => (if t207 = true then (if bt170.2 = 0 then (if bt177.2 = 0 then ((spoorref19_Same.f k bt181.1 (([(⟨5, 9⟩ : S23)] : List (S23)))).bind fun t211 => (if t211 = true then (if bt181.2 = 0 then (if bt185.2.2 = 1 then (if bt192.2 = 2 then ((line_Check.f k 0 9 t158).bind fun t212 => (some (t212 == 0))) else (none)) else (none)) else (none)) else (none))) else (none)) else (none)) else (none))) else (none)) else (none))) else (none)) else (none)) else (none)) else (none)))))))) = some r := H
 have A3 := Ax A30
 clear A30
 replace H := Option.bind_eq_some_iff.mp H
 obtain ⟨⟨t170, t173⟩, A40, H⟩ := H
 replace H : ((line_Make.f k 0 9 (([(⟨0, (⟨3, 1⟩ : S35)⟩ : S46)] : List (S46)))).bind fun bt177 => ((line_Differ.f k 0 9 t158 bt177.1).bind fun bt181 => ((line_At.f k 0 9 t158 10).bind fun bt185 => ((line_Make.f k 0 9 (([(⟨1, (⟨3, 1⟩ : S35)⟩ : S46)] : List (S46)))).bind fun bt192 => ((spoorref20_Same.f k t158 (([(⟨(⟨0, 4⟩ : S23), (⟨3, 1⟩ : S35)⟩ : S52), (⟨(⟨5, 9⟩ : S23), (⟨1, 2⟩ : S35)⟩ : S52)] : List (S52)))).bind fun t199 => (if t199 = true then (if t161 = 0 then (if (t162 == 3 && (t163 == 1)) = true then (if t164 = 0 then ((spoorref19_Same.f k t166 (([(⟨5, 9⟩ : S23)] : List (S23)))).bind fun t203 => (if t203 = true then (if t169 = 0 then ((spoorref20_Same.f k t170 (([(⟨(⟨4, 4⟩ : S23), (⟨3, 1⟩ : S35)⟩ : S52), (⟨(⟨5, 5⟩ : S23), (⟨1, 2⟩ : S35)⟩ : S52)] : List (S52)))).bind fun t207 => (if t207 = true then (if t173 = 0 then (if bt177.2 = 0 then ((spoorref19_Same.f k bt181.1 (([(⟨5, 9⟩ : S23)] : List (S23)))).bind fun t211 => (if t211 = true then (if bt181.2 = 0 then (if bt185.2.2 = 1 then (if bt192.2 = 2 then ((line_Check.f k 0 9 t158).bind fun t212 => (some (t212 == 0))) else (none)) else (none)) else (none)) else (none))) else (none)) else (none)) else (none))) else (none)) else (none))) else (none)) else (none)) else (none)) else (none))))))) = some r := H
 have A4 := Ax A40
 clear A40
 obtain ⟨y174, hy174⟩ : ∃ y_ : List (S46), y_ = (([(⟨0, (⟨3, 1⟩ : S35)⟩ : S46)] : List (S46))) := ⟨_, rfl⟩
 replace H : ((line_Make.f k 0 9 y174).bind fun bt177 => ((line_Differ.f k 0 9 t158 bt177.1).bind fun bt181 => ((line_At.f k 0 9 t158 10).bind fun bt185 => ((line_Make.f k 0 9 (([(⟨1, (⟨3, 1⟩ : S35)⟩ : S46)] : List (S46)))).bind fun bt192 => ((spoorref20_Same.f k t158 (([(⟨(⟨0, 4⟩ : S23), (⟨3, 1⟩ : S35)⟩ : S52), (⟨(⟨5, 9⟩ : S23), (⟨1, 2⟩ : S35)⟩ : S52)] : List (S52)))).bind fun t199 => (if t199 = true then (if t161 = 0 then (if (t162 == 3 && (t163 == 1)) = true then (if t164 = 0 then ((spoorref19_Same.f k t166 (([(⟨5, 9⟩ : S23)] : List (S23)))).bind fun t203 => (if t203 = true then (if t169 = 0 then ((spoorref20_Same.f k t170 (([(⟨(⟨4, 4⟩ : S23), (⟨3, 1⟩ : S35)⟩ : S52), (⟨(⟨5, 5⟩ : S23), (⟨1, 2⟩ : S35)⟩ : S52)] : List (S52)))).bind fun t207 => (if t207 = true then (if t173 = 0 then (if bt177.2 = 0 then ((spoorref19_Same.f k bt181.1 (([(⟨5, 9⟩ : S23)] : List (S23)))).bind fun t211 => (if t211 = true then (if bt181.2 = 0 then (if bt185.2.2 = 1 then (if bt192.2 = 2 then ((line_Check.f k 0 9 t158).bind fun t212 => (some (t212 == 0))) else (none)) else (none)) else (none)) else (none))) else (none)) else (none)) else (none))) else (none)) else (none))) else (none)) else (none)) else (none)) else (none))))))) = some r := by first | (rw [hy174]; with_reducible exact H) | (have H2_ := (Option.bind_some _ _).symm.trans H; rw [hy174]; with_reducible exact H2_) | (have H2_ := (Option.bind_some _ _).symm.trans H; with_reducible exact H2_) | with_reducible exact H | (rw [hy174]; exact H) | exact H
 have Ny174 := Ax hy174
 clear hy174
 replace H := Option.bind_eq_some_iff.mp H
 obtain ⟨⟨t177, t180⟩, A50, H⟩ := H
 replace H : ((line_Differ.f k 0 9 t158 t177).bind fun bt181 => ((line_At.f k 0 9 t158 10).bind fun bt185 => ((line_Make.f k 0 9 (([(⟨1, (⟨3, 1⟩ : S35)⟩ : S46)] : List (S46)))).bind fun bt192 => ((spoorref20_Same.f k t158 (([(⟨(⟨0, 4⟩ : S23), (⟨3, 1⟩ : S35)⟩ : S52), (⟨(⟨5, 9⟩ : S23), (⟨1, 2⟩ : S35)⟩ : S52)] : List (S52)))).bind fun t199 => (if t199 = true then (if t161 = 0 then (if (t162 == 3 && (t163 == 1)) = true then (if t164 = 0 then ((spoorref19_Same.f k t166 (([(⟨5, 9⟩ : S23)] : List (S23)))).bind fun t203 => (if t203 = true then (if t169 = 0 then ((spoorref20_Same.f k t170 (([(⟨(⟨4, 4⟩ : S23), (⟨3, 1⟩ : S35)⟩ : S52), (⟨(⟨5, 5⟩ : S23), (⟨1, 2⟩ : S35)⟩ : S52)] : List (S52)))).bind fun t207 => (if t207 = true then (if t173 = 0 then (if t180 = 0 then ((spoorref19_Same.f k bt181.1 (([(⟨5, 9⟩ : S23)] : List (S23)))).bind fun t211 => (if t211 = true then (if bt181.2 = 0 then (if bt185.2.2 = 1 then (if bt192.2 = 2 then ((line_Check.f k 0 9 t158).bind fun t212 => (some (t212 == 0))) else (none)) else (none)) else (none)) else (none))) else (none)) else (none)) else (none))) else (none)) else (none))) else (none)) else (none)) else (none)) else (none)))))) = some r := H
 have A5 := Ax A50
 clear A50
 replace H := Option.bind_eq_some_iff.mp H
 obtain ⟨⟨t181, t184⟩, A60, H⟩ := H
 replace H : ((line_At.f k 0 9 t158 10).bind fun bt185 => ((line_Make.f k 0 9 (([(⟨1, (⟨3, 1⟩ : S35)⟩ : S46)] : List (S46)))).bind fun bt192 => ((spoorref20_Same.f k t158 (([(⟨(⟨0, 4⟩ : S23), (⟨3, 1⟩ : S35)⟩ : S52), (⟨(⟨5, 9⟩ : S23), (⟨1, 2⟩ : S35)⟩ : S52)] : List (S52)))).bind fun t199 => (if t199 = true then (if t161 = 0 then (if (t162 == 3 && (t163 == 1)) = true then (if t164 = 0 then ((spoorref19_Same.f k t166 (([(⟨5, 9⟩ : S23)] : List (S23)))).bind fun t203 => (if t203 = true then (if t169 = 0 then ((spoorref20_Same.f k t170 (([(⟨(⟨4, 4⟩ : S23), (⟨3, 1⟩ : S35)⟩ : S52), (⟨(⟨5, 5⟩ : S23), (⟨1, 2⟩ : S35)⟩ : S52)] : List (S52)))).bind fun t207 => (if t207 = true then (if t173 = 0 then (if t180 = 0 then ((spoorref19_Same.f k t181 (([(⟨5, 9⟩ : S23)] : List (S23)))).bind fun t211 => (if t211 = true then (if t184 = 0 then (if bt185.2.2 = 1 then (if bt192.2 = 2 then ((line_Check.f k 0 9 t158).bind fun t212 => (some (t212 == 0))) else (none)) else (none)) else (none)) else (none))) else (none)) else (none)) else (none))) else (none)) else (none))) else (none)) else (none)) else (none)) else (none))))) = some r := H
 have A6 := Ax A60
 clear A60
 replace H := Option.bind_eq_some_iff.mp H
 obtain ⟨⟨t185, t186, t187⟩, A70, H⟩ := H
 replace H : ((line_Make.f k 0 9 (([(⟨1, (⟨3, 1⟩ : S35)⟩ : S46)] : List (S46)))).bind fun bt192 => ((spoorref20_Same.f k t158 (([(⟨(⟨0, 4⟩ : S23), (⟨3, 1⟩ : S35)⟩ : S52), (⟨(⟨5, 9⟩ : S23), (⟨1, 2⟩ : S35)⟩ : S52)] : List (S52)))).bind fun t199 => (if t199 = true then (if t161 = 0 then (if (t162 == 3 && (t163 == 1)) = true then (if t164 = 0 then ((spoorref19_Same.f k t166 (([(⟨5, 9⟩ : S23)] : List (S23)))).bind fun t203 => (if t203 = true then (if t169 = 0 then ((spoorref20_Same.f k t170 (([(⟨(⟨4, 4⟩ : S23), (⟨3, 1⟩ : S35)⟩ : S52), (⟨(⟨5, 5⟩ : S23), (⟨1, 2⟩ : S35)⟩ : S52)] : List (S52)))).bind fun t207 => (if t207 = true then (if t173 = 0 then (if t180 = 0 then ((spoorref19_Same.f k t181 (([(⟨5, 9⟩ : S23)] : List (S23)))).bind fun t211 => (if t211 = true then (if t184 = 0 then (if t187 = 1 then (if bt192.2 = 2 then ((line_Check.f k 0 9 t158).bind fun t212 => (some (t212 == 0))) else (none)) else (none)) else (none)) else (none))) else (none)) else (none)) else (none))) else (none)) else (none))) else (none)) else (none)) else (none)) else (none)))) = some r := H
 have A7 := Ax A70
 clear A70
 obtain ⟨y189, hy189⟩ : ∃ y_ : List (S46), y_ = (([(⟨1, (⟨3, 1⟩ : S35)⟩ : S46)] : List (S46))) := ⟨_, rfl⟩
 replace H : ((line_Make.f k 0 9 y189).bind fun bt192 => ((spoorref20_Same.f k t158 (([(⟨(⟨0, 4⟩ : S23), (⟨3, 1⟩ : S35)⟩ : S52), (⟨(⟨5, 9⟩ : S23), (⟨1, 2⟩ : S35)⟩ : S52)] : List (S52)))).bind fun t199 => (if t199 = true then (if t161 = 0 then (if (t162 == 3 && (t163 == 1)) = true then (if t164 = 0 then ((spoorref19_Same.f k t166 (([(⟨5, 9⟩ : S23)] : List (S23)))).bind fun t203 => (if t203 = true then (if t169 = 0 then ((spoorref20_Same.f k t170 (([(⟨(⟨4, 4⟩ : S23), (⟨3, 1⟩ : S35)⟩ : S52), (⟨(⟨5, 5⟩ : S23), (⟨1, 2⟩ : S35)⟩ : S52)] : List (S52)))).bind fun t207 => (if t207 = true then (if t173 = 0 then (if t180 = 0 then ((spoorref19_Same.f k t181 (([(⟨5, 9⟩ : S23)] : List (S23)))).bind fun t211 => (if t211 = true then (if t184 = 0 then (if t187 = 1 then (if bt192.2 = 2 then ((line_Check.f k 0 9 t158).bind fun t212 => (some (t212 == 0))) else (none)) else (none)) else (none)) else (none))) else (none)) else (none)) else (none))) else (none)) else (none))) else (none)) else (none)) else (none)) else (none)))) = some r := by first | (rw [hy189]; with_reducible exact H) | (have H2_ := (Option.bind_some _ _).symm.trans H; rw [hy189]; with_reducible exact H2_) | (have H2_ := (Option.bind_some _ _).symm.trans H; with_reducible exact H2_) | with_reducible exact H | (rw [hy189]; exact H) | exact H
 have Ny189 := Ax hy189
 clear hy189
 replace H := Option.bind_eq_some_iff.mp H
 obtain ⟨⟨t192, t195⟩, A80, H⟩ := H
 replace H : ((spoorref20_Same.f k t158 (([(⟨(⟨0, 4⟩ : S23), (⟨3, 1⟩ : S35)⟩ : S52), (⟨(⟨5, 9⟩ : S23), (⟨1, 2⟩ : S35)⟩ : S52)] : List (S52)))).bind fun t199 => (if t199 = true then (if t161 = 0 then (if (t162 == 3 && (t163 == 1)) = true then (if t164 = 0 then ((spoorref19_Same.f k t166 (([(⟨5, 9⟩ : S23)] : List (S23)))).bind fun t203 => (if t203 = true then (if t169 = 0 then ((spoorref20_Same.f k t170 (([(⟨(⟨4, 4⟩ : S23), (⟨3, 1⟩ : S35)⟩ : S52), (⟨(⟨5, 5⟩ : S23), (⟨1, 2⟩ : S35)⟩ : S52)] : List (S52)))).bind fun t207 => (if t207 = true then (if t173 = 0 then (if t180 = 0 then ((spoorref19_Same.f k t181 (([(⟨5, 9⟩ : S23)] : List (S23)))).bind fun t211 => (if t211 = true then (if t184 = 0 then (if t187 = 1 then (if t195 = 2 then ((line_Check.f k 0 9 t158).bind fun t212 => (some (t212 == 0))) else (none)) else (none)) else (none)) else (none))) else (none)) else (none)) else (none))) else (none)) else (none))) else (none)) else (none)) else (none)) else (none))) = some r := H
 have A8 := Ax A80
 clear A80
 obtain ⟨y196, hy196⟩ : ∃ y_ : List (S52), y_ = (([(⟨(⟨0, 4⟩ : S23), (⟨3, 1⟩ : S35)⟩ : S52), (⟨(⟨5, 9⟩ : S23), (⟨1, 2⟩ : S35)⟩ : S52)] : List (S52))) := ⟨_, rfl⟩
 replace H : ((spoorref20_Same.f k t158 y196).bind fun t199 => (if t199 = true then (if t161 = 0 then (if (t162 == 3 && (t163 == 1)) = true then (if t164 = 0 then ((spoorref19_Same.f k t166 (([(⟨5, 9⟩ : S23)] : List (S23)))).bind fun t203 => (if t203 = true then (if t169 = 0 then ((spoorref20_Same.f k t170 (([(⟨(⟨4, 4⟩ : S23), (⟨3, 1⟩ : S35)⟩ : S52), (⟨(⟨5, 5⟩ : S23), (⟨1, 2⟩ : S35)⟩ : S52)] : List (S52)))).bind fun t207 => (if t207 = true then (if t173 = 0 then (if t180 = 0 then ((spoorref19_Same.f k t181 (([(⟨5, 9⟩ : S23)] : List (S23)))).bind fun t211 => (if t211 = true then (if t184 = 0 then (if t187 = 1 then (if t195 = 2 then ((line_Check.f k 0 9 t158).bind fun t212 => (some (t212 == 0))) else (none)) else (none)) else (none)) else (none))) else (none)) else (none)) else (none))) else (none)) else (none))) else (none)) else (none)) else (none)) else (none))) = some r := by first | (rw [hy196]; with_reducible exact H) | (have H2_ := (Option.bind_some _ _).symm.trans H; rw [hy196]; with_reducible exact H2_) | (have H2_ := (Option.bind_some _ _).symm.trans H; with_reducible exact H2_) | with_reducible exact H | (rw [hy196]; exact H) | exact H
 have Ny196 := Ax hy196
 clear hy196
 replace H := Option.bind_eq_some_iff.mp H
 obtain ⟨t199, A90, H⟩ := H
 replace H : (if t199 = true then (if t161 = 0 then (if (t162 == 3 && (t163 == 1)) = true then (if t164 = 0 then ((spoorref19_Same.f k t166 (([(⟨5, 9⟩ : S23)] : List (S23)))).bind fun t203 => (if t203 = true then (if t169 = 0 then ((spoorref20_Same.f k t170 (([(⟨(⟨4, 4⟩ : S23), (⟨3, 1⟩ : S35)⟩ : S52), (⟨(⟨5, 5⟩ : S23), (⟨1, 2⟩ : S35)⟩ : S52)] : List (S52)))).bind fun t207 => (if t207 = true then (if t173 = 0 then (if t180 = 0 then ((spoorref19_Same.f k t181 (([(⟨5, 9⟩ : S23)] : List (S23)))).bind fun t211 => (if t211 = true then (if t184 = 0 then (if t187 = 1 then (if t195 = 2 then ((line_Check.f k 0 9 t158).bind fun t212 => (some (t212 == 0))) else (none)) else (none)) else (none)) else (none))) else (none)) else (none)) else (none))) else (none)) else (none))) else (none)) else (none)) else (none)) else (none)) = some r := H
 have A9 := Ax A90
 clear A90
 by_cases c10 : t199 = true
 ·subst c10
  have H1 : (if t161 = 0 then (if (t162 == 3 && (t163 == 1)) = true then (if t164 = 0 then ((spoorref19_Same.f k t166 (([(⟨5, 9⟩ : S23)] : List (S23)))).bind fun t203 => (if t203 = true then (if t169 = 0 then ((spoorref20_Same.f k t170 (([(⟨(⟨4, 4⟩ : S23), (⟨3, 1⟩ : S35)⟩ : S52), (⟨(⟨5, 5⟩ : S23), (⟨1, 2⟩ : S35)⟩ : S52)] : List (S52)))).bind fun t207 => (if t207 = true then (if t173 = 0 then (if t180 = 0 then ((spoorref19_Same.f k t181 (([(⟨5, 9⟩ : S23)] : List (S23)))).bind fun t211 => (if t211 = true then (if t184 = 0 then (if t187 = 1 then (if t195 = 2 then ((line_Check.f k 0 9 t158).bind fun t212 => (some (t212 == 0))) else (none)) else (none)) else (none)) else (none))) else (none)) else (none)) else (none))) else (none)) else (none))) else (none)) else (none)) else (none)) = some r := by rw [if_pos rfl] at H; exact H
  clear H
  have H := H1
  clear H1
  by_cases c11 : t161 = 0
  ·rw [if_pos c11] at H
   have c11b0 : (t161 == 0) = true := beq_iff_eq.mpr c11
   have c11b1 : (t161 != 0) = false := bne_eq_false_iff_eq.mpr c11
   clear c11
   by_cases c12 : (t162 == 3 && (t163 == 1)) = true
   ·rw [if_pos c12] at H
    have c12b0 : (t162 == 3 && (t163 == 1)) = true := c12
    (try (have c12b1 : decide (t162 = 3 && (t163 == 1)) = true := by simpa using c12))
    (try (have c12b2 : (t162 == 3 && (t163 == 1)) = true := by simpa using c12))
    clear c12
    by_cases c13 : t164 = 0
    ·rw [if_pos c13] at H
     have c13b0 : (t164 == 0) = true := beq_iff_eq.mpr c13
     have c13b1 : (t164 != 0) = false := bne_eq_false_iff_eq.mpr c13
     clear c13
     obtain ⟨y200, hy200⟩ : ∃ y_ : List (S23), y_ = (([(⟨5, 9⟩ : S23)] : List (S23))) := ⟨_, rfl⟩
     replace H : ((spoorref19_Same.f k t166 y200).bind fun t203 => (if t203 = true then (if t169 = 0 then ((spoorref20_Same.f k t170 (([(⟨(⟨4, 4⟩ : S23), (⟨3, 1⟩ : S35)⟩ : S52), (⟨(⟨5, 5⟩ : S23), (⟨1, 2⟩ : S35)⟩ : S52)] : List (S52)))).bind fun t207 => (if t207 = true then (if t173 = 0 then (if t180 = 0 then ((spoorref19_Same.f k t181 (([(⟨5, 9⟩ : S23)] : List (S23)))).bind fun t211 => (if t211 = true then (if t184 = 0 then (if t187 = 1 then (if t195 = 2 then ((line_Check.f k 0 9 t158).bind fun t212 => (some (t212 == 0))) else (none)) else (none)) else (none)) else (none))) else (none)) else (none)) else (none))) else (none)) else (none))) = some r := by first | (rw [hy200]; with_reducible exact H) | (have H2_ := (Option.bind_some _ _).symm.trans H; rw [hy200]; with_reducible exact H2_) | (have H2_ := (Option.bind_some _ _).symm.trans H; with_reducible exact H2_) | with_reducible exact H | (rw [hy200]; exact H) | exact H
     have Ny200 := Ax hy200
     clear hy200
     replace H := Option.bind_eq_some_iff.mp H
     obtain ⟨t203, A140, H⟩ := H
     replace H : (if t203 = true then (if t169 = 0 then ((spoorref20_Same.f k t170 (([(⟨(⟨4, 4⟩ : S23), (⟨3, 1⟩ : S35)⟩ : S52), (⟨(⟨5, 5⟩ : S23), (⟨1, 2⟩ : S35)⟩ : S52)] : List (S52)))).bind fun t207 => (if t207 = true then (if t173 = 0 then (if t180 = 0 then ((spoorref19_Same.f k t181 (([(⟨5, 9⟩ : S23)] : List (S23)))).bind fun t211 => (if t211 = true then (if t184 = 0 then (if t187 = 1 then (if t195 = 2 then ((line_Check.f k 0 9 t158).bind fun t212 => (some (t212 == 0))) else (none)) else (none)) else (none)) else (none))) else (none)) else (none)) else (none))) else (none)) else (none)) = some r := H
     have A14 := Ax A140
     clear A140
     by_cases c15 : t203 = true
     ·subst c15
      have H1 : (if t169 = 0 then ((spoorref20_Same.f k t170 (([(⟨(⟨4, 4⟩ : S23), (⟨3, 1⟩ : S35)⟩ : S52), (⟨(⟨5, 5⟩ : S23), (⟨1, 2⟩ : S35)⟩ : S52)] : List (S52)))).bind fun t207 => (if t207 = true then (if t173 = 0 then (if t180 = 0 then ((spoorref19_Same.f k t181 (([(⟨5, 9⟩ : S23)] : List (S23)))).bind fun t211 => (if t211 = true then (if t184 = 0 then (if t187 = 1 then (if t195 = 2 then ((line_Check.f k 0 9 t158).bind fun t212 => (some (t212 == 0))) else (none)) else (none)) else (none)) else (none))) else (none)) else (none)) else (none))) else (none)) = some r := by rw [if_pos rfl] at H; exact H
      clear H
      have H := H1
      clear H1
      by_cases c16 : t169 = 0
      ·rw [if_pos c16] at H
       have c16b0 : (t169 == 0) = true := beq_iff_eq.mpr c16
       have c16b1 : (t169 != 0) = false := bne_eq_false_iff_eq.mpr c16
       clear c16
       obtain ⟨y204, hy204⟩ : ∃ y_ : List (S52), y_ = (([(⟨(⟨4, 4⟩ : S23), (⟨3, 1⟩ : S35)⟩ : S52), (⟨(⟨5, 5⟩ : S23), (⟨1, 2⟩ : S35)⟩ : S52)] : List (S52))) := ⟨_, rfl⟩
       replace H : ((spoorref20_Same.f k t170 y204).bind fun t207 => (if t207 = true then (if t173 = 0 then (if t180 = 0 then ((spoorref19_Same.f k t181 (([(⟨5, 9⟩ : S23)] : List (S23)))).bind fun t211 => (if t211 = true then (if t184 = 0 then (if t187 = 1 then (if t195 = 2 then ((line_Check.f k 0 9 t158).bind fun t212 => (some (t212 == 0))) else (none)) else (none)) else (none)) else (none))) else (none)) else (none)) else (none))) = some r := by first | (rw [hy204]; with_reducible exact H) | (have H2_ := (Option.bind_some _ _).symm.trans H; rw [hy204]; with_reducible exact H2_) | (have H2_ := (Option.bind_some _ _).symm.trans H; with_reducible exact H2_) | with_reducible exact H | (rw [hy204]; exact H) | exact H
       have Ny204 := Ax hy204
       clear hy204
       replace H := Option.bind_eq_some_iff.mp H
       obtain ⟨t207, A170, H⟩ := H
       replace H : (if t207 = true then (if t173 = 0 then (if t180 = 0 then ((spoorref19_Same.f k t181 (([(⟨5, 9⟩ : S23)] : List (S23)))).bind fun t211 => (if t211 = true then (if t184 = 0 then (if t187 = 1 then (if t195 = 2 then ((line_Check.f k 0 9 t158).bind fun t212 => (some (t212 == 0))) else (none)) else (none)) else (none)) else (none))) else (none)) else (none)) else (none)) = some r := H
       have A17 := Ax A170
       clear A170
       by_cases c18 : t207 = true
       ·subst c18
        have H1 : (if t173 = 0 then (if t180 = 0 then ((spoorref19_Same.f k t181 (([(⟨5, 9⟩ : S23)] : List (S23)))).bind fun t211 => (if t211 = true then (if t184 = 0 then (if t187 = 1 then (if t195 = 2 then ((line_Check.f k 0 9 t158).bind fun t212 => (some (t212 == 0))) else (none)) else (none)) else (none)) else (none))) else (none)) else (none)) = some r := by rw [if_pos rfl] at H; exact H
        clear H
        have H := H1
        clear H1
        by_cases c19 : t173 = 0
        ·rw [if_pos c19] at H
         have c19b0 : (t173 == 0) = true := beq_iff_eq.mpr c19
         have c19b1 : (t173 != 0) = false := bne_eq_false_iff_eq.mpr c19
         clear c19
         by_cases c20 : t180 = 0
         ·rw [if_pos c20] at H
          have c20b0 : (t180 == 0) = true := beq_iff_eq.mpr c20
          have c20b1 : (t180 != 0) = false := bne_eq_false_iff_eq.mpr c20
          clear c20
          obtain ⟨y208, hy208⟩ : ∃ y_ : List (S23), y_ = (([(⟨5, 9⟩ : S23)] : List (S23))) := ⟨_, rfl⟩
          replace H : ((spoorref19_Same.f k t181 y208).bind fun t211 => (if t211 = true then (if t184 = 0 then (if t187 = 1 then (if t195 = 2 then ((line_Check.f k 0 9 t158).bind fun t212 => (some (t212 == 0))) else (none)) else (none)) else (none)) else (none))) = some r := by first | (rw [hy208]; with_reducible exact H) | (have H2_ := (Option.bind_some _ _).symm.trans H; rw [hy208]; with_reducible exact H2_) | (have H2_ := (Option.bind_some _ _).symm.trans H; with_reducible exact H2_) | with_reducible exact H | (rw [hy208]; exact H) | exact H
          have Ny208 := Ax hy208
          clear hy208
          replace H := Option.bind_eq_some_iff.mp H
          obtain ⟨t211, A210, H⟩ := H
          replace H : (if t211 = true then (if t184 = 0 then (if t187 = 1 then (if t195 = 2 then ((line_Check.f k 0 9 t158).bind fun t212 => (some (t212 == 0))) else (none)) else (none)) else (none)) else (none)) = some r := H
          have A21 := Ax A210
          clear A210
          by_cases c22 : t211 = true
          ·subst c22
           have H1 : (if t184 = 0 then (if t187 = 1 then (if t195 = 2 then ((line_Check.f k 0 9 t158).bind fun t212 => (some (t212 == 0))) else (none)) else (none)) else (none)) = some r := by rw [if_pos rfl] at H; exact H
           clear H
           have H := H1
           clear H1
           by_cases c23 : t184 = 0
           ·rw [if_pos c23] at H
            have c23b0 : (t184 == 0) = true := beq_iff_eq.mpr c23
            have c23b1 : (t184 != 0) = false := bne_eq_false_iff_eq.mpr c23
            clear c23
            by_cases c24 : t187 = 1
            ·rw [if_pos c24] at H
             have c24b0 : (t187 == 1) = true := beq_iff_eq.mpr c24
             have c24b1 : (t187 != 1) = false := bne_eq_false_iff_eq.mpr c24
             clear c24
             by_cases c25 : t195 = 2
             ·rw [if_pos c25] at H
              have c25b0 : (t195 == 2) = true := beq_iff_eq.mpr c25
              have c25b1 : (t195 != 2) = false := bne_eq_false_iff_eq.mpr c25
              clear c25
              replace H := Option.bind_eq_some_iff.mp H
              obtain ⟨t212, A260, H⟩ := H
              replace H : (some (t212 == 0)) = some r := H
              have A26 := Ax A260
              clear A260
              obtain rfl := Option.some.inj H
              go_enter Try.func10, Try.ntmps10
              try simp only [List.append_eq, List.cons_append, List.nil_append]
              go_wp2_with (first | ((with_reducible refine gate_dst (N := 1) rfl ?_); refine box_event ?hg (N := 1) ?hd (cs := #[.int .i64 0, .int .i64 0]) (t := 23) ?hr ?_; (case hd => rfl); (case hg => rfl); (case hr => first | (go_simp; done) | (go_simp; rfl)); intro gb152 hg w27 hbox hb; have n0_ := Bs0 HB hb; have n1_ := Ax (hbox); have n2_ := Gw0 HB hg; have n3_ := Gw0 HB hg; clear HB; have HB := n0_; have BK152 := n1_; have GW152 := n2_; have GE152 := n3_; clear n0_ n1_ n2_ n3_; clear hb hbox hg; obtain ⟨hcz28_0, hcz28_1, hfz28_0, hfz28_1⟩ := cl2 BK152) | ((with_reducible refine gate_dst (N := 2) rfl ?_); refine box_event ?hg (N := 2) ?hd (cs := #[.int .u8 0, .int .i64 0]) (t := 35) ?hr ?_; (case hd => rfl); (case hg => rfl); (case hr => first | (go_simp; done) | (go_simp; rfl)); intro gb153 hg w29 hbox hb; have n0_ := Ax (blk_below (g := gb152) (o := .cells #[.int .i64 0, .int .i64 9] 23 (0, 0)) (by (with_reducible repeat (first | refine blk_drewN ?_ _ | refine blk_drew ?_ | refine blk_alloc ?_ _)); refine blk_put (cs := #[.int .i64 0, .int .i64 0]) ?_ 1 _ rfl; (with_reducible repeat (first | refine blk_drewN ?_ _ | refine blk_drew ?_ | refine blk_alloc ?_ _)); refine blk_put (cs := #[.int .i64 0, .int .i64 0]) ?_ 0 _ rfl; (with_reducible repeat (first | refine blk_drewN ?_ _ | refine blk_drew ?_ | refine blk_alloc ?_ _)); exact BK152.out) hb); have n1_ := Bs1 HB hb GE152.out; have n2_ := Ax (hbox); have n3_ := Gw1 HB hg GE152.out; have n4_ := Gw1 HB hg GE152.out; have n5_ := Ax ((by rw [hg]; exact Nat.ne_of_lt (blk_lt (g := gb152) (o := .cells #[.int .i64 0, .int .i64 9] 23 (0, 0)) (by (with_reducible repeat (first | refine blk_drewN ?_ _ | refine blk_drew ?_ | refine blk_alloc ?_ _)); refine blk_put (cs := #[.int .i64 0, .int .i64 0]) ?_ 1 _ rfl; (with_reducible repeat (first | refine blk_drewN ?_ _ | refine blk_drew ?_ | refine blk_alloc ?_ _)); refine blk_put (cs := #[.int .i64 0, .int .i64 0]) ?_ 0 _ rfl; (with_reducible repeat (first | refine blk_drewN ?_ _ | refine blk_drew ?_ | refine blk_alloc ?_ _)); exact BK152.out)) : gb152 ≠ gb153)); have n6_ := Ax ((by rw [hg]; exact Nat.ne_of_gt (blk_lt (g := gb152) (o := .cells #[.int .i64 0, .int .i64 9] 23 (0, 0)) (by (with_reducible repeat (first | refine blk_drewN ?_ _ | refine blk_drew ?_ | refine blk_alloc ?_ _)); refine blk_put (cs := #[.int .i64 0, .int .i64 0]) ?_ 1 _ rfl; (with_reducible repeat (first | refine blk_drewN ?_ _ | refine blk_drew ?_ | refine blk_alloc ?_ _)); refine blk_put (cs := #[.int .i64 0, .int .i64 0]) ?_ 0 _ rfl; (with_reducible repeat (first | refine blk_drewN ?_ _ | refine blk_drew ?_ | refine blk_alloc ?_ _)); exact BK152.out)) : gb153 ≠ gb152)); clear BK152; clear HB; have BK152 := n0_; have HB := n1_; have BK153 := n2_; have GW153 := n3_; have GE153 := n4_; have NB152_153 := n5_; have NB153_152 := n6_; clear n0_ n1_ n2_ n3_ n4_ n5_ n6_; clear hb hbox hg) | ((with_reducible refine gate_dst (N := 3) rfl ?_); refine box_event ?hg (N := 3) ?hd (cs := #[.int .u8 0, .int .i64 0]) (t := 35) ?hr ?_; (case hd => rfl); (case hg => rfl); (case hr => first | (go_simp; done) | (go_simp; rfl)); intro gb154 hg w30 hbox hb; have n0_ := Bx0 BK152 hb; have n1_ := Bx0 BK153 hb; have n2_ := Bs2 HB hb GE152.out GE153.out; have n3_ := Ax (hbox); have n4_ := Gw2 HB hg GE152.out GE153.out; have n5_ := Gw2 HB hg GE152.out GE153.out; have n6_ := Nl0 BK152 hg; have n7_ := Nr0 BK152 hg; have n8_ := Nl0 BK153 hg; have n9_ := Nr0 BK153 hg; clear BK152; clear BK153; clear HB; have BK152 := n0_; have BK153 := n1_; have HB := n2_; have BK154 := n3_; have GW154 := n4_; have GE154 := n5_; have NB152_154 := n6_; have NB154_152 := n7_; have NB153_154 := n8_; have NB154_153 := n9_; clear n0_ n1_ n2_ n3_ n4_ n5_ n6_ n7_ n8_ n9_; clear hb hbox hg; have hnb31 := NB153_152.out; have hnc31 := NB152_153.out; have hnb32 := NB153_154.out; have hnc32 := NB154_153.out; obtain ⟨hcz33_0, hcz33_1, hfz33_0, hfz33_1⟩ := cl2 BK153; have hnb34 := NB154_152.out; have hnc34 := NB152_154.out; obtain ⟨hcz35_0, hcz35_1, hfz35_0, hfz35_1⟩ := cl2 BK154; obtain ⟨hcz36_0, hcz36_1, hfz36_0, hfz36_1⟩ := cl2 BK152) | ((with_reducible refine gate_dst (N := 31) rfl ?_); refine R_litg k46 _ 46 ?hg (N := 31) ?hd (xs := ([(⟨0, (⟨3, 1⟩ : S35)⟩ : S46), (⟨3, (⟨3, 1⟩ : S35)⟩ : S46), (⟨5, (⟨1, 2⟩ : S35)⟩ : S46)] : List (S46))) (inner := [.int .i64 0, .int .u8 3, .int .i64 1, .int .i64 3, .int .u8 3, .int .i64 1, .int .i64 5, .int .u8 1, .int .i64 2]) (ok := fun _ => True) (okp := fun _ => True) ?hr ?hp (fun _ hk => hk) trivial (Below.refl _ _) (Nat.le_refl _) (by simp) ?_; (case hd => rfl); (case hg => first | exact Or.inl rfl | exact Or.inr rfl); (case hr => first | (go_simp; done) | (go_simp; rfl)); (case hp => exact (Reps.c3 (show Kd.M k46 _ _ _ (⟨0, (⟨3, 1⟩ : S35)⟩ : S46) [.int .i64 0, .int .u8 3, .int .i64 1] from (k46_mkM _ _ _ (⟨0, (⟨3, 1⟩ : S35)⟩ : S46) )) (Reps.c3 (show Kd.M k46 _ _ _ (⟨3, (⟨3, 1⟩ : S35)⟩ : S46) [.int .i64 3, .int .u8 3, .int .i64 1] from (k46_mkM _ _ _ (⟨3, (⟨3, 1⟩ : S35)⟩ : S46) )) (Reps.c3 (show Kd.M k46 _ _ _ (⟨5, (⟨1, 2⟩ : S35)⟩ : S46) [.int .i64 5, .int .u8 1, .int .i64 2] from (k46_mkM _ _ _ (⟨5, (⟨1, 2⟩ : S35)⟩ : S46) )) (Reps.none _ _))))); intro v156 w37 ho38 hb hg_ hnew_; clear hg_ hnew_; (first | rw [← Ny155.out] at ho38 | (simp only [Int.reduceToNat] at ho38; rw [← Ny155.out] at ho38)); have n0_ := Ax (Kd.R_lower ho38 (below_size (bw3 HB.out GE152.out GE153.out GE154.out))); have n1_ := Bx4 BK152 hb NB152_154.out NB152_154.out NB152_153.out NB152_153.out; have n2_ := Ax (blk_below (g := gb153) (o := .cells #[.int .u8 3, .int .i64 1] 35 (0, 0)) (by (with_reducible repeat (first | refine blk_drewN ?_ _ | refine blk_drew ?_ | refine blk_alloc ?_ _)); refine blk_far ?_ NB153_154.out _; (with_reducible repeat (first | refine blk_drewN ?_ _ | refine blk_drew ?_ | refine blk_alloc ?_ _)); refine blk_far ?_ NB153_154.out _; (with_reducible repeat (first | refine blk_drewN ?_ _ | refine blk_drew ?_ | refine blk_alloc ?_ _)); refine blk_put (cs := #[.int .u8 3, .int .i64 0]) ?_ 1 _ rfl; (with_reducible repeat (first | refine blk_drewN ?_ _ | refine blk_drew ?_ | refine blk_alloc ?_ _)); refine blk_put (cs := #[.int .u8 0, .int .i64 0]) ?_ 0 _ rfl; (with_reducible repeat (first | refine blk_drewN ?_ _ | refine blk_drew ?_ | refine blk_alloc ?_ _)); exact BK153.out) hb); have n3_ := Ax (blk_below (g := gb154) (o := .cells #[.int .u8 1, .int .i64 2] 35 (0, 0)) (by (with_reducible repeat (first | refine blk_drewN ?_ _ | refine blk_drew ?_ | refine blk_alloc ?_ _)); refine blk_put (cs := #[.int .u8 1, .int .i64 0]) ?_ 1 _ rfl; (with_reducible repeat (first | refine blk_drewN ?_ _ | refine blk_drew ?_ | refine blk_alloc ?_ _)); refine blk_put (cs := #[.int .u8 0, .int .i64 0]) ?_ 0 _ rfl; (with_reducible repeat (first | refine blk_drewN ?_ _ | refine blk_drew ?_ | refine blk_alloc ?_ _)); refine blk_far ?_ NB154_153.out _; (with_reducible repeat (first | refine blk_drewN ?_ _ | refine blk_drew ?_ | refine blk_alloc ?_ _)); refine blk_far ?_ NB154_153.out _; (with_reducible repeat (first | refine blk_drewN ?_ _ | refine blk_drew ?_ | refine blk_alloc ?_ _)); exact BK154.out) hb); have n4_ := Bs3 HB hb GE152.out GE153.out GE154.out; clear BK152; clear BK153; clear BK154; clear HB; have HO157 := n0_; have BK152 := n1_; have BK153 := n2_; have BK154 := n3_; have HB := n4_; clear n0_ n1_ n2_ n3_ n4_; clear hb ho38; obtain ⟨Ao39, co39, eo39⟩ := Kd.R_slice HO157.out; subst eo39) | ((with_reducible refine gate_callee (f := 8) rfl ?_); refine goesL_ (some 32) rfl rfl Try.func8 (by kernel_rfl) rfl #[.agg #[.int .i64 0, .int .i64 9], .slice Ao39 y155.length co39] rfl gS ?_; (with_reducible refine (line_Make.calls k 0 9 _ _ y155 t158 t161 _ ?side1 ?side2 A1.out).mono ?_); (case side1 => repeat (first | exact (Kd.R_reads' HO157.out).2.2 | (with_reducible refine Kd.C_alloc ?_ _) | (with_reducible refine Kd.C_drewN ?_ _) | (with_reducible refine Kd.C_drew ?_))); (case side2 => exact (Kd.R_reads' HO157.out).2.1); rintro e w40 ⟨v159, rfl, ho0, hb⟩; refine ⟨_, rfl, ?_⟩; have n0_ := Ax (Kd.R_below (by (with_reducible repeat (first | apply Kd.R_alloc | apply Kd.R_drewN | apply Kd.R_drew)); exact HO157.out) hb); have n1_ := Ax (Kd.R_lower ho0 (below_size (bw3 HB.out GE152.out GE153.out GE154.out))); have n2_ := Bx0 BK152 hb; have n3_ := Bx0 BK153 hb; have n4_ := Bx0 BK154 hb; have n5_ := Bs3 HB hb GE152.out GE153.out GE154.out; clear HO157; clear BK152; clear BK153; clear BK154; clear HB; have HO157 := n0_; have HO160 := n1_; have BK152 := n2_; have BK153 := n3_; have BK154 := n4_; have HB := n5_; clear n0_ n1_ n2_ n3_ n4_ n5_; (try clear hb); (try clear ho0); obtain ⟨hcz41_0, hcz41_1, hfz41_0, hfz41_1⟩ := cl2 BK152; obtain ⟨Ao42, co42, eo42⟩ := Kd.R_slice HO160.out; subst eo42) | ((with_reducible refine gate_callee (f := 14) rfl ?_); refine goesL_ (some 38) rfl rfl Try.func14 (by kernel_rfl) rfl #[.agg #[.int .i64 0, .int .i64 9], .slice Ao42 t158.length co42, .int .i64 4] rfl gS ?_; (with_reducible refine (line_At.calls k 0 9 _ _ t158 4 t162 t163 t164 _ ?side1 ?side2 A2.out).mono ?_); (case side1 => repeat (first | exact (Kd.R_reads' HO160.out).2.2 | (with_reducible refine Kd.C_alloc ?_ _) | (with_reducible refine Kd.C_drewN ?_ _) | (with_reducible refine Kd.C_drew ?_))); (case side2 => exact (Kd.R_reads' HO160.out).2.1); rintro e w43 ⟨rfl, hb⟩; refine ⟨_, rfl, ?_⟩; have n0_ := Ax (Kd.R_below (by (with_reducible repeat (first | apply Kd.R_alloc | apply Kd.R_drewN | apply Kd.R_drew)); exact HO157.out) hb); have n1_ := Ax (Kd.R_below (by (with_reducible repeat (first | apply Kd.R_alloc | apply Kd.R_drewN | apply Kd.R_drew)); exact HO160.out) hb); have n2_ := Bx0 BK152 hb; have n3_ := Bx0 BK153 hb; have n4_ := Bx0 BK154 hb; have n5_ := Bs3 HB hb GE152.out GE153.out GE154.out; clear HO157; clear HO160; clear BK152; clear BK153; clear BK154; clear HB; have HO157 := n0_; have HO160 := n1_; have BK152 := n2_; have BK153 := n3_; have BK154 := n4_; have HB := n5_; clear n0_ n1_ n2_ n3_ n4_ n5_; (try clear hb)) | ((with_reducible refine gate_dst (N := 6) rfl ?_); refine box_event ?hg (N := 6) ?hd (cs := #[.int .u8 0, .int .i64 0]) (t := 35) ?hr ?_; (case hd => rfl); (case hg => rfl); (case hr => first | (go_simp; done) | (go_simp; rfl)); intro gb165 hg w44 hbox hb; have n0_ := Ax (Kd.R_below (by (with_reducible repeat (first | apply Kd.R_alloc | apply Kd.R_drewN | apply Kd.R_drew)); exact HO157.out) hb); have n1_ := Ax (Kd.R_below (by (with_reducible repeat (first | apply Kd.R_alloc | apply Kd.R_drewN | apply Kd.R_drew)); exact HO160.out) hb); have n2_ := Bx0 BK152 hb; have n3_ := Bx0 BK153 hb; have n4_ := Bx0 BK154 hb; have n5_ := Bs3 HB hb GE152.out GE153.out GE154.out; have n6_ := Ax (hbox); have n7_ := Gw3 HB hg GE152.out GE153.out GE154.out; have n8_ := Gw3 HB hg GE152.out GE153.out GE154.out; have n9_ := Nl0 BK152 hg; have n10_ := Nr0 BK152 hg; have n11_ := Nl0 BK153 hg; have n12_ := Nr0 BK153 hg; have n13_ := Nl0 BK154 hg; have n14_ := Nr0 BK154 hg; clear HO157; clear HO160; clear BK152; clear BK153; clear BK154; clear HB; have HO157 := n0_; have HO160 := n1_; have BK152 := n2_; have BK153 := n3_; have BK154 := n4_; have HB := n5_; have BK165 := n6_; have GW165 := n7_; have GE165 := n8_; have NB152_165 := n9_; have NB165_152 := n10_; have NB153_165 := n11_; have NB165_153 := n12_; have NB154_165 := n13_; have NB165_154 := n14_; clear n0_ n1_ n2_ n3_ n4_ n5_ n6_ n7_ n8_ n9_ n10_ n11_ n12_ n13_ n14_; clear hb hbox hg; have hnb45 := NB165_152.out; have hnc45 := NB152_165.out; have hnb46 := NB165_153.out; have hnc46 := NB153_165.out; have hnb47 := NB165_154.out; have hnc47 := NB154_165.out; obtain ⟨hcz48_0, hcz48_1, hfz48_0, hfz48_1⟩ := cl2 BK165; obtain ⟨hcz49_0, hcz49_1, hfz49_0, hfz49_1⟩ := cl2 BK152; obtain ⟨hcz50_0, hcz50_1, hfz50_0, hfz50_1⟩ := cl2 BK154) | ((with_reducible refine gate_callee (f := 16) rfl ?_); refine goesL_ (some 45) rfl rfl Try.func16 (by kernel_rfl) rfl #[.agg #[.int .i64 0, .int .i64 9], .slice Ao42 t158.length co42, .agg #[.int .u8 1, .int .i64 2]] rfl gS ?_; (with_reducible refine (line_When.calls k 0 9 _ _ t158 1 2 t166 t169 _ ?side1 ?side2 A3.out).mono ?_); (case side1 => refine (Kd.R_reads' (e := 52) (base := w.heap.size) (ok := fun k_ => True) (n := t158.length) (c := co42) ?_).2.2; exact (by (with_reducible repeat (first | apply Kd.R_alloc | apply Kd.R_drewN | apply Kd.R_drew)); exact (Kd.R_mono (Kd.R_far (p := ⟨gb165, 1, none⟩) (Kd.R_far (p := ⟨gb165, 0, none⟩) (Kd.R_types HO160.out BK165.out (by decide)) (fun _ hk => hk.2) (.int .u8 t162)) (fun _ hk => hk.2) (.int .i64 t163)) (fun _ h_ => h_.1)))); (case side2 => exact (Kd.R_reads' HO160.out).2.1); rintro e w51 ⟨v167, rfl, ho0, hb⟩; refine ⟨_, rfl, ?_⟩; have n0_ := Ax (Kd.R_below (by (with_reducible repeat (first | apply Kd.R_alloc | apply Kd.R_drewN | apply Kd.R_drew)); exact (Kd.R_mono (Kd.R_far (p := ⟨gb165, 1, none⟩) (Kd.R_far (p := ⟨gb165, 0, none⟩) (Kd.R_types HO157.out BK165.out (by decide)) (fun _ hk => hk.2) (.int .u8 t162)) (fun _ hk => hk.2) (.int .i64 t163)) (fun _ h_ => h_.1))) hb); have n1_ := Ax (Kd.R_below (by (with_reducible repeat (first | apply Kd.R_alloc | apply Kd.R_drewN | apply Kd.R_drew)); exact (Kd.R_mono (Kd.R_far (p := ⟨gb165, 1, none⟩) (Kd.R_far (p := ⟨gb165, 0, none⟩) (Kd.R_types HO160.out BK165.out (by decide)) (fun _ hk => hk.2) (.int .u8 t162)) (fun _ hk => hk.2) (.int .i64 t163)) (fun _ h_ => h_.1))) hb); have n2_ := Ax (Kd.R_lower (Kd.R_newB ho0 (g := gb152) (o := .cells #[.int .i64 0, .int .i64 9] 23 (0, 0)) (bf2 BK152.out NB152_165.out NB152_165.out)) (below_size (bw4 HB.out GE152.out GE153.out GE154.out GE165.out))); have n3_ := Bx2 BK152 hb NB152_165.out NB152_165.out; have n4_ := Bx2 BK153 hb NB153_165.out NB153_165.out; have n5_ := Bx2 BK154 hb NB154_165.out NB154_165.out; have n6_ := Ax (blk_below (g := gb165) (o := .cells #[.int .u8 t162, .int .i64 t163] 35 (0, 0)) (by (with_reducible repeat (first | refine blk_drewN ?_ _ | refine blk_drew ?_ | refine blk_alloc ?_ _)); refine blk_put (cs := #[.int .u8 t162, .int .i64 0]) ?_ 1 _ rfl; (with_reducible repeat (first | refine blk_drewN ?_ _ | refine blk_drew ?_ | refine blk_alloc ?_ _)); refine blk_put (cs := #[.int .u8 0, .int .i64 0]) ?_ 0 _ rfl; (with_reducible repeat (first | refine blk_drewN ?_ _ | refine blk_drew ?_ | refine blk_alloc ?_ _)); exact BK165.out) hb); have n7_ := Bs4 HB hb GE152.out GE153.out GE154.out GE165.out; clear HO157; clear HO160; clear BK152; clear BK153; clear BK154; clear BK165; clear HB; have HO157 := n0_; have HO160 := n1_; have HO168 := n2_; have BK152 := n3_; have BK153 := n4_; have BK154 := n5_; have BK165 := n6_; have HB := n7_; clear n0_ n1_ n2_ n3_ n4_ n5_ n6_ n7_; (try clear hb); (try clear ho0); obtain ⟨hcz52_0, hcz52_1, hfz52_0, hfz52_1⟩ := cl2 BK152) | ((with_reducible refine gate_callee (f := 18) rfl ?_); refine goesL_ (some 52) rfl rfl Try.func18 (by kernel_rfl) rfl #[.agg #[.int .i64 0, .int .i64 9], .slice Ao42 t158.length co42, .agg #[.int .i64 4, .int .i64 5]] rfl gS ?_; (with_reducible refine (line_Cut.calls k 0 9 _ _ t158 4 5 t170 t173 _ ?side1 ?side2 A4.out).mono ?_); (case side1 => repeat (first | exact (Kd.R_reads' HO160.out).2.2 | (with_reducible refine Kd.C_alloc ?_ _) | (with_reducible refine Kd.C_drewN ?_ _) | (with_reducible refine Kd.C_drew ?_))); (case side2 => exact (Kd.R_reads' HO160.out).2.1); rintro e w53 ⟨v171, rfl, ho0, hb⟩; refine ⟨_, rfl, ?_⟩; have n0_ := Ax (Kd.R_below (by (with_reducible repeat (first | apply Kd.R_alloc | apply Kd.R_drewN | apply Kd.R_drew)); exact HO157.out) hb); have n1_ := Ax (Kd.R_elder' (by (with_reducible repeat (first | apply Kd.R_alloc | apply Kd.R_drewN | apply Kd.R_drew)); exact HO160.out) (Kd.R_base ho0) hb); have n2_ := Ax (Kd.R_below (by (with_reducible repeat (first | apply Kd.R_alloc | apply Kd.R_drewN | apply Kd.R_drew)); exact HO168.out) hb); have n3_ := Ax (Kd.R_lower (Kd.R_new' ho0 (Kd.R_lt (by (with_reducible repeat (first | apply Kd.R_alloc | apply Kd.R_drewN | apply Kd.R_drew)); exact HO160.out))) (below_size (bw4 HB.out GE152.out GE153.out GE154.out GE165.out))); have n4_ := Bx0 BK152 hb; have n5_ := Bx0 BK153 hb; have n6_ := Bx0 BK154 hb; have n7_ := Bx0 BK165 hb; have n8_ := Bs4 HB hb GE152.out GE153.out GE154.out GE165.out; clear HO157; clear HO160; clear HO168; clear BK152; clear BK153; clear BK154; clear BK165; clear HB; have HO157 := n0_; have HO160 := n1_; have HO168 := n2_; have HO172 := n3_; have BK152 := n4_; have BK153 := n5_; have BK154 := n6_; have BK165 := n7_; have HB := n8_; clear n0_ n1_ n2_ n3_ n4_ n5_ n6_ n7_ n8_; (try clear hb); (try clear ho0); obtain ⟨hcz54_0, hcz54_1, hfz54_0, hfz54_1⟩ := cl2 BK152; obtain ⟨hcz55_0, hcz55_1, hfz55_0, hfz55_1⟩ := cl2 BK153) | ((with_reducible refine gate_dst (N := 59) rfl ?_); refine R_litg k46 _ 46 ?hg (N := 59) ?hd (xs := ([(⟨0, (⟨3, 1⟩ : S35)⟩ : S46)] : List (S46))) (inner := [.int .i64 0, .int .u8 3, .int .i64 1]) (ok := fun _ => True) (okp := fun _ => True) ?hr ?hp (fun _ hk => hk) trivial (Below.refl _ _) (Nat.le_refl _) (by simp) ?_; (case hd => rfl); (case hg => first | exact Or.inl rfl | exact Or.inr rfl); (case hr => first | (go_simp; done) | (go_simp; rfl)); (case hp => exact (Reps.c3 (show Kd.M k46 _ _ _ (⟨0, (⟨3, 1⟩ : S35)⟩ : S46) [.int .i64 0, .int .u8 3, .int .i64 1] from (k46_mkM _ _ _ (⟨0, (⟨3, 1⟩ : S35)⟩ : S46) )) (Reps.none _ _))); intro v175 w56 ho57 hb hg_ hnew_; clear hg_ hnew_; (first | rw [← Ny174.out] at ho57 | (simp only [Int.reduceToNat] at ho57; rw [← Ny174.out] at ho57)); have n0_ := Ax (Kd.R_elder' (by (with_reducible repeat (first | apply Kd.R_alloc | apply Kd.R_drewN | apply Kd.R_drew)); exact HO157.out) (Kd.R_base ho57) hb); have n1_ := Ax (Kd.R_below (by (with_reducible repeat (first | apply Kd.R_alloc | apply Kd.R_drewN | apply Kd.R_drew)); exact HO160.out) hb); have n2_ := Ax (Kd.R_below (by (with_reducible repeat (first | apply Kd.R_alloc | apply Kd.R_drewN | apply Kd.R_drew)); exact HO168.out) hb); have n3_ := Ax (Kd.R_below (by (with_reducible repeat (first | apply Kd.R_alloc | apply Kd.R_drewN | apply Kd.R_drew)); exact HO172.out) hb); have n4_ := Ax (Kd.R_lower (Kd.R_new' ho57 (Kd.R_lt (by (with_reducible repeat (first | apply Kd.R_alloc | apply Kd.R_drewN | apply Kd.R_drew)); exact HO157.out))) (below_size (bw4 HB.out GE152.out GE153.out GE154.out GE165.out))); have n5_ := Bx0 BK152 hb; have n6_ := Bx0 BK153 hb; have n7_ := Bx0 BK154 hb; have n8_ := Bx0 BK165 hb; have n9_ := Bs4 HB hb GE152.out GE153.out GE154.out GE165.out; clear HO157; clear HO160; clear HO168; clear HO172; clear BK152; clear BK153; clear BK154; clear BK165; clear HB; have HO157 := n0_; have HO160 := n1_; have HO168 := n2_; have HO172 := n3_; have HO176 := n4_; have BK152 := n5_; have BK153 := n6_; have BK154 := n7_; have BK165 := n8_; have HB := n9_; clear n0_ n1_ n2_ n3_ n4_ n5_ n6_ n7_ n8_ n9_; clear hb ho57; obtain ⟨Ao58, co58, eo58⟩ := Kd.R_slice HO176.out; subst eo58) | ((with_reducible refine gate_callee (f := 8) rfl ?_); refine goesL_ (some 60) rfl rfl Try.func8 (by kernel_rfl) rfl #[.agg #[.int .i64 0, .int .i64 9], .slice Ao58 y174.length co58] rfl gS ?_; (with_reducible refine (line_Make.calls k 0 9 _ _ y174 t177 t180 _ ?side1 ?side2 A5.out).mono ?_); (case side1 => repeat (first | exact (Kd.R_reads' HO176.out).2.2 | (with_reducible refine Kd.C_alloc ?_ _) | (with_reducible refine Kd.C_drewN ?_ _) | (with_reducible refine Kd.C_drew ?_))); (case side2 => exact (Kd.R_reads' HO176.out).2.1); rintro e w59 ⟨v178, rfl, ho0, hb⟩; refine ⟨_, rfl, ?_⟩; have n0_ := Ax (Kd.R_below (by (with_reducible repeat (first | apply Kd.R_alloc | apply Kd.R_drewN | apply Kd.R_drew)); exact HO157.out) hb); have n1_ := Ax (Kd.R_elder' (by (with_reducible repeat (first | apply Kd.R_alloc | apply Kd.R_drewN | apply Kd.R_drew)); exact HO160.out) (Kd.R_base ho0) hb); have n2_ := Ax (Kd.R_below (by (with_reducible repeat (first | apply Kd.R_alloc | apply Kd.R_drewN | apply Kd.R_drew)); exact HO168.out) hb); have n3_ := Ax (Kd.R_elder' (by (with_reducible repeat (first | apply Kd.R_alloc | apply Kd.R_drewN | apply Kd.R_drew)); exact HO172.out) (Kd.R_base ho0) hb); have n4_ := Ax (Kd.R_below (by (with_reducible repeat (first | apply Kd.R_alloc | apply Kd.R_drewN | apply Kd.R_drew)); exact HO176.out) hb); have n5_ := Ax (Kd.R_lower (Kd.R_new' (Kd.R_new' ho0 (Kd.R_lt (by (with_reducible repeat (first | apply Kd.R_alloc | apply Kd.R_drewN | apply Kd.R_drew)); exact HO160.out))) (Kd.R_lt (by (with_reducible repeat (first | apply Kd.R_alloc | apply Kd.R_drewN | apply Kd.R_drew)); exact HO172.out))) (below_size (bw4 HB.out GE152.out GE153.out GE154.out GE165.out))); have n6_ := Bx0 BK152 hb; have n7_ := Bx0 BK153 hb; have n8_ := Bx0 BK154 hb; have n9_ := Bx0 BK165 hb; have n10_ := Bs4 HB hb GE152.out GE153.out GE154.out GE165.out; clear HO157; clear HO160; clear HO168; clear HO172; clear HO176; clear BK152; clear BK153; clear BK154; clear BK165; clear HB; have HO157 := n0_; have HO160 := n1_; have HO168 := n2_; have HO172 := n3_; have HO176 := n4_; have HO179 := n5_; have BK152 := n6_; have BK153 := n7_; have BK154 := n8_; have BK165 := n9_; have HB := n10_; clear n0_ n1_ n2_ n3_ n4_ n5_ n6_ n7_ n8_ n9_ n10_; (try clear hb); (try clear ho0); obtain ⟨hcz60_0, hcz60_1, hfz60_0, hfz60_1⟩ := cl2 BK152; obtain ⟨Ao61, co61, eo61⟩ := Kd.R_slice HO179.out; subst eo61) | ((with_reducible refine gate_callee (f := 20) rfl ?_); refine goesL_ (some 67) rfl rfl Try.func20 (by kernel_rfl) rfl #[.agg #[.int .i64 0, .int .i64 9], .slice Ao42 t158.length co42, .slice Ao61 t177.length co61] rfl gS ?_; (with_reducible refine (line_Differ.calls k 0 9 _ _ t158 _ _ t177 t181 t184 _ ?side1 ?side2 ?side3 ?side4 A6.out).mono ?_); (case side1 => repeat (first | exact (Kd.R_reads' HO160.out).2.2 | (with_reducible refine Kd.C_alloc ?_ _) | (with_reducible refine Kd.C_drewN ?_ _) | (with_reducible refine Kd.C_drew ?_))); (case side2 => exact (Kd.R_reads' HO160.out).2.1); (case side3 => repeat (first | exact (Kd.R_reads' HO179.out).2.2 | (with_reducible refine Kd.C_alloc ?_ _) | (with_reducible refine Kd.C_drewN ?_ _) | (with_reducible refine Kd.C_drew ?_))); (case side4 => exact (Kd.R_reads' HO179.out).2.1); rintro e w62 ⟨v182, rfl, ho0, hb⟩; refine ⟨_, rfl, ?_⟩; have n0_ := Ax (Kd.R_below (by (with_reducible repeat (first | apply Kd.R_alloc | apply Kd.R_drewN | apply Kd.R_drew)); exact HO157.out) hb); have n1_ := Ax (Kd.R_below (by (with_reducible repeat (first | apply Kd.R_alloc | apply Kd.R_drewN | apply Kd.R_drew)); exact HO160.out) hb); have n2_ := Ax (Kd.R_elder' (by (with_reducible repeat (first | apply Kd.R_alloc | apply Kd.R_drewN | apply Kd.R_drew)); exact HO168.out) (Kd.R_base ho0) hb); have n3_ := Ax (Kd.R_below (by (with_reducible repeat (first | apply Kd.R_alloc | apply Kd.R_drewN | apply Kd.R_drew)); exact HO172.out) hb); have n4_ := Ax (Kd.R_below (by (with_reducible repeat (first | apply Kd.R_alloc | apply Kd.R_drewN | apply Kd.R_drew)); exact HO176.out) hb); have n5_ := Ax (Kd.R_below (by (with_reducible repeat (first | apply Kd.R_alloc | apply Kd.R_drewN | apply Kd.R_drew)); exact HO179.out) hb); have n6_ := Ax (Kd.R_lower (Kd.R_newB (Kd.R_new' ho0 (Kd.R_lt (by (with_reducible repeat (first | apply Kd.R_alloc | apply Kd.R_drewN | apply Kd.R_drew)); exact HO168.out))) (g := gb152) (o := .cells #[.int .i64 0, .int .i64 9] 23 (0, 0)) (bf0 BK152.out)) (below_size (bw4 HB.out GE152.out GE153.out GE154.out GE165.out))); have n7_ := Bx0 BK152 hb; have n8_ := Bx0 BK153 hb; have n9_ := Bx0 BK154 hb; have n10_ := Bx0 BK165 hb; have n11_ := Bs4 HB hb GE152.out GE153.out GE154.out GE165.out; clear HO157; clear HO160; clear HO168; clear HO172; clear HO176; clear HO179; clear BK152; clear BK153; clear BK154; clear BK165; clear HB; have HO157 := n0_; have HO160 := n1_; have HO168 := n2_; have HO172 := n3_; have HO176 := n4_; have HO179 := n5_; have HO183 := n6_; have BK152 := n7_; have BK153 := n8_; have BK154 := n9_; have BK165 := n10_; have HB := n11_; clear n0_ n1_ n2_ n3_ n4_ n5_ n6_ n7_ n8_ n9_ n10_ n11_; (try clear hb); (try clear ho0); obtain ⟨hcz63_0, hcz63_1, hfz63_0, hfz63_1⟩ := cl2 BK152) | ((with_reducible refine gate_callee (f := 14) rfl ?_); refine goesL_ (some 73) rfl rfl Try.func14 (by kernel_rfl) rfl #[.agg #[.int .i64 0, .int .i64 9], .slice Ao42 t158.length co42, .int .i64 10] rfl gS ?_; (with_reducible refine (line_At.calls k 0 9 _ _ t158 10 t185 t186 t187 _ ?side1 ?side2 A7.out).mono ?_); (case side1 => repeat (first | exact (Kd.R_reads' HO160.out).2.2 | (with_reducible refine Kd.C_alloc ?_ _) | (with_reducible refine Kd.C_drewN ?_ _) | (with_reducible refine Kd.C_drew ?_))); (case side2 => exact (Kd.R_reads' HO160.out).2.1); rintro e w64 ⟨rfl, hb⟩; refine ⟨_, rfl, ?_⟩; have n0_ := Ax (Kd.R_below (by (with_reducible repeat (first | apply Kd.R_alloc | apply Kd.R_drewN | apply Kd.R_drew)); exact HO157.out) hb); have n1_ := Ax (Kd.R_below (by (with_reducible repeat (first | apply Kd.R_alloc | apply Kd.R_drewN | apply Kd.R_drew)); exact HO160.out) hb); have n2_ := Ax (Kd.R_below (by (with_reducible repeat (first | apply Kd.R_alloc | apply Kd.R_drewN | apply Kd.R_drew)); exact HO168.out) hb); have n3_ := Ax (Kd.R_below (by (with_reducible repeat (first | apply Kd.R_alloc | apply Kd.R_drewN | apply Kd.R_drew)); exact HO172.out) hb); have n4_ := Ax (Kd.R_below (by (with_reducible repeat (first | apply Kd.R_alloc | apply Kd.R_drewN | apply Kd.R_drew)); exact HO176.out) hb); have n5_ := Ax (Kd.R_below (by (with_reducible repeat (first | apply Kd.R_alloc | apply Kd.R_drewN | apply Kd.R_drew)); exact HO179.out) hb); have n6_ := Ax (Kd.R_below (by (with_reducible repeat (first | apply Kd.R_alloc | apply Kd.R_drewN | apply Kd.R_drew)); exact HO183.out) hb); have n7_ := Bx0 BK152 hb; have n8_ := Bx0 BK153 hb; have n9_ := Bx0 BK154 hb; have n10_ := Bx0 BK165 hb; have n11_ := Bs4 HB hb GE152.out GE153.out GE154.out GE165.out; clear HO157; clear HO160; clear HO168; clear HO172; clear HO176; clear HO179; clear HO183; clear BK152; clear BK153; clear BK154; clear BK165; clear HB; have HO157 := n0_; have HO160 := n1_; have HO168 := n2_; have HO172 := n3_; have HO176 := n4_; have HO179 := n5_; have HO183 := n6_; have BK152 := n7_; have BK153 := n8_; have BK154 := n9_; have BK165 := n10_; have HB := n11_; clear n0_ n1_ n2_ n3_ n4_ n5_ n6_ n7_ n8_ n9_ n10_ n11_; (try clear hb)) | ((with_reducible refine gate_dst (N := 16) rfl ?_); refine box_event ?hg (N := 16) ?hd (cs := #[.int .u8 0, .int .i64 0]) (t := 35) ?hr ?_; (case hd => rfl); (case hg => rfl); (case hr => first | (go_simp; done) | (go_simp; rfl)); intro gb188 hg w65 hbox hb; have n0_ := Ax (Kd.R_below (by (with_reducible repeat (first | apply Kd.R_alloc | apply Kd.R_drewN | apply Kd.R_drew)); exact HO157.out) hb); have n1_ := Ax (Kd.R_below (by (with_reducible repeat (first | apply Kd.R_alloc | apply Kd.R_drewN | apply Kd.R_drew)); exact HO160.out) hb); have n2_ := Ax (Kd.R_below (by (with_reducible repeat (first | apply Kd.R_alloc | apply Kd.R_drewN | apply Kd.R_drew)); exact HO168.out) hb); have n3_ := Ax (Kd.R_below (by (with_reducible repeat (first | apply Kd.R_alloc | apply Kd.R_drewN | apply Kd.R_drew)); exact HO172.out) hb); have n4_ := Ax (Kd.R_below (by (with_reducible repeat (first | apply Kd.R_alloc | apply Kd.R_drewN | apply Kd.R_drew)); exact HO176.out) hb); have n5_ := Ax (Kd.R_below (by (with_reducible repeat (first | apply Kd.R_alloc | apply Kd.R_drewN | apply Kd.R_drew)); exact HO179.out) hb); have n6_ := Ax (Kd.R_below (by (with_reducible repeat (first | apply Kd.R_alloc | apply Kd.R_drewN | apply Kd.R_drew)); exact HO183.out) hb); have n7_ := Bx0 BK152 hb; have n8_ := Bx0 BK153 hb; have n9_ := Bx0 BK154 hb; have n10_ := Bx0 BK165 hb; have n11_ := Bs4 HB hb GE152.out GE153.out GE154.out GE165.out; have n12_ := Ax (hbox); have n13_ := Gw4 HB hg GE152.out GE153.out GE154.out GE165.out; have n14_ := Gw4 HB hg GE152.out GE153.out GE154.out GE165.out; have n15_ := Nl0 BK152 hg; have n16_ := Nr0 BK152 hg; have n17_ := Nl0 BK153 hg; have n18_ := Nr0 BK153 hg; have n19_ := Nl0 BK154 hg; have n20_ := Nr0 BK154 hg; have n21_ := Nl0 BK165 hg; have n22_ := Nr0 BK165 hg; clear HO157; clear HO160; clear HO168; clear HO172; clear HO176; clear HO179; clear HO183; clear BK152; clear BK153; clear BK154; clear BK165; clear HB; have HO157 := n0_; have HO160 := n1_; have HO168 := n2_; have HO172 := n3_; have HO176 := n4_; have HO179 := n5_; have HO183 := n6_; have BK152 := n7_; have BK153 := n8_; have BK154 := n9_; have BK165 := n10_; have HB := n11_; have BK188 := n12_; have GW188 := n13_; have GE188 := n14_; have NB152_188 := n15_; have NB188_152 := n16_; have NB153_188 := n17_; have NB188_153 := n18_; have NB154_188 := n19_; have NB188_154 := n20_; have NB165_188 := n21_; have NB188_165 := n22_; clear n0_ n1_ n2_ n3_ n4_ n5_ n6_ n7_ n8_ n9_ n10_ n11_ n12_ n13_ n14_ n15_ n16_ n17_ n18_ n19_ n20_ n21_ n22_; clear hb hbox hg; have hnb66 := NB188_152.out; have hnc66 := NB152_188.out; have hnb67 := NB188_153.out; have hnc67 := NB153_188.out; have hnb68 := NB188_154.out; have hnc68 := NB154_188.out; have hnb69 := NB188_165.out; have hnc69 := NB165_188.out; obtain ⟨hcz70_0, hcz70_1, hfz70_0, hfz70_1⟩ := cl2 BK188; obtain ⟨hcz71_0, hcz71_1, hfz71_0, hfz71_1⟩ := cl2 BK152; obtain ⟨hcz72_0, hcz72_1, hfz72_0, hfz72_1⟩ := cl2 BK153) | ((with_reducible refine gate_dst (N := 80) rfl ?_); refine R_litg k46 _ 46 ?hg (N := 80) ?hd (xs := ([(⟨1, (⟨3, 1⟩ : S35)⟩ : S46)] : List (S46))) (inner := [.int .i64 1, .int .u8 3, .int .i64 1]) (ok := fun _ => True) (okp := fun _ => True) ?hr ?hp (fun _ hk => hk) trivial (Below.refl _ _) (Nat.le_refl _) (by simp) ?_; (case hd => rfl); (case hg => first | exact Or.inl rfl | exact Or.inr rfl); (case hr => first | (go_simp; done) | (go_simp; rfl)); (case hp => exact (Reps.c3 (show Kd.M k46 _ _ _ (⟨1, (⟨3, 1⟩ : S35)⟩ : S46) [.int .i64 1, .int .u8 3, .int .i64 1] from (k46_mkM _ _ _ (⟨1, (⟨3, 1⟩ : S35)⟩ : S46) )) (Reps.none _ _))); intro v190 w73 ho74 hb hg_ hnew_; clear hg_ hnew_; (first | rw [← Ny189.out] at ho74 | (simp only [Int.reduceToNat] at ho74; rw [← Ny189.out] at ho74)); have n0_ := Ax (Kd.R_elder' (by (with_reducible repeat (first | apply Kd.R_alloc | apply Kd.R_drewN | apply Kd.R_drew)); exact (Kd.R_mono (Kd.R_far (p := ⟨gb188, 1, none⟩) (Kd.R_far (p := ⟨gb188, 0, none⟩) (Kd.R_types HO157.out BK188.out (by decide)) (fun _ hk => hk.2) (.int .u8 t185)) (fun _ hk => hk.2) (.int .i64 t186)) (fun _ h_ => h_.1))) (Kd.R_base ho74) hb); have n1_ := Ax (Kd.R_below (by (with_reducible repeat (first | apply Kd.R_alloc | apply Kd.R_drewN | apply Kd.R_drew)); exact (Kd.R_mono (Kd.R_far (p := ⟨gb188, 1, none⟩) (Kd.R_far (p := ⟨gb188, 0, none⟩) (Kd.R_types HO160.out BK188.out (by decide)) (fun _ hk => hk.2) (.int .u8 t185)) (fun _ hk => hk.2) (.int .i64 t186)) (fun _ h_ => h_.1))) hb); have n2_ := Ax (Kd.R_below (by (with_reducible repeat (first | apply Kd.R_alloc | apply Kd.R_drewN | apply Kd.R_drew)); exact (Kd.R_mono (Kd.R_far (p := ⟨gb188, 1, none⟩) (Kd.R_far (p := ⟨gb188, 0, none⟩) (Kd.R_types HO168.out BK188.out (by decide)) (fun _ hk => hk.2) (.int .u8 t185)) (fun _ hk => hk.2) (.int .i64 t186)) (fun _ h_ => h_.1))) hb); have n3_ := Ax (Kd.R_below (by (with_reducible repeat (first | apply Kd.R_alloc | apply Kd.R_drewN | apply Kd.R_drew)); exact (Kd.R_mono (Kd.R_far (p := ⟨gb188, 1, none⟩) (Kd.R_far (p := ⟨gb188, 0, none⟩) (Kd.R_types HO172.out BK188.out (by decide)) (fun _ hk => hk.2) (.int .u8 t185)) (fun _ hk => hk.2) (.int .i64 t186)) (fun _ h_ => h_.1))) hb); have n4_ := Ax (Kd.R_elder' (by (with_reducible repeat (first | apply Kd.R_alloc | apply Kd.R_drewN | apply Kd.R_drew)); exact (Kd.R_mono (Kd.R_far (p := ⟨gb188, 1, none⟩) (Kd.R_far (p := ⟨gb188, 0, none⟩) (Kd.R_types HO176.out BK188.out (by decide)) (fun _ hk => hk.2) (.int .u8 t185)) (fun _ hk => hk.2) (.int .i64 t186)) (fun _ h_ => h_.1))) (Kd.R_base ho74) hb); have n5_ := Ax (Kd.R_below (by (with_reducible repeat (first | apply Kd.R_alloc | apply Kd.R_drewN | apply Kd.R_drew)); exact (Kd.R_mono (Kd.R_far (p := ⟨gb188, 1, none⟩) (Kd.R_far (p := ⟨gb188, 0, none⟩) (Kd.R_types HO179.out BK188.out (by decide)) (fun _ hk => hk.2) (.int .u8 t185)) (fun _ hk => hk.2) (.int .i64 t186)) (fun _ h_ => h_.1))) hb); have n6_ := Ax (Kd.R_below (by (with_reducible repeat (first | apply Kd.R_alloc | apply Kd.R_drewN | apply Kd.R_drew)); exact (Kd.R_mono (Kd.R_far (p := ⟨gb188, 1, none⟩) (Kd.R_far (p := ⟨gb188, 0, none⟩) (Kd.R_types HO183.out BK188.out (by decide)) (fun _ hk => hk.2) (.int .u8 t185)) (fun _ hk => hk.2) (.int .i64 t186)) (fun _ h_ => h_.1))) hb); have n7_ := Ax (Kd.R_lower (Kd.R_new' (Kd.R_new' ho74 (Kd.R_lt (by (with_reducible repeat (first | apply Kd.R_alloc | apply Kd.R_drewN | apply Kd.R_drew)); exact (Kd.R_mono (Kd.R_far (p := ⟨gb188, 1, none⟩) (Kd.R_far (p := ⟨gb188, 0, none⟩) (Kd.R_types HO157.out BK188.out (by decide)) (fun _ hk => hk.2) (.int .u8 t185)) (fun _ hk => hk.2) (.int .i64 t186)) (fun _ h_ => h_.1))))) (Kd.R_lt (by (with_reducible repeat (first | apply Kd.R_alloc | apply Kd.R_drewN | apply Kd.R_drew)); exact (Kd.R_mono (Kd.R_far (p := ⟨gb188, 1, none⟩) (Kd.R_far (p := ⟨gb188, 0, none⟩) (Kd.R_types HO176.out BK188.out (by decide)) (fun _ hk => hk.2) (.int .u8 t185)) (fun _ hk => hk.2) (.int .i64 t186)) (fun _ h_ => h_.1))))) (below_size (bw5 HB.out GE152.out GE153.out GE154.out GE165.out GE188.out))); have n8_ := Bx2 BK152 hb NB152_188.out NB152_188.out; have n9_ := Bx2 BK153 hb NB153_188.out NB153_188.out; have n10_ := Bx2 BK154 hb NB154_188.out NB154_188.out; have n11_ := Bx2 BK165 hb NB165_188.out NB165_188.out; have n12_ := Ax (blk_below (g := gb188) (o := .cells #[.int .u8 t185, .int .i64 t186] 35 (0, 0)) (by (with_reducible repeat (first | refine blk_drewN ?_ _ | refine blk_drew ?_ | refine blk_alloc ?_ _)); refine blk_put (cs := #[.int .u8 t185, .int .i64 0]) ?_ 1 _ rfl; (with_reducible repeat (first | refine blk_drewN ?_ _ | refine blk_drew ?_ | refine blk_alloc ?_ _)); refine blk_put (cs := #[.int .u8 0, .int .i64 0]) ?_ 0 _ rfl; (with_reducible repeat (first | refine blk_drewN ?_ _ | refine blk_drew ?_ | refine blk_alloc ?_ _)); exact BK188.out) hb); have n13_ := Bs5 HB hb GE152.out GE153.out GE154.out GE165.out GE188.out; clear HO157; clear HO160; clear HO168; clear HO172; clear HO176; clear HO179; clear HO183; clear BK152; clear BK153; clear BK154; clear BK165; clear BK188; clear HB; have HO157 := n0_; have HO160 := n1_; have HO168 := n2_; have HO172 := n3_; have HO176 := n4_; have HO179 := n5_; have HO183 := n6_; have HO191 := n7_; have BK152 := n8_; have BK153 := n9_; have BK154 := n10_; have BK165 := n11_; have BK188 := n12_; have HB := n13_; clear n0_ n1_ n2_ n3_ n4_ n5_ n6_ n7_ n8_ n9_ n10_ n11_ n12_ n13_; clear hb ho74; obtain ⟨Ao75, co75, eo75⟩ := Kd.R_slice HO191.out; subst eo75) | ((with_reducible refine gate_callee (f := 8) rfl ?_); refine goesL_ (some 81) rfl rfl Try.func8 (by kernel_rfl) rfl #[.agg #[.int .i64 0, .int .i64 9], .slice Ao75 y189.length co75] rfl gS ?_; (with_reducible refine (line_Make.calls k 0 9 _ _ y189 t192 t195 _ ?side1 ?side2 A8.out).mono ?_); (case side1 => repeat (first | exact (Kd.R_reads' HO191.out).2.2 | (with_reducible refine Kd.C_alloc ?_ _) | (with_reducible refine Kd.C_drewN ?_ _) | (with_reducible refine Kd.C_drew ?_))); (case side2 => exact (Kd.R_reads' HO191.out).2.1); rintro e w76 ⟨v193, rfl, ho0, hb⟩; refine ⟨_, rfl, ?_⟩; have n0_ := Ax (Kd.R_below (by (with_reducible repeat (first | apply Kd.R_alloc | apply Kd.R_drewN | apply Kd.R_drew)); exact HO157.out) hb); have n1_ := Ax (Kd.R_elder' (by (with_reducible repeat (first | apply Kd.R_alloc | apply Kd.R_drewN | apply Kd.R_drew)); exact HO160.out) (Kd.R_base ho0) hb); have n2_ := Ax (Kd.R_below (by (with_reducible repeat (first | apply Kd.R_alloc | apply Kd.R_drewN | apply Kd.R_drew)); exact HO168.out) hb); have n3_ := Ax (Kd.R_elder' (by (with_reducible repeat (first | apply Kd.R_alloc | apply Kd.R_drewN | apply Kd.R_drew)); exact HO172.out) (Kd.R_base ho0) hb); have n4_ := Ax (Kd.R_below (by (with_reducible repeat (first | apply Kd.R_alloc | apply Kd.R_drewN | apply Kd.R_drew)); exact HO176.out) hb); have n5_ := Ax (Kd.R_elder' (by (with_reducible repeat (first | apply Kd.R_alloc | apply Kd.R_drewN | apply Kd.R_drew)); exact HO179.out) (Kd.R_base ho0) hb); have n6_ := Ax (Kd.R_below (by (with_reducible repeat (first | apply Kd.R_alloc | apply Kd.R_drewN | apply Kd.R_drew)); exact HO183.out) hb); have n7_ := Ax (Kd.R_below (by (with_reducible repeat (first | apply Kd.R_alloc | apply Kd.R_drewN | apply Kd.R_drew)); exact HO191.out) hb); have n8_ := Ax (Kd.R_lower (Kd.R_new' (Kd.R_new' (Kd.R_new' ho0 (Kd.R_lt (by (with_reducible repeat (first | apply Kd.R_alloc | apply Kd.R_drewN | apply Kd.R_drew)); exact HO160.out))) (Kd.R_lt (by (with_reducible repeat (first | apply Kd.R_alloc | apply Kd.R_drewN | apply Kd.R_drew)); exact HO172.out))) (Kd.R_lt (by (with_reducible repeat (first | apply Kd.R_alloc | apply Kd.R_drewN | apply Kd.R_drew)); exact HO179.out))) (below_size (bw5 HB.out GE152.out GE153.out GE154.out GE165.out GE188.out))); have n9_ := Bx0 BK152 hb; have n10_ := Bx0 BK153 hb; have n11_ := Bx0 BK154 hb; have n12_ := Bx0 BK165 hb; have n13_ := Bx0 BK188 hb; have n14_ := Bs5 HB hb GE152.out GE153.out GE154.out GE165.out GE188.out; clear HO157; clear HO160; clear HO168; clear HO172; clear HO176; clear HO179; clear HO183; clear HO191; clear BK152; clear BK153; clear BK154; clear BK165; clear BK188; clear HB; have HO157 := n0_; have HO160 := n1_; have HO168 := n2_; have HO172 := n3_; have HO176 := n4_; have HO179 := n5_; have HO183 := n6_; have HO191 := n7_; have HO194 := n8_; have BK152 := n9_; have BK153 := n10_; have BK154 := n11_; have BK165 := n12_; have BK188 := n13_; have HB := n14_; clear n0_ n1_ n2_ n3_ n4_ n5_ n6_ n7_ n8_ n9_ n10_ n11_ n12_ n13_ n14_; (try clear hb); (try clear ho0); obtain ⟨hcz77_0, hcz77_1, hfz77_0, hfz77_1⟩ := cl2 BK153; obtain ⟨hcz78_0, hcz78_1, hfz78_0, hfz78_1⟩ := cl2 BK154) | ((with_reducible refine gate_dst (N := 91) rfl ?_); refine R_litg k52 _ 52 ?hg (N := 91) ?hd (xs := ([(⟨(⟨0, 4⟩ : S23), (⟨3, 1⟩ : S35)⟩ : S52), (⟨(⟨5, 9⟩ : S23), (⟨1, 2⟩ : S35)⟩ : S52)] : List (S52))) (inner := [.int .i64 0, .int .i64 4, .int .u8 3, .int .i64 1, .int .i64 5, .int .i64 9, .int .u8 1, .int .i64 2]) (ok := fun _ => True) (okp := fun _ => True) ?hr ?hp (fun _ hk => hk) trivial (Below.refl _ _) (Nat.le_refl _) (by simp) ?_; (case hd => rfl); (case hg => first | exact Or.inl rfl | exact Or.inr rfl); (case hr => first | (go_simp; done) | (go_simp; rfl)); (case hp => exact (Reps.c4 (show Kd.M k52 _ _ _ (⟨(⟨0, 4⟩ : S23), (⟨3, 1⟩ : S35)⟩ : S52) [.int .i64 0, .int .i64 4, .int .u8 3, .int .i64 1] from (k52_mkM _ _ _ (⟨(⟨0, 4⟩ : S23), (⟨3, 1⟩ : S35)⟩ : S52) )) (Reps.c4 (show Kd.M k52 _ _ _ (⟨(⟨5, 9⟩ : S23), (⟨1, 2⟩ : S35)⟩ : S52) [.int .i64 5, .int .i64 9, .int .u8 1, .int .i64 2] from (k52_mkM _ _ _ (⟨(⟨5, 9⟩ : S23), (⟨1, 2⟩ : S35)⟩ : S52) )) (Reps.none _ _)))); intro v197 w79 ho80 hb hg_ hnew_; clear hg_ hnew_; (first | rw [← Ny196.out] at ho80 | (simp only [Int.reduceToNat] at ho80; rw [← Ny196.out] at ho80)); have n0_ := Ax (Kd.R_below (by (with_reducible repeat (first | apply Kd.R_alloc | apply Kd.R_drewN | apply Kd.R_drew)); exact HO157.out) hb); have n1_ := Ax (Kd.R_elder' (by (with_reducible repeat (first | apply Kd.R_alloc | apply Kd.R_drewN | apply Kd.R_drew)); exact HO160.out) (Kd.R_base ho80) hb); have n2_ := Ax (Kd.R_below (by (with_reducible repeat (first | apply Kd.R_alloc | apply Kd.R_drewN | apply Kd.R_drew)); exact HO168.out) hb); have n3_ := Ax (Kd.R_elder' (by (with_reducible repeat (first | apply Kd.R_alloc | apply Kd.R_drewN | apply Kd.R_drew)); exact HO172.out) (Kd.R_base ho80) hb); have n4_ := Ax (Kd.R_below (by (with_reducible repeat (first | apply Kd.R_alloc | apply Kd.R_drewN | apply Kd.R_drew)); exact HO176.out) hb); have n5_ := Ax (Kd.R_elder' (by (with_reducible repeat (first | apply Kd.R_alloc | apply Kd.R_drewN | apply Kd.R_drew)); exact HO179.out) (Kd.R_base ho80) hb); have n6_ := Ax (Kd.R_below (by (with_reducible repeat (first | apply Kd.R_alloc | apply Kd.R_drewN | apply Kd.R_drew)); exact HO183.out) hb); have n7_ := Ax (Kd.R_below (by (with_reducible repeat (first | apply Kd.R_alloc | apply Kd.R_drewN | apply Kd.R_drew)); exact HO191.out) hb); have n8_ := Ax (Kd.R_elder' (by (with_reducible repeat (first | apply Kd.R_alloc | apply Kd.R_drewN | apply Kd.R_drew)); exact HO194.out) (Kd.R_base ho80) hb); have n9_ := Ax (Kd.R_lower (Kd.R_new' (Kd.R_new' (Kd.R_new' (Kd.R_new' ho80 (Kd.R_lt (by (with_reducible repeat (first | apply Kd.R_alloc | apply Kd.R_drewN | apply Kd.R_drew)); exact HO160.out))) (Kd.R_lt (by (with_reducible repeat (first | apply Kd.R_alloc | apply Kd.R_drewN | apply Kd.R_drew)); exact HO172.out))) (Kd.R_lt (by (with_reducible repeat (first | apply Kd.R_alloc | apply Kd.R_drewN | apply Kd.R_drew)); exact HO179.out))) (Kd.R_lt (by (with_reducible repeat (first | apply Kd.R_alloc | apply Kd.R_drewN | apply Kd.R_drew)); exact HO194.out))) (below_size (bw5 HB.out GE152.out GE153.out GE154.out GE165.out GE188.out))); have n10_ := Bx0 BK152 hb; have n11_ := Bx0 BK153 hb; have n12_ := Bx0 BK154 hb; have n13_ := Bx0 BK165 hb; have n14_ := Bx0 BK188 hb; have n15_ := Bs5 HB hb GE152.out GE153.out GE154.out GE165.out GE188.out; clear HO157; clear HO160; clear HO168; clear HO172; clear HO176; clear HO179; clear HO183; clear HO191; clear HO194; clear BK152; clear BK153; clear BK154; clear BK165; clear BK188; clear HB; have HO157 := n0_; have HO160 := n1_; have HO168 := n2_; have HO172 := n3_; have HO176 := n4_; have HO179 := n5_; have HO183 := n6_; have HO191 := n7_; have HO194 := n8_; have HO198 := n9_; have BK152 := n10_; have BK153 := n11_; have BK154 := n12_; have BK165 := n13_; have BK188 := n14_; have HB := n15_; clear n0_ n1_ n2_ n3_ n4_ n5_ n6_ n7_ n8_ n9_ n10_ n11_ n12_ n13_ n14_ n15_; clear hb ho80; obtain ⟨Ao81, co81, eo81⟩ := Kd.R_slice HO198.out; subst eo81) | ((with_reducible refine gate_callee (f := 11) rfl ?_); refine goesL_ (some 92) rfl rfl Try.func11 (by kernel_rfl) rfl #[.slice Ao42 t158.length co42, .slice Ao81 y196.length co81] rfl gS ?_; (with_reducible refine (spoorref20_Same.calls k _ _ t158 _ _ y196 true _ ?side1 ?side2 ?side3 ?side4 A9.out).mono ?_); (case side1 => repeat (first | exact (Kd.R_reads' HO160.out).2.2 | (with_reducible refine Kd.C_alloc ?_ _) | (with_reducible refine Kd.C_drewN ?_ _) | (with_reducible refine Kd.C_drew ?_))); (case side2 => exact (Kd.R_reads' HO160.out).2.1); (case side3 => repeat (first | exact (Kd.R_reads' HO198.out).2.2 | (with_reducible refine Kd.C_alloc ?_ _) | (with_reducible refine Kd.C_drewN ?_ _) | (with_reducible refine Kd.C_drew ?_))); (case side4 => exact (Kd.R_reads' HO198.out).2.1); rintro e w' ⟨rfl, ⟨nd, rfl⟩⟩; refine ⟨_, rfl, ?_⟩; obtain ⟨hcz82_0, hcz82_1, hfz82_0, hfz82_1⟩ := cl2 BK165; obtain ⟨hcz83_0, hcz83_1, hfz83_0, hfz83_1⟩ := cl2 BK153) | ((with_reducible refine gate_dst (N := 109) rfl ?_); refine R_litg k23 _ 23 ?hg (N := 109) ?hd (xs := ([(⟨5, 9⟩ : S23)] : List (S23))) (inner := [.int .i64 5, .int .i64 9]) (ok := fun _ => True) (okp := fun _ => True) ?hr ?hp (fun _ hk => hk) trivial (Below.refl _ _) (Nat.le_refl _) (by simp) ?_; (case hd => rfl); (case hg => first | exact Or.inl rfl | exact Or.inr rfl); (case hr => first | (go_simp; done) | (go_simp; rfl)); (case hp => exact (Reps.c2 (show Kd.M k23 _ _ _ (⟨5, 9⟩ : S23) [.int .i64 5, .int .i64 9] from (k23_mkM _ _ _ (⟨5, 9⟩ : S23) )) (Reps.none _ _))); intro v201 w84 ho85 hb hg_ hnew_; clear hg_ hnew_; (first | rw [← Ny200.out] at ho85 | (simp only [Int.reduceToNat] at ho85; rw [← Ny200.out] at ho85)); have n0_ := Ax (Kd.R_below (by (with_reducible repeat (first | apply Kd.R_alloc | apply Kd.R_drewN | apply Kd.R_drew)); exact HO157.out) hb); have n1_ := Ax (Kd.R_below (by (with_reducible repeat (first | apply Kd.R_alloc | apply Kd.R_drewN | apply Kd.R_drew)); exact HO160.out) hb); have n2_ := Ax (Kd.R_elder' (by (with_reducible repeat (first | apply Kd.R_alloc | apply Kd.R_drewN | apply Kd.R_drew)); exact HO168.out) (Kd.R_base ho85) hb); have n3_ := Ax (Kd.R_below (by (with_reducible repeat (first | apply Kd.R_alloc | apply Kd.R_drewN | apply Kd.R_drew)); exact HO172.out) hb); have n4_ := Ax (Kd.R_below (by (with_reducible repeat (first | apply Kd.R_alloc | apply Kd.R_drewN | apply Kd.R_drew)); exact HO176.out) hb); have n5_ := Ax (Kd.R_below (by (with_reducible repeat (first | apply Kd.R_alloc | apply Kd.R_drewN | apply Kd.R_drew)); exact HO179.out) hb); have n6_ := Ax (Kd.R_elder' (by (with_reducible repeat (first | apply Kd.R_alloc | apply Kd.R_drewN | apply Kd.R_drew)); exact HO183.out) (Kd.R_base ho85) hb); have n7_ := Ax (Kd.R_below (by (with_reducible repeat (first | apply Kd.R_alloc | apply Kd.R_drewN | apply Kd.R_drew)); exact HO191.out) hb); have n8_ := Ax (Kd.R_below (by (with_reducible repeat (first | apply Kd.R_alloc | apply Kd.R_drewN | apply Kd.R_drew)); exact HO194.out) hb); have n9_ := Ax (Kd.R_below (by (with_reducible repeat (first | apply Kd.R_alloc | apply Kd.R_drewN | apply Kd.R_drew)); exact HO198.out) hb); have n10_ := Ax (Kd.R_lower (Kd.R_newB (Kd.R_new' (Kd.R_new' ho85 (Kd.R_lt (by (with_reducible repeat (first | apply Kd.R_alloc | apply Kd.R_drewN | apply Kd.R_drew)); exact HO168.out))) (Kd.R_lt (by (with_reducible repeat (first | apply Kd.R_alloc | apply Kd.R_drewN | apply Kd.R_drew)); exact HO183.out))) (g := gb152) (o := .cells #[.int .i64 0, .int .i64 9] 23 (0, 0)) (bf0 BK152.out)) (below_size (bw5 HB.out GE152.out GE153.out GE154.out GE165.out GE188.out))); have n11_ := Bx0 BK152 hb; have n12_ := Bx0 BK153 hb; have n13_ := Bx0 BK154 hb; have n14_ := Bx0 BK165 hb; have n15_ := Bx0 BK188 hb; have n16_ := Bs5 HB hb GE152.out GE153.out GE154.out GE165.out GE188.out; clear HO157; clear HO160; clear HO168; clear HO172; clear HO176; clear HO179; clear HO183; clear HO191; clear HO194; clear HO198; clear BK152; clear BK153; clear BK154; clear BK165; clear BK188; clear HB; have HO157 := n0_; have HO160 := n1_; have HO168 := n2_; have HO172 := n3_; have HO176 := n4_; have HO179 := n5_; have HO183 := n6_; have HO191 := n7_; have HO194 := n8_; have HO198 := n9_; have HO202 := n10_; have BK152 := n11_; have BK153 := n12_; have BK154 := n13_; have BK165 := n14_; have BK188 := n15_; have HB := n16_; clear n0_ n1_ n2_ n3_ n4_ n5_ n6_ n7_ n8_ n9_ n10_ n11_ n12_ n13_ n14_ n15_ n16_; clear hb ho85; obtain ⟨Ao86, co86, eo86⟩ := Kd.R_slice HO168.out; subst eo86; obtain ⟨Ao87, co87, eo87⟩ := Kd.R_slice HO202.out; subst eo87) | (go_at_call 22; (with_reducible refine (spoorref19_Same.calls k _ _ t166 _ _ y200 true _ ?side1 ?side2 ?side3 ?side4 A14.out).mono ?_); (case side1 => repeat (first | exact (Kd.R_reads' HO168.out).2.2 | (with_reducible refine Kd.C_alloc ?_ _) | (with_reducible refine Kd.C_drewN ?_ _) | (with_reducible refine Kd.C_drew ?_))); (case side2 => exact (Kd.R_reads' HO168.out).2.1); (case side3 => repeat (first | exact (Kd.R_reads' HO202.out).2.2 | (with_reducible refine Kd.C_alloc ?_ _) | (with_reducible refine Kd.C_drewN ?_ _) | (with_reducible refine Kd.C_drew ?_))); (case side4 => exact (Kd.R_reads' HO202.out).2.1); rintro e w' ⟨rfl, ⟨nd, rfl⟩⟩; obtain ⟨hcz88_0, hcz88_1, hfz88_0, hfz88_1⟩ := cl2 BK153; obtain ⟨hcz89_0, hcz89_1, hfz89_0, hfz89_1⟩ := cl2 BK154) | ((with_reducible refine gate_dst (N := 124) rfl ?_); refine R_litg k52 _ 52 ?hg (N := 124) ?hd (xs := ([(⟨(⟨4, 4⟩ : S23), (⟨3, 1⟩ : S35)⟩ : S52), (⟨(⟨5, 5⟩ : S23), (⟨1, 2⟩ : S35)⟩ : S52)] : List (S52))) (inner := [.int .i64 4, .int .i64 4, .int .u8 3, .int .i64 1, .int .i64 5, .int .i64 5, .int .u8 1, .int .i64 2]) (ok := fun _ => True) (okp := fun _ => True) ?hr ?hp (fun _ hk => hk) trivial (Below.refl _ _) (Nat.le_refl _) (by simp) ?_; (case hd => rfl); (case hg => first | exact Or.inl rfl | exact Or.inr rfl); (case hr => first | (go_simp; done) | (go_simp; rfl)); (case hp => exact (Reps.c4 (show Kd.M k52 _ _ _ (⟨(⟨4, 4⟩ : S23), (⟨3, 1⟩ : S35)⟩ : S52) [.int .i64 4, .int .i64 4, .int .u8 3, .int .i64 1] from (k52_mkM _ _ _ (⟨(⟨4, 4⟩ : S23), (⟨3, 1⟩ : S35)⟩ : S52) )) (Reps.c4 (show Kd.M k52 _ _ _ (⟨(⟨5, 5⟩ : S23), (⟨1, 2⟩ : S35)⟩ : S52) [.int .i64 5, .int .i64 5, .int .u8 1, .int .i64 2] from (k52_mkM _ _ _ (⟨(⟨5, 5⟩ : S23), (⟨1, 2⟩ : S35)⟩ : S52) )) (Reps.none _ _)))); intro v205 w90 ho91 hb hg_ hnew_; clear hg_ hnew_; (first | rw [← Ny204.out] at ho91 | (simp only [Int.reduceToNat] at ho91; rw [← Ny204.out] at ho91)); have n0_ := Ax (Kd.R_below (by (with_reducible repeat (first | apply Kd.R_alloc | apply Kd.R_drewN | apply Kd.R_drew)); exact HO157.out) hb); have n1_ := Ax (Kd.R_elder' (by (with_reducible repeat (first | apply Kd.R_alloc | apply Kd.R_drewN | apply Kd.R_drew)); exact HO160.out) (Kd.R_base ho91) hb); have n2_ := Ax (Kd.R_below (by (with_reducible repeat (first | apply Kd.R_alloc | apply Kd.R_drewN | apply Kd.R_drew)); exact HO168.out) hb); have n3_ := Ax (Kd.R_elder' (by (with_reducible repeat (first | apply Kd.R_alloc | apply Kd.R_drewN | apply Kd.R_drew)); exact HO172.out) (Kd.R_base ho91) hb); have n4_ := Ax (Kd.R_below (by (with_reducible repeat (first | apply Kd.R_alloc | apply Kd.R_drewN | apply Kd.R_drew)); exact HO176.out) hb); have n5_ := Ax (Kd.R_elder' (by (with_reducible repeat (first | apply Kd.R_alloc | apply Kd.R_drewN | apply Kd.R_drew)); exact HO179.out) (Kd.R_base ho91) hb); have n6_ := Ax (Kd.R_below (by (with_reducible repeat (first | apply Kd.R_alloc | apply Kd.R_drewN | apply Kd.R_drew)); exact HO183.out) hb); have n7_ := Ax (Kd.R_below (by (with_reducible repeat (first | apply Kd.R_alloc | apply Kd.R_drewN | apply Kd.R_drew)); exact HO191.out) hb); have n8_ := Ax (Kd.R_elder' (by (with_reducible repeat (first | apply Kd.R_alloc | apply Kd.R_drewN | apply Kd.R_drew)); exact HO194.out) (Kd.R_base ho91) hb); have n9_ := Ax (Kd.R_elder' (by (with_reducible repeat (first | apply Kd.R_alloc | apply Kd.R_drewN | apply Kd.R_drew)); exact HO198.out) (Kd.R_base ho91) hb); have n10_ := Ax (Kd.R_below (by (with_reducible repeat (first | apply Kd.R_alloc | apply Kd.R_drewN | apply Kd.R_drew)); exact HO202.out) hb); have n11_ := Ax (Kd.R_lower (Kd.R_new' (Kd.R_new' (Kd.R_new' (Kd.R_new' (Kd.R_new' ho91 (Kd.R_lt (by (with_reducible repeat (first | apply Kd.R_alloc | apply Kd.R_drewN | apply Kd.R_drew)); exact HO160.out))) (Kd.R_lt (by (with_reducible repeat (first | apply Kd.R_alloc | apply Kd.R_drewN | apply Kd.R_drew)); exact HO172.out))) (Kd.R_lt (by (with_reducible repeat (first | apply Kd.R_alloc | apply Kd.R_drewN | apply Kd.R_drew)); exact HO179.out))) (Kd.R_lt (by (with_reducible repeat (first | apply Kd.R_alloc | apply Kd.R_drewN | apply Kd.R_drew)); exact HO194.out))) (Kd.R_lt (by (with_reducible repeat (first | apply Kd.R_alloc | apply Kd.R_drewN | apply Kd.R_drew)); exact HO198.out))) (below_size (bw5 HB.out GE152.out GE153.out GE154.out GE165.out GE188.out))); have n12_ := Bx0 BK152 hb; have n13_ := Bx0 BK153 hb; have n14_ := Bx0 BK154 hb; have n15_ := Bx0 BK165 hb; have n16_ := Bx0 BK188 hb; have n17_ := Bs5 HB hb GE152.out GE153.out GE154.out GE165.out GE188.out; clear HO157; clear HO160; clear HO168; clear HO172; clear HO176; clear HO179; clear HO183; clear HO191; clear HO194; clear HO198; clear HO202; clear BK152; clear BK153; clear BK154; clear BK165; clear BK188; clear HB; have HO157 := n0_; have HO160 := n1_; have HO168 := n2_; have HO172 := n3_; have HO176 := n4_; have HO179 := n5_; have HO183 := n6_; have HO191 := n7_; have HO194 := n8_; have HO198 := n9_; have HO202 := n10_; have HO206 := n11_; have BK152 := n12_; have BK153 := n13_; have BK154 := n14_; have BK165 := n15_; have BK188 := n16_; have HB := n17_; clear n0_ n1_ n2_ n3_ n4_ n5_ n6_ n7_ n8_ n9_ n10_ n11_ n12_ n13_ n14_ n15_ n16_ n17_; clear hb ho91; obtain ⟨Ao92, co92, eo92⟩ := Kd.R_slice HO172.out; subst eo92; obtain ⟨Ao93, co93, eo93⟩ := Kd.R_slice HO206.out; subst eo93) | (go_at_call 11; (with_reducible refine (spoorref20_Same.calls k _ _ t170 _ _ y204 true _ ?side1 ?side2 ?side3 ?side4 A17.out).mono ?_); (case side1 => repeat (first | exact (Kd.R_reads' HO172.out).2.2 | (with_reducible refine Kd.C_alloc ?_ _) | (with_reducible refine Kd.C_drewN ?_ _) | (with_reducible refine Kd.C_drew ?_))); (case side2 => exact (Kd.R_reads' HO172.out).2.1); (case side3 => repeat (first | exact (Kd.R_reads' HO206.out).2.2 | (with_reducible refine Kd.C_alloc ?_ _) | (with_reducible refine Kd.C_drewN ?_ _) | (with_reducible refine Kd.C_drew ?_))); (case side4 => exact (Kd.R_reads' HO206.out).2.1); rintro e w' ⟨rfl, ⟨nd, rfl⟩⟩) | ((with_reducible refine gate_dst (N := 138) rfl ?_); refine R_litg k23 _ 23 ?hg (N := 138) ?hd (xs := ([(⟨5, 9⟩ : S23)] : List (S23))) (inner := [.int .i64 5, .int .i64 9]) (ok := fun _ => True) (okp := fun _ => True) ?hr ?hp (fun _ hk => hk) trivial (Below.refl _ _) (Nat.le_refl _) (by simp) ?_; (case hd => rfl); (case hg => first | exact Or.inl rfl | exact Or.inr rfl); (case hr => first | (go_simp; done) | (go_simp; rfl)); (case hp => exact (Reps.c2 (show Kd.M k23 _ _ _ (⟨5, 9⟩ : S23) [.int .i64 5, .int .i64 9] from (k23_mkM _ _ _ (⟨5, 9⟩ : S23) )) (Reps.none _ _))); intro v209 w94 ho95 hb hg_ hnew_; clear hg_ hnew_; (first | rw [← Ny208.out] at ho95 | (simp only [Int.reduceToNat] at ho95; rw [← Ny208.out] at ho95)); have n0_ := Ax (Kd.R_below (by (with_reducible repeat (first | apply Kd.R_alloc | apply Kd.R_drewN | apply Kd.R_drew)); exact HO157.out) hb); have n1_ := Ax (Kd.R_below (by (with_reducible repeat (first | apply Kd.R_alloc | apply Kd.R_drewN | apply Kd.R_drew)); exact HO160.out) hb); have n2_ := Ax (Kd.R_elder' (by (with_reducible repeat (first | apply Kd.R_alloc | apply Kd.R_drewN | apply Kd.R_drew)); exact HO168.out) (Kd.R_base ho95) hb); have n3_ := Ax (Kd.R_below (by (with_reducible repeat (first | apply Kd.R_alloc | apply Kd.R_drewN | apply Kd.R_drew)); exact HO172.out) hb); have n4_ := Ax (Kd.R_below (by (with_reducible repeat (first | apply Kd.R_alloc | apply Kd.R_drewN | apply Kd.R_drew)); exact HO176.out) hb); have n5_ := Ax (Kd.R_below (by (with_reducible repeat (first | apply Kd.R_alloc | apply Kd.R_drewN | apply Kd.R_drew)); exact HO179.out) hb); have n6_ := Ax (Kd.R_elder' (by (with_reducible repeat (first | apply Kd.R_alloc | apply Kd.R_drewN | apply Kd.R_drew)); exact HO183.out) (Kd.R_base ho95) hb); have n7_ := Ax (Kd.R_below (by (with_reducible repeat (first | apply Kd.R_alloc | apply Kd.R_drewN | apply Kd.R_drew)); exact HO191.out) hb); have n8_ := Ax (Kd.R_below (by (with_reducible repeat (first | apply Kd.R_alloc | apply Kd.R_drewN | apply Kd.R_drew)); exact HO194.out) hb); have n9_ := Ax (Kd.R_below (by (with_reducible repeat (first | apply Kd.R_alloc | apply Kd.R_drewN | apply Kd.R_drew)); exact HO198.out) hb); have n10_ := Ax (Kd.R_elder' (by (with_reducible repeat (first | apply Kd.R_alloc | apply Kd.R_drewN | apply Kd.R_drew)); exact HO202.out) (Kd.R_base ho95) hb); have n11_ := Ax (Kd.R_below (by (with_reducible repeat (first | apply Kd.R_alloc | apply Kd.R_drewN | apply Kd.R_drew)); exact HO206.out) hb); have n12_ := Ax (Kd.R_lower (Kd.R_newB (Kd.R_new' (Kd.R_new' (Kd.R_new' ho95 (Kd.R_lt (by (with_reducible repeat (first | apply Kd.R_alloc | apply Kd.R_drewN | apply Kd.R_drew)); exact HO168.out))) (Kd.R_lt (by (with_reducible repeat (first | apply Kd.R_alloc | apply Kd.R_drewN | apply Kd.R_drew)); exact HO183.out))) (Kd.R_lt (by (with_reducible repeat (first | apply Kd.R_alloc | apply Kd.R_drewN | apply Kd.R_drew)); exact HO202.out))) (g := gb152) (o := .cells #[.int .i64 0, .int .i64 9] 23 (0, 0)) (bf0 BK152.out)) (below_size (bw5 HB.out GE152.out GE153.out GE154.out GE165.out GE188.out))); have n13_ := Bx0 BK152 hb; have n14_ := Bx0 BK153 hb; have n15_ := Bx0 BK154 hb; have n16_ := Bx0 BK165 hb; have n17_ := Bx0 BK188 hb; have n18_ := Bs5 HB hb GE152.out GE153.out GE154.out GE165.out GE188.out; clear HO157; clear HO160; clear HO168; clear HO172; clear HO176; clear HO179; clear HO183; clear HO191; clear HO194; clear HO198; clear HO202; clear HO206; clear BK152; clear BK153; clear BK154; clear BK165; clear BK188; clear HB; have HO157 := n0_; have HO160 := n1_; have HO168 := n2_; have HO172 := n3_; have HO176 := n4_; have HO179 := n5_; have HO183 := n6_; have HO191 := n7_; have HO194 := n8_; have HO198 := n9_; have HO202 := n10_; have HO206 := n11_; have HO210 := n12_; have BK152 := n13_; have BK153 := n14_; have BK154 := n15_; have BK165 := n16_; have BK188 := n17_; have HB := n18_; clear n0_ n1_ n2_ n3_ n4_ n5_ n6_ n7_ n8_ n9_ n10_ n11_ n12_ n13_ n14_ n15_ n16_ n17_ n18_; clear hb ho95; obtain ⟨Ao96, co96, eo96⟩ := Kd.R_slice HO183.out; subst eo96; obtain ⟨Ao97, co97, eo97⟩ := Kd.R_slice HO210.out; subst eo97) | (go_at_call 22; (with_reducible refine (spoorref19_Same.calls k _ _ t181 _ _ y208 true _ ?side1 ?side2 ?side3 ?side4 A21.out).mono ?_); (case side1 => repeat (first | exact (Kd.R_reads' HO183.out).2.2 | (with_reducible refine Kd.C_alloc ?_ _) | (with_reducible refine Kd.C_drewN ?_ _) | (with_reducible refine Kd.C_drew ?_))); (case side2 => exact (Kd.R_reads' HO183.out).2.1); (case side3 => repeat (first | exact (Kd.R_reads' HO210.out).2.2 | (with_reducible refine Kd.C_alloc ?_ _) | (with_reducible refine Kd.C_drewN ?_ _) | (with_reducible refine Kd.C_drew ?_))); (case side4 => exact (Kd.R_reads' HO210.out).2.1); rintro e w' ⟨rfl, ⟨nd, rfl⟩⟩; obtain ⟨hcz98_0, hcz98_1, hfz98_0, hfz98_1⟩ := cl2 BK152) | (go_at_call 12; (with_reducible refine (line_Check.calls k 0 9 _ _ t158 t212 _ ?side1 ?side2 A26.out).mono ?_); (case side1 => repeat (first | exact (Kd.R_reads' HO160.out).2.2 | (with_reducible refine Kd.C_alloc ?_ _) | (with_reducible refine Kd.C_drewN ?_ _) | (with_reducible refine Kd.C_drew ?_))); (case side2 => exact (Kd.R_reads' HO160.out).2.1); rintro e w99 ⟨rfl, hb⟩; have n0_ := Ax (Kd.R_below (by (with_reducible repeat (first | apply Kd.R_alloc | apply Kd.R_drewN | apply Kd.R_drew)); exact HO157.out) hb); have n1_ := Ax (Kd.R_below (by (with_reducible repeat (first | apply Kd.R_alloc | apply Kd.R_drewN | apply Kd.R_drew)); exact HO160.out) hb); have n2_ := Ax (Kd.R_below (by (with_reducible repeat (first | apply Kd.R_alloc | apply Kd.R_drewN | apply Kd.R_drew)); exact HO168.out) hb); have n3_ := Ax (Kd.R_below (by (with_reducible repeat (first | apply Kd.R_alloc | apply Kd.R_drewN | apply Kd.R_drew)); exact HO172.out) hb); have n4_ := Ax (Kd.R_below (by (with_reducible repeat (first | apply Kd.R_alloc | apply Kd.R_drewN | apply Kd.R_drew)); exact HO176.out) hb); have n5_ := Ax (Kd.R_below (by (with_reducible repeat (first | apply Kd.R_alloc | apply Kd.R_drewN | apply Kd.R_drew)); exact HO179.out) hb); have n6_ := Ax (Kd.R_below (by (with_reducible repeat (first | apply Kd.R_alloc | apply Kd.R_drewN | apply Kd.R_drew)); exact HO183.out) hb); have n7_ := Ax (Kd.R_below (by (with_reducible repeat (first | apply Kd.R_alloc | apply Kd.R_drewN | apply Kd.R_drew)); exact HO191.out) hb); have n8_ := Ax (Kd.R_below (by (with_reducible repeat (first | apply Kd.R_alloc | apply Kd.R_drewN | apply Kd.R_drew)); exact HO194.out) hb); have n9_ := Ax (Kd.R_below (by (with_reducible repeat (first | apply Kd.R_alloc | apply Kd.R_drewN | apply Kd.R_drew)); exact HO198.out) hb); have n10_ := Ax (Kd.R_below (by (with_reducible repeat (first | apply Kd.R_alloc | apply Kd.R_drewN | apply Kd.R_drew)); exact HO202.out) hb); have n11_ := Ax (Kd.R_below (by (with_reducible repeat (first | apply Kd.R_alloc | apply Kd.R_drewN | apply Kd.R_drew)); exact HO206.out) hb); have n12_ := Ax (Kd.R_below (by (with_reducible repeat (first | apply Kd.R_alloc | apply Kd.R_drewN | apply Kd.R_drew)); exact HO210.out) hb); have n13_ := Bx0 BK152 hb; have n14_ := Bx0 BK153 hb; have n15_ := Bx0 BK154 hb; have n16_ := Bx0 BK165 hb; have n17_ := Bx0 BK188 hb; have n18_ := Bs5 HB hb GE152.out GE153.out GE154.out GE165.out GE188.out; clear HO157; clear HO160; clear HO168; clear HO172; clear HO176; clear HO179; clear HO183; clear HO191; clear HO194; clear HO198; clear HO202; clear HO206; clear HO210; clear BK152; clear BK153; clear BK154; clear BK165; clear BK188; clear HB; have HO157 := n0_; have HO160 := n1_; have HO168 := n2_; have HO172 := n3_; have HO176 := n4_; have HO179 := n5_; have HO183 := n6_; have HO191 := n7_; have HO194 := n8_; have HO198 := n9_; have HO202 := n10_; have HO206 := n11_; have HO210 := n12_; have BK152 := n13_; have BK153 := n14_; have BK154 := n15_; have BK165 := n16_; have BK188 := n17_; have HB := n18_; clear n0_ n1_ n2_ n3_ n4_ n5_ n6_ n7_ n8_ n9_ n10_ n11_ n12_ n13_ n14_ n15_ n16_ n17_ n18_; (try clear hb)))
              go_ret
              exact ⟨eS, bw5 HB.out GE152.out GE153.out GE154.out GE165.out GE188.out⟩
             ·rw [if_neg c25] at H
              exact absurd H (by simp)
            ·rw [if_neg c24] at H
             exact absurd H (by simp)
           ·rw [if_neg c23] at H
            exact absurd H (by simp)
          ·replace c22 := Bool.eq_false_iff.mpr c22
           subst c22
           have H1 : (none) = some r := by rw [if_neg (show ¬ (false = true) by decide)] at H; exact H
           clear H
           have H := H1
           clear H1
           exact absurd H (by simp)
         ·rw [if_neg c20] at H
          exact absurd H (by simp)
        ·rw [if_neg c19] at H
         exact absurd H (by simp)
       ·replace c18 := Bool.eq_false_iff.mpr c18
        subst c18
        have H1 : (none) = some r := by rw [if_neg (show ¬ (false = true) by decide)] at H; exact H
        clear H
        have H := H1
        clear H1
        exact absurd H (by simp)
      ·rw [if_neg c16] at H
       exact absurd H (by simp)
     ·replace c15 := Bool.eq_false_iff.mpr c15
      subst c15
      have H1 : (none) = some r := by rw [if_neg (show ¬ (false = true) by decide)] at H; exact H
      clear H
      have H := H1
      clear H1
      exact absurd H (by simp)
    ·rw [if_neg c13] at H
     exact absurd H (by simp)
   ·rw [if_neg c12] at H
    exact absurd H (by simp)
  ·rw [if_neg c11] at H
   exact absurd H (by simp)
 ·replace c10 := Bool.eq_false_iff.mpr c10
  subst c10
  have H1 : (none) = some r := by rw [if_neg (show ¬ (false = true) by decide)] at H; exact H
  clear H
  have H := H1
  clear H1
  exact absurd H (by simp)
def ivl_Long.l0 : Nat → Int → List (S23) → Int → Int → Option (Int × Int)
 | 0, _, _, _, _ => none
 | k + 1, x5, x13, x14, x15 => if x15 < x14 then (if 0 ≤ x15 then (if x15 < (x13.length : Int) then (ivl_Long.l0 k (wrap64 (x5 + (wrap64 ((wrap64 (((rd_T23 x13 x15).f1) - ((rd_T23 x13 x15).f0))) + 1)))) x13 x14 (wrap64 (x15 + 1))) else (none)) else (none)) else (some (x5, 0))
def ivl_Long.f (k : Nat) (l0 : List (S23)) : Option (Int × Int) := (ivl_Check.f k l0).bind fun t213 => (if t213 = 0 then (ivl_Long.l0 k 0 l0 (l0.length : Int) 0) else (some (0, t213)))
set_option maxHeartbeats 8000000 in
set_option maxRecDepth 100000 in
theorem ivl_Long.calls (k : Nat) (A0 : Option Addr) (c0 : Nat) (l0 : List (S23)) (r1 : Int) (r2 : Int) (w : World) (hr0 : Kd.C k23 w A0 l0.length l0) (hc0 : l0.length ≤ c0) (h : ivl_Long.f k l0 = some (r1, r2)) :
  Calls Try.prog 24 #[.slice A0 l0.length c0] w fun e w' => e = .returned (.tuple #[.int .i64 r1, .int .i64 r2]) ∧ Below w.heap.size w w' := by
 have hu23 := Try.underlying23
 have HR0 := Ax hr0
 have HC0 := Ax hc0
 clear hr0 hc0
 have HB := Ax (Below.refl w.heap.size w)
 have H : ((ivl_Check.f k l0).bind fun t213 => (if t213 = 0 then (ivl_Long.l0 k 0 l0 (l0.length : Int) 0) else (some (0, t213)))) = some (r1, r2) := h
 clear h
 replace H := Option.bind_eq_some_iff.mp H
 obtain ⟨t213, A20, H⟩ := H
 replace H : (if t213 = 0 then (ivl_Long.l0 k 0 l0 (l0.length : Int) 0) else (some (0, t213))) = some (r1, r2) := H
 have A2 := Ax A20
 clear A20
 by_cases c3 : t213 = 0
 ·rw [if_pos c3] at H
  have c3b0 : (t213 == 0) = true := beq_iff_eq.mpr c3
  have c3b1 : (t213 != 0) = false := bne_eq_false_iff_eq.mpr c3
  clear c3
  have H' := Ax H
  clear H
  go_enter Try.func24, Try.ntmps24
  go_wp2_with (first | ((with_reducible refine gate_callee (f := 39) rfl ?_); refine goesL_ (some 9) rfl rfl Try.func39 (by kernel_rfl) rfl #[.slice A0 l0.length c0] rfl gS ?_; (with_reducible refine (ivl_Check.calls k _ _ l0 t213 _ ?side1 ?side2 A2.out).mono ?_); (case side1 => repeat (first | exact HR0.out | (with_reducible refine Kd.C_alloc ?_ _) | (with_reducible refine Kd.C_drewN ?_ _) | (with_reducible refine Kd.C_drew ?_))); (case side2 => exact HC0.out); rintro e w4 ⟨rfl, hb⟩; refine ⟨_, rfl, ?_⟩; replace HB := Bs0 HB hb; (try clear hb)))
  go_loopg [5, 15] k (fun kq v5 v15 w' => ∃ (x5_1 : Int) (x15_1 : Int), v5 = .int .i64 x5_1 ∧ v15 = .int .i64 x15_1 ∧ Aside0 (ivl_Long.l0 kq x5_1 l0 (l0.length : Int) x15_1 = some (r1, r2)) ∧ Aside0 (kq ≤ k) ∧ Aside0 (Below w.heap.size w w'))
  case atStart => exact ⟨(0), (0), rS, rS, H', ⟨Nat.le_refl _⟩, ⟨bw0 HB.out⟩⟩
  case round =>
   clear H'
   try clear c2
   try clear p2
   try clear c3
   try clear c3b0
   try clear c3b1
   obtain ⟨x5_1, x15_1, rfl, rfl, HA, HK1, HB⟩ := hrel
   cases gk with
   | zero => exact absurd HA.out (by simp [ivl_Long.l0])
   | succ k1 =>
    have H := HA.out
    clear HA
    simp only [ivl_Long.l0] at H
    by_cases c5 : x15_1 < (l0.length : Int)
    ·rw [if_pos c5] at H
     have c5b0 : decide (x15_1 < (l0.length : Int)) = true := decide_eq_true c5
     clear c5
     by_cases c6 : 0 ≤ x15_1
     ·rw [if_pos c6] at H
      have c6b0 : decide (0 ≤ x15_1) = true := decide_eq_true c6
      clear c6
      by_cases c7 : x15_1 < (l0.length : Int)
      ·rw [if_pos c7] at H
       have c7b0 : decide (x15_1 < (l0.length : Int)) = true := decide_eq_true c7
       clear c7
       have H' := Ax H
       clear H
       have p214 : 0 ≤ (x15_1 : Int) := of_decide_eq_true (by first | (with_reducible assumption) | assumption)
       have q214 : x15_1 < (l0.length : Int) := of_decide_eq_true (by first | (with_reducible assumption) | assumption)
       obtain ⟨ad214, e214, hx214_0, hx214_1⟩ := at_T23 HR0.out x15_1 p214 q214
       cases e214
       replace hx214_0 := (HB.out.cell (World.block_lt_of_cell? w _ hx214_0)).trans hx214_0
       replace hx214_1 := (HB.out.cell (World.block_lt_of_cell? w _ hx214_1)).trans hx214_1
       replace p214 := eq_true p214
       replace q214 := eq_true q214
       go_wp2_with (first | ((with_reducible refine gate_dst (N := 7) rfl ?_); refine box_event ?hg (N := 7) ?hd (cs := #[.int .i64 0, .int .i64 0]) (t := 23) ?hr ?_; (case hd => rfl); (case hg => rfl); (case hr => first | (go_simp; done) | (go_simp; rfl)); intro gb215 hg w8 hbox hb; have n0_ := Bs0 HB hb; have n1_ := Ax (hbox); have n2_ := Gw0 HB hg; have n3_ := Gw0 HB hg; clear HB; have HB := n0_; have BK215 := n1_; have GW215 := n2_; have GE215 := n3_; clear n0_ n1_ n2_ n3_; clear hb hbox hg; obtain ⟨hcz9_0, hcz9_1, hfz9_0, hfz9_1⟩ := cl2 BK215))
       go_roundg k1
       case measure => have := HK1.out; omega
       case rel => exact ⟨(wrap64 (x5_1 + (wrap64 ((wrap64 (((rd_T23 l0 x15_1).f1) - ((rd_T23 l0 x15_1).f0))) + 1)))), (wrap64 (x15_1 + 1)), rS, rS, H', ⟨by have := HK1.out; omega⟩, ⟨bw1 HB.out GE215.out⟩⟩
      ·rw [if_neg c7] at H
       exact absurd H (by simp)
     ·rw [if_neg c6] at H
      exact absurd H (by simp)
    ·rw [if_neg c5] at H
     have c5b0 : decide (x15_1 < (l0.length : Int)) = false := decide_eq_false c5
     clear c5
     simp only [Option.some.injEq, Prod.mk.injEq] at H
     obtain ⟨rfl, rfl⟩ := H
     go_wp2
     go_ret2
     exact ⟨eS, bw0 HB.out⟩
 ·rw [if_neg c3] at H
  have c3b0 : (t213 == 0) = false := beq_eq_false_iff_ne.mpr c3
  have c3b1 : (t213 != 0) = true := bne_iff_ne.mpr c3
  simp only [Option.some.injEq, Prod.mk.injEq] at H
  obtain ⟨rfl, rfl⟩ := H
  go_enter Try.func24, Try.ntmps24
  go_wp2_with (first | ((with_reducible refine gate_callee (f := 39) rfl ?_); refine goesL_ (some 9) rfl rfl Try.func39 (by kernel_rfl) rfl #[.slice A0 l0.length c0] rfl gS ?_; (with_reducible refine (ivl_Check.calls k _ _ l0 t213 _ ?side1 ?side2 A2.out).mono ?_); (case side1 => repeat (first | exact HR0.out | (with_reducible refine Kd.C_alloc ?_ _) | (with_reducible refine Kd.C_drewN ?_ _) | (with_reducible refine Kd.C_drew ?_))); (case side2 => exact HC0.out); rintro e w10 ⟨rfl, hb⟩; refine ⟨_, rfl, ?_⟩; replace HB := Bs0 HB hb; (try clear hb)))
  go_ret2
  exact ⟨eS, bw0 HB.out⟩
def ivl_rows.l0 : Nat → List (List (S23)) → Int → Int → Option (Int)
 | 0, _, _, _ => none
 | k + 1, x6, x7, x8 => if x8 < x7 then (if 0 ≤ x8 then (if x8 < (x6.length : Int) then ((ivl_Check.f k (rd_L10 x6 x8)).bind fun t217 => (if t217 = 0 then (ivl_rows.l0 k x6 x7 (wrap64 (x8 + 1))) else (some t217))) else (none)) else (none)) else (some 0)
def ivl_rows.f (k : Nat) (l0 : List (List (S23))) : Option (Int) := ivl_rows.l0 k l0 (l0.length : Int) 0
set_option maxHeartbeats 8000000 in
set_option maxRecDepth 100000 in
theorem ivl_rows.calls (k : Nat) (A0 : Option Addr) (c0 : Nat) (l0 : List (List (S23))) (r : Int) (w : World) (hr0 : Kd.C (Kd.slice 23 k23) w A0 l0.length l0) (hc0 : l0.length ≤ c0) (h : ivl_rows.f k l0 = some r) :
  Calls Try.prog 42 #[.slice A0 l0.length c0] w fun e w' => e = .returned (.int .i64 r) ∧ Below w.heap.size w w' := by
 have HR0 := Ax hr0
 have HC0 := Ax hc0
 clear hr0 hc0
 have HB := Ax (Below.refl w.heap.size w)
 have H : (ivl_rows.l0 k l0 (l0.length : Int) 0) = some r := h
 clear h
 have H' := Ax H
 clear H
 go_enter Try.func42, Try.ntmps42
 go_wp2
 go_loopg [8] k (fun kq v8 w' => ∃ (x8_1 : Int), v8 = .int .i64 x8_1 ∧ Aside0 (ivl_rows.l0 kq l0 (l0.length : Int) x8_1 = some r) ∧ Aside0 (kq ≤ k) ∧ Aside0 (Below w.heap.size w w'))
 case atStart => exact ⟨(0), rS, H', ⟨Nat.le_refl _⟩, ⟨bw0 HB.out⟩⟩
 case round =>
  clear H'
  obtain ⟨x8_1, rfl, HA, HK1, HB⟩ := hrel
  cases gk with
  | zero => exact absurd HA.out (by simp [ivl_rows.l0])
  | succ k1 =>
   have H := HA.out
   clear HA
   simp only [ivl_rows.l0] at H
   by_cases c2 : x8_1 < (l0.length : Int)
   ·rw [if_pos c2] at H
    have c2b0 : decide (x8_1 < (l0.length : Int)) = true := decide_eq_true c2
    clear c2
    by_cases c3 : 0 ≤ x8_1
    ·rw [if_pos c3] at H
     have c3b0 : decide (0 ≤ x8_1) = true := decide_eq_true c3
     clear c3
     by_cases c4 : x8_1 < (l0.length : Int)
     ·rw [if_pos c4] at H
      have c4b0 : decide (x8_1 < (l0.length : Int)) = true := decide_eq_true c4
      clear c4
      replace H := Option.bind_eq_some_iff.mp H
      obtain ⟨t217, A50, H⟩ := H
      replace H : (if t217 = 0 then (ivl_rows.l0 k1 l0 (l0.length : Int) (wrap64 (x8_1 + 1))) else (some t217)) = some r := H
      have A5 := Ax A50
      clear A50
      by_cases c6 : t217 = 0
      ·rw [if_pos c6] at H
       have c6b0 : (t217 == 0) = true := beq_iff_eq.mpr c6
       have c6b1 : (t217 != 0) = false := bne_eq_false_iff_eq.mpr c6
       clear c6
       have H' := Ax H
       clear H
       have p216 : 0 ≤ (x8_1 : Int) := of_decide_eq_true (by first | (with_reducible assumption) | assumption)
       have q216 : x8_1 < (l0.length : Int) := of_decide_eq_true (by first | (with_reducible assumption) | assumption)
       obtain ⟨ad216, A216_0, c216_0, e216, hx216_0, hl216_0, hi216_0⟩ := at_L10 HR0.out x8_1 p216 q216
       cases e216
       replace hx216_0 := (HB.out.cell (World.block_lt_of_cell? w _ hx216_0)).trans hx216_0
       have HR216_0 := Ax hi216_0
       have HC216_0 := Ax hl216_0
       clear hi216_0 hl216_0
       replace p216 := eq_true p216
       replace q216 := eq_true q216
       go_wp2_with (first | ((with_reducible refine gate_callee (f := 39) rfl ?_); refine goesL_ (some 13) rfl rfl Try.func39 (by kernel_rfl) rfl #[.slice A216_0 (rd_L10 l0 x8_1).length c216_0] rfl gS ?_; (with_reducible refine (ivl_Check.calls k1 _ _ (rd_L10 l0 x8_1) t217 _ ?side1 ?side2 A5.out).mono ?_); (case side1 => repeat (first | exact (Kd.C_below HR216_0.out HB.out) | (with_reducible refine Kd.C_alloc ?_ _) | (with_reducible refine Kd.C_drewN ?_ _) | (with_reducible refine Kd.C_drew ?_))); (case side2 => exact HC216_0.out); rintro e w7 ⟨rfl, hb⟩; refine ⟨_, rfl, ?_⟩; replace HB := Bs0 HB hb; (try clear hb)))
       go_roundg k1
       case measure => have := HK1.out; omega
       case rel => exact ⟨(wrap64 (x8_1 + 1)), rS, H', ⟨by have := HK1.out; omega⟩, ⟨bw0 HB.out⟩⟩
      ·rw [if_neg c6] at H
       have c6b0 : (t217 == 0) = false := beq_eq_false_iff_ne.mpr c6
       have c6b1 : (t217 != 0) = true := bne_iff_ne.mpr c6
       obtain rfl := Option.some.inj H
       have p216 : 0 ≤ (x8_1 : Int) := of_decide_eq_true (by first | (with_reducible assumption) | assumption)
       have q216 : x8_1 < (l0.length : Int) := of_decide_eq_true (by first | (with_reducible assumption) | assumption)
       obtain ⟨ad216, A216_0, c216_0, e216, hx216_0, hl216_0, hi216_0⟩ := at_L10 HR0.out x8_1 p216 q216
       cases e216
       replace hx216_0 := (HB.out.cell (World.block_lt_of_cell? w _ hx216_0)).trans hx216_0
       have HR216_0 := Ax hi216_0
       have HC216_0 := Ax hl216_0
       clear hi216_0 hl216_0
       replace p216 := eq_true p216
       replace q216 := eq_true q216
       go_wp2_with (first | ((with_reducible refine gate_callee (f := 39) rfl ?_); refine goesL_ (some 13) rfl rfl Try.func39 (by kernel_rfl) rfl #[.slice A216_0 (rd_L10 l0 x8_1).length c216_0] rfl gS ?_; (with_reducible refine (ivl_Check.calls k1 _ _ (rd_L10 l0 x8_1) t217 _ ?side1 ?side2 A5.out).mono ?_); (case side1 => repeat (first | exact (Kd.C_below HR216_0.out HB.out) | (with_reducible refine Kd.C_alloc ?_ _) | (with_reducible refine Kd.C_drewN ?_ _) | (with_reducible refine Kd.C_drew ?_))); (case side2 => exact HC216_0.out); rintro e w8 ⟨rfl, hb⟩; refine ⟨_, rfl, ?_⟩; replace HB := Bs0 HB hb; (try clear hb)))
       go_ret
       exact ⟨eS, bw0 HB.out⟩
     ·rw [if_neg c4] at H
      exact absurd H (by simp)
    ·rw [if_neg c3] at H
     exact absurd H (by simp)
   ·rw [if_neg c2] at H
    have c2b0 : decide (x8_1 < (l0.length : Int)) = false := decide_eq_false c2
    clear c2
    obtain rfl := Option.some.inj H
    go_wp2
    go_ret
    exact ⟨eS, bw0 HB.out⟩
def ivl_told.l0 : Nat → List (S23) → List (S102) → Int → Int → Option ((List (S23)) × Int)
 | 0, _, _, _, _ => none
 | k + 1, x4, x10, x11, x12 => if x12 < x11 then (if 0 ≤ x12 then (if x12 < (x10.length : Int) then (if x4.length < 8796093022208 then (ivl_told.l0 k (x4 ++ [(⟨(rd_T102 x10 x12).f0, (rd_T102 x10 x12).f1⟩ : S23)]) x10 x11 (wrap64 (x12 + 1))) else (none)) else (none)) else (none)) else (some (x4, 0))
def ivl_told.f (k : Nat) (l0 : List (S102)) : Option ((List (S23)) × Int) := if (l0.length : Int) > 1024 then (some (([] : List (S23)), 11)) else (ivl_told.l0 k ([] : List (S23)) l0 (l0.length : Int) 0)
set_option maxHeartbeats 8000000 in
set_option maxRecDepth 100000 in
theorem ivl_told.calls (k : Nat) (A0 : Option Addr) (c0 : Nat) (l0 : List (S102)) (r1 : List (S23)) (r2 : Int) (w : World) (hr0 : Kd.C k102 w A0 l0.length l0) (hc0 : l0.length ≤ c0) (h : ivl_told.f k l0 = some (r1, r2)) :
  Calls Try.prog 43 #[.slice A0 l0.length c0] w fun e w' => ∃ v0_ : Value, e = .returned (.tuple #[v0_, .int .i64 r2]) ∧ Kd.R k23 23 w' w.heap.size (fun _ => True) v0_ r1 ∧ Below w.heap.size w w' := by
 have hu102 := Try.underlying102
 have HR0 := Ax hr0
 have HC0 := Ax hc0
 clear hr0 hc0
 have HB := Ax (Below.refl w.heap.size w)
 have H : (if (l0.length : Int) > 1024 then (some (([] : List (S23)), 11)) else (ivl_told.l0 k ([] : List (S23)) l0 (l0.length : Int) 0)) = some (r1, r2) := h
 clear h
 by_cases c2 : (l0.length : Int) > 1024
 ·rw [if_pos c2] at H
  have c2b0 : decide (1024 < (l0.length : Int)) = true := decide_eq_true c2
  have c2b1 : decide (1024 < l0.length) = true := decide_eq_true (by omega)
  clear c2
  simp only [Option.some.injEq, Prod.mk.injEq] at H
  obtain ⟨rfl, rfl⟩ := H
  go_enter Try.func43, Try.ntmps43
  go_wp2
  go_ret2
  exact ⟨_, eS, by first | exact Kd.R_nil _ _ _ _ _ | exact Kd.N_nil _ _ _ _ _ | exact Kd.V_nil _ _ _ _ _ | exact Kd.Q_nil _ _ _ _ _ | exact Kd.S_nil _ _ _ _ _, bw0 HB.out⟩
 ·rw [if_neg c2] at H
  have c2b0 : decide (1024 < (l0.length : Int)) = false := decide_eq_false c2
  have c2b1 : decide (1024 < l0.length) = false := decide_eq_false (by omega)
  clear c2
  have H' := Ax H
  clear H
  go_enter Try.func43, Try.ntmps43
  go_wp2
  go_loopg [4, 12] k (fun kq v4 v12 w' => ∃ (x4_1 : List (S23)) (x12_1 : Int), v12 = .int .i64 x12_1 ∧ Aside0 (ivl_told.l0 kq x4_1 l0 (l0.length : Int) x12_1 = some (r1, r2)) ∧ Aside0 (kq ≤ k) ∧ Aside0 (Kd.R k23 23 w' w.heap.size (fun _ => True) v4 x4_1) ∧ Aside0 (Below w.heap.size w w'))
  case atStart => exact ⟨(([] : List (S23))), (0), rS, H', ⟨Nat.le_refl _⟩, ⟨by first | exact Kd.R_nil _ _ _ _ _ | exact Kd.N_nil _ _ _ _ _ | exact Kd.V_nil _ _ _ _ _ | exact Kd.Q_nil _ _ _ _ _ | exact Kd.S_nil _ _ _ _ _⟩, ⟨bw0 HB.out⟩⟩
  case round =>
   clear H'
   try clear c2
   try clear c2b0
   try clear c2b1
   try clear p2
   obtain ⟨x4_1, x12_1, rfl, HA, HK1, HO_4, HB⟩ := hrel
   cases gk with
   | zero => exact absurd HA.out (by simp [ivl_told.l0])
   | succ k1 =>
    have H := HA.out
    clear HA
    simp only [ivl_told.l0] at H
    by_cases c3 : x12_1 < (l0.length : Int)
    ·rw [if_pos c3] at H
     have c3b0 : decide (x12_1 < (l0.length : Int)) = true := decide_eq_true c3
     clear c3
     by_cases c4 : 0 ≤ x12_1
     ·rw [if_pos c4] at H
      have c4b0 : decide (0 ≤ x12_1) = true := decide_eq_true c4
      clear c4
      by_cases c5 : x12_1 < (l0.length : Int)
      ·rw [if_pos c5] at H
       have c5b0 : decide (x12_1 < (l0.length : Int)) = true := decide_eq_true c5
       clear c5
       by_cases c6 : x4_1.length < 8796093022208
       ·rw [if_pos c6] at H
        have LMc6 := Ax c6
        clear c6
        obtain ⟨y220, hy220⟩ : ∃ y_ : List (S23), y_ = (x4_1 ++ [(⟨(rd_T102 l0 x12_1).f0, (rd_T102 l0 x12_1).f1⟩ : S23)]) := ⟨_, rfl⟩
        replace H : (ivl_told.l0 k1 y220 l0 (l0.length : Int) (wrap64 (x12_1 + 1))) = some (r1, r2) := by first | (rw [hy220]; with_reducible exact H) | (have H2_ := (Option.bind_some _ _).symm.trans H; rw [hy220]; with_reducible exact H2_) | (have H2_ := (Option.bind_some _ _).symm.trans H; with_reducible exact H2_) | with_reducible exact H | (rw [hy220]; exact H) | exact H
        have Ny220 := Ax hy220
        clear hy220
        have H' := Ax H
        clear H
        have p218 : 0 ≤ (x12_1 : Int) := of_decide_eq_true (by first | (with_reducible assumption) | assumption)
        have q218 : x12_1 < (l0.length : Int) := of_decide_eq_true (by first | (with_reducible assumption) | assumption)
        obtain ⟨ad218, e218, hx218_0, hx218_1⟩ := at_T102 HR0.out x12_1 p218 q218
        cases e218
        replace hx218_0 := (HB.out.cell (World.block_lt_of_cell? w _ hx218_0)).trans hx218_0
        replace hx218_1 := (HB.out.cell (World.block_lt_of_cell? w _ hx218_1)).trans hx218_1
        replace p218 := eq_true p218
        replace q218 := eq_true q218
        go_wp2_with (first | ((with_reducible refine gate_dst (N := 6) rfl ?_); refine box_event ?hg (N := 6) ?hd (cs := #[.int .i64 0, .int .i64 0]) (t := 102) ?hr ?_; (case hd => rfl); (case hg => rfl); (case hr => first | (go_simp; done) | (go_simp; rfl)); intro gb219 hg w7 hbox hb; have n0_ := Ax (Kd.R_below (by (with_reducible repeat (first | apply Kd.R_alloc | apply Kd.R_drewN | apply Kd.R_drew)); exact HO_4.out) hb); have n1_ := Bs0 HB hb; have n2_ := Ax (hbox); have n3_ := Gw0 HB hg; have n4_ := Gw0 HB hg; clear HO_4; clear HB; have HO_4 := n0_; have HB := n1_; have BK219 := n2_; have GW219 := n3_; have GE219 := n4_; clear n0_ n1_ n2_ n3_ n4_; clear hb hbox hg; obtain ⟨hcz8_0, hcz8_1, hfz8_0, hfz8_1⟩ := cl2 BK219) | ((with_reducible refine gate_builtin (b := .append) (xs := #[.tmp 16, .tmp 18]) rfl ?_); at_builtin; refine Kd.R_append k23 (w0 := w) w.heap.size rfl (.tmp 16) (.tmp 18) 38 23 (.agg #[(.int .i64 0), (.int .i64 0)]) 16 rfl Try.underlying38 info23 rfl (by decide) (by omega) u4 x4_1 (⟨(rd_T102 l0 x12_1).f0, (rd_T102 l0 x12_1).f1⟩ : S23) [.int .i64 ((rd_T102 l0 x12_1).f0), .int .i64 ((rd_T102 l0 x12_1).f1)] (fun _ => True) (fun _ => False) rfl (by first | (go_simp; done) | (go_simp; rfl)) ?aP (fun _ hk => hk.elim) ?aF ?aO ?aB ?aS ?aL ?_; (case aP => exact k23_mkM _ _ _ (⟨(rd_T102 l0 x12_1).f0, (rd_T102 l0 x12_1).f1⟩ : S23)); (case aB => exact (bw1 HB.out GE219.out)); (case aF => exact (fun _ _ => trivial)); (case aO => exact (by (with_reducible repeat (first | apply Kd.R_alloc | apply Kd.R_drewN | apply Kd.R_drew)); exact Kd.R_mono (Kd.R_far (p := ⟨gb219, 1, none⟩) (Kd.R_far (p := ⟨gb219, 0, none⟩) (Kd.R_types HO_4.out BK219.out (by decide)) (fun _ hk => hk.2) (.int .i64 ((rd_T102 l0 x12_1).f0))) (fun _ hk => hk.2) (.int .i64 ((rd_T102 l0 x12_1).f1))) (fun _ hk => trivial))); (case aS => exact (below_size (bw1 HB.out GE219.out))); (case aL => have := LMc6.out; omega); intro v221 w9 ho hb hg hat; rw [← Ny220.out] at ho; have n0_ := Ax (blk_grown (g := gb219) (o := .cells #[.int .i64 ((rd_T102 l0 x12_1).f0), .int .i64 ((rd_T102 l0 x12_1).f1)] 102 (0, 0)) (by (with_reducible repeat (first | refine blk_drewN ?_ _ | refine blk_drew ?_ | refine blk_alloc ?_ _)); refine blk_put (cs := #[.int .i64 ((rd_T102 l0 x12_1).f0), .int .i64 0]) ?_ 1 _ rfl; (with_reducible repeat (first | refine blk_drewN ?_ _ | refine blk_drew ?_ | refine blk_alloc ?_ _)); refine blk_put (cs := #[.int .i64 0, .int .i64 0]) ?_ 0 _ rfl; (with_reducible repeat (first | refine blk_drewN ?_ _ | refine blk_drew ?_ | refine blk_alloc ?_ _)); exact BK219.out) hg (Kd.R_ne HO_4.out BK219.out (by decide))); have n1_ := Ax (hb); have n2_ := Ax (ho); clear BK219; clear HB; clear HO_4; have BK219 := n0_; have HB := n1_; have HO222 := n2_; clear n0_ n1_ n2_; clear ho hb hg hat))
        go_roundg k1
        case measure => have := HK1.out; omega
        case rel => exact ⟨(y220), (wrap64 (x12_1 + 1)), rS, H', ⟨by have := HK1.out; omega⟩, ⟨by (with_reducible repeat (first | apply Kd.R_alloc | apply Kd.R_drewN | apply Kd.R_drew)); exact HO222.out⟩, ⟨bw1 HB.out GE219.out⟩⟩
       ·rw [if_neg c6] at H
        exact absurd H (by simp)
      ·rw [if_neg c5] at H
       exact absurd H (by simp)
     ·rw [if_neg c4] at H
      exact absurd H (by simp)
    ·rw [if_neg c3] at H
     have c3b0 : decide (x12_1 < (l0.length : Int)) = false := decide_eq_false c3
     clear c3
     simp only [Option.some.injEq, Prod.mk.injEq] at H
     obtain ⟨rfl, rfl⟩ := H
     go_wp2
     go_ret2
     exact ⟨_, eS, by (with_reducible repeat (first | apply Kd.R_alloc | apply Kd.R_drewN | apply Kd.R_drew)); exact HO_4.out, bw0 HB.out⟩
end Go.Proofs.Ytghklhdooemjdaa.Q
end
