-- Merged and trimmed by this session's program wip/tools/trim.py.
import Derived.Shelf.RegionOpen
import Derived.Deep.RegionLaw
import Derived.BigQuiet
import Derived.Deep.RegionWith
import Derived.Outline
import Derived.Laws.EntriesVeiled
import Derived.WalkSpells
import Derived.Laws.CopyOwn
import Derived.Lib.Overlaps
import Derived.Laws.Externs
import Derived.Maps.Own
import Derived.Maps.OwnSet
import Derived.Maps.Views
import Derived.Shelf.SlIterI.Nil
import Derived.Shelf.SortM.Plain
import Derived.Shelf.SortM.SortNone
import Derived.TacticsInMore
import Derived.Test.YtalkiicjdafhdaaRows
import Derived.ChangeArms
import Derived.WideShapes
import Derived.SizedLaws
import Derived.Laws.BytesArg
import Derived.Laws.BitsLemmas
import Derived.WalkKit
import Derived.ProofKit
import Derived.OpenShut
import Derived.ShutString
import Derived.ChangeOld
import Derived.Below
import Derived.JoinedCond
import Derived.Test.YtalkiicjdafhdaaTLinksThree1
section
namespace Go.Proofs.Ytalkiicjdafhdaa.Q
open Go.RowKit Go.Proofs.YtalkiicjdafhdaaW.PrintWords Go.Proofs.YtalkiicjdafhdaaW.PrintLast Go.Proofs.YtalkiicjdafhdaaW.PrintMore
attribute [local go_sem] max2_int min2_int max_two min_two max_three min_three max_four min_four   -- for this text's walks alone
set_option linter.unusedVariables false
set_option linter.unusedSimpArgs false
open Go.Maps Go.Shelf Go.Sort in
theorem chk_all : ∀ (k : Nat) (prev : Int) (l : List S24) (m i : Int), links_Check.l0 k prev l m i = some 0 → m = (l.length : Int) → 0 ≤ i → m ≤ 32 → ∀ j : Nat, i ≤ j → (hj : j < l.length) → links_right.f l[j].f0 l[j].f1 = some true
  | 0, _, _, _, _, h, _, _, _, _, _, _ => by simp [links_Check.l0] at h
  | k + 1, prev, l, m, i, h, hm, h0, h32, j, hij, hj => by
    simp only [links_Check.l0] at h
    rw [if_pos (by omega), if_pos h0, if_pos (by omega)] at h
    have e1 : wrap64 (i + 1) = i + 1 := by unfold wrap64; omega
    obtain ⟨t, ht, h⟩ := Option.bind_eq_some_iff.mp h
    by_cases ct : t = true
    case neg => rw [if_neg ct] at h; exact absurd (Option.some.inj h) (by decide)
    rw [if_pos ct] at h
    by_cases cp : (rd_T24 l i).f0 ≤ prev
    case pos => rw [if_pos cp] at h; exact absurd (Option.some.inj h) (by decide)
    rw [if_neg cp, e1] at h
    by_cases e : i = j
    · have er : rd_T24 l i = l[j] := by
        rw [e]
        simp [rd_T24, List.getD_eq_getElem?_getD, hj]
      rw [er] at ht
      rw [ht, ct]
    · exact chk_all k _ l m (i + 1) h hm (by omega) h32 j (by omega) hj
open Go.Maps Go.Shelf Go.Sort in
theorem check_lenP {k : Nat} {l : List S24} (h : links_Check.f k l = some 0) : l.length ≤ 32 := by
  unfold links_Check.f at h
  by_cases c : (l.length : Int) > 32
  · rw [if_pos c] at h
    exact absurd (Option.some.inj h) (by decide)
  · omega
open Go.Maps Go.Shelf Go.Sort in
theorem chk_peer {k : Nat} {l : List S24} (h : links_Check.f k l = some 0) : ∀ x ∈ l, 0 ≤ x.f1 ∧ x.f1 ≤ 1048576 := fun x hx => by
  unfold links_Check.f at h
  by_cases c : (l.length : Int) > 32
  · rw [if_pos c] at h
    exact absurd (Option.some.inj h) (by decide)
  · rw [if_neg c] at h
    obtain ⟨j, hj, rfl⟩ := List.mem_iff_getElem.1 hx
    have hr := chk_all k _ l _ 0 h rfl (Int.le_refl _) (by omega) j (by omega) hj
    unfold links_right.f at hr
    split at hr
    · split at hr
      · split at hr
        · have := Option.some.inj hr
          exact ⟨by assumption, of_decide_eq_true this⟩
        · cases hr
      · cases hr
    · cases hr
open Go.Maps Go.Shelf Go.Sort in
theorem ownsMap_heap {H : Type} {P : Program} {k : TypeId} {R : Value → Option (DataW H × List MemPlace)} {b n : Nat} {D : DataW H} {w w' : World} (h : w.ownsMap P k R b n D) (e : w'.heap[b]? = w.heap[b]?) : w'.ownsMap P k R b n D := by
  obtain ⟨es, clock, hb, Ft, hs, hD⟩ := h
  exact ⟨es, clock, e.trans hb, Ft, hs, hD⟩
open Go.Maps Go.Shelf Go.Sort in
def peerLits (l : List S24) : List Lit := l.map (fun x => .int .i64 x.f1)
open Go.Maps Go.Shelf Go.Sort in
def PeersMap (w : World) (b n : Nat) (l : List S24) : Prop := w.ownsMap (H := Unit) Try.prog 3 (plainElem Try.prog 4) b n (setOf (.lit (.bool true)) (peerLits l))
open Go.Maps Go.Shelf Go.Sort in
def insP (t : Int) : List Int → List Int
  | [] => [t]
  | x :: xs => if t < x then t :: x :: xs else if t = x then x :: xs else x :: insP t xs
open Go.Maps Go.Shelf Go.Sort in
def peersV (l : List S24) : List Int := l.foldl (fun acc x => insP x.f1 acc) []
open Go.Maps Go.Shelf Go.Sort in
theorem insP_ok (t : Int) : ∀ (xs : List Int), xs.Pairwise (· < ·) → (insP t xs).Pairwise (· < ·) ∧ ∀ z, z ∈ insP t xs ↔ z = t ∨ z ∈ xs
  | [], h => ⟨List.pairwise_singleton _ _, fun z => by simp [insP]⟩
  | x :: xs, h => by
    obtain ⟨h1, h2⟩ := List.pairwise_cons.1 h
    obtain ⟨i1, i2⟩ := insP_ok t xs h2
    unfold insP
    by_cases c : t < x
    · rw [if_pos c]
      refine ⟨List.pairwise_cons.2 ⟨fun y hy => ?_, h⟩, fun z => by simp⟩
      rcases List.mem_cons.1 hy with rfl | m
      · exact c
      · have := h1 y m; omega
    · rw [if_neg c]
      by_cases d : t = x
      · rw [if_pos d]
        exact ⟨h, fun z => by rw [d]; simp⟩
      · rw [if_neg d]
        refine ⟨List.pairwise_cons.2 ⟨fun y hy => ?_, i1⟩, fun z => ?_⟩
        · rcases (i2 y).1 hy with rfl | m
          · omega
          · exact h1 y m
        · simp only [List.mem_cons, i2]
          exact ⟨fun h => h.elim (fun a => .inr (.inl a)) (fun a => a.elim .inl (fun b => .inr (.inr b))), fun h => h.elim (fun a => .inr (.inl a)) (fun a => a.elim .inl (fun b => .inr (.inr b)))⟩
open Go.Maps Go.Shelf Go.Sort in
theorem peersV_acc : ∀ (l : List S24) (acc : List Int), acc.Pairwise (· < ·) → (l.foldl (fun acc x => insP x.f1 acc) acc).Pairwise (· < ·) ∧ ∀ z, z ∈ l.foldl (fun acc x => insP x.f1 acc) acc ↔ z ∈ acc ∨ ∃ x ∈ l, x.f1 = z
  | [], acc, h => ⟨h, fun z => by simp⟩
  | x :: l, acc, h => by
    obtain ⟨i1, i2⟩ := insP_ok x.f1 acc h
    obtain ⟨j1, j2⟩ := peersV_acc l (insP x.f1 acc) i1
    refine ⟨j1, fun z => ?_⟩
    have := j2 z
    rw [List.foldl_cons, this, i2 z]
    simp only [List.mem_cons, exists_eq_or_imp]
    exact ⟨fun h => h.elim (fun a => a.elim (fun b => .inr (.inl b.symm)) .inl) (fun a => .inr (.inr a)), fun h => h.elim (fun a => .inl (.inr a)) (fun a => a.elim (fun b => .inl (.inl b.symm)) .inr)⟩
open Go.Maps Go.Shelf Go.Sort in
theorem peersV_ok (l : List S24) : (peersV l).Pairwise (· < ·) ∧ ∀ z, z ∈ peersV l ↔ ∃ x ∈ l, x.f1 = z := by
  obtain ⟨h1, h2⟩ := peersV_acc l [] List.Pairwise.nil
  exact ⟨h1, fun z => by have := h2 z; simpa [peersV] using this⟩
open Go.Maps Go.Shelf Go.Sort in
def keysRun_ren : Go.Shelf.Ren := ⟨fun | 7 => 28 | 10 => 36 | n => n, fun | 23 => 49 | 26 => 3 | 3 => 4 | 28 => 52 | 0 => 0 | 27 => 51 | 33 => 59 | 4 => 4 | n => n, fun | n => n⟩
open Go.Maps Go.Shelf Go.Sort in
theorem keysRun : Go.Proofs.SlLaysZI.n7 Try.prog keysRun_ren := {
  mixed := by kernel_rfl
  f7 := ⟨Try.f28.name, by decide, Try.func28.trans (congrArg some (by kernel_rfl))⟩
  f10 := ⟨Try.f36.name, by decide, Try.func36.trans (congrArg some (by kernel_rfl))⟩
  t0 := Try.underlying0
  a0 := Try.isAgg0
  z0 := Try.sizeOf0
  v0 := Try.zeroValue0
  t4 := Try.underlying4
  a4 := Try.isAgg4
  z4 := Try.sizeOf4
  v4 := Try.zeroValue4
  t23 := Try.underlying49
  a23 := Try.isAgg49
  z23 := Try.sizeOf49
  v23 := Try.zeroValue49
  t26 := Try.underlying3
  a26 := Try.isAgg3
  z26 := Try.sizeOf3
  v26 := Try.zeroValue3
  t27 := Try.underlying51
  a27 := Try.isAgg51
  z27 := Try.sizeOf51
  v27 := Try.zeroValue51
  t28 := Try.underlying52
  a28 := Try.isAgg52
  z28 := Try.sizeOf52
  v28 := Try.zeroValue52
  t33 := Try.underlying59
  a33 := Try.isAgg59
  z33 := Try.sizeOf59
  v33 := Try.zeroValue59 }
open Go.Maps Go.Shelf Go.Sort in
def sortedRun_ren : Go.Shelf.Ren := ⟨fun | 6 => 27 | 8 => 34 | 9 => 35 | 11 => 39 | 13 => 41 | 12 => 40 | 23 => 52 | 24 => 53 | 14 => 43 | 15 => 44 | 16 => 45 | 17 => 46 | 18 => 47 | 19 => 48 | 20 => 49 | 21 => 50 | 22 => 51 | 25 => 54 | 26 => 55 | 27 => 56 | 28 => 57 | 29 => 58 | 30 => 37 | 31 => 59 | n => n, fun | 26 => 3 | 28 => 52 | 24 => 35 | 0 => 0 | 3 => 3 | 37 => 60 | 48 => 74 | 50 => 76 | 4 => 4 | 40 => 67 | 39 => 66 | 45 => 43 | 5 => 5 | 9 => 9 | 51 => 77 | 55 => 81 | 57 => 83 | 58 => 84 | 33 => 59 | n => n, fun | n => n⟩
open Go.Maps Go.Shelf Go.Sort in
theorem sortedRun : Go.Proofs.SlLaysZI.n6 Try.prog sortedRun_ren := {
  mixed := by kernel_rfl
  f6 := ⟨Try.f27.name, by decide, Try.func27.trans (congrArg some (by kernel_rfl))⟩
  f8 := ⟨Try.f34.name, by decide, Try.func34.trans (congrArg some (by kernel_rfl))⟩
  f11 := ⟨Try.f39.name, by decide, Try.func39.trans (congrArg some (by kernel_rfl))⟩
  t0 := Try.underlying0
  a0 := Try.isAgg0
  z0 := Try.sizeOf0
  v0 := Try.zeroValue0
  t24 := Try.underlying35
  a24 := Try.isAgg35
  z24 := Try.sizeOf35
  v24 := Try.zeroValue35
  t26 := Try.underlying3
  a26 := Try.isAgg3
  z26 := Try.sizeOf3
  v26 := Try.zeroValue3
  t28 := Try.underlying52
  a28 := Try.isAgg52
  z28 := Try.sizeOf52
  v28 := Try.zeroValue52
  i26 := by kernel_rfl }
open Go.Maps Go.Shelf Go.Sort in
def sortRun_ren : Go.Shelf.Ren := ⟨fun | 5 => 35 | 8 => 41 | 7 => 40 | 19 => 52 | 20 => 53 | 10 => 43 | 11 => 44 | 12 => 45 | 13 => 46 | 14 => 47 | 15 => 48 | 16 => 49 | 17 => 50 | 18 => 51 | 30 => 54 | 31 => 55 | 32 => 56 | 33 => 57 | 34 => 58 | 35 => 37 | 40 => 59 | n => n, fun | 23 => 35 | 25 => 3 | 3 => 3 | 32 => 60 | 22 => 35 | 0 => 0 | 44 => 74 | 46 => 76 | 4 => 4 | 36 => 67 | 35 => 66 | 41 => 43 | 5 => 5 | 9 => 9 | 53 => 77 | 57 => 81 | 63 => 83 | 64 => 84 | n => n, fun | n => n⟩
open Go.Maps Go.Shelf Go.Sort in
theorem sortRun : Go.Proofs.SlLaysM.n5 Try.prog sortRun_ren := {
  mixed := by kernel_rfl
  f5 := ⟨Try.f35.name, by decide, Try.func35.trans (congrArg some (by kernel_rfl))⟩
  f7 := ⟨Try.f40.name, by decide, Try.func40.trans (congrArg some (by kernel_rfl))⟩
  f8 := Try.func41.trans (congrArg some (by kernel_rfl))
  f10 := ⟨Try.f43.name, by decide, Try.func43.trans (congrArg some (by kernel_rfl))⟩
  f11 := ⟨Try.f44.name, by decide, Try.func44.trans (congrArg some (by kernel_rfl))⟩
  f12 := ⟨Try.f45.name, by decide, Try.func45.trans (congrArg some (by kernel_rfl))⟩
  f13 := ⟨Try.f46.name, by decide, Try.func46.trans (congrArg some (by kernel_rfl))⟩
  f14 := ⟨Try.f47.name, by decide, Try.func47.trans (congrArg some (by kernel_rfl))⟩
  f15 := ⟨Try.f48.name, by decide, Try.func48.trans (congrArg some (by kernel_rfl))⟩
  f16 := ⟨Try.f49.name, by decide, Try.func49.trans (congrArg some (by kernel_rfl))⟩
  f17 := ⟨Try.f50.name, by decide, Try.func50.trans (congrArg some (by kernel_rfl))⟩
  f18 := ⟨Try.f51.name, by decide, Try.func51.trans (congrArg some (by kernel_rfl))⟩
  f19 := Try.func52.trans (congrArg some (by kernel_rfl))
  f20 := Try.func53.trans (congrArg some (by kernel_rfl))
  f30 := ⟨Try.f54.name, by decide, Try.func54.trans (congrArg some (by kernel_rfl))⟩
  f31 := Try.func55.trans (congrArg some (by kernel_rfl))
  f32 := Try.func56.trans (congrArg some (by kernel_rfl))
  f33 := ⟨Try.f57.name, by decide, Try.func57.trans (congrArg some (by kernel_rfl))⟩
  f34 := ⟨Try.f58.name, by decide, Try.func58.trans (congrArg some (by kernel_rfl))⟩
  f35 := ⟨Try.f37.name, by decide, Try.func37.trans (congrArg some (by kernel_rfl))⟩
  f40 := ⟨Try.f59.name, by decide, Try.func59.trans (congrArg some (by kernel_rfl))⟩
  t0 := Try.underlying0
  a0 := Try.isAgg0
  z0 := Try.sizeOf0
  v0 := Try.zeroValue0
  t3 := Try.underlying3
  a3 := Try.isAgg3
  z3 := Try.sizeOf3
  v3 := Try.zeroValue3
  t4 := Try.underlying4
  a4 := Try.isAgg4
  z4 := Try.sizeOf4
  v4 := Try.zeroValue4
  t5 := Try.underlying5
  a5 := Try.isAgg5
  z5 := Try.sizeOf5
  v5 := Try.zeroValue5
  t9 := Try.underlying9
  a9 := Try.isAgg9
  z9 := Try.sizeOf9
  v9 := Try.zeroValue9
  t22 := Try.underlying35
  a22 := Try.isAgg35
  z22 := Try.sizeOf35
  v22 := Try.zeroValue35
  t23 := Try.underlying35
  a23 := Try.isAgg35
  z23 := Try.sizeOf35
  v23 := Try.zeroValue35
  t25 := Try.underlying3
  a25 := Try.isAgg3
  z25 := Try.sizeOf3
  v25 := Try.zeroValue3
  t32 := Try.underlying60
  a32 := Try.isAgg60
  z32 := Try.sizeOf60
  v32 := Try.zeroValue60
  t35 := Try.underlying66
  a35 := Try.isAgg66
  z35 := Try.sizeOf66
  v35 := Try.zeroValue66
  t36 := Try.underlying67
  a36 := Try.isAgg67
  z36 := Try.sizeOf67
  v36 := Try.zeroValue67
  t41 := Try.underlying43
  a41 := Try.isAgg43
  z41 := Try.sizeOf43
  v41 := Try.zeroValue43
  t44 := Try.underlying74
  a44 := Try.isAgg74
  z44 := Try.sizeOf74
  v44 := Try.zeroValue74
  t46 := Try.underlying76
  a46 := Try.isAgg76
  z46 := Try.sizeOf76
  v46 := Try.zeroValue76
  t53 := Try.underlying77
  a53 := Try.isAgg77
  z53 := Try.sizeOf77
  v53 := Try.zeroValue77
  t57 := Try.underlying81
  a57 := Try.isAgg81
  z57 := Try.sizeOf81
  v57 := Try.zeroValue81
  t63 := Try.underlying83
  a63 := Try.isAgg83
  z63 := Try.sizeOf83
  v63 := Try.zeroValue83
  t64 := Try.underlying84
  a64 := Try.isAgg84
  z64 := Try.sizeOf84
  v64 := Try.zeroValue84 }
open Go.Maps Go.Shelf Go.Sort in
theorem sortsP (m : Nat) : AnyZI.SortsIn Try.prog sortedRun_ren Fence.wide m :=
  ⟨fun blk off cap ss W hH hblk hsz => callsIn_wide.2 (AnyM.slices_Sort_int sortRun blk off cap ss W hH hblk hsz),
   fun p cap W => callsIn_wide.2 (AnyM.slices_Sort_int_none sortRun p cap W)⟩
open Go.Maps Go.Shelf Go.Sort in
theorem keys_is (mb : Option Nat) (W : World) : Calls Try.prog 28 #[.map mb] W fun e w' => e = .returned (.func (.func 36) #[] #[.pointer (some ⟨W.heap.size, 0, none⟩)]) ∧ w' = W.alloc (.cells #[.map mb] 49) :=
  (callsIn_wide (n := 5)).1 (AnyZI.keys_in keysRun Fence.wide 5 trivial rfl mb W)
open Go.Maps Go.Shelf Go.Sort in
theorem mergeSort_self {l : List Int} (h : l.Pairwise (· < ·)) : l.mergeSort (fun x y => decide (x ≤ y)) = l :=
  List.mergeSort_of_pairwise (h.imp (fun hab => decide_eq_true (Int.le_of_lt hab)))
open Go.Maps Go.Shelf Go.Sort in
theorem sortedP_is (W : World) (b : Nat) (l : List S24) (hl : l.length ≤ 32) (hb : b < W.heap.size) (hP : PeersMap W b l.length l) :
    Calls Try.prog 27 #[.func (.func 36) #[] #[.pointer (some ⟨W.heap.size, 0, none⟩)]] (W.alloc (.cells #[.map (some b)] 49)) fun e w' => ∃ v, e = .returned v ∧ Kd.R (Kd.int .i64) 3 w' W.heap.size (fun _ => True) v (peersV l) ∧ Below W.heap.size W w' := by
  obtain ⟨s1, s2⟩ := peersV_ok l
  have hnd : (peersV l).Nodup := s1.imp (fun hab => Int.ne_of_lt hab)
  have hP2 : (W.alloc (.cells #[.map (some b)] 49)).ownsMap (H := Unit) Try.prog 3 (plainElem Try.prog 4) b l.length (setOf (.lit (.bool true)) (peerLits l)) := ownsMap_heap hP (heap_alloc_old W _ hb)
  have hmem : ∀ x, x ∈ peersV l ↔ has (setOf (H := Unit) (.lit (.bool true)) (peerLits l)) (.int .i64 x) = true := fun x => by
    rw [s2 x, has_setOf _ _ _ (fun z hz => by obtain ⟨y, _, rfl⟩ := List.mem_map.1 hz; trivial), List.any_eq_true]
    unfold peerLits
    constructor
    · rintro ⟨y, hy, rfl⟩
      exact ⟨_, List.mem_map_of_mem hy, by simp [Lit.sameKey]⟩
    · rintro ⟨z, hz, hs⟩
      obtain ⟨y, hy, rfl⟩ := List.mem_map.1 hz
      exact ⟨y, hy, by simpa [Lit.sameKey] using hs⟩
  have hperm : (peersV l).Perm (intKeys (setOf (H := Unit) (.lit (.bool true)) (peerLits l))) :=
    CollectedI.perm (left := fun _ => false) ⟨hnd, fun x => by rw [hmem x]; simp⟩ hP2 (int_keyed Try.underlying3) Try.underlying3 (fun _ => rfl)
  have hsz : Maps.size (setOf (H := Unit) (.lit (.bool true)) (peerLits l)) ≤ 32 := Nat.le_trans hP2.size_le hl
  have hseq : SeqGives Fence.wide 2 Try.prog 36 #[.pointer (some ⟨W.heap.size, 0, none⟩)] encZ (fun ss => ss.Perm (intKeys (setOf (H := Unit) (.lit (.bool true)) (peerLits l)))) (Maps.size (setOf (H := Unit) (.lit (.bool true)) (peerLits l))) (W.alloc (.cells #[.map (some b)] 49)) :=
    AnyZI.keys_gives (ρ := keysRun_ren) { keysRun with } Fence.wide _ trivial rfl (by omega) W.heap.size b l.length _ _ (by simp) (by simp) hP2
  have cS := AnyZI.sorted_in sortedRun Fence.wide 5 trivial trivial trivial trivial rfl (by omega) (sortsP _) (enters_of Try.func35 (by kernel_rfl) rfl) 36 #[.pointer (some ⟨W.heap.size, 0, none⟩)] trivial (enters_of Try.func36 (by kernel_rfl) rfl) _ _ (by unfold maxLen; omega) (by omega) _ hseq
  change CallsIn _ _ Try.prog 27 _ _ _ at cS
  refine ((callsIn_wide (n := 5)).1 cS).mono ?_
  rintro e w' ⟨v, ss, rfl, hS, hrow, hnil, hbl⟩
  have hms : ss.mergeSort (fun x y => decide (x ≤ y)) = peersV l := by
    rw [← mergeSort_self s1]
    exact mergeSort_of_perm_i (hS.trans hperm.symm)
  have hlen : ss.length = (peersV l).length := by rw [← hms, List.length_mergeSort]
  rw [hms, hlen] at hrow
  have hbl2 : Below W.heap.size W w' := below_step (below_alloc (Below.refl _ W) (.cells #[.map (some b)] 49)) hbl
  refine ⟨v, rfl, ?_, hbl2⟩
  exact Kd.R_lower (Kd.R_of_own hrow (fun _ _ => trivial)) (by simp)
set_option maxRecDepth 100000 in
set_option maxHeartbeats 8000000 in
open Go.Maps Go.Shelf Go.Sort in
theorem peers_walk (k : Nat) (A0 : Option Addr) (c0 : Nat) (l0 : List S24) (w : World) (hr0 : Kd.C k24 w A0 l0.length l0) (hc0 : l0.length ≤ c0) (hy : links_Check.f k l0 = some 0) :
    Calls Try.prog 17 #[.slice A0 l0.length c0] w fun e w' => ∃ v0_ : Value, e = .returned (.tuple #[v0_, .int .i64 0]) ∧ Kd.R (Kd.int .i64) 3 w' w.heap.size (fun _ => True) v0_ (peersV l0) ∧ Below w.heap.size w w' := by
  have hmm := @run_makeMap Try.prog
  have HY := Aside0.mk hy
  have HC0 := Aside0.mk hc0
  have HR0 := Aside0.mk hr0
  have HLL := Aside0.mk (check_lenP hy)
  have HM := Aside0.mk (Kd.C_max hr0)
  have HP := Aside0.mk (chk_peer hy)
  have d0 : ((0 : Int) != 0) = false := rfl
  clear hr0 hc0 hy
  go_enter Try.func17, Try.ntmps17
  go_wp2_with (go_at_call 12; refine (links_Check.calls k _ _ l0 0 _ HR0.out HC0.out HY.out).mono ?_; rintro e w5 ⟨rfl, hb5⟩; have HB5 := Aside0.mk hb5; clear hb5)
  have hown0 : Aside0 (PeersMap (w5.alloc (.map #[] 0)) w5.heap.size 0 (l0.take 0)) := ⟨World.ownsMap_made w5 _ _ _⟩
  have hB0 : Aside0 (Below w.heap.size w (w5.alloc (.map #[] 0))) := ⟨below_step HB5.out (below_alloc (Below.refl _ _) _)⟩
  have HBM : Aside0 (w.heap.size ≤ w5.heap.size) := ⟨HB5.out.size⟩
  have hbl : Aside0 (w5.heap.size < (w5.alloc (.map #[] 0)).heap.size) := ⟨by simp⟩
  generalize w5.alloc (.map #[] 0) = w6 at *
  generalize w5.heap.size = bm at *
  go_loopg [7, 16] l0.length (fun kq v7 v16 w' => ∃ (i : Nat), v16 = .int .i64 (i : Int) ∧ Aside0 (i ≤ l0.length ∧ kq = l0.length - i) ∧ Aside0 (PeersMap w' bm i (l0.take i)) ∧ Aside0 (Below w.heap.size w w') ∧ Aside0 (bm < w'.heap.size))
  case atStart => exact ⟨0, rfl, ⟨Nat.zero_le _, rfl⟩, hown0, hB0, hbl⟩
  case round =>
    obtain ⟨i, rfl, HI, HO, HB, HBL⟩ := hrel
    clear hown0 hB0 hbl
    have hm := HM.out
    by_cases hi : i < l0.length
    · have hd : decide ((i : Int) < (l0.length : Int)) = true := decide_eq_true (by omega)
      have hdn : decide (i < l0.length) = true := decide_eq_true hi
      obtain ⟨x, hx⟩ : ∃ x, rd_T24 l0 (i : Int) = x := ⟨_, rfl⟩
      have hxe : l0[i] = x := by rw [← hx]; simp [rd_T24, List.getD_eq_getElem?_getD, hi]
      have hxp := HP.out x (by rw [← hxe]; exact List.getElem_mem hi)
      have htk : peerLits (l0.take (i + 1)) = peerLits (l0.take i) ++ [.int .i64 x.f1] := by
        unfold peerLits
        rw [List.take_succ_eq_append_getElem hi, List.map_append, hxe]
        rfl
      have HTK := Aside0.mk htk
      have HWF : Aside0 ((Lit.int .i64 x.f1).wf = true) := ⟨by simp [Lit.wf, IntKind.min, IntKind.max, IntKind.bits, IntKind.signed]; omega⟩
      have HII := Aside0.mk hi
      have p0 : (0 : Int) ≤ (i : Int) := by omega
      have q0 : (i : Int) < (l0.length : Int) := by omega
      obtain ⟨ad, ead, hx0, hx1⟩ := at_T24 (Kd.C_below HR0.out HB.out) (i : Int) p0 q0
      cases ead
      simp only [Int.toNat_natCast] at hx0 hx1
      rw [hx] at hx0 hx1
      replace p0 := eq_true p0
      replace q0 := eq_true q0
      clear hx hxe hxp htk hi hm
      go_wp2_with (first | (at_mapUpdate; refine wpList_mapUpdate_own (H := Unit) _ rfl _ _ _ 49 rfl 3 4 (int_keyed Try.underlying3) Try.underlying49 (plainElem Try.prog 4) bm i (setOf (.lit (.bool true)) (peerLits (l0.take i))) rfl ?hown (by have := HI.out; have := HLL.out; unfold maxLen; omega) _ _ _ rfl rfl (keyOf_int_mk Try.underlying3 HWF.out) (.lit (.bool true)) [] (plainElem_bool Try.underlying4 true) ?_; (case hown => exact ownsMap_heap HO.out (heap_alloc_old wr _ HBL.out)); intro w1 hown1 hgrow1; have HO1 := Aside0.mk hown1; have HG1 := Aside0.mk hgrow1; clear hown1 hgrow1))
      go_roundg (l0.length - (i + 1))
      case measure => have := HI.out; have := HII.out; omega
      case rel =>
        have hii := HII.out
        have hll := HLL.out
        refine ⟨i + 1, by first | rfl | (simp only [Value.int.injEq, true_and]; unfold wrap64; omega), ⟨by omega, rfl⟩, ⟨?_⟩, ⟨?_⟩, ⟨?_⟩⟩
        · unfold PeersMap
          rw [HTK.out, setOf_snoc]
          exact HO1.out
        · refine (below_alloc HB.out _).grown HG1.out ?_ (fun j hj => by obtain rfl := Option.some.inj hj; exact HBM.out)
          have := HB.out.size
          simp
          omega
        · have h1 := HG1.out.size
          have h2 := HBL.out
          simp at h1
          omega
    · have hd : decide ((i : Int) < (l0.length : Int)) = false := decide_eq_false (by omega)
      have hdn : decide (i < l0.length) = false := decide_eq_false hi
      have hil : i = l0.length := by have := HI.out; omega
      subst hil
      have HO2 : Aside0 (PeersMap wr bm l0.length l0) := ⟨by have := HO.out; rwa [List.take_length] at this⟩
      clear HO hi
      go_wp2_with (first | (go_at_call 28; refine (keys_is _ _).mono ?_; rintro e w7 ⟨rfl, rfl⟩) | (go_at_call 27; refine (sortedP_is wr bm l0 HLL.out HBL.out HO2.out).mono ?_; rintro e w8 ⟨v8, rfl, ho8, hb8⟩; have HO8 := Aside0.mk (Kd.R_lower ho8 HB.out.size); have HB8 := Aside0.mk (below_step HB.out hb8); clear ho8 hb8))
      go_ret2
      exact ⟨_, rfl, HO8.out, HB8.out⟩
def links_Peers.f (k : Nat) (l0 : List S24) : Option (List Int × Int) := (links_Check.f k l0).bind fun y => if y ≠ 0 then some ([], y) else some (peersV l0, 0)
theorem links_Peers.mono : ∀ a0 k, LeO (links_Peers.f k a0) (links_Peers.f (k + 1) a0) := by
  intro a0 k
  unfold links_Peers.f
  exact LeO.bind (links_Check.mono _ _) (fun _ => LeO.refl _)
set_option maxRecDepth 100000 in
set_option maxHeartbeats 8000000 in
theorem links_Peers.calls (k : Nat) (A0 : Option Addr) (c0 : Nat) (l0 : List (S24)) (r1 : List Int) (r2 : Int) (w : World) (hr0 : Kd.C k24 w A0 l0.length l0) (hc0 : l0.length ≤ c0) (h : links_Peers.f k l0 = some (r1, r2)) :
    Calls Try.prog 17 #[.slice A0 l0.length c0] w fun e w' => ∃ v0_ : Value, e = .returned (.tuple #[v0_, .int .i64 r2]) ∧ Kd.R (Kd.int .i64) 3 w' w.heap.size (fun _ => True) v0_ r1 ∧ Below w.heap.size w w' := by
  obtain ⟨y, hy, h⟩ := Option.bind_eq_some_iff.mp h
  by_cases cy : y ≠ 0
  · rw [if_pos cy] at h
    obtain ⟨e1, e2⟩ := Prod.mk.inj (Option.some.inj h)
    subst e1
    subst e2
    have HY := Aside0.mk hy
    have HC0 := Aside0.mk hc0
    have HR0 := Aside0.mk hr0
    have d0 : (y != 0) = true := bne_iff_ne.mpr cy
    clear cy h hy hr0 hc0
    go_enter Try.func17, Try.ntmps17
    go_wp2_with (go_at_call 12; refine (links_Check.calls k _ _ l0 y _ HR0.out HC0.out HY.out).mono ?_; rintro e w5 ⟨rfl, hb5⟩; have HB5 := Aside0.mk hb5; clear hb5)
    go_ret2
    exact ⟨_, rfl, Kd.R_nil _ _ _ _ _, HB5.out⟩
  · have cy0 : y = 0 := Decidable.not_not.mp cy
    subst cy0
    rw [if_neg cy] at h
    obtain ⟨e1, e2⟩ := Prod.mk.inj (Option.some.inj h)
    subst e1
    subst e2
    exact peers_walk k A0 c0 l0 w hr0 hc0 hy
def spoorref16_Alike.l0 : Nat → List Int → List Int → Int → Int → Option (Bool)
 | 0, _, _, _, _ => none
 | k + 1, x0, x1, x12, x13 => if x13 < x12 then (if 0 ≤ x13 then (if x13 < (x0.length : Int) then (if x13 < (x1.length : Int) then (if (rd x0 x13) = (rd x1 x13) then (spoorref16_Alike.l0 k x0 x1 x12 (wrap64 (x13 + 1))) else (some false)) else (none)) else (none)) else (none)) else (some true)
def spoorref16_Alike.f (k : Nat) (l0 : List Int) (l1 : List Int) : Option (Bool) := if (l0.length : Int) = (l1.length : Int) then (spoorref16_Alike.l0 k l0 l1 (l0.length : Int) 0) else (some false)
theorem spoorref16_Alike.mono_l : ∀ k, (∀ y0 y1 y2 y3, LeO (spoorref16_Alike.l0 k y0 y1 y2 y3) (spoorref16_Alike.l0 (k + 1) y0 y1 y2 y3))
 | 0 => fun _ _ _ _ r h => by simp [spoorref16_Alike.l0] at h
 | k + 1 => by
  have ih0 := spoorref16_Alike.mono_l k
  ·intro y0 y1 y2 y3
   unfold spoorref16_Alike.l0
   repeat' first
   | (with_reducible exact ih0 _ _ _ _)
   | (with_reducible exact LeO.refl _)
   | (with_reducible exact LeO.none _)
   | (with_reducible refine LeO.ite ?_ ?_)
   | (with_reducible refine LeO.bind ?_ (fun _ => ?_))
   | exact ih0 _ _ _ _
   | exact LeO.none _
   | refine LeO.ite ?_ ?_
   | refine LeO.bind ?_ (fun _ => ?_)
theorem spoorref16_Alike.mono : ∀ a0 a1 k, LeO (spoorref16_Alike.f k a0 a1) (spoorref16_Alike.f (k + 1) a0 a1) := by
 intro a0 a1 k
 have ih0 := spoorref16_Alike.mono_l k
 unfold spoorref16_Alike.f
 repeat' first
   | (with_reducible exact ih0 _ _ _ _)
   | (with_reducible exact LeO.refl _)
   | (with_reducible exact LeO.none _)
   | (with_reducible refine LeO.ite ?_ ?_)
   | (with_reducible refine LeO.bind ?_ (fun _ => ?_))
   | exact ih0 _ _ _ _
   | exact LeO.none _
   | refine LeO.ite ?_ ?_
   | refine LeO.bind ?_ (fun _ => ?_)
set_option maxHeartbeats 8000000 in
set_option maxRecDepth 100000 in
theorem spoorref16_Alike.calls (k : Nat) (A0 : Option Addr) (c0 : Nat) (l0 : List Int) (A1 : Option Addr) (c1 : Nat) (l1 : List Int) (r : Bool) (w : World) (hr0 : Kd.C (Kd.int .i64) w A0 l0.length l0) (hc0 : l0.length ≤ c0) (hr1 : Kd.C (Kd.int .i64) w A1 l1.length l1) (hc1 : l1.length ≤ c1) (h : spoorref16_Alike.f k l0 l1 = some r) :
  Calls Try.prog 19 #[.slice A0 l0.length c0, .slice A1 l1.length c1] w fun e w' => e = .returned (.bool r) ∧ Drawn0 w w' := by
 have HR0 := Ax hr0
 have HC0 := Ax hc0
 clear hr0 hc0
 have HR1 := Ax hr1
 have HC1 := Ax hc1
 clear hr1 hc1
 have H : (if (l0.length : Int) = (l1.length : Int) then (spoorref16_Alike.l0 k l0 l1 (l0.length : Int) 0) else (some false)) = some r := h
 clear h
 by_cases c3 : (l0.length : Int) = (l1.length : Int)
 ·rw [if_pos c3] at H
  have c3b0 : ((l0.length : Int) == (l1.length : Int)) = true := beq_iff_eq.mpr c3
  have c3b1 : ((l0.length : Int) != (l1.length : Int)) = false := bne_eq_false_iff_eq.mpr c3
  have c3b2 : (l0.length == l1.length) = true := by first | simpa using c3 | (simp at c3 ⊢; omega)
  clear c3
  have H' := Ax H
  clear H
  go_enter Try.func19, Try.ntmps19
  go_wp2
  repeat (go_quiet (fail); try go_wp2)
  go_loopg [13] k (fun kq v13 w' => ∃ (x13_1 : Int), v13 = .int .i64 x13_1 ∧ Aside0 (spoorref16_Alike.l0 kq l0 l1 (l0.length : Int) x13_1 = some r) ∧ Aside0 (kq ≤ k) ∧ Drawn0 w w')
  case atStart => exact ⟨(0), rS, H', ⟨Nat.le_refl _⟩, by repeat (first | exact Drawn0.refl _ | apply Drawn0.step)⟩
  case round =>
   clear H'
   try clear c1
   try clear p2
   try clear c3
   try clear c3b0
   try clear c3b1
   try clear c3b2
   obtain ⟨x13_1, rfl, HA, HK1, ⟨m1, rfl⟩⟩ := hrel
   cases gk with
   | zero => exact absurd HA.out (by simp [spoorref16_Alike.l0])
   | succ k1 =>
    have H := HA.out
    clear HA
    simp only [spoorref16_Alike.l0] at H
    by_cases c4 : x13_1 < (l0.length : Int)
    ·rw [if_pos c4] at H
     have c4b0 : decide (x13_1 < (l0.length : Int)) = true := decide_eq_true c4
     clear c4
     by_cases c5 : 0 ≤ x13_1
     ·rw [if_pos c5] at H
      have c5b0 : decide (0 ≤ x13_1) = true := decide_eq_true c5
      clear c5
      by_cases c6 : x13_1 < (l0.length : Int)
      ·rw [if_pos c6] at H
       have c6b0 : decide (x13_1 < (l0.length : Int)) = true := decide_eq_true c6
       clear c6
       by_cases c7 : x13_1 < (l1.length : Int)
       ·rw [if_pos c7] at H
        have c7b0 : decide (x13_1 < (l1.length : Int)) = true := decide_eq_true c7
        clear c7
        by_cases c8 : (rd l0 x13_1) = (rd l1 x13_1)
        ·rw [if_pos c8] at H
         have c8b0 : ((rd l0 x13_1) == (rd l1 x13_1)) = true := beq_iff_eq.mpr c8
         have c8b1 : ((rd l0 x13_1) != (rd l1 x13_1)) = false := bne_eq_false_iff_eq.mpr c8
         clear c8
         have H' := Ax H
         clear H
         have p308 : 0 ≤ (x13_1 : Int) := of_decide_eq_true (by first | (with_reducible assumption) | assumption)
         have q308 : x13_1 < (l0.length : Int) := of_decide_eq_true (by first | (with_reducible assumption) | assumption)
         obtain ⟨ad308, e308, hx308_0⟩ := Kd.at_int HR0.out x13_1 p308 q308
         cases e308
         replace p308 := eq_true p308
         replace q308 := eq_true q308
         have p309 : 0 ≤ (x13_1 : Int) := of_decide_eq_true (by first | (with_reducible assumption) | assumption)
         have q309 : x13_1 < (l1.length : Int) := of_decide_eq_true (by first | (with_reducible assumption) | assumption)
         obtain ⟨ad309, e309, hx309_0⟩ := Kd.at_int HR1.out x13_1 p309 q309
         cases e309
         replace p309 := eq_true p309
         replace q309 := eq_true q309
         go_wp2
         repeat (go_quiet (fail); try go_wp2)
         go_roundg k1
         case measure => have := HK1.out; omega
         case rel => exact ⟨(wrap64 (x13_1 + 1)), rS, H', ⟨by have := HK1.out; omega⟩, by repeat (first | exact Drawn0.refl _ | apply Drawn0.step)⟩
        ·rw [if_neg c8] at H
         have c8b0 : ((rd l0 x13_1) == (rd l1 x13_1)) = false := beq_eq_false_iff_ne.mpr c8
         have c8b1 : ((rd l0 x13_1) != (rd l1 x13_1)) = true := bne_iff_ne.mpr c8
         obtain rfl := Option.some.inj H
         have p308 : 0 ≤ (x13_1 : Int) := of_decide_eq_true (by first | (with_reducible assumption) | assumption)
         have q308 : x13_1 < (l0.length : Int) := of_decide_eq_true (by first | (with_reducible assumption) | assumption)
         obtain ⟨ad308, e308, hx308_0⟩ := Kd.at_int HR0.out x13_1 p308 q308
         cases e308
         replace p308 := eq_true p308
         replace q308 := eq_true q308
         have p309 : 0 ≤ (x13_1 : Int) := of_decide_eq_true (by first | (with_reducible assumption) | assumption)
         have q309 : x13_1 < (l1.length : Int) := of_decide_eq_true (by first | (with_reducible assumption) | assumption)
         obtain ⟨ad309, e309, hx309_0⟩ := Kd.at_int HR1.out x13_1 p309 q309
         cases e309
         replace p309 := eq_true p309
         replace q309 := eq_true q309
         go_wp2
         repeat (go_quiet (fail); try go_wp2)
         go_ret
         exact ⟨by first | rfl | (simp; done) | (simp [*]; done), by repeat (first | exact Drawn0.refl _ | apply Drawn0.step)⟩
       ·rw [if_neg c7] at H
        exact absurd H (by simp)
      ·rw [if_neg c6] at H
       exact absurd H (by simp)
     ·rw [if_neg c5] at H
      exact absurd H (by simp)
    ·rw [if_neg c4] at H
     have c4b0 : decide (x13_1 < (l0.length : Int)) = false := decide_eq_false c4
     clear c4
     obtain rfl := Option.some.inj H
     go_wp2
     repeat (go_quiet (fail); try go_wp2)
     go_ret
     exact ⟨by first | rfl | (simp; done) | (simp [*]; done), by repeat (first | exact Drawn0.refl _ | apply Drawn0.step)⟩
 ·rw [if_neg c3] at H
  have c3b0 : ((l0.length : Int) == (l1.length : Int)) = false := beq_eq_false_iff_ne.mpr c3
  have c3b1 : ((l0.length : Int) != (l1.length : Int)) = true := bne_iff_ne.mpr c3
  have c3b2 : (l0.length == l1.length) = false := by first | simpa using c3 | (simp at c3 ⊢; omega)
  obtain rfl := Option.some.inj H
  go_enter Try.func19, Try.ntmps19
  go_wp2
  repeat (go_quiet (fail); try go_wp2)
  go_ret
  exact ⟨by first | rfl | (simp; done) | (simp [*]; done), by repeat (first | exact Drawn0.refl _ | apply Drawn0.step)⟩
theorem event_runw {P : Program} {ops : Array Oper} {o : Oper} {rest : List Oper} {a : Act} {Q : Exit → Act → World → Prop} {W w1 : World} {v : Value} (hw : o.guard = none ∨ Region.wanted o (yielded ops a.tmps) = true) (hrun : (execOp a.eval o).run P W = .ok (.value v) w1) (h : wpList P ops Q rest (a.put o.dst v) w1) : wpList P ops Q (o :: rest) a W := by
 rcases hw with hw | hw
 ·exact Kd.event_run hw hrun h
 ·unfold wpList
  rw [if_pos hw]
  refine .inl ?_
  unfold Oper.wp
  rw [hrun]
  exact h
theorem R_litg {α : Type} {P : Program} {ops : Array Oper} {o : Oper} {rest : List Oper} {a : Act} {Q : Exit → Act → World → Prop} (d : Kd α) {w0 W : World} (base e : Nat) (hgd : o.guard = none ∨ Region.wanted o (yielded ops a.tmps) = true) {N : Tmp} (_hd : o.dst = some N) {xs : List α} {inner : List Value} {ok okp : Nat → Prop}
  (hrun : (execOp a.eval o).run P W = .ok (.value (.slice (some ⟨W.heap.size, 0, none⟩) xs.length xs.length)) (W.alloc (.cells inner.toArray e)))
  (hrep : Reps (d.M W base okp) d.sz xs inner) (hok : ∀ k, okp k → ok k) (hfresh : ok W.heap.size) (HB : Below base w0 W) (hbase : base ≤ W.heap.size) (hm : xs.length ≤ 9223372036854775807)
  (h : ∀ v1 w1, d.R e w1 base ok v1 xs → Below base w0 w1 → W.grownBy w1 none → (∃ b, v1.ownBlock = some b ∧ W.heap.size ≤ b) → wpList P ops Q rest (a.put o.dst v1) w1) : wpList P ops Q (o :: rest) a W := by
 refine event_runw hgd hrun (h _ _ ⟨fun k hk => ?_, inner, ?_, ?_⟩ (HB.alloc hbase _) (World.grownBy_alloc W _ none) ⟨W.heap.size, by simp [Value.ownBlock], Nat.le_refl _⟩)
 ·have : W.heap.size = k := by simpa [Value.ownBlock] using hk
  subst this
  exact hfresh
 ·have h2 := World.ownsRow_lit (base := base) (e := e) (size := d.sz) W inner.toArray xs.length hbase (by simpa [maxLen] using hm) (by simpa using hrep.1)
  simpa using h2
 ·refine hrep.imp_ (fun p c hp => d.M_mono (fun k hk => ⟨hok k hk.1, fun he => ?_⟩) (Kd.M_below (d.M_bound hp) (below_alloc (Below.refl _ _) _)))
  have h3 : k = W.heap.size := by simpa [Value.ownBlock] using he
  have := hk.2.2.1
  omega
def spoorlaw16_lives.f (k : Nat)  : Option (Bool) := (links_Put.f k ([] : List (S24)) 3 7).bind fun bt310 => ((links_Put.f k bt310.1 1 9).bind fun bt314 => ((links_Put.f k bt314.1 4 7).bind fun bt318 => ((links_Peer.f k bt318.1 3).bind fun bt322 => ((links_Peer.f k bt318.1 2).bind fun bt324 => ((links_Peers.f k bt318.1).bind fun bt326 => ((links_Del.f k bt318.1 1).bind fun bt330 => ((links_Del.f k bt330.1 1).bind fun bt334 => ((links_Put.f k bt318.1 (-1) 0).bind fun bt338 => (if bt310.2 = 0 then (if bt314.2 = 0 then (if bt318.2 = 0 then ((spoorref16_Same.f k bt318.1 (([(⟨1, 9⟩ : S24), (⟨3, 7⟩ : S24), (⟨4, 7⟩ : S24)] : List (S24)))).bind fun t345 => (if t345 = true then (if bt322.1 = 7 then (if bt322.2 = 0 then (if bt324.2 = 3 then ((spoorref16_Alike.f k bt326.1 (([7, 9] : List Int))).bind fun t349 => (if t349 = true then (if bt326.2 = 0 then (if (bt330.1.length : Int) = 2 then (if bt330.2 = 0 then (if bt334.2 = 3 then (if bt338.2 = 2 then ((links_Check.f k bt318.1).bind fun t350 => (some (t350 == 0))) else (none)) else (none)) else (none)) else (none)) else (none)) else (none))) else (none)) else (none)) else (none)) else (none))) else (none)) else (none)) else (none))))))))))
theorem spoorlaw16_lives.mono : ∀ k, LeO (spoorlaw16_lives.f k ) (spoorlaw16_lives.f (k + 1) ) := by
 intro  k
 unfold spoorlaw16_lives.f
 repeat' first
   | (with_reducible exact links_Check.mono _ _)
   | (with_reducible exact links_Del.mono _ _ _)
   | (with_reducible exact links_Peer.mono _ _ _)
   | (with_reducible exact links_Peers.mono _ _)
   | (with_reducible exact links_Put.mono _ _ _ _)
   | (with_reducible exact spoorref16_Alike.mono _ _ _)
   | (with_reducible exact spoorref16_Same.mono _ _ _)
   | (with_reducible exact LeO.refl _)
   | (with_reducible exact LeO.none _)
   | (with_reducible refine LeO.ite ?_ ?_)
   | (with_reducible refine LeO.bind ?_ (fun _ => ?_))
   | exact links_Check.mono _ _
   | exact links_Del.mono _ _ _
   | exact links_Peer.mono _ _ _
   | exact links_Peers.mono _ _
   | exact links_Put.mono _ _ _ _
   | exact spoorref16_Alike.mono _ _ _
   | exact spoorref16_Same.mono _ _ _
   | exact LeO.none _
   | refine LeO.ite ?_ ?_
   | refine LeO.bind ?_ (fun _ => ?_)
set_option maxHeartbeats 8000000 in
set_option maxRecDepth 100000 in
theorem spoorlaw16_lives.calls (k : Nat)  (r : Bool) (w : World) (h : spoorlaw16_lives.f k  = some r) :
  Calls Try.prog 11 #[] w fun e w' => e = .returned (.bool r) ∧ Below w.heap.size w w' := by
 have hu24 := Try.underlying24
 have HB := Ax (Below.refl w.heap.size w)
 have H : ((links_Put.f k ([] : List (S24)) 3 7).bind fun bt310 => ((links_Put.f k bt310.1 1 9).bind fun bt314 => ((links_Put.f k bt314.1 4 7).bind fun bt318 => ((links_Peer.f k bt318.1 3).bind fun bt322 => ((links_Peer.f k bt318.1 2).bind fun bt324 => ((links_Peers.f k bt318.1).bind fun bt326 => ((links_Del.f k bt318.1 1).bind fun bt330 => ((links_Del.f k bt330.1 1).bind fun bt334 => ((links_Put.f k bt318.1 (-1) 0).bind fun bt338 => (if bt310.2 = 0 then (if bt314.2 = 0 then (if bt318.2 = 0 then ((spoorref16_Same.f k bt318.1 (([(⟨1, 9⟩ : S24), (⟨3, 7⟩ : S24), (⟨4, 7⟩ : S24)] : List (S24)))).bind fun t345 => (if t345 = true then (if bt322.1 = 7 then (if bt322.2 = 0 then (if bt324.2 = 3 then ((spoorref16_Alike.f k bt326.1 (([7, 9] : List Int))).bind fun t349 => (if t349 = true then (if bt326.2 = 0 then (if (bt330.1.length : Int) = 2 then (if bt330.2 = 0 then (if bt334.2 = 3 then (if bt338.2 = 2 then ((links_Check.f k bt318.1).bind fun t350 => (some (t350 == 0))) else (none)) else (none)) else (none)) else (none)) else (none)) else (none))) else (none)) else (none)) else (none)) else (none))) else (none)) else (none)) else (none))))))))))) = some r := h
 clear h
 replace H := Option.bind_eq_some_iff.mp H
 obtain ⟨⟨t310, t313⟩, A10, H⟩ := H
 replace H : ((links_Put.f k t310 1 9).bind fun bt314 => ((links_Put.f k bt314.1 4 7).bind fun bt318 => ((links_Peer.f k bt318.1 3).bind fun bt322 => ((links_Peer.f k bt318.1 2).bind fun bt324 => ((links_Peers.f k bt318.1).bind fun bt326 => ((links_Del.f k bt318.1 1).bind fun bt330 => ((links_Del.f k bt330.1 1).bind fun bt334 => ((links_Put.f k bt318.1 (-1) 0).bind fun bt338 => (if t313 = 0 then (if bt314.2 = 0 then (if bt318.2 = 0 then ((spoorref16_Same.f k bt318.1 (([(⟨1, 9⟩ : S24), (⟨3, 7⟩ : S24), (⟨4, 7⟩ : S24)] : List (S24)))).bind fun t345 => (if t345 = true then (if bt322.1 = 7 then (if bt322.2 = 0 then (if bt324.2 = 3 then ((spoorref16_Alike.f k bt326.1 (([7, 9] : List Int))).bind fun t349 => (if t349 = true then (if bt326.2 = 0 then (if (bt330.1.length : Int) = 2 then (if bt330.2 = 0 then (if bt334.2 = 3 then (if bt338.2 = 2 then ((links_Check.f k bt318.1).bind fun t350 => (some (t350 == 0))) else (none)) else (none)) else (none)) else (none)) else (none)) else (none))) else (none)) else (none)) else (none)) else (none))) else (none)) else (none)) else (none)))))))))) = some r := H
 have A1 := Ax A10
 clear A10
 replace H := Option.bind_eq_some_iff.mp H
 obtain ⟨⟨t314, t317⟩, A20, H⟩ := H
 replace H : ((links_Put.f k t314 4 7).bind fun bt318 => ((links_Peer.f k bt318.1 3).bind fun bt322 => ((links_Peer.f k bt318.1 2).bind fun bt324 => ((links_Peers.f k bt318.1).bind fun bt326 => ((links_Del.f k bt318.1 1).bind fun bt330 => ((links_Del.f k bt330.1 1).bind fun bt334 => ((links_Put.f k bt318.1 (-1) 0).bind fun bt338 => (if t313 = 0 then (if t317 = 0 then (if bt318.2 = 0 then ((spoorref16_Same.f k bt318.1 (([(⟨1, 9⟩ : S24), (⟨3, 7⟩ : S24), (⟨4, 7⟩ : S24)] : List (S24)))).bind fun t345 => (if t345 = true then (if bt322.1 = 7 then (if bt322.2 = 0 then (if bt324.2 = 3 then ((spoorref16_Alike.f k bt326.1 (([7, 9] : List Int))).bind fun t349 => (if t349 = true then (if bt326.2 = 0 then (if (bt330.1.length : Int) = 2 then (if bt330.2 = 0 then (if bt334.2 = 3 then (if bt338.2 = 2 then ((links_Check.f k bt318.1).bind fun t350 => (some (t350 == 0))) else (none)) else (none)) else (none)) else (none)) else (none)) else (none))) else (none)) else (none)) else (none)) else (none))) else (none)) else (none)) else (none))))))))) = some r := H
 have A2 := Ax A20
 clear A20
 replace H := Option.bind_eq_some_iff.mp H
 obtain ⟨⟨t318, t321⟩, A30, H⟩ := H
 replace H : ((links_Peer.f k t318 3).bind fun bt322 => ((links_Peer.f k t318 2).bind fun bt324 => ((links_Peers.f k t318).bind fun bt326 => ((links_Del.f k t318 1).bind fun bt330 => ((links_Del.f k bt330.1 1).bind fun bt334 => ((links_Put.f k t318 (-1) 0).bind fun bt338 => (if t313 = 0 then (if t317 = 0 then (if t321 = 0 then ((spoorref16_Same.f k t318 (([(⟨1, 9⟩ : S24), (⟨3, 7⟩ : S24), (⟨4, 7⟩ : S24)] : List (S24)))).bind fun t345 => (if t345 = true then (if bt322.1 = 7 then (if bt322.2 = 0 then (if bt324.2 = 3 then ((spoorref16_Alike.f k bt326.1 (([7, 9] : List Int))).bind fun t349 => (if t349 = true then (if bt326.2 = 0 then (if (bt330.1.length : Int) = 2 then (if bt330.2 = 0 then (if bt334.2 = 3 then (if bt338.2 = 2 then ((links_Check.f k t318).bind fun t350 => (some (t350 == 0))) else (none)) else (none)) else (none)) else (none)) else (none)) else (none))) else (none)) else (none)) else (none)) else (none))) else (none)) else (none)) else (none)))))))) = some r := H
 have A3 := Ax A30
 clear A30
 replace H := Option.bind_eq_some_iff.mp H
 obtain ⟨⟨t322, t323⟩, A40, H⟩ := H
 replace H : ((links_Peer.f k t318 2).bind fun bt324 => ((links_Peers.f k t318).bind fun bt326 => ((links_Del.f k t318 1).bind fun bt330 => ((links_Del.f k bt330.1 1).bind fun bt334 => ((links_Put.f k t318 (-1) 0).bind fun bt338 => (if t313 = 0 then (if t317 = 0 then (if t321 = 0 then ((spoorref16_Same.f k t318 (([(⟨1, 9⟩ : S24), (⟨3, 7⟩ : S24), (⟨4, 7⟩ : S24)] : List (S24)))).bind fun t345 => (if t345 = true then (if t322 = 7 then (if t323 = 0 then (if bt324.2 = 3 then ((spoorref16_Alike.f k bt326.1 (([7, 9] : List Int))).bind fun t349 => (if t349 = true then (if bt326.2 = 0 then (if (bt330.1.length : Int) = 2 then (if bt330.2 = 0 then (if bt334.2 = 3 then (if bt338.2 = 2 then ((links_Check.f k t318).bind fun t350 => (some (t350 == 0))) else (none)) else (none)) else (none)) else (none)) else (none)) else (none))) else (none)) else (none)) else (none)) else (none))) else (none)) else (none)) else (none))))))) = some r := H
 have A4 := Ax A40
 clear A40
 replace H := Option.bind_eq_some_iff.mp H
 obtain ⟨⟨t324, t325⟩, A50, H⟩ := H
 replace H : ((links_Peers.f k t318).bind fun bt326 => ((links_Del.f k t318 1).bind fun bt330 => ((links_Del.f k bt330.1 1).bind fun bt334 => ((links_Put.f k t318 (-1) 0).bind fun bt338 => (if t313 = 0 then (if t317 = 0 then (if t321 = 0 then ((spoorref16_Same.f k t318 (([(⟨1, 9⟩ : S24), (⟨3, 7⟩ : S24), (⟨4, 7⟩ : S24)] : List (S24)))).bind fun t345 => (if t345 = true then (if t322 = 7 then (if t323 = 0 then (if t325 = 3 then ((spoorref16_Alike.f k bt326.1 (([7, 9] : List Int))).bind fun t349 => (if t349 = true then (if bt326.2 = 0 then (if (bt330.1.length : Int) = 2 then (if bt330.2 = 0 then (if bt334.2 = 3 then (if bt338.2 = 2 then ((links_Check.f k t318).bind fun t350 => (some (t350 == 0))) else (none)) else (none)) else (none)) else (none)) else (none)) else (none))) else (none)) else (none)) else (none)) else (none))) else (none)) else (none)) else (none)))))) = some r := H
 have A5 := Ax A50
 clear A50
 replace H := Option.bind_eq_some_iff.mp H
 obtain ⟨⟨t326, t327⟩, A60, H⟩ := H
 replace H : ((links_Del.f k t318 1).bind fun bt330 => ((links_Del.f k bt330.1 1).bind fun bt334 => ((links_Put.f k t318 (-1) 0).bind fun bt338 => (if t313 = 0 then (if t317 = 0 then (if t321 = 0 then ((spoorref16_Same.f k t318 (([(⟨1, 9⟩ : S24), (⟨3, 7⟩ : S24), (⟨4, 7⟩ : S24)] : List (S24)))).bind fun t345 => (if t345 = true then (if t322 = 7 then (if t323 = 0 then (if t325 = 3 then ((spoorref16_Alike.f k t326 (([7, 9] : List Int))).bind fun t349 => (if t349 = true then (if t327 = 0 then (if (bt330.1.length : Int) = 2 then (if bt330.2 = 0 then (if bt334.2 = 3 then (if bt338.2 = 2 then ((links_Check.f k t318).bind fun t350 => (some (t350 == 0))) else (none)) else (none)) else (none)) else (none)) else (none)) else (none))) else (none)) else (none)) else (none)) else (none))) else (none)) else (none)) else (none))))) = some r := H
 have A6 := Ax A60
 clear A60
 replace H := Option.bind_eq_some_iff.mp H
 obtain ⟨⟨t330, t331⟩, A70, H⟩ := H
 replace H : ((links_Del.f k t330 1).bind fun bt334 => ((links_Put.f k t318 (-1) 0).bind fun bt338 => (if t313 = 0 then (if t317 = 0 then (if t321 = 0 then ((spoorref16_Same.f k t318 (([(⟨1, 9⟩ : S24), (⟨3, 7⟩ : S24), (⟨4, 7⟩ : S24)] : List (S24)))).bind fun t345 => (if t345 = true then (if t322 = 7 then (if t323 = 0 then (if t325 = 3 then ((spoorref16_Alike.f k t326 (([7, 9] : List Int))).bind fun t349 => (if t349 = true then (if t327 = 0 then (if (t330.length : Int) = 2 then (if t331 = 0 then (if bt334.2 = 3 then (if bt338.2 = 2 then ((links_Check.f k t318).bind fun t350 => (some (t350 == 0))) else (none)) else (none)) else (none)) else (none)) else (none)) else (none))) else (none)) else (none)) else (none)) else (none))) else (none)) else (none)) else (none)))) = some r := H
 have A7 := Ax A70
 clear A70
 replace H := Option.bind_eq_some_iff.mp H
 obtain ⟨⟨t334, t335⟩, A80, H⟩ := H
 replace H : ((links_Put.f k t318 (-1) 0).bind fun bt338 => (if t313 = 0 then (if t317 = 0 then (if t321 = 0 then ((spoorref16_Same.f k t318 (([(⟨1, 9⟩ : S24), (⟨3, 7⟩ : S24), (⟨4, 7⟩ : S24)] : List (S24)))).bind fun t345 => (if t345 = true then (if t322 = 7 then (if t323 = 0 then (if t325 = 3 then ((spoorref16_Alike.f k t326 (([7, 9] : List Int))).bind fun t349 => (if t349 = true then (if t327 = 0 then (if (t330.length : Int) = 2 then (if t331 = 0 then (if t335 = 3 then (if bt338.2 = 2 then ((links_Check.f k t318).bind fun t350 => (some (t350 == 0))) else (none)) else (none)) else (none)) else (none)) else (none)) else (none))) else (none)) else (none)) else (none)) else (none))) else (none)) else (none)) else (none))) = some r := H
 have A8 := Ax A80
 clear A80
 replace H := Option.bind_eq_some_iff.mp H
 obtain ⟨⟨t338, t341⟩, A90, H⟩ := H
 replace H : (if t313 = 0 then (if t317 = 0 then (if t321 = 0 then ((spoorref16_Same.f k t318 (([(⟨1, 9⟩ : S24), (⟨3, 7⟩ : S24), (⟨4, 7⟩ : S24)] : List (S24)))).bind fun t345 => (if t345 = true then (if t322 = 7 then (if t323 = 0 then (if t325 = 3 then ((spoorref16_Alike.f k t326 (([7, 9] : List Int))).bind fun t349 => (if t349 = true then (if t327 = 0 then (if (t330.length : Int) = 2 then (if t331 = 0 then (if t335 = 3 then (if t341 = 2 then ((links_Check.f k t318).bind fun t350 => (some (t350 == 0))) else (none)) else (none)) else (none)) else (none)) else (none)) else (none))) else (none)) else (none)) else (none)) else (none))) else (none)) else (none)) else (none)) = some r := H
 have A9 := Ax A90
 clear A90
 by_cases c10 : t313 = 0
 ·rw [if_pos c10] at H
  have c10b0 : (t313 == 0) = true := beq_iff_eq.mpr c10
  have c10b1 : (t313 != 0) = false := bne_eq_false_iff_eq.mpr c10
  clear c10
  by_cases c11 : t317 = 0
  ·rw [if_pos c11] at H
   have c11b0 : (t317 == 0) = true := beq_iff_eq.mpr c11
   have c11b1 : (t317 != 0) = false := bne_eq_false_iff_eq.mpr c11
   clear c11
   by_cases c12 : t321 = 0
   ·rw [if_pos c12] at H
    have c12b0 : (t321 == 0) = true := beq_iff_eq.mpr c12
    have c12b1 : (t321 != 0) = false := bne_eq_false_iff_eq.mpr c12
    clear c12
    obtain ⟨y342, hy342⟩ : ∃ y_ : List (S24), y_ = (([(⟨1, 9⟩ : S24), (⟨3, 7⟩ : S24), (⟨4, 7⟩ : S24)] : List (S24))) := ⟨_, rfl⟩
    replace H : ((spoorref16_Same.f k t318 y342).bind fun t345 => (if t345 = true then (if t322 = 7 then (if t323 = 0 then (if t325 = 3 then ((spoorref16_Alike.f k t326 (([7, 9] : List Int))).bind fun t349 => (if t349 = true then (if t327 = 0 then (if (t330.length : Int) = 2 then (if t331 = 0 then (if t335 = 3 then (if t341 = 2 then ((links_Check.f k t318).bind fun t350 => (some (t350 == 0))) else (none)) else (none)) else (none)) else (none)) else (none)) else (none))) else (none)) else (none)) else (none)) else (none))) = some r := by first | (rw [hy342]; with_reducible exact H) | (have H2_ := (Option.bind_some _ _).symm.trans H; rw [hy342]; with_reducible exact H2_) | (have H2_ := (Option.bind_some _ _).symm.trans H; with_reducible exact H2_) | with_reducible exact H | (rw [hy342]; exact H) | exact H
    have Ny342 := Ax hy342
    clear hy342
    replace H := Option.bind_eq_some_iff.mp H
    obtain ⟨t345, A130, H⟩ := H
    replace H : (if t345 = true then (if t322 = 7 then (if t323 = 0 then (if t325 = 3 then ((spoorref16_Alike.f k t326 (([7, 9] : List Int))).bind fun t349 => (if t349 = true then (if t327 = 0 then (if (t330.length : Int) = 2 then (if t331 = 0 then (if t335 = 3 then (if t341 = 2 then ((links_Check.f k t318).bind fun t350 => (some (t350 == 0))) else (none)) else (none)) else (none)) else (none)) else (none)) else (none))) else (none)) else (none)) else (none)) else (none)) = some r := H
    have A13 := Ax A130
    clear A130
    by_cases c14 : t345 = true
    ·subst c14
     have H1 : (if t322 = 7 then (if t323 = 0 then (if t325 = 3 then ((spoorref16_Alike.f k t326 (([7, 9] : List Int))).bind fun t349 => (if t349 = true then (if t327 = 0 then (if (t330.length : Int) = 2 then (if t331 = 0 then (if t335 = 3 then (if t341 = 2 then ((links_Check.f k t318).bind fun t350 => (some (t350 == 0))) else (none)) else (none)) else (none)) else (none)) else (none)) else (none))) else (none)) else (none)) else (none)) = some r := by rw [if_pos rfl] at H; exact H
     clear H
     have H := H1
     clear H1
     by_cases c15 : t322 = 7
     ·rw [if_pos c15] at H
      have c15b0 : (t322 == 7) = true := beq_iff_eq.mpr c15
      have c15b1 : (t322 != 7) = false := bne_eq_false_iff_eq.mpr c15
      clear c15
      by_cases c16 : t323 = 0
      ·rw [if_pos c16] at H
       have c16b0 : (t323 == 0) = true := beq_iff_eq.mpr c16
       have c16b1 : (t323 != 0) = false := bne_eq_false_iff_eq.mpr c16
       clear c16
       by_cases c17 : t325 = 3
       ·rw [if_pos c17] at H
        have c17b0 : (t325 == 3) = true := beq_iff_eq.mpr c17
        have c17b1 : (t325 != 3) = false := bne_eq_false_iff_eq.mpr c17
        clear c17
        obtain ⟨y346, hy346⟩ : ∃ y_ : List Int, y_ = (([7, 9] : List Int)) := ⟨_, rfl⟩
        replace H : ((spoorref16_Alike.f k t326 y346).bind fun t349 => (if t349 = true then (if t327 = 0 then (if (t330.length : Int) = 2 then (if t331 = 0 then (if t335 = 3 then (if t341 = 2 then ((links_Check.f k t318).bind fun t350 => (some (t350 == 0))) else (none)) else (none)) else (none)) else (none)) else (none)) else (none))) = some r := by first | (rw [hy346]; with_reducible exact H) | (have H2_ := (Option.bind_some _ _).symm.trans H; rw [hy346]; with_reducible exact H2_) | (have H2_ := (Option.bind_some _ _).symm.trans H; with_reducible exact H2_) | with_reducible exact H | (rw [hy346]; exact H) | exact H
        have Ny346 := Ax hy346
        clear hy346
        replace H := Option.bind_eq_some_iff.mp H
        obtain ⟨t349, A180, H⟩ := H
        replace H : (if t349 = true then (if t327 = 0 then (if (t330.length : Int) = 2 then (if t331 = 0 then (if t335 = 3 then (if t341 = 2 then ((links_Check.f k t318).bind fun t350 => (some (t350 == 0))) else (none)) else (none)) else (none)) else (none)) else (none)) else (none)) = some r := H
        have A18 := Ax A180
        clear A180
        by_cases c19 : t349 = true
        ·subst c19
         have H1 : (if t327 = 0 then (if (t330.length : Int) = 2 then (if t331 = 0 then (if t335 = 3 then (if t341 = 2 then ((links_Check.f k t318).bind fun t350 => (some (t350 == 0))) else (none)) else (none)) else (none)) else (none)) else (none)) = some r := by rw [if_pos rfl] at H; exact H
         clear H
         have H := H1
         clear H1
         by_cases c20 : t327 = 0
         ·rw [if_pos c20] at H
          have c20b0 : (t327 == 0) = true := beq_iff_eq.mpr c20
          have c20b1 : (t327 != 0) = false := bne_eq_false_iff_eq.mpr c20
          clear c20
          by_cases c21 : (t330.length : Int) = 2
          ·rw [if_pos c21] at H
           have c21b0 : ((t330.length : Int) == 2) = true := beq_iff_eq.mpr c21
           have c21b1 : ((t330.length : Int) != 2) = false := bne_eq_false_iff_eq.mpr c21
           clear c21
           by_cases c22 : t331 = 0
           ·rw [if_pos c22] at H
            have c22b0 : (t331 == 0) = true := beq_iff_eq.mpr c22
            have c22b1 : (t331 != 0) = false := bne_eq_false_iff_eq.mpr c22
            clear c22
            by_cases c23 : t335 = 3
            ·rw [if_pos c23] at H
             have c23b0 : (t335 == 3) = true := beq_iff_eq.mpr c23
             have c23b1 : (t335 != 3) = false := bne_eq_false_iff_eq.mpr c23
             clear c23
             by_cases c24 : t341 = 2
             ·rw [if_pos c24] at H
              have c24b0 : (t341 == 2) = true := beq_iff_eq.mpr c24
              have c24b1 : (t341 != 2) = false := bne_eq_false_iff_eq.mpr c24
              clear c24
              replace H := Option.bind_eq_some_iff.mp H
              obtain ⟨t350, A250, H⟩ := H
              replace H : (some (t350 == 0)) = some r := H
              have A25 := Ax A250
              clear A250
              obtain rfl := Option.some.inj H
              go_enter Try.func11, Try.ntmps11
              try simp only [List.append_eq, List.cons_append, List.nil_append]
              go_wp2_with (first | ((with_reducible refine gate_callee (f := 7) rfl ?_); refine goesL_ (some 19) rfl rfl Try.func7 (by kernel_rfl) rfl #[.slice none 0 0, .agg #[.int .i64 3, .int .i64 7]] rfl gS ?_; (refine (links_Put.calls k _ _ ([] : List (S24)) 3 7 t310 t313 _ ?side1 ?side2 A1.out).mono ?_); (case side1 => exact Kd.C_nil _ _); (case side2 => exact Nat.le_refl _); rintro e w26 ⟨v311, rfl, ho0, hb⟩; refine ⟨_, rfl, ?_⟩; have HO312 := Ax (Kd.R_lower ho0 (below_size (bw0 HB.out))); replace HB := Bs0 HB hb; (try clear hb); (try clear ho0); obtain ⟨Ao27, co27, eo27⟩ := Kd.R_slice HO312.out; subst eo27) | ((with_reducible refine gate_callee (f := 7) rfl ?_); refine goesL_ (some 25) rfl rfl Try.func7 (by kernel_rfl) rfl #[.slice Ao27 t310.length co27, .agg #[.int .i64 1, .int .i64 9]] rfl gS ?_; (with_reducible refine (links_Put.calls k _ _ t310 1 9 t314 t317 _ ?side1 ?side2 A2.out).mono ?_); (case side1 => repeat (first | exact (Kd.R_reads' HO312.out).2.2 | (with_reducible refine Kd.C_alloc ?_ _) | (with_reducible refine Kd.C_drewN ?_ _) | (with_reducible refine Kd.C_drew ?_))); (case side2 => exact (Kd.R_reads' HO312.out).2.1); rintro e w28 ⟨v315, rfl, ho0, hb⟩; refine ⟨_, rfl, ?_⟩; have n0_ := Ax (Kd.R_elder' (by (with_reducible repeat (first | apply Kd.R_alloc | apply Kd.R_drewN | apply Kd.R_drew)); exact HO312.out) (Kd.R_base ho0) hb); have n1_ := Ax (Kd.R_lower (Kd.R_new' ho0 (Kd.R_lt (by (with_reducible repeat (first | apply Kd.R_alloc | apply Kd.R_drewN | apply Kd.R_drew)); exact HO312.out))) (below_size (bw0 HB.out))); have n2_ := Bs0 HB hb; clear HO312; clear HB; have HO312 := n0_; have HO316 := n1_; have HB := n2_; clear n0_ n1_ n2_; (try clear hb); (try clear ho0); obtain ⟨Ao29, co29, eo29⟩ := Kd.R_slice HO316.out; subst eo29) | ((with_reducible refine gate_callee (f := 7) rfl ?_); refine goesL_ (some 31) rfl rfl Try.func7 (by kernel_rfl) rfl #[.slice Ao29 t314.length co29, .agg #[.int .i64 4, .int .i64 7]] rfl gS ?_; (with_reducible refine (links_Put.calls k _ _ t314 4 7 t318 t321 _ ?side1 ?side2 A3.out).mono ?_); (case side1 => repeat (first | exact (Kd.R_reads' HO316.out).2.2 | (with_reducible refine Kd.C_alloc ?_ _) | (with_reducible refine Kd.C_drewN ?_ _) | (with_reducible refine Kd.C_drew ?_))); (case side2 => exact (Kd.R_reads' HO316.out).2.1); rintro e w30 ⟨v319, rfl, ho0, hb⟩; refine ⟨_, rfl, ?_⟩; have n0_ := Ax (Kd.R_elder' (by (with_reducible repeat (first | apply Kd.R_alloc | apply Kd.R_drewN | apply Kd.R_drew)); exact HO312.out) (Kd.R_base ho0) hb); have n1_ := Ax (Kd.R_elder' (by (with_reducible repeat (first | apply Kd.R_alloc | apply Kd.R_drewN | apply Kd.R_drew)); exact HO316.out) (Kd.R_base ho0) hb); have n2_ := Ax (Kd.R_lower (Kd.R_new' (Kd.R_new' ho0 (Kd.R_lt (by (with_reducible repeat (first | apply Kd.R_alloc | apply Kd.R_drewN | apply Kd.R_drew)); exact HO312.out))) (Kd.R_lt (by (with_reducible repeat (first | apply Kd.R_alloc | apply Kd.R_drewN | apply Kd.R_drew)); exact HO316.out))) (below_size (bw0 HB.out))); have n3_ := Bs0 HB hb; clear HO312; clear HO316; clear HB; have HO312 := n0_; have HO316 := n1_; have HO320 := n2_; have HB := n3_; clear n0_ n1_ n2_ n3_; (try clear hb); (try clear ho0); obtain ⟨Ao31, co31, eo31⟩ := Kd.R_slice HO320.out; subst eo31) | ((with_reducible refine gate_callee (f := 15) rfl ?_); refine goesL_ (some 36) rfl rfl Try.func15 (by kernel_rfl) rfl #[.slice Ao31 t318.length co31, .int .i64 3] rfl gS ?_; (with_reducible refine (links_Peer.calls k _ _ t318 3 t322 t323 _ ?side1 ?side2 A4.out).mono ?_); (case side1 => repeat (first | exact (Kd.R_reads' HO320.out).2.2 | (with_reducible refine Kd.C_alloc ?_ _) | (with_reducible refine Kd.C_drewN ?_ _) | (with_reducible refine Kd.C_drew ?_))); (case side2 => exact (Kd.R_reads' HO320.out).2.1); rintro e w32 ⟨rfl, hb⟩; refine ⟨_, rfl, ?_⟩; have n0_ := Ax (Kd.R_below (by (with_reducible repeat (first | apply Kd.R_alloc | apply Kd.R_drewN | apply Kd.R_drew)); exact HO312.out) hb); have n1_ := Ax (Kd.R_below (by (with_reducible repeat (first | apply Kd.R_alloc | apply Kd.R_drewN | apply Kd.R_drew)); exact HO316.out) hb); have n2_ := Ax (Kd.R_below (by (with_reducible repeat (first | apply Kd.R_alloc | apply Kd.R_drewN | apply Kd.R_drew)); exact HO320.out) hb); have n3_ := Bs0 HB hb; clear HO312; clear HO316; clear HO320; clear HB; have HO312 := n0_; have HO316 := n1_; have HO320 := n2_; have HB := n3_; clear n0_ n1_ n2_ n3_; (try clear hb)) | ((with_reducible refine gate_callee (f := 15) rfl ?_); refine goesL_ (some 41) rfl rfl Try.func15 (by kernel_rfl) rfl #[.slice Ao31 t318.length co31, .int .i64 2] rfl gS ?_; (with_reducible refine (links_Peer.calls k _ _ t318 2 t324 t325 _ ?side1 ?side2 A5.out).mono ?_); (case side1 => repeat (first | exact (Kd.R_reads' HO320.out).2.2 | (with_reducible refine Kd.C_alloc ?_ _) | (with_reducible refine Kd.C_drewN ?_ _) | (with_reducible refine Kd.C_drew ?_))); (case side2 => exact (Kd.R_reads' HO320.out).2.1); rintro e w33 ⟨rfl, hb⟩; refine ⟨_, rfl, ?_⟩; have n0_ := Ax (Kd.R_below (by (with_reducible repeat (first | apply Kd.R_alloc | apply Kd.R_drewN | apply Kd.R_drew)); exact HO312.out) hb); have n1_ := Ax (Kd.R_below (by (with_reducible repeat (first | apply Kd.R_alloc | apply Kd.R_drewN | apply Kd.R_drew)); exact HO316.out) hb); have n2_ := Ax (Kd.R_below (by (with_reducible repeat (first | apply Kd.R_alloc | apply Kd.R_drewN | apply Kd.R_drew)); exact HO320.out) hb); have n3_ := Bs0 HB hb; clear HO312; clear HO316; clear HO320; clear HB; have HO312 := n0_; have HO316 := n1_; have HO320 := n2_; have HB := n3_; clear n0_ n1_ n2_ n3_; (try clear hb)) | ((with_reducible refine gate_callee (f := 17) rfl ?_); refine goesL_ (some 46) rfl rfl Try.func17 (by kernel_rfl) rfl #[.slice Ao31 t318.length co31] rfl gS ?_; (with_reducible refine (links_Peers.calls k _ _ t318 t326 t327 _ ?side1 ?side2 A6.out).mono ?_); (case side1 => repeat (first | exact (Kd.R_reads' HO320.out).2.2 | (with_reducible refine Kd.C_alloc ?_ _) | (with_reducible refine Kd.C_drewN ?_ _) | (with_reducible refine Kd.C_drew ?_))); (case side2 => exact (Kd.R_reads' HO320.out).2.1); rintro e w34 ⟨v328, rfl, ho0, hb⟩; refine ⟨_, rfl, ?_⟩; have n0_ := Ax (Kd.R_below (by (with_reducible repeat (first | apply Kd.R_alloc | apply Kd.R_drewN | apply Kd.R_drew)); exact HO312.out) hb); have n1_ := Ax (Kd.R_below (by (with_reducible repeat (first | apply Kd.R_alloc | apply Kd.R_drewN | apply Kd.R_drew)); exact HO316.out) hb); have n2_ := Ax (Kd.R_below (by (with_reducible repeat (first | apply Kd.R_alloc | apply Kd.R_drewN | apply Kd.R_drew)); exact HO320.out) hb); have n3_ := Ax (Kd.R_lower ho0 (below_size (bw0 HB.out))); have n4_ := Bs0 HB hb; clear HO312; clear HO316; clear HO320; clear HB; have HO312 := n0_; have HO316 := n1_; have HO320 := n2_; have HO329 := n3_; have HB := n4_; clear n0_ n1_ n2_ n3_ n4_; (try clear hb); (try clear ho0)) | ((with_reducible refine gate_callee (f := 9) rfl ?_); refine goesL_ (some 51) rfl rfl Try.func9 (by kernel_rfl) rfl #[.slice Ao31 t318.length co31, .int .i64 1] rfl gS ?_; (with_reducible refine (links_Del.calls k _ _ t318 1 t330 t331 _ ?side1 ?side2 A7.out).mono ?_); (case side1 => repeat (first | exact (Kd.R_reads' HO320.out).2.2 | (with_reducible refine Kd.C_alloc ?_ _) | (with_reducible refine Kd.C_drewN ?_ _) | (with_reducible refine Kd.C_drew ?_))); (case side2 => exact (Kd.R_reads' HO320.out).2.1); rintro e w35 ⟨v332, rfl, ho0, hb⟩; refine ⟨_, rfl, ?_⟩; have n0_ := Ax (Kd.R_elder' (by (with_reducible repeat (first | apply Kd.R_alloc | apply Kd.R_drewN | apply Kd.R_drew)); exact HO312.out) (Kd.R_base ho0) hb); have n1_ := Ax (Kd.R_elder' (by (with_reducible repeat (first | apply Kd.R_alloc | apply Kd.R_drewN | apply Kd.R_drew)); exact HO316.out) (Kd.R_base ho0) hb); have n2_ := Ax (Kd.R_elder' (by (with_reducible repeat (first | apply Kd.R_alloc | apply Kd.R_drewN | apply Kd.R_drew)); exact HO320.out) (Kd.R_base ho0) hb); have n3_ := Ax (Kd.R_below (by (with_reducible repeat (first | apply Kd.R_alloc | apply Kd.R_drewN | apply Kd.R_drew)); exact HO329.out) hb); have n4_ := Ax (Kd.R_lower (Kd.R_new' (Kd.R_new' (Kd.R_new' ho0 (Kd.R_lt (by (with_reducible repeat (first | apply Kd.R_alloc | apply Kd.R_drewN | apply Kd.R_drew)); exact HO312.out))) (Kd.R_lt (by (with_reducible repeat (first | apply Kd.R_alloc | apply Kd.R_drewN | apply Kd.R_drew)); exact HO316.out))) (Kd.R_lt (by (with_reducible repeat (first | apply Kd.R_alloc | apply Kd.R_drewN | apply Kd.R_drew)); exact HO320.out))) (below_size (bw0 HB.out))); have n5_ := Bs0 HB hb; clear HO312; clear HO316; clear HO320; clear HO329; clear HB; have HO312 := n0_; have HO316 := n1_; have HO320 := n2_; have HO329 := n3_; have HO333 := n4_; have HB := n5_; clear n0_ n1_ n2_ n3_ n4_ n5_; (try clear hb); (try clear ho0); obtain ⟨Ao36, co36, eo36⟩ := Kd.R_slice HO333.out; subst eo36) | ((with_reducible refine gate_callee (f := 9) rfl ?_); refine goesL_ (some 56) rfl rfl Try.func9 (by kernel_rfl) rfl #[.slice Ao36 t330.length co36, .int .i64 1] rfl gS ?_; (with_reducible refine (links_Del.calls k _ _ t330 1 t334 t335 _ ?side1 ?side2 A8.out).mono ?_); (case side1 => repeat (first | exact (Kd.R_reads' HO333.out).2.2 | (with_reducible refine Kd.C_alloc ?_ _) | (with_reducible refine Kd.C_drewN ?_ _) | (with_reducible refine Kd.C_drew ?_))); (case side2 => exact (Kd.R_reads' HO333.out).2.1); rintro e w37 ⟨v336, rfl, ho0, hb⟩; refine ⟨_, rfl, ?_⟩; have n0_ := Ax (Kd.R_elder' (by (with_reducible repeat (first | apply Kd.R_alloc | apply Kd.R_drewN | apply Kd.R_drew)); exact HO312.out) (Kd.R_base ho0) hb); have n1_ := Ax (Kd.R_elder' (by (with_reducible repeat (first | apply Kd.R_alloc | apply Kd.R_drewN | apply Kd.R_drew)); exact HO316.out) (Kd.R_base ho0) hb); have n2_ := Ax (Kd.R_elder' (by (with_reducible repeat (first | apply Kd.R_alloc | apply Kd.R_drewN | apply Kd.R_drew)); exact HO320.out) (Kd.R_base ho0) hb); have n3_ := Ax (Kd.R_below (by (with_reducible repeat (first | apply Kd.R_alloc | apply Kd.R_drewN | apply Kd.R_drew)); exact HO329.out) hb); have n4_ := Ax (Kd.R_elder' (by (with_reducible repeat (first | apply Kd.R_alloc | apply Kd.R_drewN | apply Kd.R_drew)); exact HO333.out) (Kd.R_base ho0) hb); have n5_ := Ax (Kd.R_lower (Kd.R_new' (Kd.R_new' (Kd.R_new' (Kd.R_new' ho0 (Kd.R_lt (by (with_reducible repeat (first | apply Kd.R_alloc | apply Kd.R_drewN | apply Kd.R_drew)); exact HO312.out))) (Kd.R_lt (by (with_reducible repeat (first | apply Kd.R_alloc | apply Kd.R_drewN | apply Kd.R_drew)); exact HO316.out))) (Kd.R_lt (by (with_reducible repeat (first | apply Kd.R_alloc | apply Kd.R_drewN | apply Kd.R_drew)); exact HO320.out))) (Kd.R_lt (by (with_reducible repeat (first | apply Kd.R_alloc | apply Kd.R_drewN | apply Kd.R_drew)); exact HO333.out))) (below_size (bw0 HB.out))); have n6_ := Bs0 HB hb; clear HO312; clear HO316; clear HO320; clear HO329; clear HO333; clear HB; have HO312 := n0_; have HO316 := n1_; have HO320 := n2_; have HO329 := n3_; have HO333 := n4_; have HO337 := n5_; have HB := n6_; clear n0_ n1_ n2_ n3_ n4_ n5_ n6_; (try clear hb); (try clear ho0)) | ((with_reducible refine gate_callee (f := 7) rfl ?_); refine goesL_ (some 62) rfl rfl Try.func7 (by kernel_rfl) rfl #[.slice Ao31 t318.length co31, .agg #[.int .i64 (-1), .int .i64 0]] rfl gS ?_; (with_reducible refine (links_Put.calls k _ _ t318 (-1) 0 t338 t341 _ ?side1 ?side2 A9.out).mono ?_); (case side1 => repeat (first | exact (Kd.R_reads' HO320.out).2.2 | (with_reducible refine Kd.C_alloc ?_ _) | (with_reducible refine Kd.C_drewN ?_ _) | (with_reducible refine Kd.C_drew ?_))); (case side2 => exact (Kd.R_reads' HO320.out).2.1); rintro e w38 ⟨v339, rfl, ho0, hb⟩; refine ⟨_, rfl, ?_⟩; have n0_ := Ax (Kd.R_elder' (by (with_reducible repeat (first | apply Kd.R_alloc | apply Kd.R_drewN | apply Kd.R_drew)); exact HO312.out) (Kd.R_base ho0) hb); have n1_ := Ax (Kd.R_elder' (by (with_reducible repeat (first | apply Kd.R_alloc | apply Kd.R_drewN | apply Kd.R_drew)); exact HO316.out) (Kd.R_base ho0) hb); have n2_ := Ax (Kd.R_elder' (by (with_reducible repeat (first | apply Kd.R_alloc | apply Kd.R_drewN | apply Kd.R_drew)); exact HO320.out) (Kd.R_base ho0) hb); have n3_ := Ax (Kd.R_below (by (with_reducible repeat (first | apply Kd.R_alloc | apply Kd.R_drewN | apply Kd.R_drew)); exact HO329.out) hb); have n4_ := Ax (Kd.R_elder' (by (with_reducible repeat (first | apply Kd.R_alloc | apply Kd.R_drewN | apply Kd.R_drew)); exact HO333.out) (Kd.R_base ho0) hb); have n5_ := Ax (Kd.R_elder' (by (with_reducible repeat (first | apply Kd.R_alloc | apply Kd.R_drewN | apply Kd.R_drew)); exact HO337.out) (Kd.R_base ho0) hb); have n6_ := Ax (Kd.R_lower (Kd.R_new' (Kd.R_new' (Kd.R_new' (Kd.R_new' (Kd.R_new' ho0 (Kd.R_lt (by (with_reducible repeat (first | apply Kd.R_alloc | apply Kd.R_drewN | apply Kd.R_drew)); exact HO312.out))) (Kd.R_lt (by (with_reducible repeat (first | apply Kd.R_alloc | apply Kd.R_drewN | apply Kd.R_drew)); exact HO316.out))) (Kd.R_lt (by (with_reducible repeat (first | apply Kd.R_alloc | apply Kd.R_drewN | apply Kd.R_drew)); exact HO320.out))) (Kd.R_lt (by (with_reducible repeat (first | apply Kd.R_alloc | apply Kd.R_drewN | apply Kd.R_drew)); exact HO333.out))) (Kd.R_lt (by (with_reducible repeat (first | apply Kd.R_alloc | apply Kd.R_drewN | apply Kd.R_drew)); exact HO337.out))) (below_size (bw0 HB.out))); have n7_ := Bs0 HB hb; clear HO312; clear HO316; clear HO320; clear HO329; clear HO333; clear HO337; clear HB; have HO312 := n0_; have HO316 := n1_; have HO320 := n2_; have HO329 := n3_; have HO333 := n4_; have HO337 := n5_; have HO340 := n6_; have HB := n7_; clear n0_ n1_ n2_ n3_ n4_ n5_ n6_ n7_; (try clear hb); (try clear ho0)) | ((with_reducible refine gate_dst (N := 80) rfl ?_); refine R_litg k24 _ 24 ?hg (N := 80) ?hd (xs := ([(⟨1, 9⟩ : S24), (⟨3, 7⟩ : S24), (⟨4, 7⟩ : S24)] : List (S24))) (inner := [.int .i64 1, .int .i64 9, .int .i64 3, .int .i64 7, .int .i64 4, .int .i64 7]) (ok := fun _ => True) (okp := fun _ => True) ?hr ?hp (fun _ hk => hk) trivial (Below.refl _ _) (Nat.le_refl _) (by simp) ?_; (case hd => rfl); (case hg => first | exact Or.inl rfl | exact Or.inr rfl); (case hr => first | (go_simp; done) | (go_simp; rfl)); (case hp => exact (Reps.c2 (show Kd.M k24 _ _ _ (⟨1, 9⟩ : S24) [.int .i64 1, .int .i64 9] from (k24_mkM _ _ _ (⟨1, 9⟩ : S24) )) (Reps.c2 (show Kd.M k24 _ _ _ (⟨3, 7⟩ : S24) [.int .i64 3, .int .i64 7] from (k24_mkM _ _ _ (⟨3, 7⟩ : S24) )) (Reps.c2 (show Kd.M k24 _ _ _ (⟨4, 7⟩ : S24) [.int .i64 4, .int .i64 7] from (k24_mkM _ _ _ (⟨4, 7⟩ : S24) )) (Reps.none _ _))))); intro v343 w39 ho40 hb hg_ hnew_; clear hg_ hnew_; (first | rw [← Ny342.out] at ho40 | (simp only [Int.reduceToNat] at ho40; rw [← Ny342.out] at ho40)); have n0_ := Ax (Kd.R_elder' (by (with_reducible repeat (first | apply Kd.R_alloc | apply Kd.R_drewN | apply Kd.R_drew)); exact HO312.out) (Kd.R_base ho40) hb); have n1_ := Ax (Kd.R_elder' (by (with_reducible repeat (first | apply Kd.R_alloc | apply Kd.R_drewN | apply Kd.R_drew)); exact HO316.out) (Kd.R_base ho40) hb); have n2_ := Ax (Kd.R_elder' (by (with_reducible repeat (first | apply Kd.R_alloc | apply Kd.R_drewN | apply Kd.R_drew)); exact HO320.out) (Kd.R_base ho40) hb); have n3_ := Ax (Kd.R_below (by (with_reducible repeat (first | apply Kd.R_alloc | apply Kd.R_drewN | apply Kd.R_drew)); exact HO329.out) hb); have n4_ := Ax (Kd.R_elder' (by (with_reducible repeat (first | apply Kd.R_alloc | apply Kd.R_drewN | apply Kd.R_drew)); exact HO333.out) (Kd.R_base ho40) hb); have n5_ := Ax (Kd.R_elder' (by (with_reducible repeat (first | apply Kd.R_alloc | apply Kd.R_drewN | apply Kd.R_drew)); exact HO337.out) (Kd.R_base ho40) hb); have n6_ := Ax (Kd.R_elder' (by (with_reducible repeat (first | apply Kd.R_alloc | apply Kd.R_drewN | apply Kd.R_drew)); exact HO340.out) (Kd.R_base ho40) hb); have n7_ := Ax (Kd.R_lower (Kd.R_new' (Kd.R_new' (Kd.R_new' (Kd.R_new' (Kd.R_new' (Kd.R_new' ho40 (Kd.R_lt (by (with_reducible repeat (first | apply Kd.R_alloc | apply Kd.R_drewN | apply Kd.R_drew)); exact HO312.out))) (Kd.R_lt (by (with_reducible repeat (first | apply Kd.R_alloc | apply Kd.R_drewN | apply Kd.R_drew)); exact HO316.out))) (Kd.R_lt (by (with_reducible repeat (first | apply Kd.R_alloc | apply Kd.R_drewN | apply Kd.R_drew)); exact HO320.out))) (Kd.R_lt (by (with_reducible repeat (first | apply Kd.R_alloc | apply Kd.R_drewN | apply Kd.R_drew)); exact HO333.out))) (Kd.R_lt (by (with_reducible repeat (first | apply Kd.R_alloc | apply Kd.R_drewN | apply Kd.R_drew)); exact HO337.out))) (Kd.R_lt (by (with_reducible repeat (first | apply Kd.R_alloc | apply Kd.R_drewN | apply Kd.R_drew)); exact HO340.out))) (below_size (bw0 HB.out))); have n8_ := Bs0 HB hb; clear HO312; clear HO316; clear HO320; clear HO329; clear HO333; clear HO337; clear HO340; clear HB; have HO312 := n0_; have HO316 := n1_; have HO320 := n2_; have HO329 := n3_; have HO333 := n4_; have HO337 := n5_; have HO340 := n6_; have HO344 := n7_; have HB := n8_; clear n0_ n1_ n2_ n3_ n4_ n5_ n6_ n7_ n8_; clear hb ho40; obtain ⟨Ao41, co41, eo41⟩ := Kd.R_slice HO344.out; subst eo41) | (go_at_call 14; (with_reducible refine (spoorref16_Same.calls k _ _ t318 _ _ y342 true _ ?side1 ?side2 ?side3 ?side4 A13.out).mono ?_); (case side1 => repeat (first | exact (Kd.R_reads' HO320.out).2.2 | (with_reducible refine Kd.C_alloc ?_ _) | (with_reducible refine Kd.C_drewN ?_ _) | (with_reducible refine Kd.C_drew ?_))); (case side2 => exact (Kd.R_reads' HO320.out).2.1); (case side3 => repeat (first | exact (Kd.R_reads' HO344.out).2.2 | (with_reducible refine Kd.C_alloc ?_ _) | (with_reducible refine Kd.C_drewN ?_ _) | (with_reducible refine Kd.C_drew ?_))); (case side4 => exact (Kd.R_reads' HO344.out).2.1); rintro e w' ⟨rfl, ⟨nd, rfl⟩⟩) | ((with_reducible refine gate_dst (N := 97) rfl ?_); refine R_litg (Kd.int .i64) _ 3 ?hg (N := 97) ?hd (xs := ([7, 9] : List Int)) (inner := [.int .i64 7, .int .i64 9]) (ok := fun _ => True) (okp := fun _ => True) ?hr ?hp (fun _ hk => hk) trivial (Below.refl _ _) (Nat.le_refl _) (by simp) ?_; (case hd => rfl); (case hg => first | exact Or.inl rfl | exact Or.inr rfl); (case hr => first | (go_simp; done) | (go_simp; rfl)); (case hp => exact (Reps.one (show Kd.M (Kd.int .i64) _ _ _ 7 [.int .i64 7] from rfl) (Reps.one (show Kd.M (Kd.int .i64) _ _ _ 9 [.int .i64 9] from rfl) (Reps.none _ _)))); intro v347 w42 ho43 hb hg_ hnew_; clear hg_ hnew_; (first | rw [← Ny346.out] at ho43 | (simp only [Int.reduceToNat] at ho43; rw [← Ny346.out] at ho43)); have n0_ := Ax (Kd.R_below (by (with_reducible repeat (first | apply Kd.R_alloc | apply Kd.R_drewN | apply Kd.R_drew)); exact HO312.out) hb); have n1_ := Ax (Kd.R_below (by (with_reducible repeat (first | apply Kd.R_alloc | apply Kd.R_drewN | apply Kd.R_drew)); exact HO316.out) hb); have n2_ := Ax (Kd.R_below (by (with_reducible repeat (first | apply Kd.R_alloc | apply Kd.R_drewN | apply Kd.R_drew)); exact HO320.out) hb); have n3_ := Ax (Kd.R_elder' (by (with_reducible repeat (first | apply Kd.R_alloc | apply Kd.R_drewN | apply Kd.R_drew)); exact HO329.out) (Kd.R_base ho43) hb); have n4_ := Ax (Kd.R_below (by (with_reducible repeat (first | apply Kd.R_alloc | apply Kd.R_drewN | apply Kd.R_drew)); exact HO333.out) hb); have n5_ := Ax (Kd.R_below (by (with_reducible repeat (first | apply Kd.R_alloc | apply Kd.R_drewN | apply Kd.R_drew)); exact HO337.out) hb); have n6_ := Ax (Kd.R_below (by (with_reducible repeat (first | apply Kd.R_alloc | apply Kd.R_drewN | apply Kd.R_drew)); exact HO340.out) hb); have n7_ := Ax (Kd.R_below (by (with_reducible repeat (first | apply Kd.R_alloc | apply Kd.R_drewN | apply Kd.R_drew)); exact HO344.out) hb); have n8_ := Ax (Kd.R_lower (Kd.R_new' ho43 (Kd.R_lt (by (with_reducible repeat (first | apply Kd.R_alloc | apply Kd.R_drewN | apply Kd.R_drew)); exact HO329.out))) (below_size (bw0 HB.out))); have n9_ := Bs0 HB hb; clear HO312; clear HO316; clear HO320; clear HO329; clear HO333; clear HO337; clear HO340; clear HO344; clear HB; have HO312 := n0_; have HO316 := n1_; have HO320 := n2_; have HO329 := n3_; have HO333 := n4_; have HO337 := n5_; have HO340 := n6_; have HO344 := n7_; have HO348 := n8_; have HB := n9_; clear n0_ n1_ n2_ n3_ n4_ n5_ n6_ n7_ n8_ n9_; clear hb ho43; obtain ⟨Ao44, co44, eo44⟩ := Kd.R_slice HO329.out; subst eo44; obtain ⟨Ao45, co45, eo45⟩ := Kd.R_slice HO348.out; subst eo45) | (go_at_call 19; (with_reducible refine (spoorref16_Alike.calls k _ _ t326 _ _ y346 true _ ?side1 ?side2 ?side3 ?side4 A18.out).mono ?_); (case side1 => repeat (first | exact (Kd.R_reads' HO329.out).2.2 | (with_reducible refine Kd.C_alloc ?_ _) | (with_reducible refine Kd.C_drewN ?_ _) | (with_reducible refine Kd.C_drew ?_))); (case side2 => exact (Kd.R_reads' HO329.out).2.1); (case side3 => repeat (first | exact (Kd.R_reads' HO348.out).2.2 | (with_reducible refine Kd.C_alloc ?_ _) | (with_reducible refine Kd.C_drewN ?_ _) | (with_reducible refine Kd.C_drew ?_))); (case side4 => exact (Kd.R_reads' HO348.out).2.1); rintro e w' ⟨rfl, ⟨nd, rfl⟩⟩) | (go_at_call 12; (with_reducible refine (links_Check.calls k _ _ t318 t350 _ ?side1 ?side2 A25.out).mono ?_); (case side1 => repeat (first | exact (Kd.R_reads' HO320.out).2.2 | (with_reducible refine Kd.C_alloc ?_ _) | (with_reducible refine Kd.C_drewN ?_ _) | (with_reducible refine Kd.C_drew ?_))); (case side2 => exact (Kd.R_reads' HO320.out).2.1); rintro e w46 ⟨rfl, hb⟩; have n0_ := Ax (Kd.R_below (by (with_reducible repeat (first | apply Kd.R_alloc | apply Kd.R_drewN | apply Kd.R_drew)); exact HO312.out) hb); have n1_ := Ax (Kd.R_below (by (with_reducible repeat (first | apply Kd.R_alloc | apply Kd.R_drewN | apply Kd.R_drew)); exact HO316.out) hb); have n2_ := Ax (Kd.R_below (by (with_reducible repeat (first | apply Kd.R_alloc | apply Kd.R_drewN | apply Kd.R_drew)); exact HO320.out) hb); have n3_ := Ax (Kd.R_below (by (with_reducible repeat (first | apply Kd.R_alloc | apply Kd.R_drewN | apply Kd.R_drew)); exact HO329.out) hb); have n4_ := Ax (Kd.R_below (by (with_reducible repeat (first | apply Kd.R_alloc | apply Kd.R_drewN | apply Kd.R_drew)); exact HO333.out) hb); have n5_ := Ax (Kd.R_below (by (with_reducible repeat (first | apply Kd.R_alloc | apply Kd.R_drewN | apply Kd.R_drew)); exact HO337.out) hb); have n6_ := Ax (Kd.R_below (by (with_reducible repeat (first | apply Kd.R_alloc | apply Kd.R_drewN | apply Kd.R_drew)); exact HO340.out) hb); have n7_ := Ax (Kd.R_below (by (with_reducible repeat (first | apply Kd.R_alloc | apply Kd.R_drewN | apply Kd.R_drew)); exact HO344.out) hb); have n8_ := Ax (Kd.R_below (by (with_reducible repeat (first | apply Kd.R_alloc | apply Kd.R_drewN | apply Kd.R_drew)); exact HO348.out) hb); have n9_ := Bs0 HB hb; clear HO312; clear HO316; clear HO320; clear HO329; clear HO333; clear HO337; clear HO340; clear HO344; clear HO348; clear HB; have HO312 := n0_; have HO316 := n1_; have HO320 := n2_; have HO329 := n3_; have HO333 := n4_; have HO337 := n5_; have HO340 := n6_; have HO344 := n7_; have HO348 := n8_; have HB := n9_; clear n0_ n1_ n2_ n3_ n4_ n5_ n6_ n7_ n8_ n9_; (try clear hb)))
              go_ret
              exact ⟨eS, bw0 HB.out⟩
             ·rw [if_neg c24] at H
              exact absurd H (by simp)
            ·rw [if_neg c23] at H
             exact absurd H (by simp)
           ·rw [if_neg c22] at H
            exact absurd H (by simp)
          ·rw [if_neg c21] at H
           exact absurd H (by simp)
         ·rw [if_neg c20] at H
          exact absurd H (by simp)
        ·replace c19 := Bool.eq_false_iff.mpr c19
         subst c19
         have H1 : (none) = some r := by rw [if_neg (show ¬ (false = true) by decide)] at H; exact H
         clear H
         have H := H1
         clear H1
         exact absurd H (by simp)
       ·rw [if_neg c17] at H
        exact absurd H (by simp)
      ·rw [if_neg c16] at H
       exact absurd H (by simp)
     ·rw [if_neg c15] at H
      exact absurd H (by simp)
    ·replace c14 := Bool.eq_false_iff.mpr c14
     subst c14
     have H1 : (none) = some r := by rw [if_neg (show ¬ (false = true) by decide)] at H; exact H
     clear H
     have H := H1
     clear H1
     exact absurd H (by simp)
   ·rw [if_neg c12] at H
    exact absurd H (by simp)
  ·rw [if_neg c11] at H
   exact absurd H (by simp)
 ·rw [if_neg c10] at H
  exact absurd H (by simp)
def spoorlaw16_LinksChange.f (k : Nat) (l0 : List (S24)) (a1_0 : Int) (a1_1 : Int) (a2 : Int) : Option (Bool) := (links_Put.f k l0 a1_0 a1_1).bind fun bt352 => ((spoorref16_Put.f k l0 a1_0 a1_1).bind fun bt356 => ((links_Del.f k l0 a2).bind fun bt360 => ((spoorref16_Del.f k l0 a2).bind fun bt364 => ((spoorlaw16_lives.f k).bind fun t368 => (if t368 = true then ((links_Check.f k l0).bind fun t369 => ((spoorref16_Check.f k l0).bind fun t370 => (if t369 = t370 then ((spoorref16_Same.f k bt352.1 bt356.1).bind fun t371 => (if t371 = true then (if bt352.2 = bt356.2 then ((spoorref16_Same.f k bt360.1 bt364.1).bind fun t372 => (if t372 = true then (some (bt360.2 == bt364.2)) else (none))) else (none)) else (none))) else (none)))) else (none))))))
set_option maxHeartbeats 8000000 in
set_option maxRecDepth 100000 in
theorem spoorlaw16_LinksChange.calls (k : Nat) (A0 : Option Addr) (c0 : Nat) (l0 : List (S24)) (a1_0 : Int) (a1_1 : Int) (a2 : Int) (r : Bool) (w : World) (hr0 : Kd.C k24 w A0 l0.length l0) (hc0 : l0.length ≤ c0) (h : spoorlaw16_LinksChange.f k l0 a1_0 a1_1 a2 = some r) :
  Calls Try.prog 3 #[.slice A0 l0.length c0, .agg #[.int .i64 a1_0, .int .i64 a1_1], .int .i64 a2] w fun e w' => e = .returned (.bool r) ∧ Below w.heap.size w w' := by
 have hu24 := Try.underlying24
 have HR0 := Ax hr0
 have HC0 := Ax hc0
 clear hr0 hc0
 have HB := Ax (Below.refl w.heap.size w)
 have H : ((links_Put.f k l0 a1_0 a1_1).bind fun bt352 => ((spoorref16_Put.f k l0 a1_0 a1_1).bind fun bt356 => ((links_Del.f k l0 a2).bind fun bt360 => ((spoorref16_Del.f k l0 a2).bind fun bt364 => ((spoorlaw16_lives.f k).bind fun t368 => (if t368 = true then ((links_Check.f k l0).bind fun t369 => ((spoorref16_Check.f k l0).bind fun t370 => (if t369 = t370 then ((spoorref16_Same.f k bt352.1 bt356.1).bind fun t371 => (if t371 = true then (if bt352.2 = bt356.2 then ((spoorref16_Same.f k bt360.1 bt364.1).bind fun t372 => (if t372 = true then (some (bt360.2 == bt364.2)) else (none))) else (none)) else (none))) else (none)))) else (none))))))) = some r := h
 clear h
 replace H := Option.bind_eq_some_iff.mp H
 obtain ⟨⟨t352, t355⟩, A40, H⟩ := H
 replace H : ((spoorref16_Put.f k l0 a1_0 a1_1).bind fun bt356 => ((links_Del.f k l0 a2).bind fun bt360 => ((spoorref16_Del.f k l0 a2).bind fun bt364 => ((spoorlaw16_lives.f k).bind fun t368 => (if t368 = true then ((links_Check.f k l0).bind fun t369 => ((spoorref16_Check.f k l0).bind fun t370 => (if t369 = t370 then ((spoorref16_Same.f k t352 bt356.1).bind fun t371 => (if t371 = true then (if t355 = bt356.2 then ((spoorref16_Same.f k bt360.1 bt364.1).bind fun t372 => (if t372 = true then (some (bt360.2 == bt364.2)) else (none))) else (none)) else (none))) else (none)))) else (none)))))) = some r := H
 have A4 := Ax A40
 clear A40
 replace H := Option.bind_eq_some_iff.mp H
 obtain ⟨⟨t356, t359⟩, A50, H⟩ := H
 replace H : ((links_Del.f k l0 a2).bind fun bt360 => ((spoorref16_Del.f k l0 a2).bind fun bt364 => ((spoorlaw16_lives.f k).bind fun t368 => (if t368 = true then ((links_Check.f k l0).bind fun t369 => ((spoorref16_Check.f k l0).bind fun t370 => (if t369 = t370 then ((spoorref16_Same.f k t352 t356).bind fun t371 => (if t371 = true then (if t355 = t359 then ((spoorref16_Same.f k bt360.1 bt364.1).bind fun t372 => (if t372 = true then (some (bt360.2 == bt364.2)) else (none))) else (none)) else (none))) else (none)))) else (none))))) = some r := H
 have A5 := Ax A50
 clear A50
 replace H := Option.bind_eq_some_iff.mp H
 obtain ⟨⟨t360, t361⟩, A60, H⟩ := H
 replace H : ((spoorref16_Del.f k l0 a2).bind fun bt364 => ((spoorlaw16_lives.f k).bind fun t368 => (if t368 = true then ((links_Check.f k l0).bind fun t369 => ((spoorref16_Check.f k l0).bind fun t370 => (if t369 = t370 then ((spoorref16_Same.f k t352 t356).bind fun t371 => (if t371 = true then (if t355 = t359 then ((spoorref16_Same.f k t360 bt364.1).bind fun t372 => (if t372 = true then (some (t361 == bt364.2)) else (none))) else (none)) else (none))) else (none)))) else (none)))) = some r := H
 have A6 := Ax A60
 clear A60
 replace H := Option.bind_eq_some_iff.mp H
 obtain ⟨⟨t364, t365⟩, A70, H⟩ := H
 replace H : ((spoorlaw16_lives.f k).bind fun t368 => (if t368 = true then ((links_Check.f k l0).bind fun t369 => ((spoorref16_Check.f k l0).bind fun t370 => (if t369 = t370 then ((spoorref16_Same.f k t352 t356).bind fun t371 => (if t371 = true then (if t355 = t359 then ((spoorref16_Same.f k t360 t364).bind fun t372 => (if t372 = true then (some (t361 == t365)) else (none))) else (none)) else (none))) else (none)))) else (none))) = some r := H
 have A7 := Ax A70
 clear A70
 replace H := Option.bind_eq_some_iff.mp H
 obtain ⟨t368, A80, H⟩ := H
 replace H : (if t368 = true then ((links_Check.f k l0).bind fun t369 => ((spoorref16_Check.f k l0).bind fun t370 => (if t369 = t370 then ((spoorref16_Same.f k t352 t356).bind fun t371 => (if t371 = true then (if t355 = t359 then ((spoorref16_Same.f k t360 t364).bind fun t372 => (if t372 = true then (some (t361 == t365)) else (none))) else (none)) else (none))) else (none)))) else (none)) = some r := H
 have A8 := Ax A80
 clear A80
 by_cases c9 : t368 = true
 ·subst c9
  have H1 : ((links_Check.f k l0).bind fun t369 => ((spoorref16_Check.f k l0).bind fun t370 => (if t369 = t370 then ((spoorref16_Same.f k t352 t356).bind fun t371 => (if t371 = true then (if t355 = t359 then ((spoorref16_Same.f k t360 t364).bind fun t372 => (if t372 = true then (some (t361 == t365)) else (none))) else (none)) else (none))) else (none)))) = some r := by rw [if_pos rfl] at H; exact H
  clear H
  have H := H1
  clear H1
  replace H := Option.bind_eq_some_iff.mp H
  obtain ⟨t369, A100, H⟩ := H
  replace H : ((spoorref16_Check.f k l0).bind fun t370 => (if t369 = t370 then ((spoorref16_Same.f k t352 t356).bind fun t371 => (if t371 = true then (if t355 = t359 then ((spoorref16_Same.f k t360 t364).bind fun t372 => (if t372 = true then (some (t361 == t365)) else (none))) else (none)) else (none))) else (none))) = some r := H
  have A10 := Ax A100
  clear A100
  replace H := Option.bind_eq_some_iff.mp H
  obtain ⟨t370, A110, H⟩ := H
  replace H : (if t369 = t370 then ((spoorref16_Same.f k t352 t356).bind fun t371 => (if t371 = true then (if t355 = t359 then ((spoorref16_Same.f k t360 t364).bind fun t372 => (if t372 = true then (some (t361 == t365)) else (none))) else (none)) else (none))) else (none)) = some r := H
  have A11 := Ax A110
  clear A110
  by_cases c12 : t369 = t370
  ·rw [if_pos c12] at H
   have c12b0 : (t369 == t370) = true := beq_iff_eq.mpr c12
   have c12b1 : (t369 != t370) = false := bne_eq_false_iff_eq.mpr c12
   clear c12
   replace H := Option.bind_eq_some_iff.mp H
   obtain ⟨t371, A130, H⟩ := H
   replace H : (if t371 = true then (if t355 = t359 then ((spoorref16_Same.f k t360 t364).bind fun t372 => (if t372 = true then (some (t361 == t365)) else (none))) else (none)) else (none)) = some r := H
   have A13 := Ax A130
   clear A130
   by_cases c14 : t371 = true
   ·subst c14
    have H1 : (if t355 = t359 then ((spoorref16_Same.f k t360 t364).bind fun t372 => (if t372 = true then (some (t361 == t365)) else (none))) else (none)) = some r := by rw [if_pos rfl] at H; exact H
    clear H
    have H := H1
    clear H1
    by_cases c15 : t355 = t359
    ·rw [if_pos c15] at H
     have c15b0 : (t355 == t359) = true := beq_iff_eq.mpr c15
     have c15b1 : (t355 != t359) = false := bne_eq_false_iff_eq.mpr c15
     clear c15
     replace H := Option.bind_eq_some_iff.mp H
     obtain ⟨t372, A160, H⟩ := H
     replace H : (if t372 = true then (some (t361 == t365)) else (none)) = some r := H
     have A16 := Ax A160
     clear A160
     by_cases c17 : t372 = true
     ·subst c17
      have H1 : (some (t361 == t365)) = some r := by rw [if_pos rfl] at H; exact H
      clear H
      have H := H1
      clear H1
      obtain rfl := Option.some.inj H
      go_enter Try.func3, Try.ntmps3
      go_wp2_with (first | ((with_reducible refine gate_dst (N := 4) rfl ?_); refine box_event ?hg (N := 4) ?hd (cs := #[.int .i64 a1_0, .int .i64 a1_1]) (t := 24) ?hr ?_; (case hd => rfl); (case hg => rfl); (case hr => first | (go_simp; done) | (go_simp; rfl)); intro gb351 hg w18 hbox hb; have n0_ := Bs0 HB hb; have n1_ := Ax (hbox); have n2_ := Gw0 HB hg; have n3_ := Gw0 HB hg; clear HB; have HB := n0_; have BK351 := n1_; have GW351 := n2_; have GE351 := n3_; clear n0_ n1_ n2_ n3_; clear hb hbox hg; obtain ⟨hcz19_0, hcz19_1, hfz19_0, hfz19_1⟩ := cl2 BK351) | ((with_reducible refine gate_callee (f := 7) rfl ?_); refine goesL_ (some 18) rfl rfl Try.func7 (by kernel_rfl) rfl #[.slice A0 l0.length c0, .agg #[.int .i64 a1_0, .int .i64 a1_1]] rfl gS ?_; (with_reducible refine (links_Put.calls k _ _ l0 a1_0 a1_1 t352 t355 _ ?side1 ?side2 A4.out).mono ?_); (case side1 => repeat (first | exact (Kd.C_below HR0.out HB.out) | (with_reducible refine Kd.C_alloc ?_ _) | (with_reducible refine Kd.C_drewN ?_ _) | (with_reducible refine Kd.C_drew ?_))); (case side2 => exact HC0.out); rintro e w20 ⟨v353, rfl, ho0, hb⟩; refine ⟨_, rfl, ?_⟩; have HO354 := Ax (Kd.R_lower (Kd.R_newB ho0 (g := gb351) (o := .cells #[.int .i64 a1_0, .int .i64 a1_1] 24 (0, 0)) (bf0 BK351.out)) (below_size (bw1 HB.out GE351.out))); replace BK351 := Bx0 BK351 hb; replace HB := Bs1 HB hb GE351.out; (try clear hb); (try clear ho0); obtain ⟨hcz21_0, hcz21_1, hfz21_0, hfz21_1⟩ := cl2 BK351) | ((with_reducible refine gate_callee (f := 8) rfl ?_); refine goesL_ (some 24) rfl rfl Try.func8 (by kernel_rfl) rfl #[.slice A0 l0.length c0, .agg #[.int .i64 a1_0, .int .i64 a1_1]] rfl gS ?_; (with_reducible refine (spoorref16_Put.calls k _ _ l0 a1_0 a1_1 t356 t359 _ ?side1 ?side2 A5.out).mono ?_); (case side1 => repeat (first | exact (Kd.C_below HR0.out HB.out) | (with_reducible refine Kd.C_alloc ?_ _) | (with_reducible refine Kd.C_drewN ?_ _) | (with_reducible refine Kd.C_drew ?_))); (case side2 => exact HC0.out); rintro e w22 ⟨v357, rfl, ho0, hb⟩; refine ⟨_, rfl, ?_⟩; have n0_ := Ax (Kd.R_elder' (by (with_reducible repeat (first | apply Kd.R_alloc | apply Kd.R_drewN | apply Kd.R_drew)); exact HO354.out) (Kd.R_base ho0) hb); have n1_ := Ax (Kd.R_lower (Kd.R_newB (Kd.R_new' ho0 (Kd.R_lt (by (with_reducible repeat (first | apply Kd.R_alloc | apply Kd.R_drewN | apply Kd.R_drew)); exact HO354.out))) (g := gb351) (o := .cells #[.int .i64 a1_0, .int .i64 a1_1] 24 (0, 0)) (bf0 BK351.out)) (below_size (bw1 HB.out GE351.out))); have n2_ := Bx0 BK351 hb; have n3_ := Bs1 HB hb GE351.out; clear HO354; clear BK351; clear HB; have HO354 := n0_; have HO358 := n1_; have BK351 := n2_; have HB := n3_; clear n0_ n1_ n2_ n3_; (try clear hb); (try clear ho0)) | ((with_reducible refine gate_callee (f := 9) rfl ?_); refine goesL_ (some 30) rfl rfl Try.func9 (by kernel_rfl) rfl #[.slice A0 l0.length c0, .int .i64 a2] rfl gS ?_; (with_reducible refine (links_Del.calls k _ _ l0 a2 t360 t361 _ ?side1 ?side2 A6.out).mono ?_); (case side1 => repeat (first | exact (Kd.C_below HR0.out HB.out) | (with_reducible refine Kd.C_alloc ?_ _) | (with_reducible refine Kd.C_drewN ?_ _) | (with_reducible refine Kd.C_drew ?_))); (case side2 => exact HC0.out); rintro e w23 ⟨v362, rfl, ho0, hb⟩; refine ⟨_, rfl, ?_⟩; have n0_ := Ax (Kd.R_elder' (by (with_reducible repeat (first | apply Kd.R_alloc | apply Kd.R_drewN | apply Kd.R_drew)); exact HO354.out) (Kd.R_base ho0) hb); have n1_ := Ax (Kd.R_elder' (by (with_reducible repeat (first | apply Kd.R_alloc | apply Kd.R_drewN | apply Kd.R_drew)); exact HO358.out) (Kd.R_base ho0) hb); have n2_ := Ax (Kd.R_lower (Kd.R_newB (Kd.R_new' (Kd.R_new' ho0 (Kd.R_lt (by (with_reducible repeat (first | apply Kd.R_alloc | apply Kd.R_drewN | apply Kd.R_drew)); exact HO354.out))) (Kd.R_lt (by (with_reducible repeat (first | apply Kd.R_alloc | apply Kd.R_drewN | apply Kd.R_drew)); exact HO358.out))) (g := gb351) (o := .cells #[.int .i64 a1_0, .int .i64 a1_1] 24 (0, 0)) (bf0 BK351.out)) (below_size (bw1 HB.out GE351.out))); have n3_ := Bx0 BK351 hb; have n4_ := Bs1 HB hb GE351.out; clear HO354; clear HO358; clear BK351; clear HB; have HO354 := n0_; have HO358 := n1_; have HO363 := n2_; have BK351 := n3_; have HB := n4_; clear n0_ n1_ n2_ n3_ n4_; (try clear hb); (try clear ho0)) | ((with_reducible refine gate_callee (f := 10) rfl ?_); refine goesL_ (some 36) rfl rfl Try.func10 (by kernel_rfl) rfl #[.slice A0 l0.length c0, .int .i64 a2] rfl gS ?_; (with_reducible refine (spoorref16_Del.calls k _ _ l0 a2 t364 t365 _ ?side1 ?side2 A7.out).mono ?_); (case side1 => repeat (first | exact (Kd.C_below HR0.out HB.out) | (with_reducible refine Kd.C_alloc ?_ _) | (with_reducible refine Kd.C_drewN ?_ _) | (with_reducible refine Kd.C_drew ?_))); (case side2 => exact HC0.out); rintro e w24 ⟨v366, rfl, ho0, hb⟩; refine ⟨_, rfl, ?_⟩; have n0_ := Ax (Kd.R_elder' (by (with_reducible repeat (first | apply Kd.R_alloc | apply Kd.R_drewN | apply Kd.R_drew)); exact HO354.out) (Kd.R_base ho0) hb); have n1_ := Ax (Kd.R_elder' (by (with_reducible repeat (first | apply Kd.R_alloc | apply Kd.R_drewN | apply Kd.R_drew)); exact HO358.out) (Kd.R_base ho0) hb); have n2_ := Ax (Kd.R_elder' (by (with_reducible repeat (first | apply Kd.R_alloc | apply Kd.R_drewN | apply Kd.R_drew)); exact HO363.out) (Kd.R_base ho0) hb); have n3_ := Ax (Kd.R_lower (Kd.R_newB (Kd.R_new' (Kd.R_new' (Kd.R_new' ho0 (Kd.R_lt (by (with_reducible repeat (first | apply Kd.R_alloc | apply Kd.R_drewN | apply Kd.R_drew)); exact HO354.out))) (Kd.R_lt (by (with_reducible repeat (first | apply Kd.R_alloc | apply Kd.R_drewN | apply Kd.R_drew)); exact HO358.out))) (Kd.R_lt (by (with_reducible repeat (first | apply Kd.R_alloc | apply Kd.R_drewN | apply Kd.R_drew)); exact HO363.out))) (g := gb351) (o := .cells #[.int .i64 a1_0, .int .i64 a1_1] 24 (0, 0)) (bf0 BK351.out)) (below_size (bw1 HB.out GE351.out))); have n4_ := Bx0 BK351 hb; have n5_ := Bs1 HB hb GE351.out; clear HO354; clear HO358; clear HO363; clear BK351; clear HB; have HO354 := n0_; have HO358 := n1_; have HO363 := n2_; have HO367 := n3_; have BK351 := n4_; have HB := n5_; clear n0_ n1_ n2_ n3_ n4_ n5_; (try clear hb); (try clear ho0)) | ((with_reducible refine gate_callee (f := 11) rfl ?_); refine goesL_ (some 39) rfl rfl Try.func11 (by kernel_rfl) rfl #[] rfl gS ?_; (with_reducible refine (spoorlaw16_lives.calls k  true _ A8.out).mono ?_); rintro e w25 ⟨rfl, hb⟩; refine ⟨_, rfl, ?_⟩; have n0_ := Ax (Kd.R_below (by (with_reducible repeat (first | apply Kd.R_alloc | apply Kd.R_drewN | apply Kd.R_drew)); exact HO354.out) hb); have n1_ := Ax (Kd.R_below (by (with_reducible repeat (first | apply Kd.R_alloc | apply Kd.R_drewN | apply Kd.R_drew)); exact HO358.out) hb); have n2_ := Ax (Kd.R_below (by (with_reducible repeat (first | apply Kd.R_alloc | apply Kd.R_drewN | apply Kd.R_drew)); exact HO363.out) hb); have n3_ := Ax (Kd.R_below (by (with_reducible repeat (first | apply Kd.R_alloc | apply Kd.R_drewN | apply Kd.R_drew)); exact HO367.out) hb); have n4_ := Bx0 BK351 hb; have n5_ := Bs1 HB hb GE351.out; clear HO354; clear HO358; clear HO363; clear HO367; clear BK351; clear HB; have HO354 := n0_; have HO358 := n1_; have HO363 := n2_; have HO367 := n3_; have BK351 := n4_; have HB := n5_; clear n0_ n1_ n2_ n3_ n4_ n5_; (try clear hb)) | (go_at_call 12; (with_reducible refine (links_Check.calls k _ _ l0 t369 _ ?side1 ?side2 A10.out).mono ?_); (case side1 => repeat (first | exact (Kd.C_below HR0.out HB.out) | (with_reducible refine Kd.C_alloc ?_ _) | (with_reducible refine Kd.C_drewN ?_ _) | (with_reducible refine Kd.C_drew ?_))); (case side2 => exact HC0.out); rintro e w26 ⟨rfl, hb⟩; have n0_ := Ax (Kd.R_below (by (with_reducible repeat (first | apply Kd.R_alloc | apply Kd.R_drewN | apply Kd.R_drew)); exact HO354.out) hb); have n1_ := Ax (Kd.R_below (by (with_reducible repeat (first | apply Kd.R_alloc | apply Kd.R_drewN | apply Kd.R_drew)); exact HO358.out) hb); have n2_ := Ax (Kd.R_below (by (with_reducible repeat (first | apply Kd.R_alloc | apply Kd.R_drewN | apply Kd.R_drew)); exact HO363.out) hb); have n3_ := Ax (Kd.R_below (by (with_reducible repeat (first | apply Kd.R_alloc | apply Kd.R_drewN | apply Kd.R_drew)); exact HO367.out) hb); have n4_ := Bx0 BK351 hb; have n5_ := Bs1 HB hb GE351.out; clear HO354; clear HO358; clear HO363; clear HO367; clear BK351; clear HB; have HO354 := n0_; have HO358 := n1_; have HO363 := n2_; have HO367 := n3_; have BK351 := n4_; have HB := n5_; clear n0_ n1_ n2_ n3_ n4_ n5_; (try clear hb)) | (go_at_call 13; (with_reducible refine (spoorref16_Check.calls k _ _ l0 t370 _ ?side1 ?side2 A11.out).mono ?_); (case side1 => repeat (first | exact (Kd.C_below HR0.out HB.out) | (with_reducible refine Kd.C_alloc ?_ _) | (with_reducible refine Kd.C_drewN ?_ _) | (with_reducible refine Kd.C_drew ?_))); (case side2 => exact HC0.out); rintro e w27 ⟨rfl, hb⟩; have n0_ := Ax (Kd.R_below (by (with_reducible repeat (first | apply Kd.R_alloc | apply Kd.R_drewN | apply Kd.R_drew)); exact HO354.out) hb); have n1_ := Ax (Kd.R_below (by (with_reducible repeat (first | apply Kd.R_alloc | apply Kd.R_drewN | apply Kd.R_drew)); exact HO358.out) hb); have n2_ := Ax (Kd.R_below (by (with_reducible repeat (first | apply Kd.R_alloc | apply Kd.R_drewN | apply Kd.R_drew)); exact HO363.out) hb); have n3_ := Ax (Kd.R_below (by (with_reducible repeat (first | apply Kd.R_alloc | apply Kd.R_drewN | apply Kd.R_drew)); exact HO367.out) hb); have n4_ := Bx0 BK351 hb; have n5_ := Bs1 HB hb GE351.out; clear HO354; clear HO358; clear HO363; clear HO367; clear BK351; clear HB; have HO354 := n0_; have HO358 := n1_; have HO363 := n2_; have HO367 := n3_; have BK351 := n4_; have HB := n5_; clear n0_ n1_ n2_ n3_ n4_ n5_; (try clear hb); obtain ⟨Ao28, co28, eo28⟩ := Kd.R_slice HO354.out; subst eo28; obtain ⟨Ao29, co29, eo29⟩ := Kd.R_slice HO358.out; subst eo29) | (go_at_call 14; (with_reducible refine (spoorref16_Same.calls k _ _ t352 _ _ t356 true _ ?side1 ?side2 ?side3 ?side4 A13.out).mono ?_); (case side1 => repeat (first | exact (Kd.R_reads' HO354.out).2.2 | (with_reducible refine Kd.C_alloc ?_ _) | (with_reducible refine Kd.C_drewN ?_ _) | (with_reducible refine Kd.C_drew ?_))); (case side2 => exact (Kd.R_reads' HO354.out).2.1); (case side3 => repeat (first | exact (Kd.R_reads' HO358.out).2.2 | (with_reducible refine Kd.C_alloc ?_ _) | (with_reducible refine Kd.C_drewN ?_ _) | (with_reducible refine Kd.C_drew ?_))); (case side4 => exact (Kd.R_reads' HO358.out).2.1); rintro e w' ⟨rfl, ⟨nd, rfl⟩⟩; obtain ⟨Ao30, co30, eo30⟩ := Kd.R_slice HO363.out; subst eo30; obtain ⟨Ao31, co31, eo31⟩ := Kd.R_slice HO367.out; subst eo31) | (go_at_call 14; (with_reducible refine (spoorref16_Same.calls k _ _ t360 _ _ t364 true _ ?side1 ?side2 ?side3 ?side4 A16.out).mono ?_); (case side1 => repeat (first | exact (Kd.R_reads' HO363.out).2.2 | (with_reducible refine Kd.C_alloc ?_ _) | (with_reducible refine Kd.C_drewN ?_ _) | (with_reducible refine Kd.C_drew ?_))); (case side2 => exact (Kd.R_reads' HO363.out).2.1); (case side3 => repeat (first | exact (Kd.R_reads' HO367.out).2.2 | (with_reducible refine Kd.C_alloc ?_ _) | (with_reducible refine Kd.C_drewN ?_ _) | (with_reducible refine Kd.C_drew ?_))); (case side4 => exact (Kd.R_reads' HO367.out).2.1); rintro e w' ⟨rfl, ⟨nd, rfl⟩⟩))
      go_ret
      exact ⟨eS, bw1 HB.out GE351.out⟩
     ·replace c17 := Bool.eq_false_iff.mpr c17
      subst c17
      have H1 : (none) = some r := by rw [if_neg (show ¬ (false = true) by decide)] at H; exact H
      clear H
      have H := H1
      clear H1
      exact absurd H (by simp)
    ·rw [if_neg c15] at H
     exact absurd H (by simp)
   ·replace c14 := Bool.eq_false_iff.mpr c14
    subst c14
    have H1 : (none) = some r := by rw [if_neg (show ¬ (false = true) by decide)] at H; exact H
    clear H
    have H := H1
    clear H1
    exact absurd H (by simp)
  ·rw [if_neg c12] at H
   exact absurd H (by simp)
 ·replace c9 := Bool.eq_false_iff.mpr c9
  subst c9
  have H1 : (none) = some r := by rw [if_neg (show ¬ (false = true) by decide)] at H; exact H
  clear H
  have H := H1
  clear H1
  exact absurd H (by simp)
def spoorlaw16_LinksFound.j0 : Nat → List (S24) → List (S24) → Bool → Int → Int → Int → Int → Option (Bool)
 | 0, _, _, _, _, _, _, _ => none
 | k + 1, x0, x9, x122, x374000, x374001, x375000, x375001 => if x122 = true then (none) else ((links_Put.f k x9 x375000 x375001).bind fun bt396 => ((links_Put.f k x0 x375000 x375001).bind fun bt400 => ((links_Put.f k bt400.1 x374000 x374001).bind fun bt404 => (if x374000 = x375000 then (some true) else (if bt396.2 = 0 then (if bt400.2 = 0 then (if bt404.2 = 0 then ((spoorref16_Same.f k bt396.1 bt404.1).bind fun t408 => (some t408)) else (none)) else (some true)) else (some true))))))
def spoorlaw16_LinksFound.f (k : Nat) (l0 : List (S24)) (a1_0 : Int) (a1_1 : Int) (a2_0 : Int) (a2_1 : Int) (a3 : Int) : Option (Bool) := (spoorlaw16_lives.f k).bind fun t375 => (if t375 = true then ((links_Put.f k l0 a1_0 a1_1).bind fun bt376 => (if bt376.2 = 0 then ((links_Peer.f k bt376.1 a1_0).bind fun bt381 => ((links_Peer.f k l0 a3).bind fun bt383 => ((links_Peer.f k bt376.1 a3).bind fun bt385 => ((links_Peer.f k l0 a1_0).bind fun bt387 => ((links_Del.f k bt376.1 a1_0).bind fun bt389 => (if bt381.2 = 0 then (if bt381.1 = a1_1 then ((links_Check.f k bt376.1).bind fun t393 => (if t393 = 0 then (if a3 = a1_0 then (if bt389.2 = 0 then (if bt387.2 = 3 then ((spoorref16_Same.f k bt389.1 l0).bind fun t394 => (spoorlaw16_LinksFound.j0 k l0 bt376.1 (!t394) a1_0 a1_1 a2_0 a2_1)) else (spoorlaw16_LinksFound.j0 k l0 bt376.1 false a1_0 a1_1 a2_0 a2_1)) else (spoorlaw16_LinksFound.j0 k l0 bt376.1 true a1_0 a1_1 a2_0 a2_1)) else (if bt383.2 = bt385.2 then (if bt383.1 = bt385.1 then (if bt389.2 = 0 then (if bt387.2 = 3 then ((spoorref16_Same.f k bt389.1 l0).bind fun t395 => (spoorlaw16_LinksFound.j0 k l0 bt376.1 (!t395) a1_0 a1_1 a2_0 a2_1)) else (spoorlaw16_LinksFound.j0 k l0 bt376.1 false a1_0 a1_1 a2_0 a2_1)) else (spoorlaw16_LinksFound.j0 k l0 bt376.1 true a1_0 a1_1 a2_0 a2_1)) else (spoorlaw16_LinksFound.j0 k l0 bt376.1 true a1_0 a1_1 a2_0 a2_1)) else (spoorlaw16_LinksFound.j0 k l0 bt376.1 true a1_0 a1_1 a2_0 a2_1))) else (spoorlaw16_LinksFound.j0 k l0 bt376.1 true a1_0 a1_1 a2_0 a2_1))) else (spoorlaw16_LinksFound.j0 k l0 bt376.1 true a1_0 a1_1 a2_0 a2_1)) else (spoorlaw16_LinksFound.j0 k l0 bt376.1 true a1_0 a1_1 a2_0 a2_1))))))) else (if bt376.2 = 2 then (some true) else (if bt376.2 = 8 then ((spoorref16_Same.f k bt376.1 l0).bind fun t380 => (some t380)) else (none))))) else (none))
end Go.Proofs.Ytalkiicjdafhdaa.Q
end
section
namespace Go.Proofs.Ytalkiicjdafhdaa.Open
set_option linter.unusedVariables false
open Go.RowKit Go.WideShapes Go.Proofs.YtalkiicjdafhdaaW.PrintWords Go.Proofs.YtalkiicjdafhdaaW.PrintLast Go.Proofs.YtalkiicjdafhdaaW.PrintMore
open Go.Proofs.Ytalkiicjdafhdaa.Rows (uptoBulk uptoBulkAll)
def Opens {α : Type} (P : Program) (t : TypeId) (K : Kd α) (wf : α → Prop) (mu : α → Nat) : Prop :=
  ∀ {H : Type} (enc : TypeId × Value → H) (W : World) (spare : Nat → Bool) (held : Bool) (n : Nat) (cs : List Value) (x : DataW H × List MemPlace),
    DataW.trod enc P W 0 spare held n t cs = some x → ∃ a, K.K W a cs ∧ wf a ∧ mu a ≤ uptoBulk x.1
def wfInt (k : IntKind) (n : Int) : Prop := (Lit.int k n).wf = true
def wfAll {α : Type} (wf : α → Prop) (l : List α) : Prop := ∀ a ∈ l, wf a
def mu1 {α : Type} (_ : α) : Nat := 1
def muAll {α : Type} (mu : α → Nat) : List α → Nat
  | [] => 1
  | a :: l => mu a + muAll mu l
theorem wfAll_nil {α : Type} (wf : α → Prop) : wfAll wf [] := fun _ h => by cases h
theorem opens_int {P : Program} {t : TypeId} {k : IntKind} (hu : P.underlying t = some (.int k)) : Opens P t (Kd.int k) (wfInt k) mu1 := by
  intro H enc W spare held n cs x h
  obtain ⟨a, rfl, rfl, hw⟩ := DataW.trod_int hu h
  exact ⟨a, rfl, hw, by simp [mu1, uptoBulk]⟩
theorem opens_list {α H : Type} {P : Program} {e : TypeId} {K : Kd α} {wf : α → Prop} {mu : α → Nat} (he : Opens P e K wf mu) (enc : TypeId × Value → H) (W : World) (spare : Nat → Bool) (held : Bool) (n : Nat) (rd : Nat → Option (List Value)) :
    ∀ (elems : List (DataW H × List MemPlace)) (off : Nat), (∀ i, i < elems.length → (rd (off + i)).bind (DataW.trod enc P W 0 spare held n e) = elems[i]?) →
      ∃ l : List α, l.length = elems.length ∧ (∀ i a, l[i]? = some a → ∃ cs, rd (off + i) = some cs ∧ K.K W a cs) ∧ wfAll wf l ∧ muAll mu l ≤ uptoBulkAll (elems.map (·.1)) + 1
  | [], off, _ => ⟨[], rfl, (fun i a h => by simp at h), wfAll_nil _, by simp [muAll, uptoBulkAll]⟩
  | x :: elems, off, h => by
    have h0 := h 0 (by simp)
    simp only [Nat.add_zero, List.getElem?_cons_zero] at h0
    obtain ⟨cs, hc, ht⟩ := Option.bind_eq_some_iff.1 h0
    obtain ⟨a, hK, hw, hm⟩ := he enc W spare held n cs x ht
    obtain ⟨l, hl, hr, hwf, hmu⟩ := opens_list he enc W spare held n rd elems (off + 1) (fun i hi => by
      have := h (i + 1) (by simp; omega)
      rw [List.getElem?_cons_succ] at this
      rwa [show off + 1 + i = off + (i + 1) by omega])
    refine ⟨a :: l, by simp [hl], ?_, ?_, ?_⟩
    · intro i b hb
      cases i with
      | zero =>
        obtain rfl : a = b := by simpa using hb
        exact ⟨cs, hc, hK⟩
      | succ i =>
        rw [List.getElem?_cons_succ] at hb
        obtain ⟨cs', h1, h2⟩ := hr i b hb
        exact ⟨cs', by rwa [show off + (i + 1) = off + 1 + i by omega], h2⟩
    · intro b hb
      rcases List.mem_cons.1 hb with rfl | hb
      · exact hw
      · exact hwf b hb
    · simp only [muAll, List.map_cons, uptoBulkAll]
      omega
theorem cells_some {W : World} {ad : Addr} {n : Nat} {cs : List Value} (h : W.cells? 0 ad n = some cs) : cs.length = n ∧ ∀ i u, cs[i]? = some u → W.cell? (ad.add i) = some u := by
  obtain ⟨_, hl, hc⟩ := World.cells?_some h
  refine ⟨hl, fun i u hi => ?_⟩
  rw [hc i (by rw [← hl]; exact (List.getElem?_eq_some_iff.1 hi).1)]
  exact hi
theorem opens_slice {α : Type} {P : Program} {t e : TypeId} {K : Kd α} {wf : α → Prop} {mu : α → Nat} (he : Opens P e K wf mu) (hu : P.underlying t = some (.slice e)) (hsz : P.cellsOf e = K.sz) (e' : Nat) :
    Opens P t (Kd.slice e' K) (fun l => wfAll wf l ∧ l.length ≤ maxLen) (muAll mu) := by
  intro H enc W spare held n cs x h
  rcases DataW.trod_slice hu h with ⟨rfl, rfl⟩ | ⟨a, len, cap, elems, rest, m, rfl, rfl, rfl, _, hlc, hcm, hel, hrd, _, _⟩
  · exact ⟨[], ⟨none, 0, rfl, Nat.le_refl _, rfl, Nat.zero_le _, fun h => absurd h (Nat.lt_irrefl _)⟩, ⟨wfAll_nil _, by simp⟩, by simp [muAll, uptoBulk]⟩
  · obtain ⟨l, hl, hr, hw, hm⟩ := opens_list he enc W spare held m (fun i => W.cells? 0 (a.add (i * P.cellsOf e)) (P.cellsOf e)) elems 0 (fun i hi => by
      rw [Nat.zero_add]
      exact hrd i (by omega))
    refine ⟨l, ⟨some a, cap, by rw [hl, hel], by omega, ?_⟩, ⟨hw, by omega⟩, ?_⟩
    · refine ⟨rfl, by simp only [maxLen] at hcm; omega, fun _ => ⟨a, rfl, fun j p hp => ?_⟩⟩
      obtain ⟨cs, hc, hK⟩ := hr j p hp
      rw [Nat.zero_add] at hc
      obtain ⟨h1, h2⟩ := cells_some hc
      refine ⟨cs, by rw [h1, hsz], hK, fun i u hi => ?_⟩
      have := h2 i u hi
      rwa [Addr.add_add, hsz] at this
    · simp only [uptoBulk]
      omega
theorem sized_row {H : Type} {enc : TypeId × Value → H} {P : Program} {W : World} {base : Nat} {spare : Nat → Bool} {held : Bool} {t e : TypeId} {a : Option Addr} {len cap : Nat} {d : DataW H} {ps : List MemPlace} {ts : List TypeId} {ds : List (DataW H)} {j : Nat}
    (hsz : (DataW.weightsEach P ts ds).all (· ≤ reachBytes) = true) (ht : ts[j]? = some t) (hd : ds[j]? = some d) (hu : P.underlying t = some (.slice e)) {B : Nat} (hB : P.bytesOf e = B)
    (h : DataW.Trod enc P W base spare held t (.slice a len cap) d ps) : len * B ≤ 140737488351232 := by
  obtain ⟨fuel, hf⟩ := h
  rcases DataW.trod_slice hu hf with ⟨hcs, _⟩ | ⟨a', len', cap', elems, rest, m, _, hcs, hx, _, hlc, hcm, hel, hrd, _, _⟩
  · simp [Value.cells] at hcs
    obtain ⟨rfl, rfl, rfl⟩ := hcs
    simp
  · simp [Value.cells] at hcs
    obtain ⟨rfl, rfl, rfl⟩ := hcs
    obtain ⟨hx, _⟩ := Prod.mk.inj hx
    subst hx
    have z := sized_slice hsz ht hd hu
    rw [hB] at z
    exact Nat.le_trans (Nat.mul_le_mul_right _ (by simp only [List.length_map]; omega)) z
end Go.Proofs.Ytalkiicjdafhdaa.Open
end
section
namespace Go.Proofs.Ytalkiicjdafhdaa.Q
set_option linter.unusedVariables false
set_option linter.unusedSimpArgs false
open Go.RowKit Go.Proofs.YtalkiicjdafhdaaW.PrintWords Go.Proofs.YtalkiicjdafhdaaW.PrintLast Go.Proofs.YtalkiicjdafhdaaW.PrintMore Go.Proofs.Ytalkiicjdafhdaa.Open
open Go.Proofs.Ytalkiicjdafhdaa.Rows (uptoBulk uptoBulkAll)
def wf24 (x : S24) : Prop := (wfInt .i64) x.f0 ∧ (wfInt .i64) x.f1
def mu24 (x : S24) : Nat := mu1 x.f0 + mu1 x.f1 + 1
set_option maxRecDepth 100000 in
theorem opn24 : Opens Try.prog 24 k24 wf24 mu24 := by
  intro H enc W spare held n cs x h
  obtain ⟨xs, m, rfl, rfl, hl, hs, hf⟩ := DataW.trod_struct Try.underlying24 h
  have hc : cs.length = 2 := hl.trans (by kernel_rfl)
  have hx : xs.length = 2 := hs
  clear hl hs h
  match cs, hc, xs, hx, hf with
  | [c0, c1], _, [y0, y1], _, hf =>
    have e0 : Try.prog.cellsOf 3 = 1 := by kernel_rfl
    have e1 : Try.prog.cellsOf 3 = 1 := by kernel_rfl
    have g0 := hf 0 _ rfl
    simp only [List.getElem_toArray, List.getElem_cons_zero, List.getElem_cons_succ, e0] at g0
    obtain ⟨a0, K0, w0, m0⟩ := (opens_int Try.underlying3) enc W spare held m [c0] y0 g0
    have g1 := hf 1 _ rfl
    simp only [List.getElem_toArray, List.getElem_cons_zero, List.getElem_cons_succ, e1] at g1
    obtain ⟨a1, K1, w1, m1⟩ := (opens_int Try.underlying3) enc W spare held m [c1] y1 g1
    exact ⟨⟨a0, a1⟩, ⟨[c0], [c1], rfl, K0, K1⟩, ⟨w0, w1⟩, by simp only [mu24, List.map_cons, List.map_nil, uptoBulk, uptoBulkAll]; omega⟩
end Go.Proofs.Ytalkiicjdafhdaa.Q
end
section
namespace Go.Proofs.Ytalkiicjdafhdaa.Q
set_option linter.unusedVariables false
open Go.RowKit Go.Proofs.YtalkiicjdafhdaaW.PrintWords Go.Proofs.YtalkiicjdafhdaaW.PrintLast Go.Proofs.YtalkiicjdafhdaaW.PrintMore Go.Proofs.Ytalkiicjdafhdaa.Open
def spoorlaw16_LinksChange.Pure : Prop := ∀ (l0 : List (S24)) (a1_0 : Int) (a1_1 : Int) (a2 : Int), (fun l => wfAll wf24 l ∧ l.length ≤ maxLen) l0 → wf24 (⟨a1_0, a1_1⟩ : S24) → (wfInt .i64) a2 → l0.length * 16 ≤ 140737488351232 → ∃ k, spoorlaw16_LinksChange.f k l0 a1_0 a1_1 a2 = some true
end Go.Proofs.Ytalkiicjdafhdaa.Q
end
section
namespace Go.Proofs.Ytalkiicjdafhdaa.Base
set_option linter.unusedVariables false
open Go.RowKit Go.Proofs.YtalkiicjdafhdaaW.PrintWords Go.Proofs.YtalkiicjdafhdaaW.PrintLast Go.Proofs.YtalkiicjdafhdaaW.PrintMore
theorem Ev.pos {α : Type} {c : Prop} [Decidable c] {f g : Nat → Option α} {r : α} (h : c) (k : Ev f r) : Ev (fun n => if c then f n else g n) r := Ev.congr (fun _ => if_pos h) k
theorem Ev.neg {α : Type} {c : Prop} [Decidable c] {f g : Nat → Option α} {r : α} (h : ¬ c) (k : Ev g r) : Ev (fun n => if c then f n else g n) r := Ev.congr (fun _ => if_neg h) k
theorem Ev.const {α : Type} {o : Option α} {r : α} (h : o = some r) : Ev (fun _ => o) r := ⟨0, fun _ _ => h⟩
theorem Ev.succ {α : Type} {g : Nat → Option α} {r : α} (h : Ev (fun k => g (k + 1)) r) : Ev g r := Ev.step (fun _ => rfl) h
theorem Ev.to {α : Type} {g : Nat → Option α} {r q : α} (h : Ev g r) (e : r = q) : Ev g q := e ▸ h
theorem w64 {n : Int} (h0 : -9223372036854775808 ≤ n) (h1 : n ≤ 9223372036854775807) : wrap64 n = n := by unfold wrap64; omega
def Bytes (l : List Int) : Prop := ∀ x ∈ l, 0 ≤ x ∧ x < 256
theorem Bytes.nil : Bytes [] := fun _ h => by cases h
theorem Bytes.cons {x : Int} {l : List Int} (h0 : 0 ≤ x) (h1 : x < 256) (h : Bytes l) : Bytes (x :: l) := fun y hy => by
  rcases List.mem_cons.1 hy with rfl | hy
  · exact ⟨h0, h1⟩
  · exact h y hy
theorem Bytes.append {a b : List Int} (ha : Bytes a) (hb : Bytes b) : Bytes (a ++ b) := fun x hx => (List.mem_append.1 hx).elim (ha x) (hb x)
theorem Bytes.left {a b : List Int} (h : Bytes (a ++ b)) : Bytes a := fun x hx => h x (by simp [hx])
theorem Bytes.drop {l : List Int} (h : Bytes l) (n : Nat) : Bytes (l.drop n) := fun x hx => h x (List.mem_of_mem_drop hx)
theorem Bytes.take {l : List Int} (h : Bytes l) (n : Nat) : Bytes (l.take n) := fun x hx => h x (List.mem_of_mem_take hx)
theorem rd_drop {l : List Int} {i : Nat} {x : Int} {r : List Int} (h : l.drop i = x :: r) : rd l (i : Int) = x := by
  have h1 : l[i]? = some x := by
    have := List.getElem?_drop (xs := l) (i := i) (j := 0)
    rw [h] at this
    simpa using this.symm
  simp [rd, List.getD_eq_getElem?_getD, h1]
theorem drop_lt {l : List Int} {i : Nat} {x : Int} {r : List Int} (h : l.drop i = x :: r) : i < l.length := by
  rcases Nat.lt_or_ge i l.length with g | g
  · exact g
  · rw [List.drop_eq_nil_of_le g] at h; cases h
theorem drop_next {α : Type} {l : List α} {i : Nat} {x : α} {r : List α} (h : l.drop i = x :: r) : l.drop (i + 1) = r := by
  rw [← List.drop_drop, h]; rfl
theorem drop_nil_le {α : Type} {l : List α} {i : Nat} (h : l.drop i = []) : l.length ≤ i := List.drop_eq_nil_iff.1 h
end Go.Proofs.Ytalkiicjdafhdaa.Base
end
section
namespace Go.Proofs.Ytalkiicjdafhdaa.Lnk
set_option linter.unusedVariables false
open Go.RowKit Go.Proofs.Ytalkiicjdafhdaa.Q Go.Proofs.YtalkiicjdafhdaaW.PrintWords Go.Proofs.YtalkiicjdafhdaaW.PrintLast Go.Proofs.Ytalkiicjdafhdaa.Base
abbrev Lk := S24
def okR (x : Lk) : Prop := 0 ≤ x.f0 ∧ x.f0 ≤ 65536 ∧ 0 ≤ x.f1 ∧ x.f1 ≤ 1048576
instance (x : Lk) : Decidable (okR x) := inferInstanceAs (Decidable (0 ≤ x.f0 ∧ x.f0 ≤ 65536 ∧ 0 ≤ x.f1 ∧ x.f1 ≤ 1048576))
theorem right_eq (a b : Int) : links_right.f a b = some (decide (okR ⟨a, b⟩)) := by
  unfold links_right.f
  by_cases h1 : a ≥ 0
  · rw [if_pos h1]
    by_cases h2 : a ≤ 65536
    · rw [if_pos h2]
      by_cases h3 : b ≥ 0
      · rw [if_pos h3]
        by_cases h4 : b ≤ 1048576
        · rw [decide_eq_true h4, decide_eq_true (show okR ⟨a, b⟩ from ⟨h1, h2, h3, h4⟩)]
        · rw [decide_eq_false h4, decide_eq_false (show ¬ okR ⟨a, b⟩ from fun h => h4 h.2.2.2)]
      · rw [if_neg h3, decide_eq_false (show ¬ okR ⟨a, b⟩ from fun h => h3 h.2.2.1)]
    · rw [if_neg h2, decide_eq_false (show ¬ okR ⟨a, b⟩ from fun h => h2 h.2.1)]
  · rw [if_neg h1, decide_eq_false (show ¬ okR ⟨a, b⟩ from fun h => h1 h.1)]
theorem one_eq (a b : Int) : spoorref16_one.f a b = some (decide (okR ⟨a, b⟩)) := right_eq a b
def goB (p : Int) : List Lk → Bool
  | [] => true
  | x :: r => decide (okR x) && decide (p < x.f0) && goB x.f0 r
abbrev Srt (l : List Lk) : Prop := l.Pairwise (fun a b => a.f0 < b.f0)
theorem goB_iff : ∀ (l : List Lk) (p : Int), goB p l = true ↔ (∀ x ∈ l, okR x ∧ p < x.f0) ∧ Srt l
  | [], p => by simp [goB]
  | x :: r, p => by
    simp only [goB, Bool.and_eq_true, decide_eq_true_iff, List.forall_mem_cons, List.pairwise_cons, Srt]
    rw [goB_iff r x.f0]
    constructor
    · rintro ⟨⟨h1, h2⟩, h3, h4⟩
      exact ⟨⟨⟨h1, h2⟩, fun y hy => ⟨(h3 y hy).1, by have := (h3 y hy).2; omega⟩⟩, fun y hy => (h3 y hy).2, h4⟩
    · rintro ⟨⟨⟨h1, h2⟩, h3⟩, h4, h5⟩
      exact ⟨⟨h1, h2⟩, fun y hy => ⟨(h3 y hy).1, h4 y hy⟩, h5⟩
def okL (l : List Lk) : Prop := l.length ≤ 32 ∧ (∀ x ∈ l, okR x) ∧ Srt l
theorem okL_iff (l : List Lk) : (l.length ≤ 32 ∧ goB (-1) l = true) ↔ okL l := by
  unfold okL
  rw [goB_iff]
  exact ⟨fun h => ⟨h.1, fun x hx => (h.2.1 x hx).1, h.2.2⟩, fun h => ⟨h.1, fun x hx => ⟨h.2.1 x hx, by have := (h.2.1 x hx).1; omega⟩, h.2.2⟩⟩
instance (l : List Lk) : Decidable (okL l) := decidable_of_iff _ (okL_iff l)
theorem rdL {l : List Lk} {i : Nat} {x : Lk} {r : List Lk} (h : l.drop i = x :: r) : rd_T24 l (i : Int) = x := by
  have h1 : l[i]? = some x := by
    have := List.getElem?_drop (xs := l) (i := i) (j := 0)
    rw [h] at this
    simpa using this.symm
  simp [rd_T24, List.getD_eq_getElem?_getD, h1]
theorem rdLn {l : List Lk} {i : Nat} (h : i < l.length) : rd_T24 l (i : Int) = l[i] := by
  simp [rd_T24, List.getD_eq_getElem?_getD, h]
theorem ltL {α : Type} {l : List α} {i : Nat} {x : α} {r : List α} (h : l.drop i = x :: r) : i < l.length := by
  rcases Nat.lt_or_ge i l.length with g | g
  · exact g
  · rw [List.drop_eq_nil_of_le g] at h; cases h
theorem chk_l (l : List Lk) (hl : l.length ≤ 32) : ∀ (r : List Lk) (i : Nat) (p : Int), l.drop i = r → Ev (fun k => links_Check.l0 k p l (l.length : Int) (i : Int)) (if goB p r = true then 0 else 2)
  | [], i, p, hd => by
    have := drop_nil_le hd
    refine Ev.succ ?_
    simp only [links_Check.l0]
    exact Ev.neg (by omega) (Ev.const rfl)
  | x :: r, i, p, hd => by
    have hlt := ltL hd
    refine Ev.succ ?_
    simp only [links_Check.l0, rdL hd, right_eq]
    refine Ev.pos (by omega) (Ev.pos (by omega) (Ev.pos (by omega) (Ev.bind (a := decide (okR x)) (Ev.const rfl) ?_)))
    by_cases c : okR x
    · refine Ev.pos (decide_eq_true c) ?_
      by_cases d : x.f0 ≤ p
      · refine Ev.pos d (Ev.const ?_)
        rw [if_neg]
        simp only [goB, Bool.and_eq_true, decide_eq_true_iff]
        exact fun h => by omega
      · refine Ev.neg d ?_
        rw [w64 (n := (i : Int) + 1) (by omega) (by omega)]
        refine Ev.to (chk_l l hl r (i + 1) x.f0 (drop_next hd)) ?_
        have e : goB p (x :: r) = goB x.f0 r := by
          simp only [goB]
          rw [decide_eq_true c, decide_eq_true (show p < x.f0 by omega), Bool.true_and, Bool.true_and]
        rw [e]
    · refine Ev.neg (by simp [c]) (Ev.const ?_)
      rw [if_neg]
      simp only [goB, Bool.and_eq_true, decide_eq_true_iff]
      exact fun h => c h.1.1
def chkV (l : List Lk) : Int := if okL l then 0 else 2
theorem chk_ev (l : List Lk) : Ev (fun k => links_Check.f k l) (chkV l) := by
  simp only [links_Check.f]
  unfold chkV
  by_cases h : (l.length : Int) > 32
  · rw [if_neg (fun hh : okL l => by have := hh.1; omega)]
    exact Ev.pos h (Ev.const rfl)
  · refine Ev.neg h (Ev.to (chk_l l (by omega) l 0 (-1) rfl) ?_)
    by_cases g : goB (-1) l = true
    · rw [if_pos g, if_pos ((okL_iff l).1 ⟨by omega, g⟩)]
    · rw [if_neg g, if_neg (fun hh => g ((okL_iff l).2 hh).2)]
theorem rchk_l (l : List Lk) (hl : l.length ≤ 32) : ∀ (r : List Lk) (i : Nat) (p : Int), l.drop i = r → (p = if i = 0 then -1 else (rd_T24 l ((i - 1 : Nat) : Int)).f0) → Ev (fun k => spoorref16_Check.l0 k l l (l.length : Int) (i : Int)) (if goB p r = true then 0 else 2)
  | [], i, p, hd, hp => by
    have := drop_nil_le hd
    refine Ev.succ ?_
    simp only [spoorref16_Check.l0]
    exact Ev.neg (by omega) (Ev.const rfl)
  | x :: r, i, p, hd, hp => by
    have hlt := ltL hd
    refine Ev.succ ?_
    simp only [spoorref16_Check.l0, rdL hd, one_eq]
    refine Ev.pos (by omega) (Ev.pos (by omega) (Ev.pos (by omega) (Ev.bind (a := decide (okR x)) (Ev.const rfl) ?_)))
    have hn : Ev (fun k => spoorref16_Check.l0 k l l (l.length : Int) (wrap64 ((i : Int) + 1))) (if goB x.f0 r = true then 0 else 2) := by
      rw [w64 (n := (i : Int) + 1) (by omega) (by omega)]
      refine rchk_l l hl r (i + 1) x.f0 (drop_next hd) ?_
      rw [if_neg (Nat.succ_ne_zero i), Nat.add_sub_cancel, rdL hd]
    by_cases c : okR x
    · refine Ev.pos (decide_eq_true c) ?_
      have e : p < x.f0 → goB p (x :: r) = goB x.f0 r := fun h => by
        simp only [goB]
        rw [decide_eq_true c, decide_eq_true h, Bool.true_and, Bool.true_and]
      by_cases i0 : i = 0
      · refine Ev.neg (by omega) ?_
        rw [e (by rw [hp, if_pos i0]; have := c.1; omega)]
        exact hn
      · refine Ev.pos (by omega) ?_
        rw [if_neg i0] at hp
        have ew : wrap64 ((i : Int) - 1) = ((i - 1 : Nat) : Int) := by rw [w64 (by omega) (by omega)]; omega
        simp only [ew, ← hp]
        refine Ev.pos (by omega) (Ev.pos (by omega) ?_)
        by_cases d : p ≥ x.f0
        · refine Ev.pos d (Ev.const ?_)
          rw [if_neg]
          simp only [goB, Bool.and_eq_true, decide_eq_true_iff]
          exact fun h => by omega
        · refine Ev.neg d ?_
          rw [e (by omega)]
          exact hn
    · refine Ev.neg (by simp [c]) (Ev.const ?_)
      rw [if_neg]
      simp only [goB, Bool.and_eq_true, decide_eq_true_iff]
      exact fun h => c h.1.1
theorem rchk_ev (l : List Lk) : Ev (fun k => spoorref16_Check.f k l) (chkV l) := by
  simp only [spoorref16_Check.f]
  unfold chkV
  by_cases h : (l.length : Int) > 32
  · rw [if_neg (fun hh : okL l => by have := hh.1; omega)]
    exact Ev.pos h (Ev.const rfl)
  · refine Ev.neg h (Ev.to (rchk_l l (by omega) l 0 (-1) rfl rfl) ?_)
    by_cases g : goB (-1) l = true
    · rw [if_pos g, if_pos ((okL_iff l).1 ⟨by omega, g⟩)]
    · rw [if_neg g, if_neg (fun hh => g ((okL_iff l).2 hh).2)]
def loL (n : Int) (l : List Lk) : List Lk := l.filter (fun x => decide (x.f0 < n))
def eqL (n : Int) (l : List Lk) : List Lk := l.filter (fun x => decide (x.f0 = n))
def hiL (n : Int) (l : List Lk) : List Lk := l.filter (fun x => decide (n < x.f0))
theorem mem_lo {n : Int} {l : List Lk} {z : Lk} : z ∈ loL n l ↔ z ∈ l ∧ z.f0 < n := by unfold loL; rw [List.mem_filter, decide_eq_true_iff]
theorem mem_eq {n : Int} {l : List Lk} {z : Lk} : z ∈ eqL n l ↔ z ∈ l ∧ z.f0 = n := by unfold eqL; rw [List.mem_filter, decide_eq_true_iff]
theorem mem_hi {n : Int} {l : List Lk} {z : Lk} : z ∈ hiL n l ↔ z ∈ l ∧ n < z.f0 := by unfold hiL; rw [List.mem_filter, decide_eq_true_iff]
theorem split3 (n : Int) : ∀ (l : List Lk), Srt l → l = loL n l ++ (eqL n l ++ hiL n l) ∧ (eqL n l = [] ∨ ∃ y, eqL n l = [y])
  | [], _ => ⟨rfl, .inl rfl⟩
  | x :: r, h => by
    obtain ⟨h1, h2⟩ := List.pairwise_cons.1 h
    obtain ⟨i1, i2⟩ := split3 n r h2
    by_cases c : x.f0 < n
    · have a1 : loL n (x :: r) = x :: loL n r := List.filter_cons_of_pos (decide_eq_true c)
      have a2 : eqL n (x :: r) = eqL n r := List.filter_cons_of_neg (by simp; omega)
      have a3 : hiL n (x :: r) = hiL n r := List.filter_cons_of_neg (by simp; omega)
      rw [a1, a2, a3]
      exact ⟨by rw [List.cons_append, ← i1], i2⟩
    · have b1 : loL n r = [] := List.filter_eq_nil_iff.2 fun y hy => by have := h1 y hy; simp; omega
      have b2 : eqL n r = [] := List.filter_eq_nil_iff.2 fun y hy => by have := h1 y hy; simp; omega
      have a1 : loL n (x :: r) = loL n r := List.filter_cons_of_neg (by simp; omega)
      have b3 : hiL n r = r := List.filter_eq_self.2 fun y hy => by have := h1 y hy; simp; omega
      by_cases d : x.f0 = n
      · have a2 : eqL n (x :: r) = x :: eqL n r := List.filter_cons_of_pos (decide_eq_true d)
        have a3 : hiL n (x :: r) = hiL n r := List.filter_cons_of_neg (by simp; omega)
        rw [a1, a2, a3, b1, b2, b3]
        exact ⟨rfl, .inr ⟨x, rfl⟩⟩
      · have a2 : eqL n (x :: r) = eqL n r := List.filter_cons_of_neg (by simp; omega)
        have a3 : hiL n (x :: r) = x :: hiL n r := List.filter_cons_of_pos (by simp; omega)
        rw [a1, a2, a3, b1, b2, b3]
        exact ⟨rfl, .inl rfl⟩
theorem low_at {n : Int} {l : List Lk} (h : Srt l) {m : Nat} (hm : m < l.length) : (rd_T24 l (m : Int)).f0 < n ↔ m < (loL n l).length := by
  obtain ⟨h1, _⟩ := split3 n l h
  rw [rdLn hm]
  constructor
  · intro g
    rcases Nat.lt_or_ge m (loL n l).length with c | c
    · exact c
    · have : l[m] ∈ eqL n l ++ hiL n l := by
        rw [List.getElem_of_eq h1 hm, List.getElem_append_right c]
        exact List.getElem_mem _
      rcases List.mem_append.1 this with e | e
      · have := (mem_eq.1 e).2; omega
      · have := (mem_hi.1 e).2; omega
  · intro g
    have : l[m] ∈ loL n l := by
      rw [List.getElem_of_eq h1 hm, List.getElem_append_left g]
      exact List.getElem_mem _
    exact (mem_lo.1 this).2
theorem bs_lo {n : Int} {l : List Lk} (h : Srt l) : ∀ (k i j : Nat), i ≤ (loL n l).length → (loL n l).length ≤ j → j ≤ l.length → j - i ≤ k → bsF l n k i j = (loL n l).length
  | 0, i, j, h1, h2, h3, h4 => by
    simp only [bsF]
    omega
  | k + 1, i, j, h1, h2, h3, h4 => by
    simp only [bsF]
    by_cases c : i < j
    · rw [if_pos c]
      have hm : (i + j) / 2 < l.length := by omega
      have hl := low_at (n := n) h hm
      by_cases d : (rd_T24 l (((i + j) / 2 : Nat) : Int)).f0 < n
      · rw [if_pos d]
        have := hl.1 d
        exact bs_lo h k _ j (by omega) h2 h3 (by omega)
      · rw [if_neg d]
        have : ¬ (i + j) / 2 < (loL n l).length := fun g => d (hl.2 g)
        exact bs_lo h k i _ h1 (by omega) (by omega) (by omega)
    · rw [if_neg c]
      omega
theorem lo_len (n : Int) (l : List Lk) : (loL n l).length ≤ l.length := List.length_filter_le _ _
theorem hi_len (n : Int) (l : List Lk) : (hiL n l).length ≤ l.length := List.length_filter_le _ _
theorem bs_is {l : List Lk} (h : Srt l) (n : Int) : bsF l n l.length 0 l.length = (loL n l).length :=
  bs_lo h l.length 0 l.length (Nat.zero_le _) (lo_len n l) (Nat.le_refl _) (Nat.le_of_eq (Nat.sub_zero _))
theorem fnd_is {l : List Lk} (h : Srt l) (n : Int) : ((loL n l).length < l.length ∧ (rd_T24 l (((loL n l).length : Nat) : Int)).f0 = n) ↔ eqL n l ≠ [] := by
  obtain ⟨h1, h2⟩ := split3 n l h
  constructor
  · rintro ⟨g1, g2⟩ e
    rw [rdLn g1] at g2
    have : l[(loL n l).length] ∈ eqL n l := mem_eq.2 ⟨List.getElem_mem _, g2⟩
    rw [e] at this
    cases this
  · intro e
    rcases h2 with h2 | ⟨y, hy⟩
    · exact absurd h2 e
    · have hl : l.drop (loL n l).length = y :: hiL n l := by
        have e2 : ∀ (A C : List Lk), (A ++ ([y] ++ C)).drop A.length = y :: C := fun A C => by simp
        have e3 := e2 (loL n l) (hiL n l)
        rw [← hy, ← h1] at e3
        exact e3
      refine ⟨ltL hl, ?_⟩
      rw [rdL hl]
      exact (mem_eq.1 (show y ∈ eqL n l by rw [hy]; exact List.mem_singleton.2 rfl)).2
def putW (l : List Lk) (x : Lk) : List Lk × Int :=
  if okL l ∧ okR x then (if eqL x.f0 l = [] ∧ l.length = 32 then (l, 8) else (loL x.f0 l ++ x :: hiL x.f0 l, 0)) else ([], 2)
def delW (l : List Lk) (n : Int) : List Lk × Int := if okL l then (loL n l ++ hiL n l, if eqL n l = [] then 3 else 0) else ([], 2)
def peerW (l : List Lk) (n : Int) : Int × Int := if okL l then ((eqL n l).headD ⟨0, 0⟩).f1 |> (fun p => if eqL n l = [] then (0, 3) else (p, 0)) else (0, 2)
theorem lohi {l : List Lk} (h : Srt l) {n : Int} (e : eqL n l = []) : loL n l ++ hiL n l = l := by
  have := (split3 n l h).1
  rw [e, List.nil_append] at this
  exact this.symm
theorem take_lo {l : List Lk} (h : Srt l) (n : Int) : l.take (loL n l).length = loL n l := by
  have e2 : ∀ (A C : List Lk), (A ++ C).take A.length = A := fun A C => by simp
  have e3 := e2 (loL n l) (eqL n l ++ hiL n l)
  rw [← (split3 n l h).1] at e3
  exact e3
theorem drop_lo {l : List Lk} (h : Srt l) (n : Int) : l.drop (loL n l).length = eqL n l ++ hiL n l := by
  have e2 : ∀ (A C : List Lk), (A ++ C).drop A.length = C := fun A C => by simp
  have e3 := e2 (loL n l) (eqL n l ++ hiL n l)
  rw [← (split3 n l h).1] at e3
  exact e3
theorem putL_is {l : List Lk} (h : Srt l) (x : Lk) : putL l x = if eqL x.f0 l = [] ∧ l.length = 32 then (l, 8) else (loL x.f0 l ++ x :: hiL x.f0 l, 0) := by
  unfold putL
  rw [bs_is h]
  by_cases c : eqL x.f0 l = []
  · rw [if_neg (fun g => (fnd_is h x.f0).1 g c)]
    by_cases d : l.length = 32
    · rw [if_pos d, if_pos ⟨c, d⟩]
    · rw [if_neg d, if_neg (fun g => d g.2), take_lo h, drop_lo h, c, List.nil_append]
  · rw [if_pos ((fnd_is h x.f0).2 c), if_neg (fun g => c g.1)]
    obtain ⟨h1, h2⟩ := split3 x.f0 l h
    rcases h2 with h2 | ⟨y, hy⟩
    · exact absurd h2 c
    · have e2 : ∀ (A C : List Lk), (A ++ ([y] ++ C)).set A.length x = A ++ x :: C := fun A C => by simp
      have e3 := e2 (loL x.f0 l) (hiL x.f0 l)
      rw [← hy, ← h1] at e3
      rw [e3]
theorem delL_is {l : List Lk} (h : Srt l) (n : Int) : delL l n = (loL n l ++ hiL n l, if eqL n l = [] then 3 else 0) := by
  unfold delL
  rw [bs_is h]
  by_cases c : eqL n l = []
  · rw [if_neg (fun g => (fnd_is h n).1 g c), if_pos c, lohi h c]
  · rw [if_pos ((fnd_is h n).2 c), if_neg c]
    obtain ⟨h1, h2⟩ := split3 n l h
    rcases h2 with h2 | ⟨y, hy⟩
    · exact absurd h2 c
    · have e2 : l.drop ((loL n l).length + 1) = hiL n l := drop_next (x := y) (by rw [drop_lo h, hy]; rfl)
      rw [take_lo h, e2]
theorem putW_no {l : List Lk} {x : Lk} (h : ¬ (okL l ∧ okR x)) : putW l x = ([], 2) := if_neg h
theorem putW_at {l : List Lk} {x : Lk} (h : okL l ∧ okR x) : putW l x = if eqL x.f0 l = [] ∧ l.length = 32 then (l, 8) else (loL x.f0 l ++ x :: hiL x.f0 l, 0) := if_pos h
theorem putW_full {l : List Lk} {x : Lk} (h : okL l ∧ okR x) (g : eqL x.f0 l = [] ∧ l.length = 32) : putW l x = (l, 8) := (putW_at h).trans (if_pos g)
theorem putW_in {l : List Lk} {x : Lk} (h : okL l ∧ okR x) (g : ¬ (eqL x.f0 l = [] ∧ l.length = 32)) : putW l x = (loL x.f0 l ++ x :: hiL x.f0 l, 0) := (putW_at h).trans (if_neg g)
theorem put_ev (l : List Lk) (x : Lk) : Ev (fun k => links_Put.f k l x.f0 x.f1) (putW l x) := by
  simp only [links_Put.f, right_eq]
  refine Ev.bind (chk_ev l) ?_
  unfold chkV
  by_cases c : okL l
  · rw [if_pos c]
    refine Ev.neg (by decide) (Ev.bind (a := decide (okR x)) (Ev.const rfl) ?_)
    by_cases d : okR x
    · refine Ev.pos (decide_eq_true d) (Ev.const ?_)
      rw [putW_at ⟨c, d⟩, ← putL_is c.2.2]
    · rw [putW_no (fun g => d g.2)]
      exact Ev.neg (by simp [d]) (Ev.const rfl)
  · rw [if_neg c, putW_no (fun g => c g.1)]
    exact Ev.pos (by decide) (Ev.const rfl)
theorem del_ev (l : List Lk) (n : Int) : Ev (fun k => links_Del.f k l n) (delW l n) := by
  simp only [links_Del.f]
  refine Ev.bind (chk_ev l) ?_
  unfold chkV delW
  by_cases c : okL l
  · rw [if_pos c, if_pos c, ← delL_is c.2.2]
    exact Ev.neg (by decide) (Ev.const rfl)
  · rw [if_neg c, if_neg c]
    exact Ev.pos (by decide) (Ev.const rfl)
theorem find_ev {l : List Lk} (h : okL l) (n : Int) : Ev (fun k => links_find.f k l n) (((loL n l).length : Nat), !(eqL n l).isEmpty) := by
  simp only [links_find.f, bs_is h.2.2]
  refine Ev.pos (by have := h.1; omega) (Ev.const ?_)
  congr 2
  by_cases c : eqL n l = []
  · rw [decide_eq_false (fun g => (fnd_is h.2.2 n).1 g c), c]
    rfl
  · rw [decide_eq_true ((fnd_is h.2.2 n).2 c)]
    cases g : eqL n l with
    | nil => exact absurd g c
    | cons => rfl
theorem peer_ev (l : List Lk) (n : Int) : Ev (fun k => links_Peer.f k l n) (peerW l n) := by
  simp only [links_Peer.f]
  refine Ev.bind (chk_ev l) ?_
  unfold chkV peerW
  by_cases c : okL l
  · rw [if_pos c, if_pos c]
    refine Ev.pos rfl (Ev.bind (find_ev c n) ?_)
    by_cases d : eqL n l = []
    · simp only [d]
      exact Ev.neg (by decide) (Ev.const rfl)
    · obtain ⟨y, hy⟩ := (split3 n l c.2.2).2.resolve_left d
      have g := ((fnd_is c.2.2 n).2 d).1
      have hd : l.drop (loL n l).length = y :: hiL n l := by rw [drop_lo c.2.2, hy]; rfl
      refine Ev.pos (by rw [hy]; rfl) (Ev.pos (by simp) (Ev.pos (by simp; exact g) (Ev.const ?_)))
      rw [rdL hd, hy]
      rfl
  · rw [if_neg c, if_neg c]
    exact Ev.neg (by decide) (Ev.const rfl)
theorem parts_l (n : Int) (l : List Lk) (hl : l.length ≤ 32) : ∀ (r : List Lk) (i : Nat) (a b c : List Lk), l.drop i = r → a.length ≤ i → b.length ≤ i → c.length ≤ i →
    Ev (fun k => spoorref16_parts.l0 k n a b c l (l.length : Int) (i : Int)) (a ++ loL n r, b ++ eqL n r, c ++ hiL n r)
  | [], i, a, b, c, hd, ha, hb, hc => by
    have := drop_nil_le hd
    refine Ev.succ ?_
    simp only [spoorref16_parts.l0]
    refine Ev.neg (by omega) (Ev.const ?_)
    simp [loL, eqL, hiL]
  | x :: r, i, a, b, c, hd, ha, hb, hc => by
    have hlt := ltL hd
    refine Ev.succ ?_
    simp only [spoorref16_parts.l0, rdL hd]
    rw [w64 (n := (i : Int) + 1) (by omega) (by omega)]
    refine Ev.pos (by omega) (Ev.pos (by omega) (Ev.pos (by omega) ?_))
    by_cases g : x.f0 < n
    · have a1 : loL n (x :: r) = x :: loL n r := List.filter_cons_of_pos (decide_eq_true g)
      have a2 : eqL n (x :: r) = eqL n r := List.filter_cons_of_neg (by simp; omega)
      have a3 : hiL n (x :: r) = hiL n r := List.filter_cons_of_neg (by simp; omega)
      refine Ev.pos g (Ev.pos (by omega) (Ev.to (parts_l n l hl r (i + 1) (a ++ [x]) b c (drop_next hd) (by simp; omega) (by omega) (by omega)) ?_))
      rw [a1, a2, a3, List.append_assoc]
      rfl
    · have a1 : loL n (x :: r) = loL n r := List.filter_cons_of_neg (by simp; omega)
      refine Ev.neg g ?_
      by_cases d : x.f0 = n
      · have a2 : eqL n (x :: r) = x :: eqL n r := List.filter_cons_of_pos (decide_eq_true d)
        have a3 : hiL n (x :: r) = hiL n r := List.filter_cons_of_neg (by simp; omega)
        refine Ev.pos d (Ev.pos (by omega) (Ev.to (parts_l n l hl r (i + 1) a (b ++ [x]) c (drop_next hd) (by omega) (by simp; omega) (by omega)) ?_))
        rw [a1, a2, a3, List.append_assoc]
        rfl
      · have a2 : eqL n (x :: r) = eqL n r := List.filter_cons_of_neg (by simp; omega)
        have a3 : hiL n (x :: r) = x :: hiL n r := List.filter_cons_of_pos (by simp; omega)
        refine Ev.neg d (Ev.pos (by omega) (Ev.to (parts_l n l hl r (i + 1) a b (c ++ [x]) (drop_next hd) (by omega) (by omega) (by simp; omega)) ?_))
        rw [a1, a2, a3, List.append_assoc]
        rfl
theorem parts_ev (n : Int) {l : List Lk} (hl : l.length ≤ 32) : Ev (fun k => spoorref16_parts.f k l n) (loL n l, eqL n l, hiL n l) := by
  simp only [spoorref16_parts.f]
  exact Ev.to (parts_l n l hl l 0 [] [] [] rfl (Nat.le_refl _) (Nat.le_refl _) (Nat.le_refl _)) rfl
theorem rput_ev (l : List Lk) (x : Lk) : Ev (fun k => spoorref16_Put.f k l x.f0 x.f1) (putW l x) := by
  simp only [spoorref16_Put.f, one_eq]
  refine Ev.bind (rchk_ev l) ?_
  unfold chkV
  by_cases c : okL l
  · have hc := c.1
    have h1 := lo_len x.f0 l
    have h2 := hi_len x.f0 l
    rw [if_pos c]
    refine Ev.pos rfl (Ev.bind (a := decide (okR x)) (Ev.const rfl) ?_)
    refine Ev.succ ?_
    simp only [spoorref16_Put.j0]
    by_cases d : okR x
    · refine Ev.neg (by simp [d]) (Ev.bind (parts_ev x.f0 hc) ?_)
      by_cases e : eqL x.f0 l = []
      · refine Ev.pos (by rw [e]; rfl) ?_
        by_cases f : l.length = 32
        · rw [putW_full ⟨c, d⟩ ⟨e, f⟩]
          refine Ev.pos (by omega) (Ev.bind (a := ([] : List Lk)) (Ev.const rfl) (Ev.pos (by simp; omega) (Ev.const rfl)))
        · rw [putW_in ⟨c, d⟩ (fun g => f g.2)]
          refine Ev.neg (by omega) (Ev.pos (by simp only []; omega) (Ev.bind (a := loL x.f0 l ++ [x]) (Ev.const rfl) (Ev.pos (by simp only [List.length_append, List.length_singleton]; omega) (Ev.const ?_))))
          rw [List.append_assoc]
          rfl
      · rw [putW_in ⟨c, d⟩ (fun g => e g.1)]
        refine Ev.neg (by simp only []; exact fun g => e (List.length_eq_zero_iff.1 (by omega))) (Ev.pos (by simp only []; omega) (Ev.bind (a := loL x.f0 l ++ [x]) (Ev.const rfl) (Ev.pos (by simp only [List.length_append, List.length_singleton]; omega) (Ev.const ?_))))
        rw [List.append_assoc]
        rfl
    · rw [putW_no (fun g => d g.2)]
      exact Ev.pos (by simp [d]) (Ev.const rfl)
  · rw [if_neg c, putW_no (fun g => c g.1)]
    refine Ev.neg (by decide) (Ev.succ ?_)
    simp only [spoorref16_Put.j0]
    exact Ev.pos trivial (Ev.const rfl)
theorem rdel_ev (l : List Lk) (n : Int) : Ev (fun k => spoorref16_Del.f k l n) (delW l n) := by
  simp only [spoorref16_Del.f]
  refine Ev.bind (rchk_ev l) ?_
  unfold chkV delW
  by_cases c : okL l
  · have hc := c.1
    have h1 := lo_len n l
    have h2 := hi_len n l
    rw [if_pos c, if_pos c]
    refine Ev.pos rfl (Ev.bind (parts_ev n hc) ?_)
    by_cases e : eqL n l = []
    · rw [if_pos e]
      exact Ev.pos (by rw [e]; rfl) (Ev.pos (by simp only []; omega) (Ev.const rfl))
    · rw [if_neg e]
      exact Ev.neg (by simp only []; exact fun g => e (List.length_eq_zero_iff.1 (by omega))) (Ev.pos (by simp only []; omega) (Ev.const rfl))
  · rw [if_neg c, if_neg c]
    exact Ev.neg (by decide) (Ev.const rfl)
theorem same_l (l : List Lk) (hl : l.length ≤ 64) : ∀ (r : List Lk) (i : Nat), l.drop i = r → Ev (fun k => spoorref16_Same.l0 k l l (l.length : Int) (i : Int)) true
  | [], i, hd => by
    have := drop_nil_le hd
    refine Ev.succ ?_
    simp only [spoorref16_Same.l0]
    exact Ev.neg (by omega) (Ev.const rfl)
  | x :: r, i, hd => by
    have hlt := ltL hd
    refine Ev.succ ?_
    simp only [spoorref16_Same.l0, rdL hd]
    rw [w64 (n := (i : Int) + 1) (by omega) (by omega)]
    exact Ev.pos (by omega) (Ev.pos (by omega) (Ev.pos (by omega) (Ev.pos (by omega) (Ev.neg (by simp) (same_l l hl r (i + 1) (drop_next hd))))))
theorem same_ev {l : List Lk} (hl : l.length ≤ 64) : Ev (fun k => spoorref16_Same.f k l l) true := by
  simp only [spoorref16_Same.f]
  exact Ev.pos trivial (same_l l hl l 0 rfl)
theorem same_of {a b : List Lk} (hl : b.length ≤ 64) (e : a = b) : Ev (fun k => spoorref16_Same.f k a b) true := by
  subst e
  exact same_ev hl
theorem putW_len (l : List Lk) (x : Lk) : (putW l x).1.length ≤ 64 := by
  unfold putW
  by_cases c : okL l ∧ okR x
  · rw [if_pos c]
    have := c.1.1
    have h1 := lo_len x.f0 l
    have h2 := hi_len x.f0 l
    split
    · simp only []; omega
    · simp only [List.length_append, List.length_cons]
      have h3 := congrArg List.length (split3 x.f0 l c.1.2.2).1
      simp only [List.length_append] at h3
      omega
  · rw [if_neg c]
    simp
theorem delW_len (l : List Lk) (n : Int) : (delW l n).1.length ≤ 64 := by
  unfold delW
  by_cases c : okL l
  · rw [if_pos c]
    have := c.1
    have h3 := congrArg List.length (split3 n l c.2.2).1
    simp only [List.length_append] at h3 ⊢
    omega
  · rw [if_neg c]
    simp
theorem putW_ok {l : List Lk} {x : Lk} (h : (putW l x).2 = 0) : okL l ∧ okR x ∧ (putW l x).1 = loL x.f0 l ++ x :: hiL x.f0 l ∧ (eqL x.f0 l = [] → l.length < 32) := by
  unfold putW at h ⊢
  by_cases c : okL l ∧ okR x
  · rw [if_pos c] at h ⊢
    by_cases d : eqL x.f0 l = [] ∧ l.length = 32
    · rw [if_pos d] at h
      exact absurd h (by simp)
    · rw [if_neg d]
      have := c.1.1
      exact ⟨c.1, c.2, rfl, fun e => by rcases Nat.lt_or_ge l.length 32 with g | g; exact g; exact absurd ⟨e, by omega⟩ d⟩
  · rw [if_neg c] at h
    exact absurd h (by simp)
theorem mem_put {l : List Lk} {x z : Lk} : z ∈ loL x.f0 l ++ x :: hiL x.f0 l ↔ z = x ∨ (z ∈ l ∧ z.f0 ≠ x.f0) := by
  rw [List.mem_append, List.mem_cons, mem_lo, mem_hi]
  constructor
  · rintro (h | h | h)
    · exact .inr ⟨h.1, by omega⟩
    · exact .inl h
    · exact .inr ⟨h.1, by omega⟩
  · rintro (h | h)
    · exact .inr (.inl h)
    · rcases Int.lt_or_gt_of_ne h.2 with g | g
      · exact .inl ⟨h.1, g⟩
      · exact .inr (.inr ⟨h.1, g⟩)
theorem srt_put {l : List Lk} (h : Srt l) (x : Lk) : Srt (loL x.f0 l ++ x :: hiL x.f0 l) := by
  refine List.pairwise_append.2 ⟨h.sublist List.filter_sublist, List.pairwise_cons.2 ⟨fun y hy => (mem_hi.1 hy).2, h.sublist List.filter_sublist⟩, fun a ha b hb => ?_⟩
  have h1 := (mem_lo.1 ha).2
  rcases List.mem_cons.1 hb with e | e
  · rw [e]; exact h1
  · have := (mem_hi.1 e).2; omega
theorem putW_okL {l : List Lk} {x : Lk} (h : (putW l x).2 = 0) : okL (putW l x).1 := by
  obtain ⟨h1, h2, h3, h4⟩ := putW_ok h
  rw [h3]
  refine ⟨?_, fun z hz => ?_, srt_put h1.2.2 x⟩
  · have g := congrArg List.length (split3 x.f0 l h1.2.2).1
    simp only [List.length_append, List.length_cons] at g ⊢
    have := h1.1
    by_cases e : eqL x.f0 l = []
    · have := h4 e
      omega
    · have : (eqL x.f0 l).length ≠ 0 := fun q => e (List.length_eq_zero_iff.1 q)
      omega
  · rcases mem_put.1 hz with e | e
    · rw [e]; exact h2
    · exact h1.2.1 z e.1
theorem srt_ext : ∀ {a b : List Lk}, Srt a → Srt b → (∀ z, z ∈ a ↔ z ∈ b) → a = b
  | [], [], _, _, _ => rfl
  | [], y :: b, _, _, h => by have := (h y).2 (by simp); cases this
  | x :: a, [], _, _, h => by have := (h x).1 (by simp); cases this
  | x :: a, y :: b, ha, hb, h => by
    obtain ⟨a1, a2⟩ := List.pairwise_cons.1 ha
    obtain ⟨b1, b2⟩ := List.pairwise_cons.1 hb
    have e : x = y := by
      rcases List.mem_cons.1 ((h x).1 (by simp)) with e | e
      · exact e
      · rcases List.mem_cons.1 ((h y).2 (by simp)) with f | f
        · exact f.symm
        · have := b1 x e
          have := a1 y f
          omega
    subst e
    refine congrArg (x :: ·) (srt_ext a2 b2 fun z => ?_)
    constructor
    · intro g
      rcases List.mem_cons.1 ((h z).1 (List.mem_cons_of_mem _ g)) with e | e
      · have := a1 z g
        rw [e] at this
        omega
      · exact e
    · intro g
      rcases List.mem_cons.1 ((h z).2 (List.mem_cons_of_mem _ g)) with e | e
      · have := b1 z g
        rw [e] at this
        omega
      · exact e
theorem eq_one {l : List Lk} (h : Srt l) {x : Lk} (hx : x ∈ l) : eqL x.f0 l = [x] := by
  have g : x ∈ eqL x.f0 l := mem_eq.2 ⟨hx, rfl⟩
  rcases (split3 x.f0 l h).2 with e | ⟨y, e⟩
  · rw [e] at g; cases g
  · rw [e] at g ⊢
    rw [List.mem_singleton.1 g]
theorem peer_of {l : List Lk} (h : okL l) {x : Lk} (hx : x ∈ l) : peerW l x.f0 = (x.f1, 0) := by
  unfold peerW
  rw [if_pos h, eq_one h.2.2 hx]
  rfl
end Go.Proofs.Ytalkiicjdafhdaa.Lnk
end
section
namespace Go.Proofs.Ytalkiicjdafhdaa.Pure
set_option linter.unusedVariables false
open Go.RowKit Go.Proofs.Ytalkiicjdafhdaa.Q Go.Proofs.YtalkiicjdafhdaaW.PrintWords Go.Proofs.YtalkiicjdafhdaaW.PrintLast Go.Proofs.Ytalkiicjdafhdaa.Base Go.Proofs.Ytalkiicjdafhdaa.Lnk
theorem lives16_ev1 : Ev spoorlaw16_lives.f true := Ev.of spoorlaw16_lives.mono (k := 200) (by decide +kernel)
theorem LinksChange : spoorlaw16_LinksChange.Pure := by
  intro l a b n h0 h1 h2 hB
  clear h0 h1 h2 hB
  refine Ev.rounds (g := fun k => spoorlaw16_LinksChange.f k l a b n) (r := true) ?_
  simp only [spoorlaw16_LinksChange.f]
  refine Ev.bind (put_ev l ⟨a, b⟩) (Ev.bind (rput_ev l ⟨a, b⟩) (Ev.bind (del_ev l n) (Ev.bind (rdel_ev l n) (Ev.bind lives16_ev1 (Ev.pos rfl (Ev.bind (chk_ev l) (Ev.bind (rchk_ev l) (Ev.pos rfl ?_))))))))
  refine Ev.bind (same_ev (putW_len l ⟨a, b⟩)) (Ev.pos rfl (Ev.pos rfl (Ev.bind (same_ev (delW_len l n)) (Ev.pos rfl (Ev.const ?_)))))
  simp
end Go.Proofs.Ytalkiicjdafhdaa.Pure
end
section
namespace Go.Proofs.Ytalkiicjdafhdaa.linksChange
open Go.ChangeShapes Go.WideShapes Go.ChangeAt Go.RowKit Go.Proofs.Ytalkiicjdafhdaa.Open Go.Proofs.Ytalkiicjdafhdaa.Q
open Go.ChangeMaps (open_string shut_string)
set_option linter.unusedVariables false
theorem own : ownKnob Try.prog.godebug = none := by kernel_rfl
theorem laidOut : laidOutB Try.prog = true := by kernel_rfl
set_option maxRecDepth 100000 in
theorem contract (H : Type) (enc : TypeId × Value → H) (W : World) (base : Nat) (args : Array Value) (ds gs : List (DataW H)) (before : List MemPlace)
    (hval : ∀ (j : Nat) t v, Try.f3.params[j]? = some t → args[j]? = some v → Value.okWide Try.prog W .any base t v)
    (hW : DataW.Whole enc Try.prog Try.f3.params.toList Rows.linksChangeSpec.vars false W args.toList ds gs before) (hsz0 : (DataW.weightsEach Try.prog (Try.f3.params.toList ++ Rows.linksChangeSpec.plain.varTypes Try.prog) (ds ++ gs)).all (· ≤ reachBytes) = true) :
    Calls Try.prog 3 args W fun e W' => ∃ v, e = .returned v ∧ Rows.linksChangeSpec.post enc Try.prog Try.f3 false true false false W args v W' := by
  have hW' := hW
  obtain ⟨p, q, hA0, hV, rfl, hfz, hnd⟩ := hW
  have hA : DataW.TrodAll enc Try.prog W 0 (fun _ => true) true Try.f3.params.toList args.toList ds p := hA0
  have hsz : (DataW.weightsEach Try.prog (Try.f3.params.toList ++ Rows.linksChangeSpec.plain.varTypes Try.prog) (ds ++ gs)).all (· ≤ reachBytes) = true := hsz0
  rw [Try.params3] at hA hval hsz
  obtain ⟨v0, vs0, d0, ds0, p0, q0, hargs, rfl, rfl, h0, r0⟩ := trodAll_cons hA
  obtain ⟨v1, vs1, d1, ds1, p1, q1, rfl, rfl, rfl, h1, r1⟩ := trodAll_cons r0
  obtain ⟨v2, vs2, d2, ds2, p2, q2, rfl, rfl, rfl, h2, r2⟩ := trodAll_cons r1
  obtain ⟨rfl, rfl, rfl⟩ := trodAll_nil r2
  obtain rfl : args = #[v0, v1, v2] := by cases args; simp_all
  obtain ⟨rfl, rfl⟩ := trodVars_none hV
  have k0 := h0
  have lt0 : ∀ x ∈ p0, x.block < W.heap.size := by obtain ⟨m, hm⟩ := k0; exact DataW.trod_lt m _ _ _ hm
  obtain ⟨fu0, hf0⟩ := h0
  obtain ⟨b0, K0, o0, u0⟩ := (opens_slice opn24 Try.underlying22 (by kernel_rfl) 24) enc W _ _ _ _ _ hf0
  obtain ⟨A0, c0, z0, lc0, C0⟩ := K0
  obtain rfl : v0 = .slice A0 b0.length c0 := by obtain ⟨x, y, z, rfl⟩ := okWide_slice Try.underlying22 (hval 0 22 v0 rfl rfl); exact (List.cons.inj (show [Value.slice x y z] = [Value.slice A0 b0.length c0] from z0)).1
  have k1 := h1
  have lt1 : ∀ x ∈ p1, x.block < W.heap.size := by obtain ⟨m, hm⟩ := k1; exact DataW.trod_lt m _ _ _ hm
  obtain ⟨fu1, hf1⟩ := h1
  obtain ⟨b1, K1, o1, u1⟩ := opn24 enc W _ _ _ _ _ hf1
  have z1 := k24_open K1
  obtain rfl : v1 = .agg #[.int .i64 b1.f0, .int .i64 b1.f1] := by obtain ⟨x, rfl, _⟩ := okWide_struct Try.underlying24 (hval 1 24 v1 rfl rfl); exact congrArg Value.agg (Array.toList_inj.mp (show x.toList = [.int .i64 b1.f0, .int .i64 b1.f1] from z1))
  have k2 := h2
  have lt2 : ∀ x ∈ p2, x.block < W.heap.size := by obtain ⟨m, hm⟩ := k2; exact DataW.trod_lt m _ _ _ hm
  obtain ⟨fu2, hf2⟩ := h2
  obtain ⟨b2, K2, o2, u2⟩ := (opens_int Try.underlying3) enc W _ _ _ _ _ hf2
  obtain rfl : v2 = .int .i64 b2 := by obtain ⟨x, rfl⟩ := okWide_int Try.underlying3 (hval 2 3 v2 rfl rfl); exact (List.cons.inj (show [Value.int .i64 x] = [Value.int .i64 b2] from K2)).1
  have sz0 : b0.length * 16 ≤ 140737488351232 := sized_row hsz (j := 0) (t := 22) rfl rfl Try.underlying22 (by kernel_rfl) k0
  obtain ⟨k, h⟩ := Pure.LinksChange b0 b1.f0 b1.f1 b2 o0 o1 o2 sz0
  refine (spoorlaw16_LinksChange.calls k A0 c0 b0 b1.f0 b1.f1 b2 true W C0 lc0 h).mono fun e W' ⟨he, hd⟩ => ?_
  have bel := hd
  subst he
  exact ⟨_, rfl, _, _, _, [], _, [], hW', trodAll_mk1 (shut_bool Try.underlying4 _), (trodAll_cons_mk (Below.trod laidOut (by kernel_rfl) (of_decide_eq_true (by kernel_rfl)) k0 bel lt0) (trodAll_cons_mk (Below.trod laidOut (by kernel_rfl) (of_decide_eq_true (by kernel_rfl)) k1 bel lt1) (trodAll_cons_mk (Below.trod laidOut (by kernel_rfl) (of_decide_eq_true (by kernel_rfl)) k2 bel lt2) trodAll_mk0))), rfl, bel.frame _, fun h => by cases h⟩
set_option maxRecDepth 100000 in
theorem lifted (os : Os) (started : os.Started) (H : Type) (enc : TypeId × Value → H) :
    ReturnsInHanded {} Try.checked os 3 .any (Rows.linksChangeSpec.pre6 enc Try.prog Try.f3 Rows.linksChangeRow.domain false) (Rows.linksChangeSpec.post enc Try.prog Try.f3 false true false false) := by
  refine returnsInHanded_of_change_sized (C := Try.checked) own started (by kernel_rfl) Try.func3
    (ChangeSpec.witness6 (enc := enc) (C := Try.checked) false ⟨#[], #[.slice none 0 0, .agg #[.int .i64 0, .int .i64 0], .int .i64 0], []⟩ 8 (by kernel_rfl) (by kernel_rfl) (by kernel_rfl) (by kernel_rfl)) ?_
  intro W base args ds gs before hval hW _ hsz _
  exact contract H enc W base args ds gs before hval hW hsz
theorem over : Rows.linksChangeRow.holds Try.pinned (OpenSpec.ofChange Rows.linksChangeSpec) :=
  OpenClaim.holds_of_wide 3 Try.f3 rfl rfl rfl rfl rfl rfl rfl ⟨rfl, rfl, rfl, rfl, rfl⟩ rfl rfl rfl rfl rfl (by kernel_rfl) Try.func3 (by kernel_rfl)
    (of_decide_eq_true (by kernel_rfl)) (by unfold Func.isWrapper; first | (rw [if_pos (by decide +kernel)]; kernel_rfl) | (rw [if_neg (by decide +kernel)]; exact ⟨rfl, rfl⟩))
    (fun os started H enc _ => lifted os started H enc)
theorem proved : Rows.LinksChangeSaid := over
#print axioms proved
end Go.Proofs.Ytalkiicjdafhdaa.linksChange
namespace Go.Proofs.Ytalkiicjdafhdaa
theorem linksChange_holds : Rows.LinksChangeSaid := linksChange.proved
end Go.Proofs.Ytalkiicjdafhdaa
end
section
namespace Go.Proofs.Ytalkiicjdafhdaa.Q
open Go.RowKit Go.Proofs.YtalkiicjdafhdaaW.PrintWords Go.Proofs.YtalkiicjdafhdaaW.PrintLast Go.Proofs.YtalkiicjdafhdaaW.PrintMore
attribute [local go_sem] max2_int min2_int max_two min_two max_three min_three max_four min_four   -- for this text's walks alone
set_option linter.unusedVariables false
set_option linter.unusedSimpArgs false
set_option maxHeartbeats 8000000 in
set_option maxRecDepth 100000 in
theorem spoorlaw16_LinksFound.calls (k : Nat) (A0 : Option Addr) (c0 : Nat) (l0 : List (S24)) (a1_0 : Int) (a1_1 : Int) (a2_0 : Int) (a2_1 : Int) (a3 : Int) (r : Bool) (w : World) (hr0 : Kd.C k24 w A0 l0.length l0) (hc0 : l0.length ≤ c0) (h : spoorlaw16_LinksFound.f k l0 a1_0 a1_1 a2_0 a2_1 a3 = some r) :
  Calls Try.prog 5 #[.slice A0 l0.length c0, .agg #[.int .i64 a1_0, .int .i64 a1_1], .agg #[.int .i64 a2_0, .int .i64 a2_1], .int .i64 a3] w fun e w' => e = .returned (.bool r) ∧ Below w.heap.size w w' := by
 have hu24 := Try.underlying24
 have HR0 := Ax hr0
 have HC0 := Ax hc0
 clear hr0 hc0
 have HB := Ax (Below.refl w.heap.size w)
 have H : ((spoorlaw16_lives.f k).bind fun t375 => (if t375 = true then ((links_Put.f k l0 a1_0 a1_1).bind fun bt376 => (if bt376.2 = 0 then ((links_Peer.f k bt376.1 a1_0).bind fun bt381 => ((links_Peer.f k l0 a3).bind fun bt383 => ((links_Peer.f k bt376.1 a3).bind fun bt385 => ((links_Peer.f k l0 a1_0).bind fun bt387 => ((links_Del.f k bt376.1 a1_0).bind fun bt389 => (if bt381.2 = 0 then (if bt381.1 = a1_1 then ((links_Check.f k bt376.1).bind fun t393 => (if t393 = 0 then (if a3 = a1_0 then (if bt389.2 = 0 then (if bt387.2 = 3 then ((spoorref16_Same.f k bt389.1 l0).bind fun t394 => (spoorlaw16_LinksFound.j0 k l0 bt376.1 (!t394) a1_0 a1_1 a2_0 a2_1)) else (spoorlaw16_LinksFound.j0 k l0 bt376.1 false a1_0 a1_1 a2_0 a2_1)) else (spoorlaw16_LinksFound.j0 k l0 bt376.1 true a1_0 a1_1 a2_0 a2_1)) else (if bt383.2 = bt385.2 then (if bt383.1 = bt385.1 then (if bt389.2 = 0 then (if bt387.2 = 3 then ((spoorref16_Same.f k bt389.1 l0).bind fun t395 => (spoorlaw16_LinksFound.j0 k l0 bt376.1 (!t395) a1_0 a1_1 a2_0 a2_1)) else (spoorlaw16_LinksFound.j0 k l0 bt376.1 false a1_0 a1_1 a2_0 a2_1)) else (spoorlaw16_LinksFound.j0 k l0 bt376.1 true a1_0 a1_1 a2_0 a2_1)) else (spoorlaw16_LinksFound.j0 k l0 bt376.1 true a1_0 a1_1 a2_0 a2_1)) else (spoorlaw16_LinksFound.j0 k l0 bt376.1 true a1_0 a1_1 a2_0 a2_1))) else (spoorlaw16_LinksFound.j0 k l0 bt376.1 true a1_0 a1_1 a2_0 a2_1))) else (spoorlaw16_LinksFound.j0 k l0 bt376.1 true a1_0 a1_1 a2_0 a2_1)) else (spoorlaw16_LinksFound.j0 k l0 bt376.1 true a1_0 a1_1 a2_0 a2_1))))))) else (if bt376.2 = 2 then (some true) else (if bt376.2 = 8 then ((spoorref16_Same.f k bt376.1 l0).bind fun t380 => (some t380)) else (none))))) else (none))) = some r := h
 clear h
 replace H := Option.bind_eq_some_iff.mp H
 obtain ⟨t375, A50, H⟩ := H
 replace H : (if t375 = true then ((links_Put.f k l0 a1_0 a1_1).bind fun bt376 => (if bt376.2 = 0 then ((links_Peer.f k bt376.1 a1_0).bind fun bt381 => ((links_Peer.f k l0 a3).bind fun bt383 => ((links_Peer.f k bt376.1 a3).bind fun bt385 => ((links_Peer.f k l0 a1_0).bind fun bt387 => ((links_Del.f k bt376.1 a1_0).bind fun bt389 => (if bt381.2 = 0 then (if bt381.1 = a1_1 then ((links_Check.f k bt376.1).bind fun t393 => (if t393 = 0 then (if a3 = a1_0 then (if bt389.2 = 0 then (if bt387.2 = 3 then ((spoorref16_Same.f k bt389.1 l0).bind fun t394 => (spoorlaw16_LinksFound.j0 k l0 bt376.1 (!t394) a1_0 a1_1 a2_0 a2_1)) else (spoorlaw16_LinksFound.j0 k l0 bt376.1 false a1_0 a1_1 a2_0 a2_1)) else (spoorlaw16_LinksFound.j0 k l0 bt376.1 true a1_0 a1_1 a2_0 a2_1)) else (if bt383.2 = bt385.2 then (if bt383.1 = bt385.1 then (if bt389.2 = 0 then (if bt387.2 = 3 then ((spoorref16_Same.f k bt389.1 l0).bind fun t395 => (spoorlaw16_LinksFound.j0 k l0 bt376.1 (!t395) a1_0 a1_1 a2_0 a2_1)) else (spoorlaw16_LinksFound.j0 k l0 bt376.1 false a1_0 a1_1 a2_0 a2_1)) else (spoorlaw16_LinksFound.j0 k l0 bt376.1 true a1_0 a1_1 a2_0 a2_1)) else (spoorlaw16_LinksFound.j0 k l0 bt376.1 true a1_0 a1_1 a2_0 a2_1)) else (spoorlaw16_LinksFound.j0 k l0 bt376.1 true a1_0 a1_1 a2_0 a2_1))) else (spoorlaw16_LinksFound.j0 k l0 bt376.1 true a1_0 a1_1 a2_0 a2_1))) else (spoorlaw16_LinksFound.j0 k l0 bt376.1 true a1_0 a1_1 a2_0 a2_1)) else (spoorlaw16_LinksFound.j0 k l0 bt376.1 true a1_0 a1_1 a2_0 a2_1))))))) else (if bt376.2 = 2 then (some true) else (if bt376.2 = 8 then ((spoorref16_Same.f k bt376.1 l0).bind fun t380 => (some t380)) else (none))))) else (none)) = some r := H
 have A5 := Ax A50
 clear A50
 by_cases c6 : t375 = true
 ·subst c6
  have H1 : ((links_Put.f k l0 a1_0 a1_1).bind fun bt376 => (if bt376.2 = 0 then ((links_Peer.f k bt376.1 a1_0).bind fun bt381 => ((links_Peer.f k l0 a3).bind fun bt383 => ((links_Peer.f k bt376.1 a3).bind fun bt385 => ((links_Peer.f k l0 a1_0).bind fun bt387 => ((links_Del.f k bt376.1 a1_0).bind fun bt389 => (if bt381.2 = 0 then (if bt381.1 = a1_1 then ((links_Check.f k bt376.1).bind fun t393 => (if t393 = 0 then (if a3 = a1_0 then (if bt389.2 = 0 then (if bt387.2 = 3 then ((spoorref16_Same.f k bt389.1 l0).bind fun t394 => (spoorlaw16_LinksFound.j0 k l0 bt376.1 (!t394) a1_0 a1_1 a2_0 a2_1)) else (spoorlaw16_LinksFound.j0 k l0 bt376.1 false a1_0 a1_1 a2_0 a2_1)) else (spoorlaw16_LinksFound.j0 k l0 bt376.1 true a1_0 a1_1 a2_0 a2_1)) else (if bt383.2 = bt385.2 then (if bt383.1 = bt385.1 then (if bt389.2 = 0 then (if bt387.2 = 3 then ((spoorref16_Same.f k bt389.1 l0).bind fun t395 => (spoorlaw16_LinksFound.j0 k l0 bt376.1 (!t395) a1_0 a1_1 a2_0 a2_1)) else (spoorlaw16_LinksFound.j0 k l0 bt376.1 false a1_0 a1_1 a2_0 a2_1)) else (spoorlaw16_LinksFound.j0 k l0 bt376.1 true a1_0 a1_1 a2_0 a2_1)) else (spoorlaw16_LinksFound.j0 k l0 bt376.1 true a1_0 a1_1 a2_0 a2_1)) else (spoorlaw16_LinksFound.j0 k l0 bt376.1 true a1_0 a1_1 a2_0 a2_1))) else (spoorlaw16_LinksFound.j0 k l0 bt376.1 true a1_0 a1_1 a2_0 a2_1))) else (spoorlaw16_LinksFound.j0 k l0 bt376.1 true a1_0 a1_1 a2_0 a2_1)) else (spoorlaw16_LinksFound.j0 k l0 bt376.1 true a1_0 a1_1 a2_0 a2_1))))))) else (if bt376.2 = 2 then (some true) else (if bt376.2 = 8 then ((spoorref16_Same.f k bt376.1 l0).bind fun t380 => (some t380)) else (none))))) = some r := by rw [if_pos rfl] at H; exact H
  clear H
  have H := H1
  clear H1
  replace H := Option.bind_eq_some_iff.mp H
  obtain ⟨⟨t376, t379⟩, A70, H⟩ := H
  replace H : (if t379 = 0 then ((links_Peer.f k t376 a1_0).bind fun bt381 => ((links_Peer.f k l0 a3).bind fun bt383 => ((links_Peer.f k t376 a3).bind fun bt385 => ((links_Peer.f k l0 a1_0).bind fun bt387 => ((links_Del.f k t376 a1_0).bind fun bt389 => (if bt381.2 = 0 then (if bt381.1 = a1_1 then ((links_Check.f k t376).bind fun t393 => (if t393 = 0 then (if a3 = a1_0 then (if bt389.2 = 0 then (if bt387.2 = 3 then ((spoorref16_Same.f k bt389.1 l0).bind fun t394 => (spoorlaw16_LinksFound.j0 k l0 t376 (!t394) a1_0 a1_1 a2_0 a2_1)) else (spoorlaw16_LinksFound.j0 k l0 t376 false a1_0 a1_1 a2_0 a2_1)) else (spoorlaw16_LinksFound.j0 k l0 t376 true a1_0 a1_1 a2_0 a2_1)) else (if bt383.2 = bt385.2 then (if bt383.1 = bt385.1 then (if bt389.2 = 0 then (if bt387.2 = 3 then ((spoorref16_Same.f k bt389.1 l0).bind fun t395 => (spoorlaw16_LinksFound.j0 k l0 t376 (!t395) a1_0 a1_1 a2_0 a2_1)) else (spoorlaw16_LinksFound.j0 k l0 t376 false a1_0 a1_1 a2_0 a2_1)) else (spoorlaw16_LinksFound.j0 k l0 t376 true a1_0 a1_1 a2_0 a2_1)) else (spoorlaw16_LinksFound.j0 k l0 t376 true a1_0 a1_1 a2_0 a2_1)) else (spoorlaw16_LinksFound.j0 k l0 t376 true a1_0 a1_1 a2_0 a2_1))) else (spoorlaw16_LinksFound.j0 k l0 t376 true a1_0 a1_1 a2_0 a2_1))) else (spoorlaw16_LinksFound.j0 k l0 t376 true a1_0 a1_1 a2_0 a2_1)) else (spoorlaw16_LinksFound.j0 k l0 t376 true a1_0 a1_1 a2_0 a2_1))))))) else (if t379 = 2 then (some true) else (if t379 = 8 then ((spoorref16_Same.f k t376 l0).bind fun t380 => (some t380)) else (none)))) = some r := H
  have A7 := Ax A70
  clear A70
  by_cases c8 : t379 = 0
  ·rw [if_pos c8] at H
   have c8b0 : (t379 == 0) = true := beq_iff_eq.mpr c8
   have c8b1 : (t379 != 0) = false := bne_eq_false_iff_eq.mpr c8
   clear c8
   replace H := Option.bind_eq_some_iff.mp H
   obtain ⟨⟨t381, t382⟩, A90, H⟩ := H
   replace H : ((links_Peer.f k l0 a3).bind fun bt383 => ((links_Peer.f k t376 a3).bind fun bt385 => ((links_Peer.f k l0 a1_0).bind fun bt387 => ((links_Del.f k t376 a1_0).bind fun bt389 => (if t382 = 0 then (if t381 = a1_1 then ((links_Check.f k t376).bind fun t393 => (if t393 = 0 then (if a3 = a1_0 then (if bt389.2 = 0 then (if bt387.2 = 3 then ((spoorref16_Same.f k bt389.1 l0).bind fun t394 => (spoorlaw16_LinksFound.j0 k l0 t376 (!t394) a1_0 a1_1 a2_0 a2_1)) else (spoorlaw16_LinksFound.j0 k l0 t376 false a1_0 a1_1 a2_0 a2_1)) else (spoorlaw16_LinksFound.j0 k l0 t376 true a1_0 a1_1 a2_0 a2_1)) else (if bt383.2 = bt385.2 then (if bt383.1 = bt385.1 then (if bt389.2 = 0 then (if bt387.2 = 3 then ((spoorref16_Same.f k bt389.1 l0).bind fun t395 => (spoorlaw16_LinksFound.j0 k l0 t376 (!t395) a1_0 a1_1 a2_0 a2_1)) else (spoorlaw16_LinksFound.j0 k l0 t376 false a1_0 a1_1 a2_0 a2_1)) else (spoorlaw16_LinksFound.j0 k l0 t376 true a1_0 a1_1 a2_0 a2_1)) else (spoorlaw16_LinksFound.j0 k l0 t376 true a1_0 a1_1 a2_0 a2_1)) else (spoorlaw16_LinksFound.j0 k l0 t376 true a1_0 a1_1 a2_0 a2_1))) else (spoorlaw16_LinksFound.j0 k l0 t376 true a1_0 a1_1 a2_0 a2_1))) else (spoorlaw16_LinksFound.j0 k l0 t376 true a1_0 a1_1 a2_0 a2_1)) else (spoorlaw16_LinksFound.j0 k l0 t376 true a1_0 a1_1 a2_0 a2_1)))))) = some r := H
   have A9 := Ax A90
   clear A90
   replace H := Option.bind_eq_some_iff.mp H
   obtain ⟨⟨t383, t384⟩, A100, H⟩ := H
   replace H : ((links_Peer.f k t376 a3).bind fun bt385 => ((links_Peer.f k l0 a1_0).bind fun bt387 => ((links_Del.f k t376 a1_0).bind fun bt389 => (if t382 = 0 then (if t381 = a1_1 then ((links_Check.f k t376).bind fun t393 => (if t393 = 0 then (if a3 = a1_0 then (if bt389.2 = 0 then (if bt387.2 = 3 then ((spoorref16_Same.f k bt389.1 l0).bind fun t394 => (spoorlaw16_LinksFound.j0 k l0 t376 (!t394) a1_0 a1_1 a2_0 a2_1)) else (spoorlaw16_LinksFound.j0 k l0 t376 false a1_0 a1_1 a2_0 a2_1)) else (spoorlaw16_LinksFound.j0 k l0 t376 true a1_0 a1_1 a2_0 a2_1)) else (if t384 = bt385.2 then (if t383 = bt385.1 then (if bt389.2 = 0 then (if bt387.2 = 3 then ((spoorref16_Same.f k bt389.1 l0).bind fun t395 => (spoorlaw16_LinksFound.j0 k l0 t376 (!t395) a1_0 a1_1 a2_0 a2_1)) else (spoorlaw16_LinksFound.j0 k l0 t376 false a1_0 a1_1 a2_0 a2_1)) else (spoorlaw16_LinksFound.j0 k l0 t376 true a1_0 a1_1 a2_0 a2_1)) else (spoorlaw16_LinksFound.j0 k l0 t376 true a1_0 a1_1 a2_0 a2_1)) else (spoorlaw16_LinksFound.j0 k l0 t376 true a1_0 a1_1 a2_0 a2_1))) else (spoorlaw16_LinksFound.j0 k l0 t376 true a1_0 a1_1 a2_0 a2_1))) else (spoorlaw16_LinksFound.j0 k l0 t376 true a1_0 a1_1 a2_0 a2_1)) else (spoorlaw16_LinksFound.j0 k l0 t376 true a1_0 a1_1 a2_0 a2_1))))) = some r := H
   have A10 := Ax A100
   clear A100
   replace H := Option.bind_eq_some_iff.mp H
   obtain ⟨⟨t385, t386⟩, A110, H⟩ := H
   replace H : ((links_Peer.f k l0 a1_0).bind fun bt387 => ((links_Del.f k t376 a1_0).bind fun bt389 => (if t382 = 0 then (if t381 = a1_1 then ((links_Check.f k t376).bind fun t393 => (if t393 = 0 then (if a3 = a1_0 then (if bt389.2 = 0 then (if bt387.2 = 3 then ((spoorref16_Same.f k bt389.1 l0).bind fun t394 => (spoorlaw16_LinksFound.j0 k l0 t376 (!t394) a1_0 a1_1 a2_0 a2_1)) else (spoorlaw16_LinksFound.j0 k l0 t376 false a1_0 a1_1 a2_0 a2_1)) else (spoorlaw16_LinksFound.j0 k l0 t376 true a1_0 a1_1 a2_0 a2_1)) else (if t384 = t386 then (if t383 = t385 then (if bt389.2 = 0 then (if bt387.2 = 3 then ((spoorref16_Same.f k bt389.1 l0).bind fun t395 => (spoorlaw16_LinksFound.j0 k l0 t376 (!t395) a1_0 a1_1 a2_0 a2_1)) else (spoorlaw16_LinksFound.j0 k l0 t376 false a1_0 a1_1 a2_0 a2_1)) else (spoorlaw16_LinksFound.j0 k l0 t376 true a1_0 a1_1 a2_0 a2_1)) else (spoorlaw16_LinksFound.j0 k l0 t376 true a1_0 a1_1 a2_0 a2_1)) else (spoorlaw16_LinksFound.j0 k l0 t376 true a1_0 a1_1 a2_0 a2_1))) else (spoorlaw16_LinksFound.j0 k l0 t376 true a1_0 a1_1 a2_0 a2_1))) else (spoorlaw16_LinksFound.j0 k l0 t376 true a1_0 a1_1 a2_0 a2_1)) else (spoorlaw16_LinksFound.j0 k l0 t376 true a1_0 a1_1 a2_0 a2_1)))) = some r := H
   have A11 := Ax A110
   clear A110
   replace H := Option.bind_eq_some_iff.mp H
   obtain ⟨⟨t387, t388⟩, A120, H⟩ := H
   replace H : ((links_Del.f k t376 a1_0).bind fun bt389 => (if t382 = 0 then (if t381 = a1_1 then ((links_Check.f k t376).bind fun t393 => (if t393 = 0 then (if a3 = a1_0 then (if bt389.2 = 0 then (if t388 = 3 then ((spoorref16_Same.f k bt389.1 l0).bind fun t394 => (spoorlaw16_LinksFound.j0 k l0 t376 (!t394) a1_0 a1_1 a2_0 a2_1)) else (spoorlaw16_LinksFound.j0 k l0 t376 false a1_0 a1_1 a2_0 a2_1)) else (spoorlaw16_LinksFound.j0 k l0 t376 true a1_0 a1_1 a2_0 a2_1)) else (if t384 = t386 then (if t383 = t385 then (if bt389.2 = 0 then (if t388 = 3 then ((spoorref16_Same.f k bt389.1 l0).bind fun t395 => (spoorlaw16_LinksFound.j0 k l0 t376 (!t395) a1_0 a1_1 a2_0 a2_1)) else (spoorlaw16_LinksFound.j0 k l0 t376 false a1_0 a1_1 a2_0 a2_1)) else (spoorlaw16_LinksFound.j0 k l0 t376 true a1_0 a1_1 a2_0 a2_1)) else (spoorlaw16_LinksFound.j0 k l0 t376 true a1_0 a1_1 a2_0 a2_1)) else (spoorlaw16_LinksFound.j0 k l0 t376 true a1_0 a1_1 a2_0 a2_1))) else (spoorlaw16_LinksFound.j0 k l0 t376 true a1_0 a1_1 a2_0 a2_1))) else (spoorlaw16_LinksFound.j0 k l0 t376 true a1_0 a1_1 a2_0 a2_1)) else (spoorlaw16_LinksFound.j0 k l0 t376 true a1_0 a1_1 a2_0 a2_1))) = some r := H
   have A12 := Ax A120
   clear A120
   replace H := Option.bind_eq_some_iff.mp H
   obtain ⟨⟨t389, t390⟩, A130, H⟩ := H
   replace H : (if t382 = 0 then (if t381 = a1_1 then ((links_Check.f k t376).bind fun t393 => (if t393 = 0 then (if a3 = a1_0 then (if t390 = 0 then (if t388 = 3 then ((spoorref16_Same.f k t389 l0).bind fun t394 => (spoorlaw16_LinksFound.j0 k l0 t376 (!t394) a1_0 a1_1 a2_0 a2_1)) else (spoorlaw16_LinksFound.j0 k l0 t376 false a1_0 a1_1 a2_0 a2_1)) else (spoorlaw16_LinksFound.j0 k l0 t376 true a1_0 a1_1 a2_0 a2_1)) else (if t384 = t386 then (if t383 = t385 then (if t390 = 0 then (if t388 = 3 then ((spoorref16_Same.f k t389 l0).bind fun t395 => (spoorlaw16_LinksFound.j0 k l0 t376 (!t395) a1_0 a1_1 a2_0 a2_1)) else (spoorlaw16_LinksFound.j0 k l0 t376 false a1_0 a1_1 a2_0 a2_1)) else (spoorlaw16_LinksFound.j0 k l0 t376 true a1_0 a1_1 a2_0 a2_1)) else (spoorlaw16_LinksFound.j0 k l0 t376 true a1_0 a1_1 a2_0 a2_1)) else (spoorlaw16_LinksFound.j0 k l0 t376 true a1_0 a1_1 a2_0 a2_1))) else (spoorlaw16_LinksFound.j0 k l0 t376 true a1_0 a1_1 a2_0 a2_1))) else (spoorlaw16_LinksFound.j0 k l0 t376 true a1_0 a1_1 a2_0 a2_1)) else (spoorlaw16_LinksFound.j0 k l0 t376 true a1_0 a1_1 a2_0 a2_1)) = some r := H
   have A13 := Ax A130
   clear A130
   have HC14 := Ax H
   clear H
   go_enter Try.func5, Try.ntmps5
   go_upto_region 11 with (first | ((with_reducible refine gate_dst (N := 5) rfl ?_); refine box_event ?hg (N := 5) ?hd (cs := #[.int .i64 a1_0, .int .i64 a1_1]) (t := 24) ?hr ?_; (case hd => rfl); (case hg => rfl); (case hr => first | (go_simp; done) | (go_simp; rfl)); intro gb373 hg w15 hbox hb; have n0_ := Bs0 HB hb; have n1_ := Ax (hbox); have n2_ := Gw0 HB hg; have n3_ := Gw0 HB hg; clear HB; have HB := n0_; have BK373 := n1_; have GW373 := n2_; have GE373 := n3_; clear n0_ n1_ n2_ n3_; clear hb hbox hg) | ((with_reducible refine gate_dst (N := 6) rfl ?_); refine box_event ?hg (N := 6) ?hd (cs := #[.int .i64 a2_0, .int .i64 a2_1]) (t := 24) ?hr ?_; (case hd => rfl); (case hg => rfl); (case hr => first | (go_simp; done) | (go_simp; rfl)); intro gb374 hg w16 hbox hb; have n0_ := Bx0 BK373 hb; have n1_ := Bs1 HB hb GE373.out; have n2_ := Ax (hbox); have n3_ := Gw1 HB hg GE373.out; have n4_ := Gw1 HB hg GE373.out; have n5_ := Nl0 BK373 hg; have n6_ := Nr0 BK373 hg; clear BK373; clear HB; have BK373 := n0_; have HB := n1_; have BK374 := n2_; have GW374 := n3_; have GE374 := n4_; have NB373_374 := n5_; have NB374_373 := n6_; clear n0_ n1_ n2_ n3_ n4_ n5_ n6_; clear hb hbox hg) | ((with_reducible refine gate_callee (f := 11) rfl ?_); refine goesL_ (some 26) rfl rfl Try.func11 (by kernel_rfl) rfl #[] rfl gS ?_; (with_reducible refine (spoorlaw16_lives.calls k  true _ A5.out).mono ?_); rintro e w17 ⟨rfl, hb⟩; refine ⟨_, rfl, ?_⟩; replace BK373 := Bx0 BK373 hb; replace BK374 := Bx0 BK374 hb; replace HB := Bs2 HB hb GE373.out GE374.out; (try clear hb); have hnb18 := NB373_374.out; have hnc18 := NB374_373.out; obtain ⟨hcz19_0, hcz19_1, hfz19_0, hfz19_1⟩ := cl2 BK373) | ((with_reducible refine gate_callee (f := 7) rfl ?_); refine goesL_ (some 31) rfl rfl Try.func7 (by kernel_rfl) rfl #[.slice A0 l0.length c0, .agg #[.int .i64 a1_0, .int .i64 a1_1]] rfl gS ?_; (with_reducible refine (links_Put.calls k _ _ l0 a1_0 a1_1 t376 t379 _ ?side1 ?side2 A7.out).mono ?_); (case side1 => repeat (first | exact (Kd.C_below HR0.out HB.out) | (with_reducible refine Kd.C_alloc ?_ _) | (with_reducible refine Kd.C_drewN ?_ _) | (with_reducible refine Kd.C_drew ?_))); (case side2 => exact HC0.out); rintro e w20 ⟨v377, rfl, ho0, hb⟩; refine ⟨_, rfl, ?_⟩; have HO378 := Ax (Kd.R_lower (Kd.R_newB (Kd.R_newB ho0 (g := gb373) (o := .cells #[.int .i64 a1_0, .int .i64 a1_1] 24 (0, 0)) (bf0 BK373.out)) (g := gb374) (o := .cells #[.int .i64 a2_0, .int .i64 a2_1] 24 (0, 0)) (bf0 BK374.out)) (below_size (bw2 HB.out GE373.out GE374.out))); replace BK373 := Bx0 BK373 hb; replace BK374 := Bx0 BK374 hb; replace HB := Bs2 HB hb GE373.out GE374.out; (try clear hb); (try clear ho0); obtain ⟨hcz21_0, hcz21_1, hfz21_0, hfz21_1⟩ := cl2 BK373; obtain ⟨Ao22, co22, eo22⟩ := Kd.R_slice HO378.out; subst eo22) | ((with_reducible refine gate_callee (f := 15) rfl ?_); refine goesL_ (some 51) rfl rfl Try.func15 (by kernel_rfl) rfl #[.slice Ao22 t376.length co22, .int .i64 a1_0] rfl gS ?_; (with_reducible refine (links_Peer.calls k _ _ t376 a1_0 t381 t382 _ ?side1 ?side2 A9.out).mono ?_); (case side1 => repeat (first | exact (Kd.R_reads' HO378.out).2.2 | (with_reducible refine Kd.C_alloc ?_ _) | (with_reducible refine Kd.C_drewN ?_ _) | (with_reducible refine Kd.C_drew ?_))); (case side2 => exact (Kd.R_reads' HO378.out).2.1); rintro e w23 ⟨rfl, hb⟩; refine ⟨_, rfl, ?_⟩; have n0_ := Ax (Kd.R_below (by (with_reducible repeat (first | apply Kd.R_alloc | apply Kd.R_drewN | apply Kd.R_drew)); exact HO378.out) hb); have n1_ := Bx0 BK373 hb; have n2_ := Bx0 BK374 hb; have n3_ := Bs2 HB hb GE373.out GE374.out; clear HO378; clear BK373; clear BK374; clear HB; have HO378 := n0_; have BK373 := n1_; have BK374 := n2_; have HB := n3_; clear n0_ n1_ n2_ n3_; (try clear hb)) | ((with_reducible refine gate_callee (f := 15) rfl ?_); refine goesL_ (some 57) rfl rfl Try.func15 (by kernel_rfl) rfl #[.slice A0 l0.length c0, .int .i64 a3] rfl gS ?_; (with_reducible refine (links_Peer.calls k _ _ l0 a3 t383 t384 _ ?side1 ?side2 A10.out).mono ?_); (case side1 => repeat (first | exact (Kd.C_below HR0.out HB.out) | (with_reducible refine Kd.C_alloc ?_ _) | (with_reducible refine Kd.C_drewN ?_ _) | (with_reducible refine Kd.C_drew ?_))); (case side2 => exact HC0.out); rintro e w24 ⟨rfl, hb⟩; refine ⟨_, rfl, ?_⟩; have n0_ := Ax (Kd.R_below (by (with_reducible repeat (first | apply Kd.R_alloc | apply Kd.R_drewN | apply Kd.R_drew)); exact HO378.out) hb); have n1_ := Bx0 BK373 hb; have n2_ := Bx0 BK374 hb; have n3_ := Bs2 HB hb GE373.out GE374.out; clear HO378; clear BK373; clear BK374; clear HB; have HO378 := n0_; have BK373 := n1_; have BK374 := n2_; have HB := n3_; clear n0_ n1_ n2_ n3_; (try clear hb)) | ((with_reducible refine gate_callee (f := 15) rfl ?_); refine goesL_ (some 63) rfl rfl Try.func15 (by kernel_rfl) rfl #[.slice Ao22 t376.length co22, .int .i64 a3] rfl gS ?_; (with_reducible refine (links_Peer.calls k _ _ t376 a3 t385 t386 _ ?side1 ?side2 A11.out).mono ?_); (case side1 => repeat (first | exact (Kd.R_reads' HO378.out).2.2 | (with_reducible refine Kd.C_alloc ?_ _) | (with_reducible refine Kd.C_drewN ?_ _) | (with_reducible refine Kd.C_drew ?_))); (case side2 => exact (Kd.R_reads' HO378.out).2.1); rintro e w25 ⟨rfl, hb⟩; refine ⟨_, rfl, ?_⟩; have n0_ := Ax (Kd.R_below (by (with_reducible repeat (first | apply Kd.R_alloc | apply Kd.R_drewN | apply Kd.R_drew)); exact HO378.out) hb); have n1_ := Bx0 BK373 hb; have n2_ := Bx0 BK374 hb; have n3_ := Bs2 HB hb GE373.out GE374.out; clear HO378; clear BK373; clear BK374; clear HB; have HO378 := n0_; have BK373 := n1_; have BK374 := n2_; have HB := n3_; clear n0_ n1_ n2_ n3_; (try clear hb); obtain ⟨hcz26_0, hcz26_1, hfz26_0, hfz26_1⟩ := cl2 BK373) | ((with_reducible refine gate_callee (f := 15) rfl ?_); refine goesL_ (some 70) rfl rfl Try.func15 (by kernel_rfl) rfl #[.slice A0 l0.length c0, .int .i64 a1_0] rfl gS ?_; (with_reducible refine (links_Peer.calls k _ _ l0 a1_0 t387 t388 _ ?side1 ?side2 A12.out).mono ?_); (case side1 => repeat (first | exact (Kd.C_below HR0.out HB.out) | (with_reducible refine Kd.C_alloc ?_ _) | (with_reducible refine Kd.C_drewN ?_ _) | (with_reducible refine Kd.C_drew ?_))); (case side2 => exact HC0.out); rintro e w27 ⟨rfl, hb⟩; refine ⟨_, rfl, ?_⟩; have n0_ := Ax (Kd.R_below (by (with_reducible repeat (first | apply Kd.R_alloc | apply Kd.R_drewN | apply Kd.R_drew)); exact HO378.out) hb); have n1_ := Bx0 BK373 hb; have n2_ := Bx0 BK374 hb; have n3_ := Bs2 HB hb GE373.out GE374.out; clear HO378; clear BK373; clear BK374; clear HB; have HO378 := n0_; have BK373 := n1_; have BK374 := n2_; have HB := n3_; clear n0_ n1_ n2_ n3_; (try clear hb); obtain ⟨hcz28_0, hcz28_1, hfz28_0, hfz28_1⟩ := cl2 BK373) | ((with_reducible refine gate_callee (f := 9) rfl ?_); refine goesL_ (some 77) rfl rfl Try.func9 (by kernel_rfl) rfl #[.slice Ao22 t376.length co22, .int .i64 a1_0] rfl gS ?_; (with_reducible refine (links_Del.calls k _ _ t376 a1_0 t389 t390 _ ?side1 ?side2 A13.out).mono ?_); (case side1 => repeat (first | exact (Kd.R_reads' HO378.out).2.2 | (with_reducible refine Kd.C_alloc ?_ _) | (with_reducible refine Kd.C_drewN ?_ _) | (with_reducible refine Kd.C_drew ?_))); (case side2 => exact (Kd.R_reads' HO378.out).2.1); rintro e w29 ⟨v391, rfl, ho0, hb⟩; refine ⟨_, rfl, ?_⟩; have n0_ := Ax (Kd.R_elder' (by (with_reducible repeat (first | apply Kd.R_alloc | apply Kd.R_drewN | apply Kd.R_drew)); exact HO378.out) (Kd.R_base ho0) hb); have n1_ := Ax (Kd.R_lower (Kd.R_newB (Kd.R_newB (Kd.R_new' ho0 (Kd.R_lt (by (with_reducible repeat (first | apply Kd.R_alloc | apply Kd.R_drewN | apply Kd.R_drew)); exact HO378.out))) (g := gb373) (o := .cells #[.int .i64 a1_0, .int .i64 a1_1] 24 (0, 0)) (bf0 BK373.out)) (g := gb374) (o := .cells #[.int .i64 a2_0, .int .i64 a2_1] 24 (0, 0)) (bf0 BK374.out)) (below_size (bw2 HB.out GE373.out GE374.out))); have n2_ := Bx0 BK373 hb; have n3_ := Bx0 BK374 hb; have n4_ := Bs2 HB hb GE373.out GE374.out; clear HO378; clear BK373; clear BK374; clear HB; have HO378 := n0_; have HO392 := n1_; have BK373 := n2_; have BK374 := n3_; have HB := n4_; clear n0_ n1_ n2_ n3_ n4_; (try clear hb); (try clear ho0)))
   (try simp only [Act.put, List.setIfInBounds_toArray, List.set_cons_zero, List.set_cons_succ])
   go_cut [122] (fun v122 wc => ∃ (kq : Nat) (x122_13 : Bool), v122 = .bool x122_13 ∧ Aside0 (spoorlaw16_LinksFound.j0 kq l0 t376 x122_13 a1_0 a1_1 a2_0 a2_1 = some r) ∧ Aside0 (kq ≤ k) ∧ Aside0 (Kd.R k24 24 wc w.heap.size (fun k_ => k_ ≠ gb373 ∧ k_ ≠ gb374) (.slice Ao22 t376.length co22) t376) ∧ Aside0 (wc.heap[gb373]? = some (.cells #[.int .i64 a1_0, .int .i64 a1_1] 24 (0, 0))) ∧ Aside0 (wc.heap[gb374]? = some (.cells #[.int .i64 a2_0, .int .i64 a2_1] 24 (0, 0))) ∧ Aside0 (Below w.heap.size w wc))
   case first =>
    have H := HC14.out
    clear HC14
    by_cases c30 : t382 = 0
    ·rw [if_pos c30] at H
     have c30b0 : (t382 == 0) = true := beq_iff_eq.mpr c30
     have c30b1 : (t382 != 0) = false := bne_eq_false_iff_eq.mpr c30
     clear c30
     (first | rw [c30b0] | (simp only [i64_w, i32_w]; rw [c30b0]) | skip)
     by_cases c31 : t381 = a1_1
     ·rw [if_pos c31] at H
      have c31b0 : (t381 == a1_1) = true := beq_iff_eq.mpr c31
      have c31b1 : (t381 != a1_1) = false := bne_eq_false_iff_eq.mpr c31
      clear c31
      replace H := Option.bind_eq_some_iff.mp H
      obtain ⟨t393, A320, H⟩ := H
      replace H : (if t393 = 0 then (if a3 = a1_0 then (if t390 = 0 then (if t388 = 3 then ((spoorref16_Same.f k t389 l0).bind fun t394 => (spoorlaw16_LinksFound.j0 k l0 t376 (!t394) a1_0 a1_1 a2_0 a2_1)) else (spoorlaw16_LinksFound.j0 k l0 t376 false a1_0 a1_1 a2_0 a2_1)) else (spoorlaw16_LinksFound.j0 k l0 t376 true a1_0 a1_1 a2_0 a2_1)) else (if t384 = t386 then (if t383 = t385 then (if t390 = 0 then (if t388 = 3 then ((spoorref16_Same.f k t389 l0).bind fun t395 => (spoorlaw16_LinksFound.j0 k l0 t376 (!t395) a1_0 a1_1 a2_0 a2_1)) else (spoorlaw16_LinksFound.j0 k l0 t376 false a1_0 a1_1 a2_0 a2_1)) else (spoorlaw16_LinksFound.j0 k l0 t376 true a1_0 a1_1 a2_0 a2_1)) else (spoorlaw16_LinksFound.j0 k l0 t376 true a1_0 a1_1 a2_0 a2_1)) else (spoorlaw16_LinksFound.j0 k l0 t376 true a1_0 a1_1 a2_0 a2_1))) else (spoorlaw16_LinksFound.j0 k l0 t376 true a1_0 a1_1 a2_0 a2_1)) = some r := H
      have A32 := Ax A320
      clear A320
      by_cases c33 : t393 = 0
      ·rw [if_pos c33] at H
       have c33b0 : (t393 == 0) = true := beq_iff_eq.mpr c33
       have c33b1 : (t393 != 0) = false := bne_eq_false_iff_eq.mpr c33
       clear c33
       by_cases c34 : a3 = a1_0
       ·rw [if_pos c34] at H
        have c34b0 : (a3 == a1_0) = true := beq_iff_eq.mpr c34
        have c34b1 : (a3 != a1_0) = false := bne_eq_false_iff_eq.mpr c34
        clear c34
        by_cases c35 : t390 = 0
        ·rw [if_pos c35] at H
         have c35b0 : (t390 == 0) = true := beq_iff_eq.mpr c35
         have c35b1 : (t390 != 0) = false := bne_eq_false_iff_eq.mpr c35
         clear c35
         by_cases c36 : t388 = 3
         ·rw [if_pos c36] at H
          have c36b0 : (t388 == 3) = true := beq_iff_eq.mpr c36
          have c36b1 : (t388 != 3) = false := bne_eq_false_iff_eq.mpr c36
          clear c36
          replace H := Option.bind_eq_some_iff.mp H
          obtain ⟨t394, A370, H⟩ := H
          replace H : (spoorlaw16_LinksFound.j0 k l0 t376 (!t394) a1_0 a1_1 a2_0 a2_1) = some r := H
          have A37 := Ax A370
          clear A370
          have H' := Ax H
          clear H
          have hnb38 := NB373_374.out
          have hnc38 := NB374_373.out
          obtain ⟨hcz39_0, hcz39_1, hfz39_0, hfz39_1⟩ := cl2 BK373
          go_wp2_with (first | (go_at_call 12; (with_reducible refine (links_Check.calls k _ _ t376 t393 _ ?side1 ?side2 A32.out).mono ?_); (case side1 => repeat (first | exact (Kd.R_reads' HO378.out).2.2 | (with_reducible refine Kd.C_alloc ?_ _) | (with_reducible refine Kd.C_drewN ?_ _) | (with_reducible refine Kd.C_drew ?_))); (case side2 => exact (Kd.R_reads' HO378.out).2.1); rintro e w40 ⟨rfl, hb⟩; have n0_ := Ax (Kd.R_below (by (with_reducible repeat (first | apply Kd.R_alloc | apply Kd.R_drewN | apply Kd.R_drew)); exact HO378.out) hb); have n1_ := Ax (Kd.R_below (by (with_reducible repeat (first | apply Kd.R_alloc | apply Kd.R_drewN | apply Kd.R_drew)); exact HO392.out) hb); have n2_ := Bx0 BK373 hb; have n3_ := Bx0 BK374 hb; have n4_ := Bs2 HB hb GE373.out GE374.out; clear HO378; clear HO392; clear BK373; clear BK374; clear HB; have HO378 := n0_; have HO392 := n1_; have BK373 := n2_; have BK374 := n3_; have HB := n4_; clear n0_ n1_ n2_ n3_ n4_; (try clear hb); obtain ⟨hcz41_0, hcz41_1, hfz41_0, hfz41_1⟩ := cl2 BK373; obtain ⟨Ao42, co42, eo42⟩ := Kd.R_slice HO392.out; subst eo42) | (go_at_call 14; (with_reducible refine (spoorref16_Same.calls k _ _ t389 _ _ l0 t394 _ ?side1 ?side2 ?side3 ?side4 A37.out).mono ?_); (case side1 => repeat (first | exact (Kd.R_reads' HO392.out).2.2 | (with_reducible refine Kd.C_alloc ?_ _) | (with_reducible refine Kd.C_drewN ?_ _) | (with_reducible refine Kd.C_drew ?_))); (case side2 => exact (Kd.R_reads' HO392.out).2.1); (case side3 => repeat (first | exact (Kd.C_below HR0.out HB.out) | (with_reducible refine Kd.C_alloc ?_ _) | (with_reducible refine Kd.C_drewN ?_ _) | (with_reducible refine Kd.C_drew ?_))); (case side4 => exact HC0.out); rintro e w' ⟨rfl, ⟨nd, rfl⟩⟩))
          go_meet
          case rel => exact ⟨_, (!t394), rS, H', ⟨by first | omega | exact Nat.le_refl _⟩, ⟨by (with_reducible repeat (first | apply Kd.R_alloc | apply Kd.R_drewN | apply Kd.R_drew)); exact Kd.R_mono HO378.out (fun _ hk => ⟨hk.1.1.2, hk.1.2⟩)⟩, ⟨bf0 BK373.out⟩, ⟨bf0 BK374.out⟩, ⟨bw2 HB.out GE373.out GE374.out⟩⟩
         ·rw [if_neg c36] at H
          have c36b0 : (t388 == 3) = false := beq_eq_false_iff_ne.mpr c36
          have c36b1 : (t388 != 3) = true := bne_iff_ne.mpr c36
          have H' := Ax H
          clear H
          have hnb43 := NB373_374.out
          have hnc43 := NB374_373.out
          obtain ⟨hcz44_0, hcz44_1, hfz44_0, hfz44_1⟩ := cl2 BK373
          go_wp2_with (first | (go_at_call 12; (with_reducible refine (links_Check.calls k _ _ t376 t393 _ ?side1 ?side2 A32.out).mono ?_); (case side1 => repeat (first | exact (Kd.R_reads' HO378.out).2.2 | (with_reducible refine Kd.C_alloc ?_ _) | (with_reducible refine Kd.C_drewN ?_ _) | (with_reducible refine Kd.C_drew ?_))); (case side2 => exact (Kd.R_reads' HO378.out).2.1); rintro e w45 ⟨rfl, hb⟩; have n0_ := Ax (Kd.R_below (by (with_reducible repeat (first | apply Kd.R_alloc | apply Kd.R_drewN | apply Kd.R_drew)); exact HO378.out) hb); have n1_ := Ax (Kd.R_below (by (with_reducible repeat (first | apply Kd.R_alloc | apply Kd.R_drewN | apply Kd.R_drew)); exact HO392.out) hb); have n2_ := Bx0 BK373 hb; have n3_ := Bx0 BK374 hb; have n4_ := Bs2 HB hb GE373.out GE374.out; clear HO378; clear HO392; clear BK373; clear BK374; clear HB; have HO378 := n0_; have HO392 := n1_; have BK373 := n2_; have BK374 := n3_; have HB := n4_; clear n0_ n1_ n2_ n3_ n4_; (try clear hb); obtain ⟨hcz46_0, hcz46_1, hfz46_0, hfz46_1⟩ := cl2 BK373))
          go_meet
          case rel => exact ⟨_, (false), rS, H', ⟨by first | omega | exact Nat.le_refl _⟩, ⟨by (with_reducible repeat (first | apply Kd.R_alloc | apply Kd.R_drewN | apply Kd.R_drew)); exact Kd.R_mono HO378.out (fun _ hk => ⟨hk.1.1.2, hk.1.2⟩)⟩, ⟨bf0 BK373.out⟩, ⟨bf0 BK374.out⟩, ⟨bw2 HB.out GE373.out GE374.out⟩⟩
        ·rw [if_neg c35] at H
         have c35b0 : (t390 == 0) = false := beq_eq_false_iff_ne.mpr c35
         have c35b1 : (t390 != 0) = true := bne_iff_ne.mpr c35
         have H' := Ax H
         clear H
         have hnb47 := NB373_374.out
         have hnc47 := NB374_373.out
         obtain ⟨hcz48_0, hcz48_1, hfz48_0, hfz48_1⟩ := cl2 BK373
         go_wp2_with (first | (go_at_call 12; (with_reducible refine (links_Check.calls k _ _ t376 t393 _ ?side1 ?side2 A32.out).mono ?_); (case side1 => repeat (first | exact (Kd.R_reads' HO378.out).2.2 | (with_reducible refine Kd.C_alloc ?_ _) | (with_reducible refine Kd.C_drewN ?_ _) | (with_reducible refine Kd.C_drew ?_))); (case side2 => exact (Kd.R_reads' HO378.out).2.1); rintro e w49 ⟨rfl, hb⟩; have n0_ := Ax (Kd.R_below (by (with_reducible repeat (first | apply Kd.R_alloc | apply Kd.R_drewN | apply Kd.R_drew)); exact HO378.out) hb); have n1_ := Ax (Kd.R_below (by (with_reducible repeat (first | apply Kd.R_alloc | apply Kd.R_drewN | apply Kd.R_drew)); exact HO392.out) hb); have n2_ := Bx0 BK373 hb; have n3_ := Bx0 BK374 hb; have n4_ := Bs2 HB hb GE373.out GE374.out; clear HO378; clear HO392; clear BK373; clear BK374; clear HB; have HO378 := n0_; have HO392 := n1_; have BK373 := n2_; have BK374 := n3_; have HB := n4_; clear n0_ n1_ n2_ n3_ n4_; (try clear hb); obtain ⟨hcz50_0, hcz50_1, hfz50_0, hfz50_1⟩ := cl2 BK373))
         go_meet
         case rel => exact ⟨_, (true), rS, H', ⟨by first | omega | exact Nat.le_refl _⟩, ⟨by (with_reducible repeat (first | apply Kd.R_alloc | apply Kd.R_drewN | apply Kd.R_drew)); exact Kd.R_mono HO378.out (fun _ hk => ⟨hk.1.1.2, hk.1.2⟩)⟩, ⟨bf0 BK373.out⟩, ⟨bf0 BK374.out⟩, ⟨bw2 HB.out GE373.out GE374.out⟩⟩
       ·rw [if_neg c34] at H
        have c34b0 : (a3 == a1_0) = false := beq_eq_false_iff_ne.mpr c34
        have c34b1 : (a3 != a1_0) = true := bne_iff_ne.mpr c34
        by_cases c51 : t384 = t386
        ·rw [if_pos c51] at H
         have c51b0 : (t384 == t386) = true := beq_iff_eq.mpr c51
         have c51b1 : (t384 != t386) = false := bne_eq_false_iff_eq.mpr c51
         clear c51
         by_cases c52 : t383 = t385
         ·rw [if_pos c52] at H
          have c52b0 : (t383 == t385) = true := beq_iff_eq.mpr c52
          have c52b1 : (t383 != t385) = false := bne_eq_false_iff_eq.mpr c52
          clear c52
          by_cases c53 : t390 = 0
          ·rw [if_pos c53] at H
           have c53b0 : (t390 == 0) = true := beq_iff_eq.mpr c53
           have c53b1 : (t390 != 0) = false := bne_eq_false_iff_eq.mpr c53
           clear c53
           by_cases c54 : t388 = 3
           ·rw [if_pos c54] at H
            have c54b0 : (t388 == 3) = true := beq_iff_eq.mpr c54
            have c54b1 : (t388 != 3) = false := bne_eq_false_iff_eq.mpr c54
            clear c54
            replace H := Option.bind_eq_some_iff.mp H
            obtain ⟨t395, A550, H⟩ := H
            replace H : (spoorlaw16_LinksFound.j0 k l0 t376 (!t395) a1_0 a1_1 a2_0 a2_1) = some r := H
            have A55 := Ax A550
            clear A550
            have H' := Ax H
            clear H
            have hnb56 := NB373_374.out
            have hnc56 := NB374_373.out
            obtain ⟨hcz57_0, hcz57_1, hfz57_0, hfz57_1⟩ := cl2 BK373
            go_wp2_with (first | (go_at_call 12; (with_reducible refine (links_Check.calls k _ _ t376 t393 _ ?side1 ?side2 A32.out).mono ?_); (case side1 => repeat (first | exact (Kd.R_reads' HO378.out).2.2 | (with_reducible refine Kd.C_alloc ?_ _) | (with_reducible refine Kd.C_drewN ?_ _) | (with_reducible refine Kd.C_drew ?_))); (case side2 => exact (Kd.R_reads' HO378.out).2.1); rintro e w58 ⟨rfl, hb⟩; have n0_ := Ax (Kd.R_below (by (with_reducible repeat (first | apply Kd.R_alloc | apply Kd.R_drewN | apply Kd.R_drew)); exact HO378.out) hb); have n1_ := Ax (Kd.R_below (by (with_reducible repeat (first | apply Kd.R_alloc | apply Kd.R_drewN | apply Kd.R_drew)); exact HO392.out) hb); have n2_ := Bx0 BK373 hb; have n3_ := Bx0 BK374 hb; have n4_ := Bs2 HB hb GE373.out GE374.out; clear HO378; clear HO392; clear BK373; clear BK374; clear HB; have HO378 := n0_; have HO392 := n1_; have BK373 := n2_; have BK374 := n3_; have HB := n4_; clear n0_ n1_ n2_ n3_ n4_; (try clear hb); obtain ⟨hcz59_0, hcz59_1, hfz59_0, hfz59_1⟩ := cl2 BK373; obtain ⟨Ao60, co60, eo60⟩ := Kd.R_slice HO392.out; subst eo60) | (go_at_call 14; (with_reducible refine (spoorref16_Same.calls k _ _ t389 _ _ l0 t395 _ ?side1 ?side2 ?side3 ?side4 A55.out).mono ?_); (case side1 => repeat (first | exact (Kd.R_reads' HO392.out).2.2 | (with_reducible refine Kd.C_alloc ?_ _) | (with_reducible refine Kd.C_drewN ?_ _) | (with_reducible refine Kd.C_drew ?_))); (case side2 => exact (Kd.R_reads' HO392.out).2.1); (case side3 => repeat (first | exact (Kd.C_below HR0.out HB.out) | (with_reducible refine Kd.C_alloc ?_ _) | (with_reducible refine Kd.C_drewN ?_ _) | (with_reducible refine Kd.C_drew ?_))); (case side4 => exact HC0.out); rintro e w' ⟨rfl, ⟨nd, rfl⟩⟩))
            go_meet
            case rel => exact ⟨_, (!t395), rS, H', ⟨by first | omega | exact Nat.le_refl _⟩, ⟨by (with_reducible repeat (first | apply Kd.R_alloc | apply Kd.R_drewN | apply Kd.R_drew)); exact Kd.R_mono HO378.out (fun _ hk => ⟨hk.1.1.2, hk.1.2⟩)⟩, ⟨bf0 BK373.out⟩, ⟨bf0 BK374.out⟩, ⟨bw2 HB.out GE373.out GE374.out⟩⟩
           ·rw [if_neg c54] at H
            have c54b0 : (t388 == 3) = false := beq_eq_false_iff_ne.mpr c54
            have c54b1 : (t388 != 3) = true := bne_iff_ne.mpr c54
            have H' := Ax H
            clear H
            have hnb61 := NB373_374.out
            have hnc61 := NB374_373.out
            obtain ⟨hcz62_0, hcz62_1, hfz62_0, hfz62_1⟩ := cl2 BK373
            go_wp2_with (first | (go_at_call 12; (with_reducible refine (links_Check.calls k _ _ t376 t393 _ ?side1 ?side2 A32.out).mono ?_); (case side1 => repeat (first | exact (Kd.R_reads' HO378.out).2.2 | (with_reducible refine Kd.C_alloc ?_ _) | (with_reducible refine Kd.C_drewN ?_ _) | (with_reducible refine Kd.C_drew ?_))); (case side2 => exact (Kd.R_reads' HO378.out).2.1); rintro e w63 ⟨rfl, hb⟩; have n0_ := Ax (Kd.R_below (by (with_reducible repeat (first | apply Kd.R_alloc | apply Kd.R_drewN | apply Kd.R_drew)); exact HO378.out) hb); have n1_ := Ax (Kd.R_below (by (with_reducible repeat (first | apply Kd.R_alloc | apply Kd.R_drewN | apply Kd.R_drew)); exact HO392.out) hb); have n2_ := Bx0 BK373 hb; have n3_ := Bx0 BK374 hb; have n4_ := Bs2 HB hb GE373.out GE374.out; clear HO378; clear HO392; clear BK373; clear BK374; clear HB; have HO378 := n0_; have HO392 := n1_; have BK373 := n2_; have BK374 := n3_; have HB := n4_; clear n0_ n1_ n2_ n3_ n4_; (try clear hb); obtain ⟨hcz64_0, hcz64_1, hfz64_0, hfz64_1⟩ := cl2 BK373))
            go_meet
            case rel => exact ⟨_, (false), rS, H', ⟨by first | omega | exact Nat.le_refl _⟩, ⟨by (with_reducible repeat (first | apply Kd.R_alloc | apply Kd.R_drewN | apply Kd.R_drew)); exact Kd.R_mono HO378.out (fun _ hk => ⟨hk.1.1.2, hk.1.2⟩)⟩, ⟨bf0 BK373.out⟩, ⟨bf0 BK374.out⟩, ⟨bw2 HB.out GE373.out GE374.out⟩⟩
          ·rw [if_neg c53] at H
           have c53b0 : (t390 == 0) = false := beq_eq_false_iff_ne.mpr c53
           have c53b1 : (t390 != 0) = true := bne_iff_ne.mpr c53
           have H' := Ax H
           clear H
           have hnb65 := NB373_374.out
           have hnc65 := NB374_373.out
           obtain ⟨hcz66_0, hcz66_1, hfz66_0, hfz66_1⟩ := cl2 BK373
           go_wp2_with (first | (go_at_call 12; (with_reducible refine (links_Check.calls k _ _ t376 t393 _ ?side1 ?side2 A32.out).mono ?_); (case side1 => repeat (first | exact (Kd.R_reads' HO378.out).2.2 | (with_reducible refine Kd.C_alloc ?_ _) | (with_reducible refine Kd.C_drewN ?_ _) | (with_reducible refine Kd.C_drew ?_))); (case side2 => exact (Kd.R_reads' HO378.out).2.1); rintro e w67 ⟨rfl, hb⟩; have n0_ := Ax (Kd.R_below (by (with_reducible repeat (first | apply Kd.R_alloc | apply Kd.R_drewN | apply Kd.R_drew)); exact HO378.out) hb); have n1_ := Ax (Kd.R_below (by (with_reducible repeat (first | apply Kd.R_alloc | apply Kd.R_drewN | apply Kd.R_drew)); exact HO392.out) hb); have n2_ := Bx0 BK373 hb; have n3_ := Bx0 BK374 hb; have n4_ := Bs2 HB hb GE373.out GE374.out; clear HO378; clear HO392; clear BK373; clear BK374; clear HB; have HO378 := n0_; have HO392 := n1_; have BK373 := n2_; have BK374 := n3_; have HB := n4_; clear n0_ n1_ n2_ n3_ n4_; (try clear hb); obtain ⟨hcz68_0, hcz68_1, hfz68_0, hfz68_1⟩ := cl2 BK373))
           go_meet
           case rel => exact ⟨_, (true), rS, H', ⟨by first | omega | exact Nat.le_refl _⟩, ⟨by (with_reducible repeat (first | apply Kd.R_alloc | apply Kd.R_drewN | apply Kd.R_drew)); exact Kd.R_mono HO378.out (fun _ hk => ⟨hk.1.1.2, hk.1.2⟩)⟩, ⟨bf0 BK373.out⟩, ⟨bf0 BK374.out⟩, ⟨bw2 HB.out GE373.out GE374.out⟩⟩
         ·rw [if_neg c52] at H
          have c52b0 : (t383 == t385) = false := beq_eq_false_iff_ne.mpr c52
          have c52b1 : (t383 != t385) = true := bne_iff_ne.mpr c52
          have H' := Ax H
          clear H
          have hnb69 := NB373_374.out
          have hnc69 := NB374_373.out
          obtain ⟨hcz70_0, hcz70_1, hfz70_0, hfz70_1⟩ := cl2 BK373
          go_wp2_with (first | (go_at_call 12; (with_reducible refine (links_Check.calls k _ _ t376 t393 _ ?side1 ?side2 A32.out).mono ?_); (case side1 => repeat (first | exact (Kd.R_reads' HO378.out).2.2 | (with_reducible refine Kd.C_alloc ?_ _) | (with_reducible refine Kd.C_drewN ?_ _) | (with_reducible refine Kd.C_drew ?_))); (case side2 => exact (Kd.R_reads' HO378.out).2.1); rintro e w71 ⟨rfl, hb⟩; have n0_ := Ax (Kd.R_below (by (with_reducible repeat (first | apply Kd.R_alloc | apply Kd.R_drewN | apply Kd.R_drew)); exact HO378.out) hb); have n1_ := Ax (Kd.R_below (by (with_reducible repeat (first | apply Kd.R_alloc | apply Kd.R_drewN | apply Kd.R_drew)); exact HO392.out) hb); have n2_ := Bx0 BK373 hb; have n3_ := Bx0 BK374 hb; have n4_ := Bs2 HB hb GE373.out GE374.out; clear HO378; clear HO392; clear BK373; clear BK374; clear HB; have HO378 := n0_; have HO392 := n1_; have BK373 := n2_; have BK374 := n3_; have HB := n4_; clear n0_ n1_ n2_ n3_ n4_; (try clear hb); obtain ⟨hcz72_0, hcz72_1, hfz72_0, hfz72_1⟩ := cl2 BK373))
          go_meet
          case rel => exact ⟨_, (true), rS, H', ⟨by first | omega | exact Nat.le_refl _⟩, ⟨by (with_reducible repeat (first | apply Kd.R_alloc | apply Kd.R_drewN | apply Kd.R_drew)); exact Kd.R_mono HO378.out (fun _ hk => ⟨hk.1.1.2, hk.1.2⟩)⟩, ⟨bf0 BK373.out⟩, ⟨bf0 BK374.out⟩, ⟨bw2 HB.out GE373.out GE374.out⟩⟩
        ·rw [if_neg c51] at H
         have c51b0 : (t384 == t386) = false := beq_eq_false_iff_ne.mpr c51
         have c51b1 : (t384 != t386) = true := bne_iff_ne.mpr c51
         have H' := Ax H
         clear H
         have hnb73 := NB373_374.out
         have hnc73 := NB374_373.out
         obtain ⟨hcz74_0, hcz74_1, hfz74_0, hfz74_1⟩ := cl2 BK373
         go_wp2_with (first | (go_at_call 12; (with_reducible refine (links_Check.calls k _ _ t376 t393 _ ?side1 ?side2 A32.out).mono ?_); (case side1 => repeat (first | exact (Kd.R_reads' HO378.out).2.2 | (with_reducible refine Kd.C_alloc ?_ _) | (with_reducible refine Kd.C_drewN ?_ _) | (with_reducible refine Kd.C_drew ?_))); (case side2 => exact (Kd.R_reads' HO378.out).2.1); rintro e w75 ⟨rfl, hb⟩; have n0_ := Ax (Kd.R_below (by (with_reducible repeat (first | apply Kd.R_alloc | apply Kd.R_drewN | apply Kd.R_drew)); exact HO378.out) hb); have n1_ := Ax (Kd.R_below (by (with_reducible repeat (first | apply Kd.R_alloc | apply Kd.R_drewN | apply Kd.R_drew)); exact HO392.out) hb); have n2_ := Bx0 BK373 hb; have n3_ := Bx0 BK374 hb; have n4_ := Bs2 HB hb GE373.out GE374.out; clear HO378; clear HO392; clear BK373; clear BK374; clear HB; have HO378 := n0_; have HO392 := n1_; have BK373 := n2_; have BK374 := n3_; have HB := n4_; clear n0_ n1_ n2_ n3_ n4_; (try clear hb); obtain ⟨hcz76_0, hcz76_1, hfz76_0, hfz76_1⟩ := cl2 BK373))
         go_meet
         case rel => exact ⟨_, (true), rS, H', ⟨by first | omega | exact Nat.le_refl _⟩, ⟨by (with_reducible repeat (first | apply Kd.R_alloc | apply Kd.R_drewN | apply Kd.R_drew)); exact Kd.R_mono HO378.out (fun _ hk => ⟨hk.1.1.2, hk.1.2⟩)⟩, ⟨bf0 BK373.out⟩, ⟨bf0 BK374.out⟩, ⟨bw2 HB.out GE373.out GE374.out⟩⟩
      ·rw [if_neg c33] at H
       have c33b0 : (t393 == 0) = false := beq_eq_false_iff_ne.mpr c33
       have c33b1 : (t393 != 0) = true := bne_iff_ne.mpr c33
       have H' := Ax H
       clear H
       have hnb77 := NB373_374.out
       have hnc77 := NB374_373.out
       obtain ⟨hcz78_0, hcz78_1, hfz78_0, hfz78_1⟩ := cl2 BK373
       go_wp2_with (first | (go_at_call 12; (with_reducible refine (links_Check.calls k _ _ t376 t393 _ ?side1 ?side2 A32.out).mono ?_); (case side1 => repeat (first | exact (Kd.R_reads' HO378.out).2.2 | (with_reducible refine Kd.C_alloc ?_ _) | (with_reducible refine Kd.C_drewN ?_ _) | (with_reducible refine Kd.C_drew ?_))); (case side2 => exact (Kd.R_reads' HO378.out).2.1); rintro e w79 ⟨rfl, hb⟩; have n0_ := Ax (Kd.R_below (by (with_reducible repeat (first | apply Kd.R_alloc | apply Kd.R_drewN | apply Kd.R_drew)); exact HO378.out) hb); have n1_ := Ax (Kd.R_below (by (with_reducible repeat (first | apply Kd.R_alloc | apply Kd.R_drewN | apply Kd.R_drew)); exact HO392.out) hb); have n2_ := Bx0 BK373 hb; have n3_ := Bx0 BK374 hb; have n4_ := Bs2 HB hb GE373.out GE374.out; clear HO378; clear HO392; clear BK373; clear BK374; clear HB; have HO378 := n0_; have HO392 := n1_; have BK373 := n2_; have BK374 := n3_; have HB := n4_; clear n0_ n1_ n2_ n3_ n4_; (try clear hb)))
       go_meet
       case rel => exact ⟨_, (true), rS, H', ⟨by first | omega | exact Nat.le_refl _⟩, ⟨by (with_reducible repeat (first | apply Kd.R_alloc | apply Kd.R_drewN | apply Kd.R_drew)); exact Kd.R_mono HO378.out (fun _ hk => ⟨hk.1.1.2, hk.1.2⟩)⟩, ⟨bf0 BK373.out⟩, ⟨bf0 BK374.out⟩, ⟨bw2 HB.out GE373.out GE374.out⟩⟩
     ·rw [if_neg c31] at H
      have c31b0 : (t381 == a1_1) = false := beq_eq_false_iff_ne.mpr c31
      have c31b1 : (t381 != a1_1) = true := bne_iff_ne.mpr c31
      have H' := Ax H
      clear H
      have hnb80 := NB373_374.out
      have hnc80 := NB374_373.out
      obtain ⟨hcz81_0, hcz81_1, hfz81_0, hfz81_1⟩ := cl2 BK373
      go_wp2
      go_meet
      case rel => exact ⟨_, (true), rS, H', ⟨by first | omega | exact Nat.le_refl _⟩, ⟨by (with_reducible repeat (first | apply Kd.R_alloc | apply Kd.R_drewN | apply Kd.R_drew)); exact Kd.R_mono HO378.out (fun _ hk => ⟨hk.1.1.2, hk.1.2⟩)⟩, ⟨bf0 BK373.out⟩, ⟨bf0 BK374.out⟩, ⟨bw2 HB.out GE373.out GE374.out⟩⟩
    ·rw [if_neg c30] at H
     have c30b0 : (t382 == 0) = false := beq_eq_false_iff_ne.mpr c30
     have c30b1 : (t382 != 0) = true := bne_iff_ne.mpr c30
     (first | rw [c30b0] | (simp only [i64_w, i32_w]; rw [c30b0]) | skip)
     have H' := Ax H
     clear H
     go_wp2
     go_meet
     case rel => exact ⟨_, (true), rS, H', ⟨by first | omega | exact Nat.le_refl _⟩, ⟨by (with_reducible repeat (first | apply Kd.R_alloc | apply Kd.R_drewN | apply Kd.R_drew)); exact Kd.R_mono HO378.out (fun _ hk => ⟨hk.1.1.2, hk.1.2⟩)⟩, ⟨bf0 BK373.out⟩, ⟨bf0 BK374.out⟩, ⟨bw2 HB.out GE373.out GE374.out⟩⟩
   case rest =>
    clear HC14
    try clear c1
    try clear p2
    try clear c3
    try clear c4
    try clear c5
    try clear c6
    try clear c7
    try clear c8
    try clear c8b0
    try clear c8b1
    try clear c9
    try clear c11
    try clear c15
    try clear c18
    try clear c30
    try clear c30b0
    try clear c30b1
    try clear c31
    try clear c31b0
    try clear c31b1
    try clear c33
    try clear c33b0
    try clear c33b1
    try clear c34
    try clear c34b0
    try clear c34b1
    try clear c35
    try clear c35b0
    try clear c35b1
    try clear c36
    try clear c36b0
    try clear c36b1
    try clear c38
    try clear c43
    try clear c47
    try clear c51
    try clear c51b0
    try clear c51b1
    try clear c52
    try clear c52b0
    try clear c52b1
    try clear c53
    try clear c53b0
    try clear c53b1
    try clear c54
    try clear c54b0
    try clear c54b1
    try clear c56
    try clear c61
    try clear c65
    try clear c69
    try clear c73
    try clear c77
    try clear c80
    try clear hcz19_0
    try clear hcz19_1
    try clear hcz21_0
    try clear hcz21_1
    try clear hcz26_0
    try clear hcz26_1
    try clear hcz28_0
    try clear hcz28_1
    try clear hcz39_0
    try clear hcz39_1
    try clear hcz41_0
    try clear hcz41_1
    try clear hcz44_0
    try clear hcz44_1
    try clear hcz46_0
    try clear hcz46_1
    try clear hcz48_0
    try clear hcz48_1
    try clear hcz50_0
    try clear hcz50_1
    try clear hcz57_0
    try clear hcz57_1
    try clear hcz59_0
    try clear hcz59_1
    try clear hcz62_0
    try clear hcz62_1
    try clear hcz64_0
    try clear hcz64_1
    try clear hcz66_0
    try clear hcz66_1
    try clear hcz68_0
    try clear hcz68_1
    try clear hcz70_0
    try clear hcz70_1
    try clear hcz72_0
    try clear hcz72_1
    try clear hcz74_0
    try clear hcz74_1
    try clear hcz76_0
    try clear hcz76_1
    try clear hcz78_0
    try clear hcz78_1
    try clear hcz81_0
    try clear hcz81_1
    try clear hfz19_0
    try clear hfz19_1
    try clear hfz21_0
    try clear hfz21_1
    try clear hfz26_0
    try clear hfz26_1
    try clear hfz28_0
    try clear hfz28_1
    try clear hfz39_0
    try clear hfz39_1
    try clear hfz41_0
    try clear hfz41_1
    try clear hfz44_0
    try clear hfz44_1
    try clear hfz46_0
    try clear hfz46_1
    try clear hfz48_0
    try clear hfz48_1
    try clear hfz50_0
    try clear hfz50_1
    try clear hfz57_0
    try clear hfz57_1
    try clear hfz59_0
    try clear hfz59_1
    try clear hfz62_0
    try clear hfz62_1
    try clear hfz64_0
    try clear hfz64_1
    try clear hfz66_0
    try clear hfz66_1
    try clear hfz68_0
    try clear hfz68_1
    try clear hfz70_0
    try clear hfz70_1
    try clear hfz72_0
    try clear hfz72_1
    try clear hfz74_0
    try clear hfz74_1
    try clear hfz76_0
    try clear hfz76_1
    try clear hfz78_0
    try clear hfz78_1
    try clear hfz81_0
    try clear hfz81_1
    obtain ⟨kq, x122_13, rfl, HA, HJ13, HO_9, BK373, BK374, HB⟩ := hcut
    cases kq with
    | zero => exact absurd HA.out (by simp [spoorlaw16_LinksFound.j0])
    | succ kj13 =>
     have H := HA.out
     clear HA
     simp only [spoorlaw16_LinksFound.j0] at H
     by_cases c82 : x122_13 = true
     ·subst c82
      have H1 : (none) = some r := by rw [if_pos rfl] at H; exact H
      clear H
      have H := H1
      clear H1
      exact absurd H (by simp)
     ·replace c82 := Bool.eq_false_iff.mpr c82
      subst c82
      have H1 : ((links_Put.f kj13 t376 a2_0 a2_1).bind fun bt396 => ((links_Put.f kj13 l0 a2_0 a2_1).bind fun bt400 => ((links_Put.f kj13 bt400.1 a1_0 a1_1).bind fun bt404 => (if a1_0 = a2_0 then (some true) else (if bt396.2 = 0 then (if bt400.2 = 0 then (if bt404.2 = 0 then ((spoorref16_Same.f kj13 bt396.1 bt404.1).bind fun t408 => (some t408)) else (none)) else (some true)) else (some true)))))) = some r := by rw [if_neg (show ¬ (false = true) by decide)] at H; exact H
      clear H
      have H := H1
      clear H1
      replace H := Option.bind_eq_some_iff.mp H
      obtain ⟨⟨t396, t399⟩, A830, H⟩ := H
      replace H : ((links_Put.f kj13 l0 a2_0 a2_1).bind fun bt400 => ((links_Put.f kj13 bt400.1 a1_0 a1_1).bind fun bt404 => (if a1_0 = a2_0 then (some true) else (if t399 = 0 then (if bt400.2 = 0 then (if bt404.2 = 0 then ((spoorref16_Same.f kj13 t396 bt404.1).bind fun t408 => (some t408)) else (none)) else (some true)) else (some true))))) = some r := H
      have A83 := Ax A830
      clear A830
      replace H := Option.bind_eq_some_iff.mp H
      obtain ⟨⟨t400, t403⟩, A840, H⟩ := H
      replace H : ((links_Put.f kj13 t400 a1_0 a1_1).bind fun bt404 => (if a1_0 = a2_0 then (some true) else (if t399 = 0 then (if t403 = 0 then (if bt404.2 = 0 then ((spoorref16_Same.f kj13 t396 bt404.1).bind fun t408 => (some t408)) else (none)) else (some true)) else (some true)))) = some r := H
      have A84 := Ax A840
      clear A840
      replace H := Option.bind_eq_some_iff.mp H
      obtain ⟨⟨t404, t407⟩, A850, H⟩ := H
      replace H : (if a1_0 = a2_0 then (some true) else (if t399 = 0 then (if t403 = 0 then (if t407 = 0 then ((spoorref16_Same.f kj13 t396 t404).bind fun t408 => (some t408)) else (none)) else (some true)) else (some true))) = some r := H
      have A85 := Ax A850
      clear A850
      by_cases c86 : a1_0 = a2_0
      ·rw [if_pos c86] at H
       have c86b0 : (a1_0 == a2_0) = true := beq_iff_eq.mpr c86
       have c86b1 : (a1_0 != a2_0) = false := bne_eq_false_iff_eq.mpr c86
       clear c86
       obtain rfl := Option.some.inj H
       have hnb87 := NB374_373.out
       have hnc87 := NB373_374.out
       obtain ⟨hcz88_0, hcz88_1, hfz88_0, hfz88_1⟩ := cl2 BK374
       go_wp2_with (first | ((with_reducible refine gate_callee (f := 7) rfl ?_); refine goesL_ (some 126) rfl rfl Try.func7 (by kernel_rfl) rfl #[.slice Ao22 t376.length co22, .agg #[.int .i64 a2_0, .int .i64 a2_1]] rfl gS ?_; (with_reducible refine (links_Put.calls kj13 _ _ t376 a2_0 a2_1 t396 t399 _ ?side1 ?side2 A83.out).mono ?_); (case side1 => repeat (first | exact (Kd.R_reads' HO_9.out).2.2 | (with_reducible refine Kd.C_alloc ?_ _) | (with_reducible refine Kd.C_drewN ?_ _) | (with_reducible refine Kd.C_drew ?_))); (case side2 => exact (Kd.R_reads' HO_9.out).2.1); rintro e w89 ⟨v397, rfl, ho0, hb⟩; refine ⟨_, rfl, ?_⟩; have n0_ := Ax (Kd.R_elder' (by (with_reducible repeat (first | apply Kd.R_alloc | apply Kd.R_drewN | apply Kd.R_drew)); exact HO_9.out) (Kd.R_base ho0) hb); have n1_ := Ax (Kd.R_lower (Kd.R_newB (Kd.R_newB (Kd.R_new' ho0 (Kd.R_lt (by (with_reducible repeat (first | apply Kd.R_alloc | apply Kd.R_drewN | apply Kd.R_drew)); exact HO_9.out))) (g := gb373) (o := .cells #[.int .i64 a1_0, .int .i64 a1_1] 24 (0, 0)) (bf0 BK373.out)) (g := gb374) (o := .cells #[.int .i64 a2_0, .int .i64 a2_1] 24 (0, 0)) (bf0 BK374.out)) (below_size (bw2 HB.out GE373.out GE374.out))); have n2_ := Bx0 BK373 hb; have n3_ := Bx0 BK374 hb; have n4_ := Bs2 HB hb GE373.out GE374.out; clear HO_9; clear BK373; clear BK374; clear HB; have HO_9 := n0_; have HO398 := n1_; have BK373 := n2_; have BK374 := n3_; have HB := n4_; clear n0_ n1_ n2_ n3_ n4_; (try clear hb); (try clear ho0); obtain ⟨hcz90_0, hcz90_1, hfz90_0, hfz90_1⟩ := cl2 BK374) | ((with_reducible refine gate_callee (f := 7) rfl ?_); refine goesL_ (some 132) rfl rfl Try.func7 (by kernel_rfl) rfl #[.slice A0 l0.length c0, .agg #[.int .i64 a2_0, .int .i64 a2_1]] rfl gS ?_; (with_reducible refine (links_Put.calls kj13 _ _ l0 a2_0 a2_1 t400 t403 _ ?side1 ?side2 A84.out).mono ?_); (case side1 => repeat (first | exact (Kd.C_below HR0.out HB.out) | (with_reducible refine Kd.C_alloc ?_ _) | (with_reducible refine Kd.C_drewN ?_ _) | (with_reducible refine Kd.C_drew ?_))); (case side2 => exact HC0.out); rintro e w91 ⟨v401, rfl, ho0, hb⟩; refine ⟨_, rfl, ?_⟩; have n0_ := Ax (Kd.R_elder' (by (with_reducible repeat (first | apply Kd.R_alloc | apply Kd.R_drewN | apply Kd.R_drew)); exact HO_9.out) (Kd.R_base ho0) hb); have n1_ := Ax (Kd.R_elder' (by (with_reducible repeat (first | apply Kd.R_alloc | apply Kd.R_drewN | apply Kd.R_drew)); exact HO398.out) (Kd.R_base ho0) hb); have n2_ := Ax (Kd.R_lower (Kd.R_newB (Kd.R_newB (Kd.R_new' (Kd.R_new' ho0 (Kd.R_lt (by (with_reducible repeat (first | apply Kd.R_alloc | apply Kd.R_drewN | apply Kd.R_drew)); exact HO_9.out))) (Kd.R_lt (by (with_reducible repeat (first | apply Kd.R_alloc | apply Kd.R_drewN | apply Kd.R_drew)); exact HO398.out))) (g := gb373) (o := .cells #[.int .i64 a1_0, .int .i64 a1_1] 24 (0, 0)) (bf0 BK373.out)) (g := gb374) (o := .cells #[.int .i64 a2_0, .int .i64 a2_1] 24 (0, 0)) (bf0 BK374.out)) (below_size (bw2 HB.out GE373.out GE374.out))); have n3_ := Bx0 BK373 hb; have n4_ := Bx0 BK374 hb; have n5_ := Bs2 HB hb GE373.out GE374.out; clear HO_9; clear HO398; clear BK373; clear BK374; clear HB; have HO_9 := n0_; have HO398 := n1_; have HO402 := n2_; have BK373 := n3_; have BK374 := n4_; have HB := n5_; clear n0_ n1_ n2_ n3_ n4_ n5_; (try clear hb); (try clear ho0); obtain ⟨hcz92_0, hcz92_1, hfz92_0, hfz92_1⟩ := cl2 BK373; obtain ⟨Ao93, co93, eo93⟩ := Kd.R_slice HO402.out; subst eo93) | ((with_reducible refine gate_callee (f := 7) rfl ?_); refine goesL_ (some 138) rfl rfl Try.func7 (by kernel_rfl) rfl #[.slice Ao93 t400.length co93, .agg #[.int .i64 a1_0, .int .i64 a1_1]] rfl gS ?_; (with_reducible refine (links_Put.calls kj13 _ _ t400 a1_0 a1_1 t404 t407 _ ?side1 ?side2 A85.out).mono ?_); (case side1 => repeat (first | exact (Kd.R_reads' HO402.out).2.2 | (with_reducible refine Kd.C_alloc ?_ _) | (with_reducible refine Kd.C_drewN ?_ _) | (with_reducible refine Kd.C_drew ?_))); (case side2 => exact (Kd.R_reads' HO402.out).2.1); rintro e w94 ⟨v405, rfl, ho0, hb⟩; refine ⟨_, rfl, ?_⟩; have n0_ := Ax (Kd.R_elder' (by (with_reducible repeat (first | apply Kd.R_alloc | apply Kd.R_drewN | apply Kd.R_drew)); exact HO_9.out) (Kd.R_base ho0) hb); have n1_ := Ax (Kd.R_elder' (by (with_reducible repeat (first | apply Kd.R_alloc | apply Kd.R_drewN | apply Kd.R_drew)); exact HO398.out) (Kd.R_base ho0) hb); have n2_ := Ax (Kd.R_elder' (by (with_reducible repeat (first | apply Kd.R_alloc | apply Kd.R_drewN | apply Kd.R_drew)); exact HO402.out) (Kd.R_base ho0) hb); have n3_ := Ax (Kd.R_lower (Kd.R_newB (Kd.R_newB (Kd.R_new' (Kd.R_new' (Kd.R_new' ho0 (Kd.R_lt (by (with_reducible repeat (first | apply Kd.R_alloc | apply Kd.R_drewN | apply Kd.R_drew)); exact HO_9.out))) (Kd.R_lt (by (with_reducible repeat (first | apply Kd.R_alloc | apply Kd.R_drewN | apply Kd.R_drew)); exact HO398.out))) (Kd.R_lt (by (with_reducible repeat (first | apply Kd.R_alloc | apply Kd.R_drewN | apply Kd.R_drew)); exact HO402.out))) (g := gb373) (o := .cells #[.int .i64 a1_0, .int .i64 a1_1] 24 (0, 0)) (bf0 BK373.out)) (g := gb374) (o := .cells #[.int .i64 a2_0, .int .i64 a2_1] 24 (0, 0)) (bf0 BK374.out)) (below_size (bw2 HB.out GE373.out GE374.out))); have n4_ := Bx0 BK373 hb; have n5_ := Bx0 BK374 hb; have n6_ := Bs2 HB hb GE373.out GE374.out; clear HO_9; clear HO398; clear HO402; clear BK373; clear BK374; clear HB; have HO_9 := n0_; have HO398 := n1_; have HO402 := n2_; have HO406 := n3_; have BK373 := n4_; have BK374 := n5_; have HB := n6_; clear n0_ n1_ n2_ n3_ n4_ n5_ n6_; (try clear hb); (try clear ho0); obtain ⟨hcz95_0, hcz95_1, hfz95_0, hfz95_1⟩ := cl2 BK373; obtain ⟨hcz96_0, hcz96_1, hfz96_0, hfz96_1⟩ := cl2 BK374))
       go_ret
       exact ⟨eS, bw2 HB.out GE373.out GE374.out⟩
      ·rw [if_neg c86] at H
       have c86b0 : (a1_0 == a2_0) = false := beq_eq_false_iff_ne.mpr c86
       have c86b1 : (a1_0 != a2_0) = true := bne_iff_ne.mpr c86
       by_cases c97 : t399 = 0
       ·rw [if_pos c97] at H
        have c97b0 : (t399 == 0) = true := beq_iff_eq.mpr c97
        have c97b1 : (t399 != 0) = false := bne_eq_false_iff_eq.mpr c97
        clear c97
        by_cases c98 : t403 = 0
        ·rw [if_pos c98] at H
         have c98b0 : (t403 == 0) = true := beq_iff_eq.mpr c98
         have c98b1 : (t403 != 0) = false := bne_eq_false_iff_eq.mpr c98
         clear c98
         by_cases c99 : t407 = 0
         ·rw [if_pos c99] at H
          have c99b0 : (t407 == 0) = true := beq_iff_eq.mpr c99
          have c99b1 : (t407 != 0) = false := bne_eq_false_iff_eq.mpr c99
          clear c99
          replace H := Option.bind_eq_some_iff.mp H
          obtain ⟨t408, A1000, H⟩ := H
          replace H : (some t408) = some r := H
          have A100 := Ax A1000
          clear A1000
          obtain rfl := Option.some.inj H
          have hnb101 := NB374_373.out
          have hnc101 := NB373_374.out
          obtain ⟨hcz102_0, hcz102_1, hfz102_0, hfz102_1⟩ := cl2 BK374
          go_wp2_with (first | ((with_reducible refine gate_callee (f := 7) rfl ?_); refine goesL_ (some 126) rfl rfl Try.func7 (by kernel_rfl) rfl #[.slice Ao22 t376.length co22, .agg #[.int .i64 a2_0, .int .i64 a2_1]] rfl gS ?_; (with_reducible refine (links_Put.calls kj13 _ _ t376 a2_0 a2_1 t396 t399 _ ?side1 ?side2 A83.out).mono ?_); (case side1 => repeat (first | exact (Kd.R_reads' HO_9.out).2.2 | (with_reducible refine Kd.C_alloc ?_ _) | (with_reducible refine Kd.C_drewN ?_ _) | (with_reducible refine Kd.C_drew ?_))); (case side2 => exact (Kd.R_reads' HO_9.out).2.1); rintro e w103 ⟨v397, rfl, ho0, hb⟩; refine ⟨_, rfl, ?_⟩; have n0_ := Ax (Kd.R_elder' (by (with_reducible repeat (first | apply Kd.R_alloc | apply Kd.R_drewN | apply Kd.R_drew)); exact HO_9.out) (Kd.R_base ho0) hb); have n1_ := Ax (Kd.R_lower (Kd.R_newB (Kd.R_newB (Kd.R_new' ho0 (Kd.R_lt (by (with_reducible repeat (first | apply Kd.R_alloc | apply Kd.R_drewN | apply Kd.R_drew)); exact HO_9.out))) (g := gb373) (o := .cells #[.int .i64 a1_0, .int .i64 a1_1] 24 (0, 0)) (bf0 BK373.out)) (g := gb374) (o := .cells #[.int .i64 a2_0, .int .i64 a2_1] 24 (0, 0)) (bf0 BK374.out)) (below_size (bw2 HB.out GE373.out GE374.out))); have n2_ := Bx0 BK373 hb; have n3_ := Bx0 BK374 hb; have n4_ := Bs2 HB hb GE373.out GE374.out; clear HO_9; clear BK373; clear BK374; clear HB; have HO_9 := n0_; have HO398 := n1_; have BK373 := n2_; have BK374 := n3_; have HB := n4_; clear n0_ n1_ n2_ n3_ n4_; (try clear hb); (try clear ho0); obtain ⟨hcz104_0, hcz104_1, hfz104_0, hfz104_1⟩ := cl2 BK374) | ((with_reducible refine gate_callee (f := 7) rfl ?_); refine goesL_ (some 132) rfl rfl Try.func7 (by kernel_rfl) rfl #[.slice A0 l0.length c0, .agg #[.int .i64 a2_0, .int .i64 a2_1]] rfl gS ?_; (with_reducible refine (links_Put.calls kj13 _ _ l0 a2_0 a2_1 t400 t403 _ ?side1 ?side2 A84.out).mono ?_); (case side1 => repeat (first | exact (Kd.C_below HR0.out HB.out) | (with_reducible refine Kd.C_alloc ?_ _) | (with_reducible refine Kd.C_drewN ?_ _) | (with_reducible refine Kd.C_drew ?_))); (case side2 => exact HC0.out); rintro e w105 ⟨v401, rfl, ho0, hb⟩; refine ⟨_, rfl, ?_⟩; have n0_ := Ax (Kd.R_elder' (by (with_reducible repeat (first | apply Kd.R_alloc | apply Kd.R_drewN | apply Kd.R_drew)); exact HO_9.out) (Kd.R_base ho0) hb); have n1_ := Ax (Kd.R_elder' (by (with_reducible repeat (first | apply Kd.R_alloc | apply Kd.R_drewN | apply Kd.R_drew)); exact HO398.out) (Kd.R_base ho0) hb); have n2_ := Ax (Kd.R_lower (Kd.R_newB (Kd.R_newB (Kd.R_new' (Kd.R_new' ho0 (Kd.R_lt (by (with_reducible repeat (first | apply Kd.R_alloc | apply Kd.R_drewN | apply Kd.R_drew)); exact HO_9.out))) (Kd.R_lt (by (with_reducible repeat (first | apply Kd.R_alloc | apply Kd.R_drewN | apply Kd.R_drew)); exact HO398.out))) (g := gb373) (o := .cells #[.int .i64 a1_0, .int .i64 a1_1] 24 (0, 0)) (bf0 BK373.out)) (g := gb374) (o := .cells #[.int .i64 a2_0, .int .i64 a2_1] 24 (0, 0)) (bf0 BK374.out)) (below_size (bw2 HB.out GE373.out GE374.out))); have n3_ := Bx0 BK373 hb; have n4_ := Bx0 BK374 hb; have n5_ := Bs2 HB hb GE373.out GE374.out; clear HO_9; clear HO398; clear BK373; clear BK374; clear HB; have HO_9 := n0_; have HO398 := n1_; have HO402 := n2_; have BK373 := n3_; have BK374 := n4_; have HB := n5_; clear n0_ n1_ n2_ n3_ n4_ n5_; (try clear hb); (try clear ho0); obtain ⟨hcz106_0, hcz106_1, hfz106_0, hfz106_1⟩ := cl2 BK373; obtain ⟨Ao107, co107, eo107⟩ := Kd.R_slice HO402.out; subst eo107) | ((with_reducible refine gate_callee (f := 7) rfl ?_); refine goesL_ (some 138) rfl rfl Try.func7 (by kernel_rfl) rfl #[.slice Ao107 t400.length co107, .agg #[.int .i64 a1_0, .int .i64 a1_1]] rfl gS ?_; (with_reducible refine (links_Put.calls kj13 _ _ t400 a1_0 a1_1 t404 t407 _ ?side1 ?side2 A85.out).mono ?_); (case side1 => repeat (first | exact (Kd.R_reads' HO402.out).2.2 | (with_reducible refine Kd.C_alloc ?_ _) | (with_reducible refine Kd.C_drewN ?_ _) | (with_reducible refine Kd.C_drew ?_))); (case side2 => exact (Kd.R_reads' HO402.out).2.1); rintro e w108 ⟨v405, rfl, ho0, hb⟩; refine ⟨_, rfl, ?_⟩; have n0_ := Ax (Kd.R_elder' (by (with_reducible repeat (first | apply Kd.R_alloc | apply Kd.R_drewN | apply Kd.R_drew)); exact HO_9.out) (Kd.R_base ho0) hb); have n1_ := Ax (Kd.R_elder' (by (with_reducible repeat (first | apply Kd.R_alloc | apply Kd.R_drewN | apply Kd.R_drew)); exact HO398.out) (Kd.R_base ho0) hb); have n2_ := Ax (Kd.R_elder' (by (with_reducible repeat (first | apply Kd.R_alloc | apply Kd.R_drewN | apply Kd.R_drew)); exact HO402.out) (Kd.R_base ho0) hb); have n3_ := Ax (Kd.R_lower (Kd.R_newB (Kd.R_newB (Kd.R_new' (Kd.R_new' (Kd.R_new' ho0 (Kd.R_lt (by (with_reducible repeat (first | apply Kd.R_alloc | apply Kd.R_drewN | apply Kd.R_drew)); exact HO_9.out))) (Kd.R_lt (by (with_reducible repeat (first | apply Kd.R_alloc | apply Kd.R_drewN | apply Kd.R_drew)); exact HO398.out))) (Kd.R_lt (by (with_reducible repeat (first | apply Kd.R_alloc | apply Kd.R_drewN | apply Kd.R_drew)); exact HO402.out))) (g := gb373) (o := .cells #[.int .i64 a1_0, .int .i64 a1_1] 24 (0, 0)) (bf0 BK373.out)) (g := gb374) (o := .cells #[.int .i64 a2_0, .int .i64 a2_1] 24 (0, 0)) (bf0 BK374.out)) (below_size (bw2 HB.out GE373.out GE374.out))); have n4_ := Bx0 BK373 hb; have n5_ := Bx0 BK374 hb; have n6_ := Bs2 HB hb GE373.out GE374.out; clear HO_9; clear HO398; clear HO402; clear BK373; clear BK374; clear HB; have HO_9 := n0_; have HO398 := n1_; have HO402 := n2_; have HO406 := n3_; have BK373 := n4_; have BK374 := n5_; have HB := n6_; clear n0_ n1_ n2_ n3_ n4_ n5_ n6_; (try clear hb); (try clear ho0); obtain ⟨hcz109_0, hcz109_1, hfz109_0, hfz109_1⟩ := cl2 BK373; obtain ⟨hcz110_0, hcz110_1, hfz110_0, hfz110_1⟩ := cl2 BK374; obtain ⟨Ao111, co111, eo111⟩ := Kd.R_slice HO398.out; subst eo111; obtain ⟨Ao112, co112, eo112⟩ := Kd.R_slice HO406.out; subst eo112) | (go_at_call 14; (with_reducible refine (spoorref16_Same.calls kj13 _ _ t396 _ _ t404 t408 _ ?side1 ?side2 ?side3 ?side4 A100.out).mono ?_); (case side1 => repeat (first | exact (Kd.R_reads' HO398.out).2.2 | (with_reducible refine Kd.C_alloc ?_ _) | (with_reducible refine Kd.C_drewN ?_ _) | (with_reducible refine Kd.C_drew ?_))); (case side2 => exact (Kd.R_reads' HO398.out).2.1); (case side3 => repeat (first | exact (Kd.R_reads' HO406.out).2.2 | (with_reducible refine Kd.C_alloc ?_ _) | (with_reducible refine Kd.C_drewN ?_ _) | (with_reducible refine Kd.C_drew ?_))); (case side4 => exact (Kd.R_reads' HO406.out).2.1); rintro e w' ⟨rfl, ⟨nd, rfl⟩⟩))
          go_ret
          exact ⟨eS, bw2 HB.out GE373.out GE374.out⟩
         ·rw [if_neg c99] at H
          exact absurd H (by simp)
        ·rw [if_neg c98] at H
         have c98b0 : (t403 == 0) = false := beq_eq_false_iff_ne.mpr c98
         have c98b1 : (t403 != 0) = true := bne_iff_ne.mpr c98
         obtain rfl := Option.some.inj H
         have hnb113 := NB374_373.out
         have hnc113 := NB373_374.out
         obtain ⟨hcz114_0, hcz114_1, hfz114_0, hfz114_1⟩ := cl2 BK374
         go_wp2_with (first | ((with_reducible refine gate_callee (f := 7) rfl ?_); refine goesL_ (some 126) rfl rfl Try.func7 (by kernel_rfl) rfl #[.slice Ao22 t376.length co22, .agg #[.int .i64 a2_0, .int .i64 a2_1]] rfl gS ?_; (with_reducible refine (links_Put.calls kj13 _ _ t376 a2_0 a2_1 t396 t399 _ ?side1 ?side2 A83.out).mono ?_); (case side1 => repeat (first | exact (Kd.R_reads' HO_9.out).2.2 | (with_reducible refine Kd.C_alloc ?_ _) | (with_reducible refine Kd.C_drewN ?_ _) | (with_reducible refine Kd.C_drew ?_))); (case side2 => exact (Kd.R_reads' HO_9.out).2.1); rintro e w115 ⟨v397, rfl, ho0, hb⟩; refine ⟨_, rfl, ?_⟩; have n0_ := Ax (Kd.R_elder' (by (with_reducible repeat (first | apply Kd.R_alloc | apply Kd.R_drewN | apply Kd.R_drew)); exact HO_9.out) (Kd.R_base ho0) hb); have n1_ := Ax (Kd.R_lower (Kd.R_newB (Kd.R_newB (Kd.R_new' ho0 (Kd.R_lt (by (with_reducible repeat (first | apply Kd.R_alloc | apply Kd.R_drewN | apply Kd.R_drew)); exact HO_9.out))) (g := gb373) (o := .cells #[.int .i64 a1_0, .int .i64 a1_1] 24 (0, 0)) (bf0 BK373.out)) (g := gb374) (o := .cells #[.int .i64 a2_0, .int .i64 a2_1] 24 (0, 0)) (bf0 BK374.out)) (below_size (bw2 HB.out GE373.out GE374.out))); have n2_ := Bx0 BK373 hb; have n3_ := Bx0 BK374 hb; have n4_ := Bs2 HB hb GE373.out GE374.out; clear HO_9; clear BK373; clear BK374; clear HB; have HO_9 := n0_; have HO398 := n1_; have BK373 := n2_; have BK374 := n3_; have HB := n4_; clear n0_ n1_ n2_ n3_ n4_; (try clear hb); (try clear ho0); obtain ⟨hcz116_0, hcz116_1, hfz116_0, hfz116_1⟩ := cl2 BK374) | ((with_reducible refine gate_callee (f := 7) rfl ?_); refine goesL_ (some 132) rfl rfl Try.func7 (by kernel_rfl) rfl #[.slice A0 l0.length c0, .agg #[.int .i64 a2_0, .int .i64 a2_1]] rfl gS ?_; (with_reducible refine (links_Put.calls kj13 _ _ l0 a2_0 a2_1 t400 t403 _ ?side1 ?side2 A84.out).mono ?_); (case side1 => repeat (first | exact (Kd.C_below HR0.out HB.out) | (with_reducible refine Kd.C_alloc ?_ _) | (with_reducible refine Kd.C_drewN ?_ _) | (with_reducible refine Kd.C_drew ?_))); (case side2 => exact HC0.out); rintro e w117 ⟨v401, rfl, ho0, hb⟩; refine ⟨_, rfl, ?_⟩; have n0_ := Ax (Kd.R_elder' (by (with_reducible repeat (first | apply Kd.R_alloc | apply Kd.R_drewN | apply Kd.R_drew)); exact HO_9.out) (Kd.R_base ho0) hb); have n1_ := Ax (Kd.R_elder' (by (with_reducible repeat (first | apply Kd.R_alloc | apply Kd.R_drewN | apply Kd.R_drew)); exact HO398.out) (Kd.R_base ho0) hb); have n2_ := Ax (Kd.R_lower (Kd.R_newB (Kd.R_newB (Kd.R_new' (Kd.R_new' ho0 (Kd.R_lt (by (with_reducible repeat (first | apply Kd.R_alloc | apply Kd.R_drewN | apply Kd.R_drew)); exact HO_9.out))) (Kd.R_lt (by (with_reducible repeat (first | apply Kd.R_alloc | apply Kd.R_drewN | apply Kd.R_drew)); exact HO398.out))) (g := gb373) (o := .cells #[.int .i64 a1_0, .int .i64 a1_1] 24 (0, 0)) (bf0 BK373.out)) (g := gb374) (o := .cells #[.int .i64 a2_0, .int .i64 a2_1] 24 (0, 0)) (bf0 BK374.out)) (below_size (bw2 HB.out GE373.out GE374.out))); have n3_ := Bx0 BK373 hb; have n4_ := Bx0 BK374 hb; have n5_ := Bs2 HB hb GE373.out GE374.out; clear HO_9; clear HO398; clear BK373; clear BK374; clear HB; have HO_9 := n0_; have HO398 := n1_; have HO402 := n2_; have BK373 := n3_; have BK374 := n4_; have HB := n5_; clear n0_ n1_ n2_ n3_ n4_ n5_; (try clear hb); (try clear ho0); obtain ⟨hcz118_0, hcz118_1, hfz118_0, hfz118_1⟩ := cl2 BK373; obtain ⟨Ao119, co119, eo119⟩ := Kd.R_slice HO402.out; subst eo119) | ((with_reducible refine gate_callee (f := 7) rfl ?_); refine goesL_ (some 138) rfl rfl Try.func7 (by kernel_rfl) rfl #[.slice Ao119 t400.length co119, .agg #[.int .i64 a1_0, .int .i64 a1_1]] rfl gS ?_; (with_reducible refine (links_Put.calls kj13 _ _ t400 a1_0 a1_1 t404 t407 _ ?side1 ?side2 A85.out).mono ?_); (case side1 => repeat (first | exact (Kd.R_reads' HO402.out).2.2 | (with_reducible refine Kd.C_alloc ?_ _) | (with_reducible refine Kd.C_drewN ?_ _) | (with_reducible refine Kd.C_drew ?_))); (case side2 => exact (Kd.R_reads' HO402.out).2.1); rintro e w120 ⟨v405, rfl, ho0, hb⟩; refine ⟨_, rfl, ?_⟩; have n0_ := Ax (Kd.R_elder' (by (with_reducible repeat (first | apply Kd.R_alloc | apply Kd.R_drewN | apply Kd.R_drew)); exact HO_9.out) (Kd.R_base ho0) hb); have n1_ := Ax (Kd.R_elder' (by (with_reducible repeat (first | apply Kd.R_alloc | apply Kd.R_drewN | apply Kd.R_drew)); exact HO398.out) (Kd.R_base ho0) hb); have n2_ := Ax (Kd.R_elder' (by (with_reducible repeat (first | apply Kd.R_alloc | apply Kd.R_drewN | apply Kd.R_drew)); exact HO402.out) (Kd.R_base ho0) hb); have n3_ := Ax (Kd.R_lower (Kd.R_newB (Kd.R_newB (Kd.R_new' (Kd.R_new' (Kd.R_new' ho0 (Kd.R_lt (by (with_reducible repeat (first | apply Kd.R_alloc | apply Kd.R_drewN | apply Kd.R_drew)); exact HO_9.out))) (Kd.R_lt (by (with_reducible repeat (first | apply Kd.R_alloc | apply Kd.R_drewN | apply Kd.R_drew)); exact HO398.out))) (Kd.R_lt (by (with_reducible repeat (first | apply Kd.R_alloc | apply Kd.R_drewN | apply Kd.R_drew)); exact HO402.out))) (g := gb373) (o := .cells #[.int .i64 a1_0, .int .i64 a1_1] 24 (0, 0)) (bf0 BK373.out)) (g := gb374) (o := .cells #[.int .i64 a2_0, .int .i64 a2_1] 24 (0, 0)) (bf0 BK374.out)) (below_size (bw2 HB.out GE373.out GE374.out))); have n4_ := Bx0 BK373 hb; have n5_ := Bx0 BK374 hb; have n6_ := Bs2 HB hb GE373.out GE374.out; clear HO_9; clear HO398; clear HO402; clear BK373; clear BK374; clear HB; have HO_9 := n0_; have HO398 := n1_; have HO402 := n2_; have HO406 := n3_; have BK373 := n4_; have BK374 := n5_; have HB := n6_; clear n0_ n1_ n2_ n3_ n4_ n5_ n6_; (try clear hb); (try clear ho0); obtain ⟨hcz121_0, hcz121_1, hfz121_0, hfz121_1⟩ := cl2 BK373; obtain ⟨hcz122_0, hcz122_1, hfz122_0, hfz122_1⟩ := cl2 BK374))
         go_ret
         exact ⟨eS, bw2 HB.out GE373.out GE374.out⟩
       ·rw [if_neg c97] at H
        have c97b0 : (t399 == 0) = false := beq_eq_false_iff_ne.mpr c97
        have c97b1 : (t399 != 0) = true := bne_iff_ne.mpr c97
        obtain rfl := Option.some.inj H
        have hnb123 := NB374_373.out
        have hnc123 := NB373_374.out
        obtain ⟨hcz124_0, hcz124_1, hfz124_0, hfz124_1⟩ := cl2 BK374
        go_wp2_with (first | ((with_reducible refine gate_callee (f := 7) rfl ?_); refine goesL_ (some 126) rfl rfl Try.func7 (by kernel_rfl) rfl #[.slice Ao22 t376.length co22, .agg #[.int .i64 a2_0, .int .i64 a2_1]] rfl gS ?_; (with_reducible refine (links_Put.calls kj13 _ _ t376 a2_0 a2_1 t396 t399 _ ?side1 ?side2 A83.out).mono ?_); (case side1 => repeat (first | exact (Kd.R_reads' HO_9.out).2.2 | (with_reducible refine Kd.C_alloc ?_ _) | (with_reducible refine Kd.C_drewN ?_ _) | (with_reducible refine Kd.C_drew ?_))); (case side2 => exact (Kd.R_reads' HO_9.out).2.1); rintro e w125 ⟨v397, rfl, ho0, hb⟩; refine ⟨_, rfl, ?_⟩; have n0_ := Ax (Kd.R_elder' (by (with_reducible repeat (first | apply Kd.R_alloc | apply Kd.R_drewN | apply Kd.R_drew)); exact HO_9.out) (Kd.R_base ho0) hb); have n1_ := Ax (Kd.R_lower (Kd.R_newB (Kd.R_newB (Kd.R_new' ho0 (Kd.R_lt (by (with_reducible repeat (first | apply Kd.R_alloc | apply Kd.R_drewN | apply Kd.R_drew)); exact HO_9.out))) (g := gb373) (o := .cells #[.int .i64 a1_0, .int .i64 a1_1] 24 (0, 0)) (bf0 BK373.out)) (g := gb374) (o := .cells #[.int .i64 a2_0, .int .i64 a2_1] 24 (0, 0)) (bf0 BK374.out)) (below_size (bw2 HB.out GE373.out GE374.out))); have n2_ := Bx0 BK373 hb; have n3_ := Bx0 BK374 hb; have n4_ := Bs2 HB hb GE373.out GE374.out; clear HO_9; clear BK373; clear BK374; clear HB; have HO_9 := n0_; have HO398 := n1_; have BK373 := n2_; have BK374 := n3_; have HB := n4_; clear n0_ n1_ n2_ n3_ n4_; (try clear hb); (try clear ho0); obtain ⟨hcz126_0, hcz126_1, hfz126_0, hfz126_1⟩ := cl2 BK374) | ((with_reducible refine gate_callee (f := 7) rfl ?_); refine goesL_ (some 132) rfl rfl Try.func7 (by kernel_rfl) rfl #[.slice A0 l0.length c0, .agg #[.int .i64 a2_0, .int .i64 a2_1]] rfl gS ?_; (with_reducible refine (links_Put.calls kj13 _ _ l0 a2_0 a2_1 t400 t403 _ ?side1 ?side2 A84.out).mono ?_); (case side1 => repeat (first | exact (Kd.C_below HR0.out HB.out) | (with_reducible refine Kd.C_alloc ?_ _) | (with_reducible refine Kd.C_drewN ?_ _) | (with_reducible refine Kd.C_drew ?_))); (case side2 => exact HC0.out); rintro e w127 ⟨v401, rfl, ho0, hb⟩; refine ⟨_, rfl, ?_⟩; have n0_ := Ax (Kd.R_elder' (by (with_reducible repeat (first | apply Kd.R_alloc | apply Kd.R_drewN | apply Kd.R_drew)); exact HO_9.out) (Kd.R_base ho0) hb); have n1_ := Ax (Kd.R_elder' (by (with_reducible repeat (first | apply Kd.R_alloc | apply Kd.R_drewN | apply Kd.R_drew)); exact HO398.out) (Kd.R_base ho0) hb); have n2_ := Ax (Kd.R_lower (Kd.R_newB (Kd.R_newB (Kd.R_new' (Kd.R_new' ho0 (Kd.R_lt (by (with_reducible repeat (first | apply Kd.R_alloc | apply Kd.R_drewN | apply Kd.R_drew)); exact HO_9.out))) (Kd.R_lt (by (with_reducible repeat (first | apply Kd.R_alloc | apply Kd.R_drewN | apply Kd.R_drew)); exact HO398.out))) (g := gb373) (o := .cells #[.int .i64 a1_0, .int .i64 a1_1] 24 (0, 0)) (bf0 BK373.out)) (g := gb374) (o := .cells #[.int .i64 a2_0, .int .i64 a2_1] 24 (0, 0)) (bf0 BK374.out)) (below_size (bw2 HB.out GE373.out GE374.out))); have n3_ := Bx0 BK373 hb; have n4_ := Bx0 BK374 hb; have n5_ := Bs2 HB hb GE373.out GE374.out; clear HO_9; clear HO398; clear BK373; clear BK374; clear HB; have HO_9 := n0_; have HO398 := n1_; have HO402 := n2_; have BK373 := n3_; have BK374 := n4_; have HB := n5_; clear n0_ n1_ n2_ n3_ n4_ n5_; (try clear hb); (try clear ho0); obtain ⟨hcz128_0, hcz128_1, hfz128_0, hfz128_1⟩ := cl2 BK373; obtain ⟨Ao129, co129, eo129⟩ := Kd.R_slice HO402.out; subst eo129) | ((with_reducible refine gate_callee (f := 7) rfl ?_); refine goesL_ (some 138) rfl rfl Try.func7 (by kernel_rfl) rfl #[.slice Ao129 t400.length co129, .agg #[.int .i64 a1_0, .int .i64 a1_1]] rfl gS ?_; (with_reducible refine (links_Put.calls kj13 _ _ t400 a1_0 a1_1 t404 t407 _ ?side1 ?side2 A85.out).mono ?_); (case side1 => repeat (first | exact (Kd.R_reads' HO402.out).2.2 | (with_reducible refine Kd.C_alloc ?_ _) | (with_reducible refine Kd.C_drewN ?_ _) | (with_reducible refine Kd.C_drew ?_))); (case side2 => exact (Kd.R_reads' HO402.out).2.1); rintro e w130 ⟨v405, rfl, ho0, hb⟩; refine ⟨_, rfl, ?_⟩; have n0_ := Ax (Kd.R_elder' (by (with_reducible repeat (first | apply Kd.R_alloc | apply Kd.R_drewN | apply Kd.R_drew)); exact HO_9.out) (Kd.R_base ho0) hb); have n1_ := Ax (Kd.R_elder' (by (with_reducible repeat (first | apply Kd.R_alloc | apply Kd.R_drewN | apply Kd.R_drew)); exact HO398.out) (Kd.R_base ho0) hb); have n2_ := Ax (Kd.R_elder' (by (with_reducible repeat (first | apply Kd.R_alloc | apply Kd.R_drewN | apply Kd.R_drew)); exact HO402.out) (Kd.R_base ho0) hb); have n3_ := Ax (Kd.R_lower (Kd.R_newB (Kd.R_newB (Kd.R_new' (Kd.R_new' (Kd.R_new' ho0 (Kd.R_lt (by (with_reducible repeat (first | apply Kd.R_alloc | apply Kd.R_drewN | apply Kd.R_drew)); exact HO_9.out))) (Kd.R_lt (by (with_reducible repeat (first | apply Kd.R_alloc | apply Kd.R_drewN | apply Kd.R_drew)); exact HO398.out))) (Kd.R_lt (by (with_reducible repeat (first | apply Kd.R_alloc | apply Kd.R_drewN | apply Kd.R_drew)); exact HO402.out))) (g := gb373) (o := .cells #[.int .i64 a1_0, .int .i64 a1_1] 24 (0, 0)) (bf0 BK373.out)) (g := gb374) (o := .cells #[.int .i64 a2_0, .int .i64 a2_1] 24 (0, 0)) (bf0 BK374.out)) (below_size (bw2 HB.out GE373.out GE374.out))); have n4_ := Bx0 BK373 hb; have n5_ := Bx0 BK374 hb; have n6_ := Bs2 HB hb GE373.out GE374.out; clear HO_9; clear HO398; clear HO402; clear BK373; clear BK374; clear HB; have HO_9 := n0_; have HO398 := n1_; have HO402 := n2_; have HO406 := n3_; have BK373 := n4_; have BK374 := n5_; have HB := n6_; clear n0_ n1_ n2_ n3_ n4_ n5_ n6_; (try clear hb); (try clear ho0); obtain ⟨hcz131_0, hcz131_1, hfz131_0, hfz131_1⟩ := cl2 BK373; obtain ⟨hcz132_0, hcz132_1, hfz132_0, hfz132_1⟩ := cl2 BK374))
        go_ret
        exact ⟨eS, bw2 HB.out GE373.out GE374.out⟩
  ·rw [if_neg c8] at H
   have c8b0 : (t379 == 0) = false := beq_eq_false_iff_ne.mpr c8
   have c8b1 : (t379 != 0) = true := bne_iff_ne.mpr c8
   by_cases c133 : t379 = 2
   ·rw [if_pos c133] at H
    have c133b0 : (t379 == 2) = true := beq_iff_eq.mpr c133
    have c133b1 : (t379 != 2) = false := bne_eq_false_iff_eq.mpr c133
    clear c133
    obtain rfl := Option.some.inj H
    go_enter Try.func5, Try.ntmps5
    go_wp2_with (first | ((with_reducible refine gate_dst (N := 5) rfl ?_); refine box_event ?hg (N := 5) ?hd (cs := #[.int .i64 a1_0, .int .i64 a1_1]) (t := 24) ?hr ?_; (case hd => rfl); (case hg => rfl); (case hr => first | (go_simp; done) | (go_simp; rfl)); intro gb373 hg w134 hbox hb; have n0_ := Bs0 HB hb; have n1_ := Ax (hbox); have n2_ := Gw0 HB hg; have n3_ := Gw0 HB hg; clear HB; have HB := n0_; have BK373 := n1_; have GW373 := n2_; have GE373 := n3_; clear n0_ n1_ n2_ n3_; clear hb hbox hg) | ((with_reducible refine gate_dst (N := 6) rfl ?_); refine box_event ?hg (N := 6) ?hd (cs := #[.int .i64 a2_0, .int .i64 a2_1]) (t := 24) ?hr ?_; (case hd => rfl); (case hg => rfl); (case hr => first | (go_simp; done) | (go_simp; rfl)); intro gb374 hg w135 hbox hb; have n0_ := Bx0 BK373 hb; have n1_ := Bs1 HB hb GE373.out; have n2_ := Ax (hbox); have n3_ := Gw1 HB hg GE373.out; have n4_ := Gw1 HB hg GE373.out; have n5_ := Nl0 BK373 hg; have n6_ := Nr0 BK373 hg; clear BK373; clear HB; have BK373 := n0_; have HB := n1_; have BK374 := n2_; have GW374 := n3_; have GE374 := n4_; have NB373_374 := n5_; have NB374_373 := n6_; clear n0_ n1_ n2_ n3_ n4_ n5_ n6_; clear hb hbox hg) | ((with_reducible refine gate_callee (f := 11) rfl ?_); refine goesL_ (some 26) rfl rfl Try.func11 (by kernel_rfl) rfl #[] rfl gS ?_; (with_reducible refine (spoorlaw16_lives.calls k  true _ A5.out).mono ?_); rintro e w136 ⟨rfl, hb⟩; refine ⟨_, rfl, ?_⟩; replace BK373 := Bx0 BK373 hb; replace BK374 := Bx0 BK374 hb; replace HB := Bs2 HB hb GE373.out GE374.out; (try clear hb); have hnb137 := NB373_374.out; have hnc137 := NB374_373.out; obtain ⟨hcz138_0, hcz138_1, hfz138_0, hfz138_1⟩ := cl2 BK373) | ((with_reducible refine gate_callee (f := 7) rfl ?_); refine goesL_ (some 31) rfl rfl Try.func7 (by kernel_rfl) rfl #[.slice A0 l0.length c0, .agg #[.int .i64 a1_0, .int .i64 a1_1]] rfl gS ?_; (with_reducible refine (links_Put.calls k _ _ l0 a1_0 a1_1 t376 t379 _ ?side1 ?side2 A7.out).mono ?_); (case side1 => repeat (first | exact (Kd.C_below HR0.out HB.out) | (with_reducible refine Kd.C_alloc ?_ _) | (with_reducible refine Kd.C_drewN ?_ _) | (with_reducible refine Kd.C_drew ?_))); (case side2 => exact HC0.out); rintro e w139 ⟨v377, rfl, ho0, hb⟩; refine ⟨_, rfl, ?_⟩; have HO378 := Ax (Kd.R_lower (Kd.R_newB (Kd.R_newB ho0 (g := gb373) (o := .cells #[.int .i64 a1_0, .int .i64 a1_1] 24 (0, 0)) (bf0 BK373.out)) (g := gb374) (o := .cells #[.int .i64 a2_0, .int .i64 a2_1] 24 (0, 0)) (bf0 BK374.out)) (below_size (bw2 HB.out GE373.out GE374.out))); replace BK373 := Bx0 BK373 hb; replace BK374 := Bx0 BK374 hb; replace HB := Bs2 HB hb GE373.out GE374.out; (try clear hb); (try clear ho0)))
    go_ret
    exact ⟨eS, bw2 HB.out GE373.out GE374.out⟩
   ·rw [if_neg c133] at H
    have c133b0 : (t379 == 2) = false := beq_eq_false_iff_ne.mpr c133
    have c133b1 : (t379 != 2) = true := bne_iff_ne.mpr c133
    by_cases c140 : t379 = 8
    ·rw [if_pos c140] at H
     have c140b0 : (t379 == 8) = true := beq_iff_eq.mpr c140
     have c140b1 : (t379 != 8) = false := bne_eq_false_iff_eq.mpr c140
     clear c140
     replace H := Option.bind_eq_some_iff.mp H
     obtain ⟨t380, A1410, H⟩ := H
     replace H : (some t380) = some r := H
     have A141 := Ax A1410
     clear A1410
     obtain rfl := Option.some.inj H
     go_enter Try.func5, Try.ntmps5
     go_wp2_with (first | ((with_reducible refine gate_dst (N := 5) rfl ?_); refine box_event ?hg (N := 5) ?hd (cs := #[.int .i64 a1_0, .int .i64 a1_1]) (t := 24) ?hr ?_; (case hd => rfl); (case hg => rfl); (case hr => first | (go_simp; done) | (go_simp; rfl)); intro gb373 hg w142 hbox hb; have n0_ := Bs0 HB hb; have n1_ := Ax (hbox); have n2_ := Gw0 HB hg; have n3_ := Gw0 HB hg; clear HB; have HB := n0_; have BK373 := n1_; have GW373 := n2_; have GE373 := n3_; clear n0_ n1_ n2_ n3_; clear hb hbox hg) | ((with_reducible refine gate_dst (N := 6) rfl ?_); refine box_event ?hg (N := 6) ?hd (cs := #[.int .i64 a2_0, .int .i64 a2_1]) (t := 24) ?hr ?_; (case hd => rfl); (case hg => rfl); (case hr => first | (go_simp; done) | (go_simp; rfl)); intro gb374 hg w143 hbox hb; have n0_ := Bx0 BK373 hb; have n1_ := Bs1 HB hb GE373.out; have n2_ := Ax (hbox); have n3_ := Gw1 HB hg GE373.out; have n4_ := Gw1 HB hg GE373.out; have n5_ := Nl0 BK373 hg; have n6_ := Nr0 BK373 hg; clear BK373; clear HB; have BK373 := n0_; have HB := n1_; have BK374 := n2_; have GW374 := n3_; have GE374 := n4_; have NB373_374 := n5_; have NB374_373 := n6_; clear n0_ n1_ n2_ n3_ n4_ n5_ n6_; clear hb hbox hg) | ((with_reducible refine gate_callee (f := 11) rfl ?_); refine goesL_ (some 26) rfl rfl Try.func11 (by kernel_rfl) rfl #[] rfl gS ?_; (with_reducible refine (spoorlaw16_lives.calls k  true _ A5.out).mono ?_); rintro e w144 ⟨rfl, hb⟩; refine ⟨_, rfl, ?_⟩; replace BK373 := Bx0 BK373 hb; replace BK374 := Bx0 BK374 hb; replace HB := Bs2 HB hb GE373.out GE374.out; (try clear hb); have hnb145 := NB373_374.out; have hnc145 := NB374_373.out; obtain ⟨hcz146_0, hcz146_1, hfz146_0, hfz146_1⟩ := cl2 BK373) | ((with_reducible refine gate_callee (f := 7) rfl ?_); refine goesL_ (some 31) rfl rfl Try.func7 (by kernel_rfl) rfl #[.slice A0 l0.length c0, .agg #[.int .i64 a1_0, .int .i64 a1_1]] rfl gS ?_; (with_reducible refine (links_Put.calls k _ _ l0 a1_0 a1_1 t376 t379 _ ?side1 ?side2 A7.out).mono ?_); (case side1 => repeat (first | exact (Kd.C_below HR0.out HB.out) | (with_reducible refine Kd.C_alloc ?_ _) | (with_reducible refine Kd.C_drewN ?_ _) | (with_reducible refine Kd.C_drew ?_))); (case side2 => exact HC0.out); rintro e w147 ⟨v377, rfl, ho0, hb⟩; refine ⟨_, rfl, ?_⟩; have HO378 := Ax (Kd.R_lower (Kd.R_newB (Kd.R_newB ho0 (g := gb373) (o := .cells #[.int .i64 a1_0, .int .i64 a1_1] 24 (0, 0)) (bf0 BK373.out)) (g := gb374) (o := .cells #[.int .i64 a2_0, .int .i64 a2_1] 24 (0, 0)) (bf0 BK374.out)) (below_size (bw2 HB.out GE373.out GE374.out))); replace BK373 := Bx0 BK373 hb; replace BK374 := Bx0 BK374 hb; replace HB := Bs2 HB hb GE373.out GE374.out; (try clear hb); (try clear ho0); obtain ⟨Ao148, co148, eo148⟩ := Kd.R_slice HO378.out; subst eo148) | (go_at_call 14; (with_reducible refine (spoorref16_Same.calls k _ _ t376 _ _ l0 t380 _ ?side1 ?side2 ?side3 ?side4 A141.out).mono ?_); (case side1 => repeat (first | exact (Kd.R_reads' HO378.out).2.2 | (with_reducible refine Kd.C_alloc ?_ _) | (with_reducible refine Kd.C_drewN ?_ _) | (with_reducible refine Kd.C_drew ?_))); (case side2 => exact (Kd.R_reads' HO378.out).2.1); (case side3 => repeat (first | exact (Kd.C_below HR0.out HB.out) | (with_reducible refine Kd.C_alloc ?_ _) | (with_reducible refine Kd.C_drewN ?_ _) | (with_reducible refine Kd.C_drew ?_))); (case side4 => exact HC0.out); rintro e w' ⟨rfl, ⟨nd, rfl⟩⟩))
     go_ret
     exact ⟨eS, bw2 HB.out GE373.out GE374.out⟩
    ·rw [if_neg c140] at H
     exact absurd H (by simp)
 ·replace c6 := Bool.eq_false_iff.mpr c6
  subst c6
  have H1 : (none) = some r := by rw [if_neg (show ¬ (false = true) by decide)] at H; exact H
  clear H
  have H := H1
  clear H1
  exact absurd H (by simp)
mutual
def spoorlaw16_LinksPeers.l0 : Nat → List (S24) → Int → List Int → Bool → Bool → List Int → Int → Int → Option (Bool)
 | 0, _, _, _, _, _, _, _, _ => none
 | k + 1, x0, x1, x5, x7, x8, x27, x28, x29 => if x29 < x28 then (if 0 ≤ x29 then (if x29 < (x27.length : Int) then (if x29 > 0 then (if 0 ≤ (wrap64 (x29 - 1)) then (if (wrap64 (x29 - 1)) < (x5.length : Int) then (if (rd x5 (wrap64 (x29 - 1))) ≥ (rd x27 x29) then (none) else (if x7 = true then (spoorlaw16_LinksPeers.l0 k x0 x1 x5 true x8 x27 x28 (wrap64 (x29 + 1))) else (spoorlaw16_LinksPeers.l0 k x0 x1 x5 ((rd x27 x29) == x1) x8 x27 x28 (wrap64 (x29 + 1))))) else (none)) else (none)) else (if x7 = true then (spoorlaw16_LinksPeers.l0 k x0 x1 x5 true x8 x27 x28 (wrap64 (x29 + 1))) else (spoorlaw16_LinksPeers.l0 k x0 x1 x5 ((rd x27 x29) == x1) x8 x27 x28 (wrap64 (x29 + 1))))) else (none)) else (none)) else (spoorlaw16_LinksPeers.l1 k x0 x1 x5 x7 x8 x0 (x0.length : Int) 0)
def spoorlaw16_LinksPeers.l1 : Nat → List (S24) → Int → List Int → Bool → Bool → List (S24) → Int → Int → Option (Bool)
 | 0, _, _, _, _, _, _, _, _ => none
 | k + 1, x0, x1, x5, x7, x8, x52, x53, x54 => if x54 < x53 then (if 0 ≤ x54 then (if x54 < (x52.length : Int) then ((links_Peer.f k x0 ((rd_T24 x52 x54).f0)).bind fun bt418 => (if bt418.2 = 0 then (if bt418.1 = ((rd_T24 x52 x54).f1) then (if x8 = true then (spoorlaw16_LinksPeers.l1 k x0 x1 x5 x7 true x52 x53 (wrap64 (x54 + 1))) else (spoorlaw16_LinksPeers.l1 k x0 x1 x5 x7 (((rd_T24 x52 x54).f1) == x1) x52 x53 (wrap64 (x54 + 1)))) else (none)) else (none))) else (none)) else (none)) else (if (x7 == x8) = true then (some (decide ((x5.length : Int) ≤ (x0.length : Int)))) else (none))
end
def spoorlaw16_LinksPeers.f (k : Nat) (l0 : List (S24)) (a1 : Int) : Option (Bool) := (spoorlaw16_lives.f k).bind fun t409 => (if t409 = true then ((links_Peers.f k l0).bind fun bt410 => (if bt410.2 = 0 then (spoorlaw16_LinksPeers.l0 k l0 a1 bt410.1 false false bt410.1 (bt410.1.length : Int) 0) else (some ((bt410.1.length : Int) == 0)))) else (none))
set_option maxHeartbeats 8000000 in
set_option maxRecDepth 100000 in
theorem spoorlaw16_LinksPeers.calls (k : Nat) (A0 : Option Addr) (c0 : Nat) (l0 : List (S24)) (a1 : Int) (r : Bool) (w : World) (hr0 : Kd.C k24 w A0 l0.length l0) (hc0 : l0.length ≤ c0) (h : spoorlaw16_LinksPeers.f k l0 a1 = some r) :
  Calls Try.prog 6 #[.slice A0 l0.length c0, .int .i64 a1] w fun e w' => e = .returned (.bool r) ∧ Below w.heap.size w w' := by
 have hu24 := Try.underlying24
 have HR0 := Ax hr0
 have HC0 := Ax hc0
 clear hr0 hc0
 have HB := Ax (Below.refl w.heap.size w)
 have H : ((spoorlaw16_lives.f k).bind fun t409 => (if t409 = true then ((links_Peers.f k l0).bind fun bt410 => (if bt410.2 = 0 then (spoorlaw16_LinksPeers.l0 k l0 a1 bt410.1 false false bt410.1 (bt410.1.length : Int) 0) else (some ((bt410.1.length : Int) == 0)))) else (none))) = some r := h
 clear h
 replace H := Option.bind_eq_some_iff.mp H
 obtain ⟨t409, A30, H⟩ := H
 replace H : (if t409 = true then ((links_Peers.f k l0).bind fun bt410 => (if bt410.2 = 0 then (spoorlaw16_LinksPeers.l0 k l0 a1 bt410.1 false false bt410.1 (bt410.1.length : Int) 0) else (some ((bt410.1.length : Int) == 0)))) else (none)) = some r := H
 have A3 := Ax A30
 clear A30
 by_cases c4 : t409 = true
 ·subst c4
  have H1 : ((links_Peers.f k l0).bind fun bt410 => (if bt410.2 = 0 then (spoorlaw16_LinksPeers.l0 k l0 a1 bt410.1 false false bt410.1 (bt410.1.length : Int) 0) else (some ((bt410.1.length : Int) == 0)))) = some r := by rw [if_pos rfl] at H; exact H
  clear H
  have H := H1
  clear H1
  replace H := Option.bind_eq_some_iff.mp H
  obtain ⟨⟨t410, t411⟩, A50, H⟩ := H
  replace H : (if t411 = 0 then (spoorlaw16_LinksPeers.l0 k l0 a1 t410 false false t410 (t410.length : Int) 0) else (some ((t410.length : Int) == 0))) = some r := H
  have A5 := Ax A50
  clear A50
  by_cases c6 : t411 = 0
  ·rw [if_pos c6] at H
   have c6b0 : (t411 == 0) = true := beq_iff_eq.mpr c6
   have c6b1 : (t411 != 0) = false := bne_eq_false_iff_eq.mpr c6
   clear c6
   have H' := Ax H
   clear H
   go_enter Try.func6, Try.ntmps6
   go_wp2_with (first | ((with_reducible refine gate_callee (f := 11) rfl ?_); refine goesL_ (some 15) rfl rfl Try.func11 (by kernel_rfl) rfl #[] rfl gS ?_; (with_reducible refine (spoorlaw16_lives.calls k  true _ A3.out).mono ?_); rintro e w7 ⟨rfl, hb⟩; refine ⟨_, rfl, ?_⟩; replace HB := Bs0 HB hb; (try clear hb)) | ((with_reducible refine gate_callee (f := 17) rfl ?_); refine goesL_ (some 19) rfl rfl Try.func17 (by kernel_rfl) rfl #[.slice A0 l0.length c0] rfl gS ?_; (with_reducible refine (links_Peers.calls k _ _ l0 t410 t411 _ ?side1 ?side2 A5.out).mono ?_); (case side1 => repeat (first | exact (Kd.C_below HR0.out HB.out) | (with_reducible refine Kd.C_alloc ?_ _) | (with_reducible refine Kd.C_drewN ?_ _) | (with_reducible refine Kd.C_drew ?_))); (case side2 => exact HC0.out); rintro e w8 ⟨v412, rfl, ho0, hb⟩; refine ⟨_, rfl, ?_⟩; have HO413 := Ax (Kd.R_lower ho0 (below_size (bw0 HB.out))); replace HB := Bs0 HB hb; (try clear hb); (try clear ho0); obtain ⟨Ao9, co9, eo9⟩ := Kd.R_slice HO413.out; subst eo9))
   go_loopg [7, 29] k (fun kq v7 v29 w' => ∃ (x7_1 : Bool) (x29_1 : Int), v7 = .bool x7_1 ∧ v29 = .int .i64 x29_1 ∧ Aside0 (spoorlaw16_LinksPeers.l0 kq l0 a1 t410 x7_1 false t410 (t410.length : Int) x29_1 = some r) ∧ Aside0 (kq ≤ k) ∧ Aside0 (Kd.R (Kd.int .i64) 3 w' w.heap.size (fun _ => True) (.slice Ao9 t410.length co9) t410) ∧ Aside0 (Kd.R (Kd.int .i64) 3 w' w.heap.size (fun _ => True) (.slice Ao9 t410.length co9) t410) ∧ Aside0 (Below w.heap.size w w'))
   case atStart => exact ⟨(false), (0), rS, rS, H', ⟨Nat.le_refl _⟩, ⟨by (with_reducible repeat (first | apply Kd.R_alloc | apply Kd.R_drewN | apply Kd.R_drew)); exact HO413.out⟩, ⟨by (with_reducible repeat (first | apply Kd.R_alloc | apply Kd.R_drewN | apply Kd.R_drew)); exact HO413.out⟩, ⟨bw0 HB.out⟩⟩
   case round =>
    clear H'
    try clear c1
    try clear p2
    try clear c4
    try clear c6
    try clear c6b0
    try clear c6b1
    obtain ⟨x7_1, x29_1, rfl, rfl, HA, HK1, HO_5, HO_27, HB⟩ := hrel
    cases gk with
    | zero => exact absurd HA.out (by simp [spoorlaw16_LinksPeers.l0])
    | succ k1 =>
     have H := HA.out
     clear HA
     simp only [spoorlaw16_LinksPeers.l0] at H
     by_cases c10 : x29_1 < (t410.length : Int)
     ·rw [if_pos c10] at H
      have c10b0 : decide (x29_1 < (t410.length : Int)) = true := decide_eq_true c10
      clear c10
      by_cases c11 : 0 ≤ x29_1
      ·rw [if_pos c11] at H
       have c11b0 : decide (0 ≤ x29_1) = true := decide_eq_true c11
       clear c11
       by_cases c12 : x29_1 < (t410.length : Int)
       ·rw [if_pos c12] at H
        have c12b0 : decide (x29_1 < (t410.length : Int)) = true := decide_eq_true c12
        clear c12
        by_cases c13 : x29_1 > 0
        ·rw [if_pos c13] at H
         have c13b0 : decide (0 < x29_1) = true := decide_eq_true c13
         clear c13
         obtain ⟨ji14, hji14⟩ : ∃ j_ : Int, (wrap64 (x29_1 - 1)) = j_ := ⟨_, rfl⟩
         replace H : (if 0 ≤ (ji14) then (if (ji14) < (t410.length : Int) then (if (rd t410 (ji14)) ≥ (rd t410 x29_1) then (none) else (if x7_1 = true then (spoorlaw16_LinksPeers.l0 k1 l0 a1 t410 true false t410 (t410.length : Int) (wrap64 (x29_1 + 1))) else (spoorlaw16_LinksPeers.l0 k1 l0 a1 t410 ((rd t410 x29_1) == a1) false t410 (t410.length : Int) (wrap64 (x29_1 + 1))))) else (none)) else (none)) = some r := by first | (rw [hji14] at H; exact H) | (simp only [hji14] at H ⊢; exact H)
         have hji14w : (IntKind.i64.wrap (x29_1 - 1)) = ji14 := (i64_w _).trans hji14
         by_cases c15 : 0 ≤ (ji14)
         ·rw [if_pos c15] at H
          have c15b0 : decide (0 ≤ (ji14)) = true := decide_eq_true c15
          clear c15
          by_cases c16 : (ji14) < (t410.length : Int)
          ·rw [if_pos c16] at H
           have c16b0 : decide ((ji14) < (t410.length : Int)) = true := decide_eq_true c16
           clear c16
           by_cases c17 : (rd t410 (ji14)) ≥ (rd t410 x29_1)
           ·rw [if_pos c17] at H
            exact absurd H (by simp)
           ·rw [if_neg c17] at H
            have c17b0 : decide ((rd t410 x29_1) ≤ (rd t410 (ji14))) = false := decide_eq_false c17
            clear c17
            by_cases c18 : x7_1 = true
            ·subst c18
             have H1 : (spoorlaw16_LinksPeers.l0 k1 l0 a1 t410 true false t410 (t410.length : Int) (wrap64 (x29_1 + 1))) = some r := by rw [if_pos rfl] at H; exact H
             clear H
             have H := H1
             clear H1
             have H' := Ax H
             clear H
             have p414 : 0 ≤ (x29_1 : Int) := of_decide_eq_true (by first | (with_reducible assumption) | assumption)
             have q414 : x29_1 < (t410.length : Int) := of_decide_eq_true (by first | (with_reducible assumption) | assumption)
             obtain ⟨ad414, e414, hx414_0⟩ := Kd.at_int (Kd.R_reads' HO_27.out).2.2 x29_1 p414 q414
             cases e414
             replace p414 := eq_true p414
             replace q414 := eq_true q414
             have p415 : 0 ≤ ((ji14) : Int) := of_decide_eq_true (by first | (with_reducible assumption) | assumption)
             have q415 : (ji14) < (t410.length : Int) := of_decide_eq_true (by first | (with_reducible assumption) | assumption)
             obtain ⟨ad415, e415, hx415_0⟩ := Kd.at_int (Kd.R_reads' HO_5.out).2.2 (ji14) p415 q415
             obtain rfl : ad414 = ad415 := (by injection e415)
             replace p415 := eq_true p415
             replace q415 := eq_true q415
             go_wp2
             go_roundg k1
             case measure => have := HK1.out; omega
             case rel => exact ⟨(true), (wrap64 (x29_1 + 1)), rS, rS, H', ⟨by have := HK1.out; omega⟩, ⟨by (with_reducible repeat (first | apply Kd.R_alloc | apply Kd.R_drewN | apply Kd.R_drew)); exact HO_5.out⟩, ⟨by (with_reducible repeat (first | apply Kd.R_alloc | apply Kd.R_drewN | apply Kd.R_drew)); exact HO_27.out⟩, ⟨bw0 HB.out⟩⟩
            ·replace c18 := Bool.eq_false_iff.mpr c18
             subst c18
             have H1 : (spoorlaw16_LinksPeers.l0 k1 l0 a1 t410 ((rd t410 x29_1) == a1) false t410 (t410.length : Int) (wrap64 (x29_1 + 1))) = some r := by rw [if_neg (show ¬ (false = true) by decide)] at H; exact H
             clear H
             have H := H1
             clear H1
             have H' := Ax H
             clear H
             have p414 : 0 ≤ (x29_1 : Int) := of_decide_eq_true (by first | (with_reducible assumption) | assumption)
             have q414 : x29_1 < (t410.length : Int) := of_decide_eq_true (by first | (with_reducible assumption) | assumption)
             obtain ⟨ad414, e414, hx414_0⟩ := Kd.at_int (Kd.R_reads' HO_27.out).2.2 x29_1 p414 q414
             cases e414
             replace p414 := eq_true p414
             replace q414 := eq_true q414
             have p415 : 0 ≤ ((ji14) : Int) := of_decide_eq_true (by first | (with_reducible assumption) | assumption)
             have q415 : (ji14) < (t410.length : Int) := of_decide_eq_true (by first | (with_reducible assumption) | assumption)
             obtain ⟨ad415, e415, hx415_0⟩ := Kd.at_int (Kd.R_reads' HO_5.out).2.2 (ji14) p415 q415
             obtain rfl : ad414 = ad415 := (by injection e415)
             replace p415 := eq_true p415
             replace q415 := eq_true q415
             go_wp2
             go_roundg k1
             case measure => have := HK1.out; omega
             case rel => exact ⟨(((rd t410 x29_1) == a1)), (wrap64 (x29_1 + 1)), rS, rS, H', ⟨by have := HK1.out; omega⟩, ⟨by (with_reducible repeat (first | apply Kd.R_alloc | apply Kd.R_drewN | apply Kd.R_drew)); exact HO_5.out⟩, ⟨by (with_reducible repeat (first | apply Kd.R_alloc | apply Kd.R_drewN | apply Kd.R_drew)); exact HO_27.out⟩, ⟨bw0 HB.out⟩⟩
          ·rw [if_neg c16] at H
           exact absurd H (by simp)
         ·rw [if_neg c15] at H
          exact absurd H (by simp)
        ·rw [if_neg c13] at H
         have c13b0 : decide (0 < x29_1) = false := decide_eq_false c13
         clear c13
         by_cases c19 : x7_1 = true
         ·subst c19
          have H1 : (spoorlaw16_LinksPeers.l0 k1 l0 a1 t410 true false t410 (t410.length : Int) (wrap64 (x29_1 + 1))) = some r := by rw [if_pos rfl] at H; exact H
          clear H
          have H := H1
          clear H1
          have H' := Ax H
          clear H
          have p414 : 0 ≤ (x29_1 : Int) := of_decide_eq_true (by first | (with_reducible assumption) | assumption)
          have q414 : x29_1 < (t410.length : Int) := of_decide_eq_true (by first | (with_reducible assumption) | assumption)
          obtain ⟨ad414, e414, hx414_0⟩ := Kd.at_int (Kd.R_reads' HO_27.out).2.2 x29_1 p414 q414
          cases e414
          replace p414 := eq_true p414
          replace q414 := eq_true q414
          go_wp2
          go_roundg k1
          case measure => have := HK1.out; omega
          case rel => exact ⟨(true), (wrap64 (x29_1 + 1)), rS, rS, H', ⟨by have := HK1.out; omega⟩, ⟨by (with_reducible repeat (first | apply Kd.R_alloc | apply Kd.R_drewN | apply Kd.R_drew)); exact HO_5.out⟩, ⟨by (with_reducible repeat (first | apply Kd.R_alloc | apply Kd.R_drewN | apply Kd.R_drew)); exact HO_27.out⟩, ⟨bw0 HB.out⟩⟩
         ·replace c19 := Bool.eq_false_iff.mpr c19
          subst c19
          have H1 : (spoorlaw16_LinksPeers.l0 k1 l0 a1 t410 ((rd t410 x29_1) == a1) false t410 (t410.length : Int) (wrap64 (x29_1 + 1))) = some r := by rw [if_neg (show ¬ (false = true) by decide)] at H; exact H
          clear H
          have H := H1
          clear H1
          have H' := Ax H
          clear H
          have p414 : 0 ≤ (x29_1 : Int) := of_decide_eq_true (by first | (with_reducible assumption) | assumption)
          have q414 : x29_1 < (t410.length : Int) := of_decide_eq_true (by first | (with_reducible assumption) | assumption)
          obtain ⟨ad414, e414, hx414_0⟩ := Kd.at_int (Kd.R_reads' HO_27.out).2.2 x29_1 p414 q414
          cases e414
          replace p414 := eq_true p414
          replace q414 := eq_true q414
          go_wp2
          go_roundg k1
          case measure => have := HK1.out; omega
          case rel => exact ⟨(((rd t410 x29_1) == a1)), (wrap64 (x29_1 + 1)), rS, rS, H', ⟨by have := HK1.out; omega⟩, ⟨by (with_reducible repeat (first | apply Kd.R_alloc | apply Kd.R_drewN | apply Kd.R_drew)); exact HO_5.out⟩, ⟨by (with_reducible repeat (first | apply Kd.R_alloc | apply Kd.R_drewN | apply Kd.R_drew)); exact HO_27.out⟩, ⟨bw0 HB.out⟩⟩
       ·rw [if_neg c12] at H
        exact absurd H (by simp)
      ·rw [if_neg c11] at H
       exact absurd H (by simp)
     ·rw [if_neg c10] at H
      have c10b0 : decide (x29_1 < (t410.length : Int)) = false := decide_eq_false c10
      clear c10
      have H' := Ax H
      clear H
      go_wp2
      go_loopg [8, 54] k1 (fun kq v8 v54 w' => ∃ (x8_2 : Bool) (x54_2 : Int), v8 = .bool x8_2 ∧ v54 = .int .i64 x54_2 ∧ Aside0 (spoorlaw16_LinksPeers.l1 kq l0 a1 t410 x7_1 x8_2 l0 (l0.length : Int) x54_2 = some r) ∧ Aside0 (kq ≤ k1) ∧ Aside0 (Kd.R (Kd.int .i64) 3 w' w.heap.size (fun _ => True) (.slice Ao9 t410.length co9) t410) ∧ Aside0 (Below w.heap.size w w'))
      case atStart => exact ⟨(false), (0), rS, rS, H', ⟨Nat.le_refl _⟩, ⟨by (with_reducible repeat (first | apply Kd.R_alloc | apply Kd.R_drewN | apply Kd.R_drew)); exact HO_5.out⟩, ⟨bw0 HB.out⟩⟩
      case round =>
       clear H'
       try clear c1
       try clear p2
       try clear c4
       try clear p4
       try clear q4
       try clear hx4
       try clear c6
       try clear c6b0
       try clear c6b1
       try clear p6
       try clear c10
       try clear c10b0
       try clear c11
       try clear c11b0
       try clear c12
       try clear c12b0
       try clear c13
       try clear c13b0
       try clear c15
       try clear c15b0
       try clear c16
       try clear c16b0
       try clear c17
       try clear c17b0
       try clear c18
       try clear c19
       try clear hx414_0
       try clear hx415_0
       try clear p2
       try clear p414
       try clear p415
       try clear q414
       try clear q415
       obtain ⟨x8_2, x54_2, rfl, rfl, HA, HK2, HO_5, HB⟩ := hrel
       cases gk with
       | zero => exact absurd HA.out (by simp [spoorlaw16_LinksPeers.l1])
       | succ k2 =>
        have H := HA.out
        clear HA
        simp only [spoorlaw16_LinksPeers.l1] at H
        by_cases c20 : x54_2 < (l0.length : Int)
        ·rw [if_pos c20] at H
         have c20b0 : decide (x54_2 < (l0.length : Int)) = true := decide_eq_true c20
         clear c20
         by_cases c21 : 0 ≤ x54_2
         ·rw [if_pos c21] at H
          have c21b0 : decide (0 ≤ x54_2) = true := decide_eq_true c21
          clear c21
          by_cases c22 : x54_2 < (l0.length : Int)
          ·rw [if_pos c22] at H
           have c22b0 : decide (x54_2 < (l0.length : Int)) = true := decide_eq_true c22
           clear c22
           replace H := Option.bind_eq_some_iff.mp H
           obtain ⟨⟨t418, t419⟩, A230, H⟩ := H
           replace H : (if t419 = 0 then (if t418 = ((rd_T24 l0 x54_2).f1) then (if x8_2 = true then (spoorlaw16_LinksPeers.l1 k2 l0 a1 t410 x7_1 true l0 (l0.length : Int) (wrap64 (x54_2 + 1))) else (spoorlaw16_LinksPeers.l1 k2 l0 a1 t410 x7_1 (((rd_T24 l0 x54_2).f1) == a1) l0 (l0.length : Int) (wrap64 (x54_2 + 1)))) else (none)) else (none)) = some r := H
           have A23 := Ax A230
           clear A230
           by_cases c24 : t419 = 0
           ·rw [if_pos c24] at H
            have c24b0 : (t419 == 0) = true := beq_iff_eq.mpr c24
            have c24b1 : (t419 != 0) = false := bne_eq_false_iff_eq.mpr c24
            clear c24
            by_cases c25 : t418 = ((rd_T24 l0 x54_2).f1)
            ·rw [if_pos c25] at H
             have c25b0 : (t418 == ((rd_T24 l0 x54_2).f1)) = true := beq_iff_eq.mpr c25
             have c25b1 : (t418 != ((rd_T24 l0 x54_2).f1)) = false := bne_eq_false_iff_eq.mpr c25
             clear c25
             by_cases c26 : x8_2 = true
             ·subst c26
              have H1 : (spoorlaw16_LinksPeers.l1 k2 l0 a1 t410 x7_1 true l0 (l0.length : Int) (wrap64 (x54_2 + 1))) = some r := by rw [if_pos rfl] at H; exact H
              clear H
              have H := H1
              clear H1
              have H' := Ax H
              clear H
              have p416 : 0 ≤ (x54_2 : Int) := of_decide_eq_true (by first | (with_reducible assumption) | assumption)
              have q416 : x54_2 < (l0.length : Int) := of_decide_eq_true (by first | (with_reducible assumption) | assumption)
              obtain ⟨ad416, e416, hx416_0, hx416_1⟩ := at_T24 HR0.out x54_2 p416 q416
              cases e416
              replace hx416_0 := (HB.out.cell (World.block_lt_of_cell? w _ hx416_0)).trans hx416_0
              replace hx416_1 := (HB.out.cell (World.block_lt_of_cell? w _ hx416_1)).trans hx416_1
              replace p416 := eq_true p416
              replace q416 := eq_true q416
              go_wp2_with (first | ((with_reducible refine gate_dst (N := 12) rfl ?_); refine box_event ?hg (N := 12) ?hd (cs := #[.int .i64 0, .int .i64 0]) (t := 24) ?hr ?_; (case hd => rfl); (case hg => rfl); (case hr => first | (go_simp; done) | (go_simp; rfl)); intro gb417 hg w27 hbox hb; have n0_ := Ax (Kd.R_below (by (with_reducible repeat (first | apply Kd.R_alloc | apply Kd.R_drewN | apply Kd.R_drew)); exact HO_5.out) hb); have n1_ := Bs0 HB hb; have n2_ := Ax (hbox); have n3_ := Gw0 HB hg; have n4_ := Gw0 HB hg; clear HO_5; clear HB; have HO_5 := n0_; have HB := n1_; have BK417 := n2_; have GW417 := n3_; have GE417 := n4_; clear n0_ n1_ n2_ n3_ n4_; clear hb hbox hg; obtain ⟨hcz28_0, hcz28_1, hfz28_0, hfz28_1⟩ := cl2 BK417) | ((with_reducible refine gate_callee (f := 15) rfl ?_); refine goesL_ (some 62) rfl rfl Try.func15 (by kernel_rfl) rfl #[.slice (some ad416) l0.length c0, .int .i64 ((rd_T24 l0 x54_2).f0)] rfl gS ?_; (with_reducible refine (links_Peer.calls k2 _ _ l0 ((rd_T24 l0 x54_2).f0) t418 t419 _ ?side1 ?side2 A23.out).mono ?_); (case side1 => exact Kd.C_below HR0.out (bw1 HB.out GE417.out)); (case side2 => exact HC0.out); rintro e w29 ⟨rfl, hb⟩; refine ⟨_, rfl, ?_⟩; have n0_ := Ax (Kd.R_below (by (with_reducible repeat (first | apply Kd.R_alloc | apply Kd.R_drewN | apply Kd.R_drew)); exact (Kd.R_mono (Kd.R_far (p := ⟨gb417, 1, none⟩) (Kd.R_far (p := ⟨gb417, 0, none⟩) (Kd.R_types HO_5.out BK417.out (by decide)) (fun _ hk => hk.2) (.int .i64 ((rd_T24 l0 x54_2).f0))) (fun _ hk => hk.2) (.int .i64 ((rd_T24 l0 x54_2).f1))) (fun _ h_ => h_.1))) hb); have n1_ := Ax (blk_below (g := gb417) (o := .cells #[.int .i64 ((rd_T24 l0 x54_2).f0), .int .i64 ((rd_T24 l0 x54_2).f1)] 24 (0, 0)) (by (with_reducible repeat (first | refine blk_drewN ?_ _ | refine blk_drew ?_ | refine blk_alloc ?_ _)); refine blk_put (cs := #[.int .i64 ((rd_T24 l0 x54_2).f0), .int .i64 0]) ?_ 1 _ rfl; (with_reducible repeat (first | refine blk_drewN ?_ _ | refine blk_drew ?_ | refine blk_alloc ?_ _)); refine blk_put (cs := #[.int .i64 0, .int .i64 0]) ?_ 0 _ rfl; (with_reducible repeat (first | refine blk_drewN ?_ _ | refine blk_drew ?_ | refine blk_alloc ?_ _)); exact BK417.out) hb); have n2_ := Bs1 HB hb GE417.out; clear HO_5; clear BK417; clear HB; have HO_5 := n0_; have BK417 := n1_; have HB := n2_; clear n0_ n1_ n2_; (try clear hb); obtain ⟨hcz30_0, hcz30_1, hfz30_0, hfz30_1⟩ := cl2 BK417))
              go_roundg k2
              case measure => have := HK1.out; have := HK2.out; omega
              case rel => exact ⟨(true), (wrap64 (x54_2 + 1)), rS, rS, H', ⟨by have := HK1.out; have := HK2.out; omega⟩, ⟨by (with_reducible repeat (first | apply Kd.R_alloc | apply Kd.R_drewN | apply Kd.R_drew)); exact HO_5.out⟩, ⟨bw1 HB.out GE417.out⟩⟩
             ·replace c26 := Bool.eq_false_iff.mpr c26
              subst c26
              have H1 : (spoorlaw16_LinksPeers.l1 k2 l0 a1 t410 x7_1 (((rd_T24 l0 x54_2).f1) == a1) l0 (l0.length : Int) (wrap64 (x54_2 + 1))) = some r := by rw [if_neg (show ¬ (false = true) by decide)] at H; exact H
              clear H
              have H := H1
              clear H1
              have H' := Ax H
              clear H
              have p416 : 0 ≤ (x54_2 : Int) := of_decide_eq_true (by first | (with_reducible assumption) | assumption)
              have q416 : x54_2 < (l0.length : Int) := of_decide_eq_true (by first | (with_reducible assumption) | assumption)
              obtain ⟨ad416, e416, hx416_0, hx416_1⟩ := at_T24 HR0.out x54_2 p416 q416
              cases e416
              replace hx416_0 := (HB.out.cell (World.block_lt_of_cell? w _ hx416_0)).trans hx416_0
              replace hx416_1 := (HB.out.cell (World.block_lt_of_cell? w _ hx416_1)).trans hx416_1
              replace p416 := eq_true p416
              replace q416 := eq_true q416
              go_wp2_with (first | ((with_reducible refine gate_dst (N := 12) rfl ?_); refine box_event ?hg (N := 12) ?hd (cs := #[.int .i64 0, .int .i64 0]) (t := 24) ?hr ?_; (case hd => rfl); (case hg => rfl); (case hr => first | (go_simp; done) | (go_simp; rfl)); intro gb417 hg w31 hbox hb; have n0_ := Ax (Kd.R_below (by (with_reducible repeat (first | apply Kd.R_alloc | apply Kd.R_drewN | apply Kd.R_drew)); exact HO_5.out) hb); have n1_ := Bs0 HB hb; have n2_ := Ax (hbox); have n3_ := Gw0 HB hg; have n4_ := Gw0 HB hg; clear HO_5; clear HB; have HO_5 := n0_; have HB := n1_; have BK417 := n2_; have GW417 := n3_; have GE417 := n4_; clear n0_ n1_ n2_ n3_ n4_; clear hb hbox hg; obtain ⟨hcz32_0, hcz32_1, hfz32_0, hfz32_1⟩ := cl2 BK417) | ((with_reducible refine gate_callee (f := 15) rfl ?_); refine goesL_ (some 62) rfl rfl Try.func15 (by kernel_rfl) rfl #[.slice (some ad416) l0.length c0, .int .i64 ((rd_T24 l0 x54_2).f0)] rfl gS ?_; (with_reducible refine (links_Peer.calls k2 _ _ l0 ((rd_T24 l0 x54_2).f0) t418 t419 _ ?side1 ?side2 A23.out).mono ?_); (case side1 => exact Kd.C_below HR0.out (bw1 HB.out GE417.out)); (case side2 => exact HC0.out); rintro e w33 ⟨rfl, hb⟩; refine ⟨_, rfl, ?_⟩; have n0_ := Ax (Kd.R_below (by (with_reducible repeat (first | apply Kd.R_alloc | apply Kd.R_drewN | apply Kd.R_drew)); exact (Kd.R_mono (Kd.R_far (p := ⟨gb417, 1, none⟩) (Kd.R_far (p := ⟨gb417, 0, none⟩) (Kd.R_types HO_5.out BK417.out (by decide)) (fun _ hk => hk.2) (.int .i64 ((rd_T24 l0 x54_2).f0))) (fun _ hk => hk.2) (.int .i64 ((rd_T24 l0 x54_2).f1))) (fun _ h_ => h_.1))) hb); have n1_ := Ax (blk_below (g := gb417) (o := .cells #[.int .i64 ((rd_T24 l0 x54_2).f0), .int .i64 ((rd_T24 l0 x54_2).f1)] 24 (0, 0)) (by (with_reducible repeat (first | refine blk_drewN ?_ _ | refine blk_drew ?_ | refine blk_alloc ?_ _)); refine blk_put (cs := #[.int .i64 ((rd_T24 l0 x54_2).f0), .int .i64 0]) ?_ 1 _ rfl; (with_reducible repeat (first | refine blk_drewN ?_ _ | refine blk_drew ?_ | refine blk_alloc ?_ _)); refine blk_put (cs := #[.int .i64 0, .int .i64 0]) ?_ 0 _ rfl; (with_reducible repeat (first | refine blk_drewN ?_ _ | refine blk_drew ?_ | refine blk_alloc ?_ _)); exact BK417.out) hb); have n2_ := Bs1 HB hb GE417.out; clear HO_5; clear BK417; clear HB; have HO_5 := n0_; have BK417 := n1_; have HB := n2_; clear n0_ n1_ n2_; (try clear hb); obtain ⟨hcz34_0, hcz34_1, hfz34_0, hfz34_1⟩ := cl2 BK417))
              go_roundg k2
              case measure => have := HK1.out; have := HK2.out; omega
              case rel => exact ⟨((((rd_T24 l0 x54_2).f1) == a1)), (wrap64 (x54_2 + 1)), rS, rS, H', ⟨by have := HK1.out; have := HK2.out; omega⟩, ⟨by (with_reducible repeat (first | apply Kd.R_alloc | apply Kd.R_drewN | apply Kd.R_drew)); exact HO_5.out⟩, ⟨bw1 HB.out GE417.out⟩⟩
            ·rw [if_neg c25] at H
             exact absurd H (by simp)
           ·rw [if_neg c24] at H
            exact absurd H (by simp)
          ·rw [if_neg c22] at H
           exact absurd H (by simp)
         ·rw [if_neg c21] at H
          exact absurd H (by simp)
        ·rw [if_neg c20] at H
         have c20b0 : decide (x54_2 < (l0.length : Int)) = false := decide_eq_false c20
         clear c20
         by_cases c35 : (x7_1 == x8_2) = true
         ·rw [if_pos c35] at H
          have c35b0 : (x7_1 == x8_2) = true := c35
          (try (have c35b1 : decide (x7_1 = x8_2) = true := by simpa using c35))
          (try (have c35b2 : (x7_1 == x8_2) = true := by simpa using c35))
          clear c35
          obtain rfl := Option.some.inj H
          go_wp2
          go_ret
          exact ⟨eS, bw0 HB.out⟩
         ·rw [if_neg c35] at H
          exact absurd H (by simp)
  ·rw [if_neg c6] at H
   have c6b0 : (t411 == 0) = false := beq_eq_false_iff_ne.mpr c6
   have c6b1 : (t411 != 0) = true := bne_iff_ne.mpr c6
   obtain rfl := Option.some.inj H
   go_enter Try.func6, Try.ntmps6
   go_wp2_with (first | ((with_reducible refine gate_callee (f := 11) rfl ?_); refine goesL_ (some 15) rfl rfl Try.func11 (by kernel_rfl) rfl #[] rfl gS ?_; (with_reducible refine (spoorlaw16_lives.calls k  true _ A3.out).mono ?_); rintro e w36 ⟨rfl, hb⟩; refine ⟨_, rfl, ?_⟩; replace HB := Bs0 HB hb; (try clear hb)) | ((with_reducible refine gate_callee (f := 17) rfl ?_); refine goesL_ (some 19) rfl rfl Try.func17 (by kernel_rfl) rfl #[.slice A0 l0.length c0] rfl gS ?_; (with_reducible refine (links_Peers.calls k _ _ l0 t410 t411 _ ?side1 ?side2 A5.out).mono ?_); (case side1 => repeat (first | exact (Kd.C_below HR0.out HB.out) | (with_reducible refine Kd.C_alloc ?_ _) | (with_reducible refine Kd.C_drewN ?_ _) | (with_reducible refine Kd.C_drew ?_))); (case side2 => exact HC0.out); rintro e w37 ⟨v412, rfl, ho0, hb⟩; refine ⟨_, rfl, ?_⟩; have HO413 := Ax (Kd.R_lower ho0 (below_size (bw0 HB.out))); replace HB := Bs0 HB hb; (try clear hb); (try clear ho0); obtain ⟨Ao38, co38, eo38⟩ := Kd.R_slice HO413.out; subst eo38))
   go_ret
   exact ⟨eS, bw0 HB.out⟩
 ·replace c4 := Bool.eq_false_iff.mpr c4
  subst c4
  have H1 : (none) = some r := by rw [if_neg (show ¬ (false = true) by decide)] at H; exact H
  clear H
  have H := H1
  clear H1
  exact absurd H (by simp)
end Go.Proofs.Ytalkiicjdafhdaa.Q
end
section
namespace Go.Proofs.Ytalkiicjdafhdaa.Q
set_option linter.unusedVariables false
open Go.RowKit Go.Proofs.YtalkiicjdafhdaaW.PrintWords Go.Proofs.YtalkiicjdafhdaaW.PrintLast Go.Proofs.YtalkiicjdafhdaaW.PrintMore Go.Proofs.Ytalkiicjdafhdaa.Open
def spoorlaw16_LinksFound.Pure : Prop := ∀ (l0 : List (S24)) (a1_0 : Int) (a1_1 : Int) (a2_0 : Int) (a2_1 : Int) (a3 : Int), (fun l => wfAll wf24 l ∧ l.length ≤ maxLen) l0 → wf24 (⟨a1_0, a1_1⟩ : S24) → wf24 (⟨a2_0, a2_1⟩ : S24) → (wfInt .i64) a3 → l0.length * 16 ≤ 140737488351232 → ∃ k, spoorlaw16_LinksFound.f k l0 a1_0 a1_1 a2_0 a2_1 a3 = some true
end Go.Proofs.Ytalkiicjdafhdaa.Q
end
section
namespace Go.Proofs.Ytalkiicjdafhdaa.Pure
set_option linter.unusedVariables false
open Go.RowKit Go.Proofs.Ytalkiicjdafhdaa.Q Go.Proofs.YtalkiicjdafhdaaW.PrintWords Go.Proofs.YtalkiicjdafhdaaW.PrintLast Go.Proofs.Ytalkiicjdafhdaa.Base Go.Proofs.Ytalkiicjdafhdaa.Lnk
theorem lives16_ev2 : Ev spoorlaw16_lives.f true := Ev.of spoorlaw16_lives.mono (k := 200) (by decide +kernel)
theorem put_two {l : List Lk} {x y : Lk} (hxy : x.f0 ≠ y.f0) (h1 : (putW l x).2 = 0) (h2 : (putW (putW l x).1 y).2 = 0) (h3 : (putW l y).2 = 0) (h4 : (putW (putW l y).1 x).2 = 0) :
    (putW (putW l x).1 y).1 = (putW (putW l y).1 x).1 := by
  obtain ⟨a1, a2, a3, _⟩ := putW_ok h1
  obtain ⟨b1, b2, b3, _⟩ := putW_ok h2
  obtain ⟨c1, c2, c3, _⟩ := putW_ok h3
  obtain ⟨d1, d2, d3, _⟩ := putW_ok h4
  refine srt_ext (putW_okL h2).2.2 (putW_okL h4).2.2 fun z => ?_
  rw [b3, d3, mem_put, mem_put, a3, c3, mem_put, mem_put]
  constructor
  · rintro (h | ⟨h | h, g⟩)
    · exact .inr ⟨.inl h, by rw [h]; exact fun e => hxy e.symm⟩
    · exact .inl h
    · exact .inr ⟨.inr ⟨h.1, g⟩, h.2⟩
  · rintro (h | ⟨h | h, g⟩)
    · exact .inr ⟨.inl h, by rw [h]; exact hxy⟩
    · exact .inl h
    · exact .inr ⟨.inr ⟨h.1, g⟩, h.2⟩
theorem eq_put {l : List Lk} (h : Srt l) {x : Lk} {n : Int} (e : n ≠ x.f0) : eqL n (loL x.f0 l ++ x :: hiL x.f0 l) = eqL n l := by
  have h1 : eqL n (eqL x.f0 l) = [] := List.filter_eq_nil_iff.2 fun y hy => by have := (mem_eq.1 hy).2; simp; omega
  have h2 : eqL n (x :: hiL x.f0 l) = eqL n (hiL x.f0 l) := List.filter_cons_of_neg (by simp; omega)
  have h3 : ∀ a b : List Lk, eqL n (a ++ b) = eqL n a ++ eqL n b := fun a b => List.filter_append ..
  conv => rhs; rw [(split3 x.f0 l h).1]
  rw [h3, h3, h3, h1, h2, List.nil_append]
theorem put_len {l : List Lk} (h : Srt l) (x : Lk) : (loL x.f0 l ++ x :: hiL x.f0 l).length + (eqL x.f0 l).length = l.length + 1 := by
  have g := congrArg List.length (split3 x.f0 l h).1
  simp only [List.length_append, List.length_cons] at g ⊢
  omega
theorem put_room {l : List Lk} {x y : Lk} (hxy : x.f0 ≠ y.f0) (h1 : (putW l x).2 = 0) (h2 : (putW (putW l x).1 y).2 = 0) (h3 : (putW l y).2 = 0) : (putW (putW l y).1 x).2 = 0 := by
  obtain ⟨a1, a2, a3, a4⟩ := putW_ok h1
  obtain ⟨b1, b2, b3, b4⟩ := putW_ok h2
  obtain ⟨c1, c2, c3, c4⟩ := putW_ok h3
  have n4 : ¬ (eqL x.f0 (putW l y).1 = [] ∧ (putW l y).1.length = 32) := fun ⟨g1, g2⟩ => by
    rw [c3, eq_put c1.2.2 hxy] at g1
    rw [c3] at g2
    have e0 := a4 g1
    have e1 := put_len c1.2.2 y
    have e2 : eqL y.f0 l = [] := List.length_eq_zero_iff.1 (by omega)
    have e3 := put_len a1.2.2 x
    rw [g1] at e3
    rw [a3, eq_put a1.2.2 (fun e => hxy e.symm)] at b4
    have e4 := b4 e2
    simp only [List.length_nil] at e3
    rw [e2] at e1
    simp only [List.length_nil] at e1
    omega
  rw [putW_in ⟨putW_okL h3, a2⟩ n4]
theorem j0_ev (l : List Lk) {x : Lk} (y : Lk) (h1 : (putW l x).2 = 0) : Ev (fun k => spoorlaw16_LinksFound.j0 k l (putW l x).1 false x.f0 x.f1 y.f0 y.f1) true := by
  refine Ev.succ ?_
  simp only [spoorlaw16_LinksFound.j0]
  refine Ev.neg (by decide) (Ev.bind (put_ev _ y) (Ev.bind (put_ev l y) (Ev.bind (put_ev _ x) ?_)))
  by_cases e : x.f0 = y.f0
  · exact Ev.pos e (Ev.const rfl)
  refine Ev.neg e ?_
  by_cases h2 : (putW (putW l x).1 y).2 = 0
  · refine Ev.pos h2 ?_
    by_cases h3 : (putW l y).2 = 0
    · refine Ev.pos h3 ?_
      have h4 := put_room e h1 h2 h3
      exact Ev.pos h4 (Ev.bind (same_of (putW_len _ _) (put_two e h1 h2 h3 h4)) (Ev.const rfl))
    · exact Ev.neg h3 (Ev.const rfl)
  · exact Ev.neg h2 (Ev.const rfl)
theorem lo_put {l : List Lk} (x : Lk) : loL x.f0 (loL x.f0 l ++ x :: hiL x.f0 l) = loL x.f0 l := by
  have h1 : loL x.f0 (loL x.f0 l) = loL x.f0 l := List.filter_eq_self.2 fun y hy => decide_eq_true (mem_lo.1 hy).2
  have h2 : loL x.f0 (x :: hiL x.f0 l) = [] := List.filter_eq_nil_iff.2 fun y hy => by
    rcases List.mem_cons.1 hy with e | e
    · rw [e]; simp
    · have := (mem_hi.1 e).2; simp; omega
  have h3 : ∀ a b : List Lk, loL x.f0 (a ++ b) = loL x.f0 a ++ loL x.f0 b := fun a b => List.filter_append ..
  rw [h3, h1, h2, List.append_nil]
theorem hi_put {l : List Lk} (x : Lk) : hiL x.f0 (loL x.f0 l ++ x :: hiL x.f0 l) = hiL x.f0 l := by
  have h1 : hiL x.f0 (hiL x.f0 l) = hiL x.f0 l := List.filter_eq_self.2 fun y hy => decide_eq_true (mem_hi.1 hy).2
  have h2 : hiL x.f0 (x :: hiL x.f0 l) = hiL x.f0 (hiL x.f0 l) := List.filter_cons_of_neg (by simp)
  have h4 : hiL x.f0 (loL x.f0 l) = [] := List.filter_eq_nil_iff.2 fun y hy => by have := (mem_lo.1 hy).2; simp; omega
  have h3 : ∀ a b : List Lk, hiL x.f0 (a ++ b) = hiL x.f0 a ++ hiL x.f0 b := fun a b => List.filter_append ..
  rw [h3, h4, h2, h1, List.nil_append]
theorem LinksFound : spoorlaw16_LinksFound.Pure := by
  intro l a b c d n h0 h1 h2 h3 hB
  clear h0 h1 h2 h3 hB
  refine Ev.rounds (g := fun k => spoorlaw16_LinksFound.f k l a b c d n) (r := true) ?_
  simp only [spoorlaw16_LinksFound.f]
  refine Ev.bind lives16_ev2 (Ev.pos rfl (Ev.bind (put_ev l ⟨a, b⟩) ?_))
  by_cases h1 : (putW l ⟨a, b⟩).2 = 0
  case neg =>
    refine Ev.neg h1 ?_
    by_cases g : okL l ∧ okR ⟨a, b⟩
    · by_cases f : eqL a l = [] ∧ l.length = 32
      · rw [putW_full g f]
        exact Ev.neg (show ¬ (8 : Int) = 2 by decide) (Ev.pos rfl (Ev.bind (same_ev (show l.length ≤ 64 by have := g.1.1; omega)) (Ev.const rfl)))
      · exact absurd (by rw [putW_in g f]) h1
    · rw [putW_no g]
      exact Ev.pos rfl (Ev.const rfl)
  have hO := putW_okL h1
  obtain ⟨hl, hx, hv, hq⟩ := putW_ok h1
  have hJ := j0_ev l ⟨c, d⟩ h1
  have hm : (⟨a, b⟩ : Lk) ∈ (putW l ⟨a, b⟩).1 := by rw [hv]; exact mem_put.2 (.inl rfl)
  have hp := peer_of hO hm
  have hd : delW (putW l ⟨a, b⟩).1 a = (loL a l ++ hiL a l, 0) := by
    unfold delW
    rw [if_pos hO, eq_one hO.2.2 hm, hv]
    have e1 := lo_put (l := l) ⟨a, b⟩
    have e2 := hi_put (l := l) ⟨a, b⟩
    simp only [] at e1 e2
    rw [e1, e2]
    rfl
  have hs : (peerW l a).2 = 3 → loL a l ++ hiL a l = l := by
    unfold peerW
    rw [if_pos hl]
    by_cases e : eqL a l = []
    · exact fun _ => lohi hl.2.2 e
    · simp only [if_neg e]
      exact fun h => absurd h (by decide)
  have hlen : l.length ≤ 64 := by have := hl.1; omega
  refine Ev.pos h1 (Ev.bind (peer_ev _ a) (Ev.bind (peer_ev l n) (Ev.bind (peer_ev _ n) (Ev.bind (peer_ev l a) (Ev.bind (del_ev _ a) ?_)))))
  rw [hd]
  have hp' : peerW (putW l ⟨a, b⟩).1 a = (b, 0) := hp
  rw [hp']
  refine Ev.pos rfl (Ev.pos rfl (Ev.bind (chk_ev _) (Ev.pos (if_pos hO) ?_)))
  have hlast : Ev (fun k => if (peerW l a).2 = 3 then ((spoorref16_Same.f k (loL a l ++ hiL a l) l).bind fun t394 => (spoorlaw16_LinksFound.j0 k l (putW l ⟨a, b⟩).1 (!t394) a b c d)) else (spoorlaw16_LinksFound.j0 k l (putW l ⟨a, b⟩).1 false a b c d)) true := by
    by_cases e : (peerW l a).2 = 3
    · exact Ev.pos e (Ev.bind (same_of hlen (hs e)) hJ)
    · exact Ev.neg e hJ
  by_cases e : n = a
  · exact Ev.pos e (Ev.pos rfl hlast)
  · have hpe : peerW l n = peerW (putW l ⟨a, b⟩).1 n := by
      unfold peerW
      rw [if_pos hl, if_pos hO, hv, eq_put hl.2.2 (x := ⟨a, b⟩) e]
    rw [← hpe]
    exact Ev.neg e (Ev.pos rfl (Ev.pos rfl (Ev.pos rfl hlast)))
end Go.Proofs.Ytalkiicjdafhdaa.Pure
end
section
namespace Go.Proofs.Ytalkiicjdafhdaa.linksFound
open Go.ChangeShapes Go.WideShapes Go.ChangeAt Go.RowKit Go.Proofs.Ytalkiicjdafhdaa.Open Go.Proofs.Ytalkiicjdafhdaa.Q
open Go.ChangeMaps (open_string shut_string)
set_option linter.unusedVariables false
theorem own : ownKnob Try.prog.godebug = none := by kernel_rfl
theorem laidOut : laidOutB Try.prog = true := by kernel_rfl
set_option maxRecDepth 100000 in
theorem contract (H : Type) (enc : TypeId × Value → H) (W : World) (base : Nat) (args : Array Value) (ds gs : List (DataW H)) (before : List MemPlace)
    (hval : ∀ (j : Nat) t v, Try.f5.params[j]? = some t → args[j]? = some v → Value.okWide Try.prog W .any base t v)
    (hW : DataW.Whole enc Try.prog Try.f5.params.toList Rows.linksFoundSpec.vars false W args.toList ds gs before) (hsz0 : (DataW.weightsEach Try.prog (Try.f5.params.toList ++ Rows.linksFoundSpec.plain.varTypes Try.prog) (ds ++ gs)).all (· ≤ reachBytes) = true) :
    Calls Try.prog 5 args W fun e W' => ∃ v, e = .returned v ∧ Rows.linksFoundSpec.post enc Try.prog Try.f5 false true false false W args v W' := by
  have hW' := hW
  obtain ⟨p, q, hA0, hV, rfl, hfz, hnd⟩ := hW
  have hA : DataW.TrodAll enc Try.prog W 0 (fun _ => true) true Try.f5.params.toList args.toList ds p := hA0
  have hsz : (DataW.weightsEach Try.prog (Try.f5.params.toList ++ Rows.linksFoundSpec.plain.varTypes Try.prog) (ds ++ gs)).all (· ≤ reachBytes) = true := hsz0
  rw [Try.params5] at hA hval hsz
  obtain ⟨v0, vs0, d0, ds0, p0, q0, hargs, rfl, rfl, h0, r0⟩ := trodAll_cons hA
  obtain ⟨v1, vs1, d1, ds1, p1, q1, rfl, rfl, rfl, h1, r1⟩ := trodAll_cons r0
  obtain ⟨v2, vs2, d2, ds2, p2, q2, rfl, rfl, rfl, h2, r2⟩ := trodAll_cons r1
  obtain ⟨v3, vs3, d3, ds3, p3, q3, rfl, rfl, rfl, h3, r3⟩ := trodAll_cons r2
  obtain ⟨rfl, rfl, rfl⟩ := trodAll_nil r3
  obtain rfl : args = #[v0, v1, v2, v3] := by cases args; simp_all
  obtain ⟨rfl, rfl⟩ := trodVars_none hV
  have k0 := h0
  have lt0 : ∀ x ∈ p0, x.block < W.heap.size := by obtain ⟨m, hm⟩ := k0; exact DataW.trod_lt m _ _ _ hm
  obtain ⟨fu0, hf0⟩ := h0
  obtain ⟨b0, K0, o0, u0⟩ := (opens_slice opn24 Try.underlying22 (by kernel_rfl) 24) enc W _ _ _ _ _ hf0
  obtain ⟨A0, c0, z0, lc0, C0⟩ := K0
  obtain rfl : v0 = .slice A0 b0.length c0 := by obtain ⟨x, y, z, rfl⟩ := okWide_slice Try.underlying22 (hval 0 22 v0 rfl rfl); exact (List.cons.inj (show [Value.slice x y z] = [Value.slice A0 b0.length c0] from z0)).1
  have k1 := h1
  have lt1 : ∀ x ∈ p1, x.block < W.heap.size := by obtain ⟨m, hm⟩ := k1; exact DataW.trod_lt m _ _ _ hm
  obtain ⟨fu1, hf1⟩ := h1
  obtain ⟨b1, K1, o1, u1⟩ := opn24 enc W _ _ _ _ _ hf1
  have z1 := k24_open K1
  obtain rfl : v1 = .agg #[.int .i64 b1.f0, .int .i64 b1.f1] := by obtain ⟨x, rfl, _⟩ := okWide_struct Try.underlying24 (hval 1 24 v1 rfl rfl); exact congrArg Value.agg (Array.toList_inj.mp (show x.toList = [.int .i64 b1.f0, .int .i64 b1.f1] from z1))
  have k2 := h2
  have lt2 : ∀ x ∈ p2, x.block < W.heap.size := by obtain ⟨m, hm⟩ := k2; exact DataW.trod_lt m _ _ _ hm
  obtain ⟨fu2, hf2⟩ := h2
  obtain ⟨b2, K2, o2, u2⟩ := opn24 enc W _ _ _ _ _ hf2
  have z2 := k24_open K2
  obtain rfl : v2 = .agg #[.int .i64 b2.f0, .int .i64 b2.f1] := by obtain ⟨x, rfl, _⟩ := okWide_struct Try.underlying24 (hval 2 24 v2 rfl rfl); exact congrArg Value.agg (Array.toList_inj.mp (show x.toList = [.int .i64 b2.f0, .int .i64 b2.f1] from z2))
  have k3 := h3
  have lt3 : ∀ x ∈ p3, x.block < W.heap.size := by obtain ⟨m, hm⟩ := k3; exact DataW.trod_lt m _ _ _ hm
  obtain ⟨fu3, hf3⟩ := h3
  obtain ⟨b3, K3, o3, u3⟩ := (opens_int Try.underlying3) enc W _ _ _ _ _ hf3
  obtain rfl : v3 = .int .i64 b3 := by obtain ⟨x, rfl⟩ := okWide_int Try.underlying3 (hval 3 3 v3 rfl rfl); exact (List.cons.inj (show [Value.int .i64 x] = [Value.int .i64 b3] from K3)).1
  have sz0 : b0.length * 16 ≤ 140737488351232 := sized_row hsz (j := 0) (t := 22) rfl rfl Try.underlying22 (by kernel_rfl) k0
  obtain ⟨k, h⟩ := Pure.LinksFound b0 b1.f0 b1.f1 b2.f0 b2.f1 b3 o0 o1 o2 o3 sz0
  refine (spoorlaw16_LinksFound.calls k A0 c0 b0 b1.f0 b1.f1 b2.f0 b2.f1 b3 true W C0 lc0 h).mono fun e W' ⟨he, hd⟩ => ?_
  have bel := hd
  subst he
  exact ⟨_, rfl, _, _, _, [], _, [], hW', trodAll_mk1 (shut_bool Try.underlying4 _), (trodAll_cons_mk (Below.trod laidOut (by kernel_rfl) (of_decide_eq_true (by kernel_rfl)) k0 bel lt0) (trodAll_cons_mk (Below.trod laidOut (by kernel_rfl) (of_decide_eq_true (by kernel_rfl)) k1 bel lt1) (trodAll_cons_mk (Below.trod laidOut (by kernel_rfl) (of_decide_eq_true (by kernel_rfl)) k2 bel lt2) (trodAll_cons_mk (Below.trod laidOut (by kernel_rfl) (of_decide_eq_true (by kernel_rfl)) k3 bel lt3) trodAll_mk0)))), rfl, bel.frame _, fun h => by cases h⟩
set_option maxRecDepth 100000 in
theorem lifted (os : Os) (started : os.Started) (H : Type) (enc : TypeId × Value → H) :
    ReturnsInHanded {} Try.checked os 5 .any (Rows.linksFoundSpec.pre6 enc Try.prog Try.f5 Rows.linksFoundRow.domain false) (Rows.linksFoundSpec.post enc Try.prog Try.f5 false true false false) := by
  refine returnsInHanded_of_change_sized (C := Try.checked) own started (by kernel_rfl) Try.func5
    (ChangeSpec.witness6 (enc := enc) (C := Try.checked) false ⟨#[], #[.slice none 0 0, .agg #[.int .i64 0, .int .i64 0], .agg #[.int .i64 0, .int .i64 0], .int .i64 0], []⟩ 8 (by kernel_rfl) (by kernel_rfl) (by kernel_rfl) (by kernel_rfl)) ?_
  intro W base args ds gs before hval hW _ hsz _
  exact contract H enc W base args ds gs before hval hW hsz
theorem over : Rows.linksFoundRow.holds Try.pinned (OpenSpec.ofChange Rows.linksFoundSpec) :=
  OpenClaim.holds_of_wide 5 Try.f5 rfl rfl rfl rfl rfl rfl rfl ⟨rfl, rfl, rfl, rfl, rfl⟩ rfl rfl rfl rfl rfl (by kernel_rfl) Try.func5 (by kernel_rfl)
    (of_decide_eq_true (by kernel_rfl)) (by unfold Func.isWrapper; first | (rw [if_pos (by decide +kernel)]; kernel_rfl) | (rw [if_neg (by decide +kernel)]; exact ⟨rfl, rfl⟩))
    (fun os started H enc _ => lifted os started H enc)
theorem proved : Rows.LinksFoundSaid := over
#print axioms proved
end Go.Proofs.Ytalkiicjdafhdaa.linksFound
namespace Go.Proofs.Ytalkiicjdafhdaa
theorem linksFound_holds : Rows.LinksFoundSaid := linksFound.proved
end Go.Proofs.Ytalkiicjdafhdaa
end
section
namespace Go.Proofs.Ytalkiicjdafhdaa.Q
set_option linter.unusedVariables false
open Go.RowKit Go.Proofs.YtalkiicjdafhdaaW.PrintWords Go.Proofs.YtalkiicjdafhdaaW.PrintLast Go.Proofs.YtalkiicjdafhdaaW.PrintMore Go.Proofs.Ytalkiicjdafhdaa.Open
def spoorlaw16_LinksPeers.Pure : Prop := ∀ (l0 : List (S24)) (a1 : Int), (fun l => wfAll wf24 l ∧ l.length ≤ maxLen) l0 → (wfInt .i64) a1 → l0.length * 16 ≤ 140737488351232 → ∃ k, spoorlaw16_LinksPeers.f k l0 a1 = some true
end Go.Proofs.Ytalkiicjdafhdaa.Q
end
section
namespace Go.Proofs.Ytalkiicjdafhdaa.Pure
set_option linter.unusedVariables false
open Go.RowKit Go.Proofs.Ytalkiicjdafhdaa.Q Go.Proofs.YtalkiicjdafhdaaW.PrintWords Go.Proofs.YtalkiicjdafhdaaW.PrintLast Go.Proofs.Ytalkiicjdafhdaa.Base Go.Proofs.Ytalkiicjdafhdaa.Lnk
theorem lives16_ev3 : Ev spoorlaw16_lives.f true := Ev.of spoorlaw16_lives.mono (k := 200) (by decide +kernel)
def peersW (l : List Lk) : List Int × Int := if okL l then (peersV l, 0) else ([], 2)
theorem peers_ev (l : List Lk) : Ev (fun k => links_Peers.f k l) (peersW l) := by
  simp only [links_Peers.f]
  refine Ev.bind (chk_ev l) ?_
  unfold chkV peersW
  by_cases c : okL l
  · rw [if_pos c, if_pos c]
    exact Ev.neg (by decide) (Ev.const rfl)
  · rw [if_neg c, if_neg c]
    exact Ev.pos (by decide) (Ev.const rfl)
theorem insP_len (t : Int) : ∀ xs : List Int, (insP t xs).length ≤ xs.length + 1
  | [] => by simp [insP]
  | x :: r => by
    have := insP_len t r
    unfold insP
    split
    · simp
    · split <;> simp <;> omega
theorem peersV_lenA : ∀ (l : List Lk) (acc : List Int), (l.foldl (fun acc x => insP x.f1 acc) acc).length ≤ acc.length + l.length
  | [], acc => by simp
  | x :: r, acc => by
    have h1 := peersV_lenA r (insP x.f1 acc)
    have h2 := insP_len x.f1 acc
    simp only [List.foldl_cons, List.length_cons]
    omega
theorem peersV_len (l : List Lk) : (peersV l).length ≤ l.length := by
  have := peersV_lenA l []
  rw [List.length_nil, Nat.zero_add] at this
  exact this
theorem fin16 (l : List Lk) (h : okL l) (t : Int) (s u : Bool) (p : List Int) (hp : p.length ≤ l.length) : ∀ (r : List Lk) (i : Nat) (u : Bool), l.drop i = r → (s = (u || r.any (fun x => x.f1 == t))) →
    Ev (fun k => spoorlaw16_LinksPeers.l1 k l t p s u l (l.length : Int) (i : Int)) true
  | [], i, u, hd, hu => by
    have := drop_nil_le hd
    refine Ev.succ ?_
    simp only [spoorlaw16_LinksPeers.l1]
    refine Ev.neg (by omega) (Ev.pos (by simp [hu]) (Ev.const ?_))
    rw [decide_eq_true (by omega)]
  | x :: r, i, u, hd, hu => by
    have hlt := ltL hd
    have h32 := h.1
    have hx : x ∈ l := List.mem_of_mem_drop (i := i) (by rw [hd]; exact List.mem_cons_self ..)
    refine Ev.succ ?_
    simp only [spoorlaw16_LinksPeers.l1, rdL hd]
    rw [w64 (n := (i : Int) + 1) (by omega) (by omega)]
    refine Ev.pos (by omega) (Ev.pos (by omega) (Ev.pos (by omega) (Ev.bind (Ev.to (peer_ev l x.f0) (peer_of h hx)) (Ev.pos rfl (Ev.pos rfl ?_)))))
    cases u with
    | true => exact Ev.pos rfl (fin16 l h t s true p hp r (i + 1) true (drop_next hd) (by rw [hu]; simp))
    | false => exact Ev.neg (by decide) (fin16 l h t s true p hp r (i + 1) (x.f1 == t) (drop_next hd) (by rw [hu]; simp))
theorem seen16 (l : List Lk) (h : okL l) (t : Int) : ∀ (r : List Int) (i : Nat) (u : Bool), (peersV l).drop i = r → ((peersV l).any (· == t) = (u || r.any (· == t))) →
    Ev (fun k => spoorlaw16_LinksPeers.l0 k l t (peersV l) u false (peersV l) ((peersV l).length : Int) (i : Int)) true
  | [], i, u, hd, hu => by
    have := drop_nil_le hd
    refine Ev.succ ?_
    simp only [spoorlaw16_LinksPeers.l0]
    refine Ev.neg (by omega) (fin16 l h t u false (peersV l) (peersV_len l) l 0 false rfl ?_)
    have e : u = (peersV l).any (· == t) := by rw [hu]; simp
    rw [e, Bool.false_or, Bool.eq_iff_iff]
    simp only [List.any_eq_true, beq_iff_eq]
    constructor
    · rintro ⟨z, hz, rfl⟩
      exact (peersV_ok l).2 z |>.1 hz
    · rintro ⟨x, hx, g⟩
      exact ⟨t, (peersV_ok l).2 t |>.2 ⟨x, hx, g⟩, rfl⟩
  | y :: r, i, u, hd, hu => by
    have hlt := drop_lt hd
    have h32 := h.1
    have hpl := peersV_len l
    have hn : ∀ v : Bool, (peersV l).any (· == t) = (v || r.any (· == t)) → Ev (fun k => spoorlaw16_LinksPeers.l0 k l t (peersV l) v false (peersV l) ((peersV l).length : Int) (wrap64 ((i : Int) + 1))) true := fun v hv => by
      rw [w64 (n := (i : Int) + 1) (by omega) (by omega)]
      exact seen16 l h t r (i + 1) v (drop_next hd) hv
    have hlast : Ev (fun k => if u = true then (spoorlaw16_LinksPeers.l0 k l t (peersV l) true false (peersV l) ((peersV l).length : Int) (wrap64 ((i : Int) + 1))) else (spoorlaw16_LinksPeers.l0 k l t (peersV l) (y == t) false (peersV l) ((peersV l).length : Int) (wrap64 ((i : Int) + 1)))) true := by
      cases u with
      | true => exact Ev.pos rfl (hn true (by rw [hu]; simp))
      | false => exact Ev.neg (by decide) (hn (y == t) (by rw [hu]; simp))
    refine Ev.succ ?_
    simp only [spoorlaw16_LinksPeers.l0, rd_drop hd]
    refine Ev.pos (by omega) (Ev.pos (by omega) (Ev.pos (by omega) ?_))
    by_cases i0 : i = 0
    · exact Ev.neg (by omega) hlast
    · have ew : wrap64 ((i : Int) - 1) = ((i - 1 : Nat) : Int) := by rw [w64 (by omega) (by omega)]; omega
      simp only [ew]
      refine Ev.pos (by omega) (Ev.pos (by omega) (Ev.pos (by omega) (Ev.neg ?_ hlast)))
      have h1 : rd (peersV l) ((i - 1 : Nat) : Int) = (peersV l)[i - 1]'(by omega) := by simp [rd, List.getD_eq_getElem?_getD, show i - 1 < (peersV l).length by omega]
      have h2 : y = (peersV l)[i] := by
        have := rd_drop hd
        rw [← this]
        simp [rd, List.getD_eq_getElem?_getD, hlt]
      have h3 := List.pairwise_iff_getElem.1 (peersV_ok l).1 (i - 1) i (by omega) hlt (by omega)
      rw [h1, h2]
      omega
theorem LinksPeers : spoorlaw16_LinksPeers.Pure := by
  intro l t h0 h1 hB
  clear h0 h1 hB
  refine Ev.rounds (g := fun k => spoorlaw16_LinksPeers.f k l t) (r := true) ?_
  simp only [spoorlaw16_LinksPeers.f]
  refine Ev.bind lives16_ev3 (Ev.pos rfl (Ev.bind (peers_ev l) ?_))
  unfold peersW
  by_cases c : okL l
  · rw [if_pos c]
    exact Ev.pos rfl (seen16 l c t (peersV l) 0 false rfl (by simp))
  · rw [if_neg c]
    exact Ev.neg (by decide) (Ev.const rfl)
end Go.Proofs.Ytalkiicjdafhdaa.Pure
end
