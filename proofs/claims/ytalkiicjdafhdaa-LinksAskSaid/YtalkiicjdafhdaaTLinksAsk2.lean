/- Who is asked for: one peer, all peers, as the document says. -/
import Derived.Shelf.RegionOpen
import Derived.Deep.RegionLaw
import Derived.BigQuiet
import Derived.Deep.RegionWith
import Derived.Outline
import Derived.Laws.EntriesVeiled
import Derived.WalkSpells
import Derived.Laws.CopyOwn
import Derived.Lib.Overlaps
import Derived.Laws.Externs
import Derived.Maps.Own
import Derived.Maps.OwnSet
import Derived.Maps.Views
import Derived.Shelf.SlIterI.Nil
import Derived.Shelf.SortM.Plain
import Derived.Shelf.SortM.SortNone
import Derived.TacticsInMore
import Derived.Test.YtalkiicjdafhdaaRows
import Derived.ChangeArms
import Derived.WideShapes
import Derived.SizedLaws
import Derived.Laws.BytesArg
import Derived.Laws.BitsLemmas
import Derived.WalkKit
import Derived.ProofKit
import Derived.OpenShut
import Derived.ShutString
import Derived.ChangeOld
import Derived.Below
import Derived.JoinedCond
import Derived.Test.YtalkiicjdafhdaaTLinksAsk1
section
namespace Go.Proofs.Ytalkiicjdafhdaa.Q
open Go.RowKit Go.Proofs.YtalkiicjdafhdaaW.PrintWords Go.Proofs.YtalkiicjdafhdaaW.PrintLast Go.Proofs.YtalkiicjdafhdaaW.PrintMore
attribute [local go_sem] max2_int min2_int max_two min_two max_three min_three max_four min_four   -- for this text's walks alone
set_option linter.unusedVariables false
set_option linter.unusedSimpArgs false
open Go.Maps Go.Shelf Go.Sort in
theorem chk_all : ∀ (k : Nat) (prev : Int) (l : List S24) (m i : Int), links_Check.l0 k prev l m i = some 0 → m = (l.length : Int) → 0 ≤ i → m ≤ 32 → ∀ j : Nat, i ≤ j → (hj : j < l.length) → links_right.f l[j].f0 l[j].f1 = some true
  | 0, _, _, _, _, h, _, _, _, _, _, _ => by simp [links_Check.l0] at h
  | k + 1, prev, l, m, i, h, hm, h0, h32, j, hij, hj => by
    simp only [links_Check.l0] at h
    rw [if_pos (by omega), if_pos h0, if_pos (by omega)] at h
    have e1 : wrap64 (i + 1) = i + 1 := by unfold wrap64; omega
    obtain ⟨t, ht, h⟩ := Option.bind_eq_some_iff.mp h
    by_cases ct : t = true
    case neg => rw [if_neg ct] at h; exact absurd (Option.some.inj h) (by decide)
    rw [if_pos ct] at h
    by_cases cp : (rd_T24 l i).f0 ≤ prev
    case pos => rw [if_pos cp] at h; exact absurd (Option.some.inj h) (by decide)
    rw [if_neg cp, e1] at h
    by_cases e : i = j
    · have er : rd_T24 l i = l[j] := by
        rw [e]
        simp [rd_T24, List.getD_eq_getElem?_getD, hj]
      rw [er] at ht
      rw [ht, ct]
    · exact chk_all k _ l m (i + 1) h hm (by omega) h32 j (by omega) hj
open Go.Maps Go.Shelf Go.Sort in
theorem check_lenP {k : Nat} {l : List S24} (h : links_Check.f k l = some 0) : l.length ≤ 32 := by
  unfold links_Check.f at h
  by_cases c : (l.length : Int) > 32
  · rw [if_pos c] at h
    exact absurd (Option.some.inj h) (by decide)
  · omega
open Go.Maps Go.Shelf Go.Sort in
theorem chk_peer {k : Nat} {l : List S24} (h : links_Check.f k l = some 0) : ∀ x ∈ l, 0 ≤ x.f1 ∧ x.f1 ≤ 1048576 := fun x hx => by
  unfold links_Check.f at h
  by_cases c : (l.length : Int) > 32
  · rw [if_pos c] at h
    exact absurd (Option.some.inj h) (by decide)
  · rw [if_neg c] at h
    obtain ⟨j, hj, rfl⟩ := List.mem_iff_getElem.1 hx
    have hr := chk_all k _ l _ 0 h rfl (Int.le_refl _) (by omega) j (by omega) hj
    unfold links_right.f at hr
    split at hr
    · split at hr
      · split at hr
        · have := Option.some.inj hr
          exact ⟨by assumption, of_decide_eq_true this⟩
        · cases hr
      · cases hr
    · cases hr
open Go.Maps Go.Shelf Go.Sort in
theorem ownsMap_heap {H : Type} {P : Program} {k : TypeId} {R : Value → Option (DataW H × List MemPlace)} {b n : Nat} {D : DataW H} {w w' : World} (h : w.ownsMap P k R b n D) (e : w'.heap[b]? = w.heap[b]?) : w'.ownsMap P k R b n D := by
  obtain ⟨es, clock, hb, Ft, hs, hD⟩ := h
  exact ⟨es, clock, e.trans hb, Ft, hs, hD⟩
open Go.Maps Go.Shelf Go.Sort in
def peerLits (l : List S24) : List Lit := l.map (fun x => .int .i64 x.f1)
open Go.Maps Go.Shelf Go.Sort in
def PeersMap (w : World) (b n : Nat) (l : List S24) : Prop := w.ownsMap (H := Unit) Try.prog 3 (plainElem Try.prog 4) b n (setOf (.lit (.bool true)) (peerLits l))
open Go.Maps Go.Shelf Go.Sort in
def insP (t : Int) : List Int → List Int
  | [] => [t]
  | x :: xs => if t < x then t :: x :: xs else if t = x then x :: xs else x :: insP t xs
open Go.Maps Go.Shelf Go.Sort in
def peersV (l : List S24) : List Int := l.foldl (fun acc x => insP x.f1 acc) []
open Go.Maps Go.Shelf Go.Sort in
theorem insP_ok (t : Int) : ∀ (xs : List Int), xs.Pairwise (· < ·) → (insP t xs).Pairwise (· < ·) ∧ ∀ z, z ∈ insP t xs ↔ z = t ∨ z ∈ xs
  | [], h => ⟨List.pairwise_singleton _ _, fun z => by simp [insP]⟩
  | x :: xs, h => by
    obtain ⟨h1, h2⟩ := List.pairwise_cons.1 h
    obtain ⟨i1, i2⟩ := insP_ok t xs h2
    unfold insP
    by_cases c : t < x
    · rw [if_pos c]
      refine ⟨List.pairwise_cons.2 ⟨fun y hy => ?_, h⟩, fun z => by simp⟩
      rcases List.mem_cons.1 hy with rfl | m
      · exact c
      · have := h1 y m; omega
    · rw [if_neg c]
      by_cases d : t = x
      · rw [if_pos d]
        exact ⟨h, fun z => by rw [d]; simp⟩
      · rw [if_neg d]
        refine ⟨List.pairwise_cons.2 ⟨fun y hy => ?_, i1⟩, fun z => ?_⟩
        · rcases (i2 y).1 hy with rfl | m
          · omega
          · exact h1 y m
        · simp only [List.mem_cons, i2]
          exact ⟨fun h => h.elim (fun a => .inr (.inl a)) (fun a => a.elim .inl (fun b => .inr (.inr b))), fun h => h.elim (fun a => .inr (.inl a)) (fun a => a.elim .inl (fun b => .inr (.inr b)))⟩
open Go.Maps Go.Shelf Go.Sort in
theorem peersV_acc : ∀ (l : List S24) (acc : List Int), acc.Pairwise (· < ·) → (l.foldl (fun acc x => insP x.f1 acc) acc).Pairwise (· < ·) ∧ ∀ z, z ∈ l.foldl (fun acc x => insP x.f1 acc) acc ↔ z ∈ acc ∨ ∃ x ∈ l, x.f1 = z
  | [], acc, h => ⟨h, fun z => by simp⟩
  | x :: l, acc, h => by
    obtain ⟨i1, i2⟩ := insP_ok x.f1 acc h
    obtain ⟨j1, j2⟩ := peersV_acc l (insP x.f1 acc) i1
    refine ⟨j1, fun z => ?_⟩
    have := j2 z
    rw [List.foldl_cons, this, i2 z]
    simp only [List.mem_cons, exists_eq_or_imp]
    exact ⟨fun h => h.elim (fun a => a.elim (fun b => .inr (.inl b.symm)) .inl) (fun a => .inr (.inr a)), fun h => h.elim (fun a => .inl (.inr a)) (fun a => a.elim (fun b => .inl (.inl b.symm)) .inr)⟩
open Go.Maps Go.Shelf Go.Sort in
theorem peersV_ok (l : List S24) : (peersV l).Pairwise (· < ·) ∧ ∀ z, z ∈ peersV l ↔ ∃ x ∈ l, x.f1 = z := by
  obtain ⟨h1, h2⟩ := peersV_acc l [] List.Pairwise.nil
  exact ⟨h1, fun z => by have := h2 z; simpa [peersV] using this⟩
open Go.Maps Go.Shelf Go.Sort in
def keysRun_ren : Go.Shelf.Ren := ⟨fun | 7 => 28 | 10 => 36 | n => n, fun | 23 => 49 | 26 => 3 | 3 => 4 | 28 => 52 | 0 => 0 | 27 => 51 | 33 => 59 | 4 => 4 | n => n, fun | n => n⟩
open Go.Maps Go.Shelf Go.Sort in
theorem keysRun : Go.Proofs.SlLaysZI.n7 Try.prog keysRun_ren := {
  mixed := by kernel_rfl
  f7 := ⟨Try.f28.name, by decide, Try.func28.trans (congrArg some (by kernel_rfl))⟩
  f10 := ⟨Try.f36.name, by decide, Try.func36.trans (congrArg some (by kernel_rfl))⟩
  t0 := Try.underlying0
  a0 := Try.isAgg0
  z0 := Try.sizeOf0
  v0 := Try.zeroValue0
  t4 := Try.underlying4
  a4 := Try.isAgg4
  z4 := Try.sizeOf4
  v4 := Try.zeroValue4
  t23 := Try.underlying49
  a23 := Try.isAgg49
  z23 := Try.sizeOf49
  v23 := Try.zeroValue49
  t26 := Try.underlying3
  a26 := Try.isAgg3
  z26 := Try.sizeOf3
  v26 := Try.zeroValue3
  t27 := Try.underlying51
  a27 := Try.isAgg51
  z27 := Try.sizeOf51
  v27 := Try.zeroValue51
  t28 := Try.underlying52
  a28 := Try.isAgg52
  z28 := Try.sizeOf52
  v28 := Try.zeroValue52
  t33 := Try.underlying59
  a33 := Try.isAgg59
  z33 := Try.sizeOf59
  v33 := Try.zeroValue59 }
open Go.Maps Go.Shelf Go.Sort in
def sortedRun_ren : Go.Shelf.Ren := ⟨fun | 6 => 27 | 8 => 34 | 9 => 35 | 11 => 39 | 13 => 41 | 12 => 40 | 23 => 52 | 24 => 53 | 14 => 43 | 15 => 44 | 16 => 45 | 17 => 46 | 18 => 47 | 19 => 48 | 20 => 49 | 21 => 50 | 22 => 51 | 25 => 54 | 26 => 55 | 27 => 56 | 28 => 57 | 29 => 58 | 30 => 37 | 31 => 59 | n => n, fun | 26 => 3 | 28 => 52 | 24 => 35 | 0 => 0 | 3 => 3 | 37 => 60 | 48 => 74 | 50 => 76 | 4 => 4 | 40 => 67 | 39 => 66 | 45 => 43 | 5 => 5 | 9 => 9 | 51 => 77 | 55 => 81 | 57 => 83 | 58 => 84 | 33 => 59 | n => n, fun | n => n⟩
open Go.Maps Go.Shelf Go.Sort in
theorem sortedRun : Go.Proofs.SlLaysZI.n6 Try.prog sortedRun_ren := {
  mixed := by kernel_rfl
  f6 := ⟨Try.f27.name, by decide, Try.func27.trans (congrArg some (by kernel_rfl))⟩
  f8 := ⟨Try.f34.name, by decide, Try.func34.trans (congrArg some (by kernel_rfl))⟩
  f11 := ⟨Try.f39.name, by decide, Try.func39.trans (congrArg some (by kernel_rfl))⟩
  t0 := Try.underlying0
  a0 := Try.isAgg0
  z0 := Try.sizeOf0
  v0 := Try.zeroValue0
  t24 := Try.underlying35
  a24 := Try.isAgg35
  z24 := Try.sizeOf35
  v24 := Try.zeroValue35
  t26 := Try.underlying3
  a26 := Try.isAgg3
  z26 := Try.sizeOf3
  v26 := Try.zeroValue3
  t28 := Try.underlying52
  a28 := Try.isAgg52
  z28 := Try.sizeOf52
  v28 := Try.zeroValue52
  i26 := by kernel_rfl }
open Go.Maps Go.Shelf Go.Sort in
def sortRun_ren : Go.Shelf.Ren := ⟨fun | 5 => 35 | 8 => 41 | 7 => 40 | 19 => 52 | 20 => 53 | 10 => 43 | 11 => 44 | 12 => 45 | 13 => 46 | 14 => 47 | 15 => 48 | 16 => 49 | 17 => 50 | 18 => 51 | 30 => 54 | 31 => 55 | 32 => 56 | 33 => 57 | 34 => 58 | 35 => 37 | 40 => 59 | n => n, fun | 23 => 35 | 25 => 3 | 3 => 3 | 32 => 60 | 22 => 35 | 0 => 0 | 44 => 74 | 46 => 76 | 4 => 4 | 36 => 67 | 35 => 66 | 41 => 43 | 5 => 5 | 9 => 9 | 53 => 77 | 57 => 81 | 63 => 83 | 64 => 84 | n => n, fun | n => n⟩
open Go.Maps Go.Shelf Go.Sort in
theorem sortRun : Go.Proofs.SlLaysM.n5 Try.prog sortRun_ren := {
  mixed := by kernel_rfl
  f5 := ⟨Try.f35.name, by decide, Try.func35.trans (congrArg some (by kernel_rfl))⟩
  f7 := ⟨Try.f40.name, by decide, Try.func40.trans (congrArg some (by kernel_rfl))⟩
  f8 := Try.func41.trans (congrArg some (by kernel_rfl))
  f10 := ⟨Try.f43.name, by decide, Try.func43.trans (congrArg some (by kernel_rfl))⟩
  f11 := ⟨Try.f44.name, by decide, Try.func44.trans (congrArg some (by kernel_rfl))⟩
  f12 := ⟨Try.f45.name, by decide, Try.func45.trans (congrArg some (by kernel_rfl))⟩
  f13 := ⟨Try.f46.name, by decide, Try.func46.trans (congrArg some (by kernel_rfl))⟩
  f14 := ⟨Try.f47.name, by decide, Try.func47.trans (congrArg some (by kernel_rfl))⟩
  f15 := ⟨Try.f48.name, by decide, Try.func48.trans (congrArg some (by kernel_rfl))⟩
  f16 := ⟨Try.f49.name, by decide, Try.func49.trans (congrArg some (by kernel_rfl))⟩
  f17 := ⟨Try.f50.name, by decide, Try.func50.trans (congrArg some (by kernel_rfl))⟩
  f18 := ⟨Try.f51.name, by decide, Try.func51.trans (congrArg some (by kernel_rfl))⟩
  f19 := Try.func52.trans (congrArg some (by kernel_rfl))
  f20 := Try.func53.trans (congrArg some (by kernel_rfl))
  f30 := ⟨Try.f54.name, by decide, Try.func54.trans (congrArg some (by kernel_rfl))⟩
  f31 := Try.func55.trans (congrArg some (by kernel_rfl))
  f32 := Try.func56.trans (congrArg some (by kernel_rfl))
  f33 := ⟨Try.f57.name, by decide, Try.func57.trans (congrArg some (by kernel_rfl))⟩
  f34 := ⟨Try.f58.name, by decide, Try.func58.trans (congrArg some (by kernel_rfl))⟩
  f35 := ⟨Try.f37.name, by decide, Try.func37.trans (congrArg some (by kernel_rfl))⟩
  f40 := ⟨Try.f59.name, by decide, Try.func59.trans (congrArg some (by kernel_rfl))⟩
  t0 := Try.underlying0
  a0 := Try.isAgg0
  z0 := Try.sizeOf0
  v0 := Try.zeroValue0
  t3 := Try.underlying3
  a3 := Try.isAgg3
  z3 := Try.sizeOf3
  v3 := Try.zeroValue3
  t4 := Try.underlying4
  a4 := Try.isAgg4
  z4 := Try.sizeOf4
  v4 := Try.zeroValue4
  t5 := Try.underlying5
  a5 := Try.isAgg5
  z5 := Try.sizeOf5
  v5 := Try.zeroValue5
  t9 := Try.underlying9
  a9 := Try.isAgg9
  z9 := Try.sizeOf9
  v9 := Try.zeroValue9
  t22 := Try.underlying35
  a22 := Try.isAgg35
  z22 := Try.sizeOf35
  v22 := Try.zeroValue35
  t23 := Try.underlying35
  a23 := Try.isAgg35
  z23 := Try.sizeOf35
  v23 := Try.zeroValue35
  t25 := Try.underlying3
  a25 := Try.isAgg3
  z25 := Try.sizeOf3
  v25 := Try.zeroValue3
  t32 := Try.underlying60
  a32 := Try.isAgg60
  z32 := Try.sizeOf60
  v32 := Try.zeroValue60
  t35 := Try.underlying66
  a35 := Try.isAgg66
  z35 := Try.sizeOf66
  v35 := Try.zeroValue66
  t36 := Try.underlying67
  a36 := Try.isAgg67
  z36 := Try.sizeOf67
  v36 := Try.zeroValue67
  t41 := Try.underlying43
  a41 := Try.isAgg43
  z41 := Try.sizeOf43
  v41 := Try.zeroValue43
  t44 := Try.underlying74
  a44 := Try.isAgg74
  z44 := Try.sizeOf74
  v44 := Try.zeroValue74
  t46 := Try.underlying76
  a46 := Try.isAgg76
  z46 := Try.sizeOf76
  v46 := Try.zeroValue76
  t53 := Try.underlying77
  a53 := Try.isAgg77
  z53 := Try.sizeOf77
  v53 := Try.zeroValue77
  t57 := Try.underlying81
  a57 := Try.isAgg81
  z57 := Try.sizeOf81
  v57 := Try.zeroValue81
  t63 := Try.underlying83
  a63 := Try.isAgg83
  z63 := Try.sizeOf83
  v63 := Try.zeroValue83
  t64 := Try.underlying84
  a64 := Try.isAgg84
  z64 := Try.sizeOf84
  v64 := Try.zeroValue84 }
open Go.Maps Go.Shelf Go.Sort in
theorem sortsP (m : Nat) : AnyZI.SortsIn Try.prog sortedRun_ren Fence.wide m :=
  ⟨fun blk off cap ss W hH hblk hsz => callsIn_wide.2 (AnyM.slices_Sort_int sortRun blk off cap ss W hH hblk hsz),
   fun p cap W => callsIn_wide.2 (AnyM.slices_Sort_int_none sortRun p cap W)⟩
open Go.Maps Go.Shelf Go.Sort in
theorem keys_is (mb : Option Nat) (W : World) : Calls Try.prog 28 #[.map mb] W fun e w' => e = .returned (.func (.func 36) #[] #[.pointer (some ⟨W.heap.size, 0, none⟩)]) ∧ w' = W.alloc (.cells #[.map mb] 49) :=
  (callsIn_wide (n := 5)).1 (AnyZI.keys_in keysRun Fence.wide 5 trivial rfl mb W)
open Go.Maps Go.Shelf Go.Sort in
theorem mergeSort_self {l : List Int} (h : l.Pairwise (· < ·)) : l.mergeSort (fun x y => decide (x ≤ y)) = l :=
  List.mergeSort_of_pairwise (h.imp (fun hab => decide_eq_true (Int.le_of_lt hab)))
open Go.Maps Go.Shelf Go.Sort in
theorem sortedP_is (W : World) (b : Nat) (l : List S24) (hl : l.length ≤ 32) (hb : b < W.heap.size) (hP : PeersMap W b l.length l) :
    Calls Try.prog 27 #[.func (.func 36) #[] #[.pointer (some ⟨W.heap.size, 0, none⟩)]] (W.alloc (.cells #[.map (some b)] 49)) fun e w' => ∃ v, e = .returned v ∧ Kd.R (Kd.int .i64) 3 w' W.heap.size (fun _ => True) v (peersV l) ∧ Below W.heap.size W w' := by
  obtain ⟨s1, s2⟩ := peersV_ok l
  have hnd : (peersV l).Nodup := s1.imp (fun hab => Int.ne_of_lt hab)
  have hP2 : (W.alloc (.cells #[.map (some b)] 49)).ownsMap (H := Unit) Try.prog 3 (plainElem Try.prog 4) b l.length (setOf (.lit (.bool true)) (peerLits l)) := ownsMap_heap hP (heap_alloc_old W _ hb)
  have hmem : ∀ x, x ∈ peersV l ↔ has (setOf (H := Unit) (.lit (.bool true)) (peerLits l)) (.int .i64 x) = true := fun x => by
    rw [s2 x, has_setOf _ _ _ (fun z hz => by obtain ⟨y, _, rfl⟩ := List.mem_map.1 hz; trivial), List.any_eq_true]
    unfold peerLits
    constructor
    · rintro ⟨y, hy, rfl⟩
      exact ⟨_, List.mem_map_of_mem hy, by simp [Lit.sameKey]⟩
    · rintro ⟨z, hz, hs⟩
      obtain ⟨y, hy, rfl⟩ := List.mem_map.1 hz
      exact ⟨y, hy, by simpa [Lit.sameKey] using hs⟩
  have hperm : (peersV l).Perm (intKeys (setOf (H := Unit) (.lit (.bool true)) (peerLits l))) :=
    CollectedI.perm (left := fun _ => false) ⟨hnd, fun x => by rw [hmem x]; simp⟩ hP2 (int_keyed Try.underlying3) Try.underlying3 (fun _ => rfl)
  have hsz : Maps.size (setOf (H := Unit) (.lit (.bool true)) (peerLits l)) ≤ 32 := Nat.le_trans hP2.size_le hl
  have hseq : SeqGives Fence.wide 2 Try.prog 36 #[.pointer (some ⟨W.heap.size, 0, none⟩)] encZ (fun ss => ss.Perm (intKeys (setOf (H := Unit) (.lit (.bool true)) (peerLits l)))) (Maps.size (setOf (H := Unit) (.lit (.bool true)) (peerLits l))) (W.alloc (.cells #[.map (some b)] 49)) :=
    AnyZI.keys_gives (ρ := keysRun_ren) { keysRun with } Fence.wide _ trivial rfl (by omega) W.heap.size b l.length _ _ (by simp) (by simp) hP2
  have cS := AnyZI.sorted_in sortedRun Fence.wide 5 trivial trivial trivial trivial rfl (by omega) (sortsP _) (enters_of Try.func35 (by kernel_rfl) rfl) 36 #[.pointer (some ⟨W.heap.size, 0, none⟩)] trivial (enters_of Try.func36 (by kernel_rfl) rfl) _ _ (by unfold maxLen; omega) (by omega) _ hseq
  change CallsIn _ _ Try.prog 27 _ _ _ at cS
  refine ((callsIn_wide (n := 5)).1 cS).mono ?_
  rintro e w' ⟨v, ss, rfl, hS, hrow, hnil, hbl⟩
  have hms : ss.mergeSort (fun x y => decide (x ≤ y)) = peersV l := by
    rw [← mergeSort_self s1]
    exact mergeSort_of_perm_i (hS.trans hperm.symm)
  have hlen : ss.length = (peersV l).length := by rw [← hms, List.length_mergeSort]
  rw [hms, hlen] at hrow
  have hbl2 : Below W.heap.size W w' := below_step (below_alloc (Below.refl _ W) (.cells #[.map (some b)] 49)) hbl
  refine ⟨v, rfl, ?_, hbl2⟩
  exact Kd.R_lower (Kd.R_of_own hrow (fun _ _ => trivial)) (by simp)
set_option maxRecDepth 100000 in
set_option maxHeartbeats 8000000 in
open Go.Maps Go.Shelf Go.Sort in
theorem peers_walk (k : Nat) (A0 : Option Addr) (c0 : Nat) (l0 : List S24) (w : World) (hr0 : Kd.C k24 w A0 l0.length l0) (hc0 : l0.length ≤ c0) (hy : links_Check.f k l0 = some 0) :
    Calls Try.prog 17 #[.slice A0 l0.length c0] w fun e w' => ∃ v0_ : Value, e = .returned (.tuple #[v0_, .int .i64 0]) ∧ Kd.R (Kd.int .i64) 3 w' w.heap.size (fun _ => True) v0_ (peersV l0) ∧ Below w.heap.size w w' := by
  have hmm := @run_makeMap Try.prog
  have HY := Aside0.mk hy
  have HC0 := Aside0.mk hc0
  have HR0 := Aside0.mk hr0
  have HLL := Aside0.mk (check_lenP hy)
  have HM := Aside0.mk (Kd.C_max hr0)
  have HP := Aside0.mk (chk_peer hy)
  have d0 : ((0 : Int) != 0) = false := rfl
  clear hr0 hc0 hy
  go_enter Try.func17, Try.ntmps17
  go_wp2_with (go_at_call 12; refine (links_Check.calls k _ _ l0 0 _ HR0.out HC0.out HY.out).mono ?_; rintro e w5 ⟨rfl, hb5⟩; have HB5 := Aside0.mk hb5; clear hb5)
  have hown0 : Aside0 (PeersMap (w5.alloc (.map #[] 0)) w5.heap.size 0 (l0.take 0)) := ⟨World.ownsMap_made w5 _ _ _⟩
  have hB0 : Aside0 (Below w.heap.size w (w5.alloc (.map #[] 0))) := ⟨below_step HB5.out (below_alloc (Below.refl _ _) _)⟩
  have HBM : Aside0 (w.heap.size ≤ w5.heap.size) := ⟨HB5.out.size⟩
  have hbl : Aside0 (w5.heap.size < (w5.alloc (.map #[] 0)).heap.size) := ⟨by simp⟩
  generalize w5.alloc (.map #[] 0) = w6 at *
  generalize w5.heap.size = bm at *
  go_loopg [7, 16] l0.length (fun kq v7 v16 w' => ∃ (i : Nat), v16 = .int .i64 (i : Int) ∧ Aside0 (i ≤ l0.length ∧ kq = l0.length - i) ∧ Aside0 (PeersMap w' bm i (l0.take i)) ∧ Aside0 (Below w.heap.size w w') ∧ Aside0 (bm < w'.heap.size))
  case atStart => exact ⟨0, rfl, ⟨Nat.zero_le _, rfl⟩, hown0, hB0, hbl⟩
  case round =>
    obtain ⟨i, rfl, HI, HO, HB, HBL⟩ := hrel
    clear hown0 hB0 hbl
    have hm := HM.out
    by_cases hi : i < l0.length
    · have hd : decide ((i : Int) < (l0.length : Int)) = true := decide_eq_true (by omega)
      have hdn : decide (i < l0.length) = true := decide_eq_true hi
      obtain ⟨x, hx⟩ : ∃ x, rd_T24 l0 (i : Int) = x := ⟨_, rfl⟩
      have hxe : l0[i] = x := by rw [← hx]; simp [rd_T24, List.getD_eq_getElem?_getD, hi]
      have hxp := HP.out x (by rw [← hxe]; exact List.getElem_mem hi)
      have htk : peerLits (l0.take (i + 1)) = peerLits (l0.take i) ++ [.int .i64 x.f1] := by
        unfold peerLits
        rw [List.take_succ_eq_append_getElem hi, List.map_append, hxe]
        rfl
      have HTK := Aside0.mk htk
      have HWF : Aside0 ((Lit.int .i64 x.f1).wf = true) := ⟨by simp [Lit.wf, IntKind.min, IntKind.max, IntKind.bits, IntKind.signed]; omega⟩
      have HII := Aside0.mk hi
      have p0 : (0 : Int) ≤ (i : Int) := by omega
      have q0 : (i : Int) < (l0.length : Int) := by omega
      obtain ⟨ad, ead, hx0, hx1⟩ := at_T24 (Kd.C_below HR0.out HB.out) (i : Int) p0 q0
      cases ead
      simp only [Int.toNat_natCast] at hx0 hx1
      rw [hx] at hx0 hx1
      replace p0 := eq_true p0
      replace q0 := eq_true q0
      clear hx hxe hxp htk hi hm
      go_wp2_with (first | (at_mapUpdate; refine wpList_mapUpdate_own (H := Unit) _ rfl _ _ _ 49 rfl 3 4 (int_keyed Try.underlying3) Try.underlying49 (plainElem Try.prog 4) bm i (setOf (.lit (.bool true)) (peerLits (l0.take i))) rfl ?hown (by have := HI.out; have := HLL.out; unfold maxLen; omega) _ _ _ rfl rfl (keyOf_int_mk Try.underlying3 HWF.out) (.lit (.bool true)) [] (plainElem_bool Try.underlying4 true) ?_; (case hown => exact ownsMap_heap HO.out (heap_alloc_old wr _ HBL.out)); intro w1 hown1 hgrow1; have HO1 := Aside0.mk hown1; have HG1 := Aside0.mk hgrow1; clear hown1 hgrow1))
      go_roundg (l0.length - (i + 1))
      case measure => have := HI.out; have := HII.out; omega
      case rel =>
        have hii := HII.out
        have hll := HLL.out
        refine ⟨i + 1, by first | rfl | (simp only [Value.int.injEq, true_and]; unfold wrap64; omega), ⟨by omega, rfl⟩, ⟨?_⟩, ⟨?_⟩, ⟨?_⟩⟩
        · unfold PeersMap
          rw [HTK.out, setOf_snoc]
          exact HO1.out
        · refine (below_alloc HB.out _).grown HG1.out ?_ (fun j hj => by obtain rfl := Option.some.inj hj; exact HBM.out)
          have := HB.out.size
          simp
          omega
        · have h1 := HG1.out.size
          have h2 := HBL.out
          simp at h1
          omega
    · have hd : decide ((i : Int) < (l0.length : Int)) = false := decide_eq_false (by omega)
      have hdn : decide (i < l0.length) = false := decide_eq_false hi
      have hil : i = l0.length := by have := HI.out; omega
      subst hil
      have HO2 : Aside0 (PeersMap wr bm l0.length l0) := ⟨by have := HO.out; rwa [List.take_length] at this⟩
      clear HO hi
      go_wp2_with (first | (go_at_call 28; refine (keys_is _ _).mono ?_; rintro e w7 ⟨rfl, rfl⟩) | (go_at_call 27; refine (sortedP_is wr bm l0 HLL.out HBL.out HO2.out).mono ?_; rintro e w8 ⟨v8, rfl, ho8, hb8⟩; have HO8 := Aside0.mk (Kd.R_lower ho8 HB.out.size); have HB8 := Aside0.mk (below_step HB.out hb8); clear ho8 hb8))
      go_ret2
      exact ⟨_, rfl, HO8.out, HB8.out⟩
def links_Peers.f (k : Nat) (l0 : List S24) : Option (List Int × Int) := (links_Check.f k l0).bind fun y => if y ≠ 0 then some ([], y) else some (peersV l0, 0)
theorem links_Peers.mono : ∀ a0 k, LeO (links_Peers.f k a0) (links_Peers.f (k + 1) a0) := by
  intro a0 k
  unfold links_Peers.f
  exact LeO.bind (links_Check.mono _ _) (fun _ => LeO.refl _)
set_option maxRecDepth 100000 in
set_option maxHeartbeats 8000000 in
theorem links_Peers.calls (k : Nat) (A0 : Option Addr) (c0 : Nat) (l0 : List (S24)) (r1 : List Int) (r2 : Int) (w : World) (hr0 : Kd.C k24 w A0 l0.length l0) (hc0 : l0.length ≤ c0) (h : links_Peers.f k l0 = some (r1, r2)) :
    Calls Try.prog 17 #[.slice A0 l0.length c0] w fun e w' => ∃ v0_ : Value, e = .returned (.tuple #[v0_, .int .i64 r2]) ∧ Kd.R (Kd.int .i64) 3 w' w.heap.size (fun _ => True) v0_ r1 ∧ Below w.heap.size w w' := by
  obtain ⟨y, hy, h⟩ := Option.bind_eq_some_iff.mp h
  by_cases cy : y ≠ 0
  · rw [if_pos cy] at h
    obtain ⟨e1, e2⟩ := Prod.mk.inj (Option.some.inj h)
    subst e1
    subst e2
    have HY := Aside0.mk hy
    have HC0 := Aside0.mk hc0
    have HR0 := Aside0.mk hr0
    have d0 : (y != 0) = true := bne_iff_ne.mpr cy
    clear cy h hy hr0 hc0
    go_enter Try.func17, Try.ntmps17
    go_wp2_with (go_at_call 12; refine (links_Check.calls k _ _ l0 y _ HR0.out HC0.out HY.out).mono ?_; rintro e w5 ⟨rfl, hb5⟩; have HB5 := Aside0.mk hb5; clear hb5)
    go_ret2
    exact ⟨_, rfl, Kd.R_nil _ _ _ _ _, HB5.out⟩
  · have cy0 : y = 0 := Decidable.not_not.mp cy
    subst cy0
    rw [if_neg cy] at h
    obtain ⟨e1, e2⟩ := Prod.mk.inj (Option.some.inj h)
    subst e1
    subst e2
    exact peers_walk k A0 c0 l0 w hr0 hc0 hy
def spoorref16_Alike.l0 : Nat → List Int → List Int → Int → Int → Option (Bool)
 | 0, _, _, _, _ => none
 | k + 1, x0, x1, x12, x13 => if x13 < x12 then (if 0 ≤ x13 then (if x13 < (x0.length : Int) then (if x13 < (x1.length : Int) then (if (rd x0 x13) = (rd x1 x13) then (spoorref16_Alike.l0 k x0 x1 x12 (wrap64 (x13 + 1))) else (some false)) else (none)) else (none)) else (none)) else (some true)
def spoorref16_Alike.f (k : Nat) (l0 : List Int) (l1 : List Int) : Option (Bool) := if (l0.length : Int) = (l1.length : Int) then (spoorref16_Alike.l0 k l0 l1 (l0.length : Int) 0) else (some false)
theorem spoorref16_Alike.mono_l : ∀ k, (∀ y0 y1 y2 y3, LeO (spoorref16_Alike.l0 k y0 y1 y2 y3) (spoorref16_Alike.l0 (k + 1) y0 y1 y2 y3))
 | 0 => fun _ _ _ _ r h => by simp [spoorref16_Alike.l0] at h
 | k + 1 => by
  have ih0 := spoorref16_Alike.mono_l k
  ·intro y0 y1 y2 y3
   unfold spoorref16_Alike.l0
   repeat' first
   | (with_reducible exact ih0 _ _ _ _)
   | (with_reducible exact LeO.refl _)
   | (with_reducible exact LeO.none _)
   | (with_reducible refine LeO.ite ?_ ?_)
   | (with_reducible refine LeO.bind ?_ (fun _ => ?_))
   | exact ih0 _ _ _ _
   | exact LeO.none _
   | refine LeO.ite ?_ ?_
   | refine LeO.bind ?_ (fun _ => ?_)
theorem spoorref16_Alike.mono : ∀ a0 a1 k, LeO (spoorref16_Alike.f k a0 a1) (spoorref16_Alike.f (k + 1) a0 a1) := by
 intro a0 a1 k
 have ih0 := spoorref16_Alike.mono_l k
 unfold spoorref16_Alike.f
 repeat' first
   | (with_reducible exact ih0 _ _ _ _)
   | (with_reducible exact LeO.refl _)
   | (with_reducible exact LeO.none _)
   | (with_reducible refine LeO.ite ?_ ?_)
   | (with_reducible refine LeO.bind ?_ (fun _ => ?_))
   | exact ih0 _ _ _ _
   | exact LeO.none _
   | refine LeO.ite ?_ ?_
   | refine LeO.bind ?_ (fun _ => ?_)
set_option maxHeartbeats 8000000 in
set_option maxRecDepth 100000 in
theorem spoorref16_Alike.calls (k : Nat) (A0 : Option Addr) (c0 : Nat) (l0 : List Int) (A1 : Option Addr) (c1 : Nat) (l1 : List Int) (r : Bool) (w : World) (hr0 : Kd.C (Kd.int .i64) w A0 l0.length l0) (hc0 : l0.length ≤ c0) (hr1 : Kd.C (Kd.int .i64) w A1 l1.length l1) (hc1 : l1.length ≤ c1) (h : spoorref16_Alike.f k l0 l1 = some r) :
  Calls Try.prog 19 #[.slice A0 l0.length c0, .slice A1 l1.length c1] w fun e w' => e = .returned (.bool r) ∧ Drawn0 w w' := by
 have HR0 := Ax hr0
 have HC0 := Ax hc0
 clear hr0 hc0
 have HR1 := Ax hr1
 have HC1 := Ax hc1
 clear hr1 hc1
 have H : (if (l0.length : Int) = (l1.length : Int) then (spoorref16_Alike.l0 k l0 l1 (l0.length : Int) 0) else (some false)) = some r := h
 clear h
 by_cases c3 : (l0.length : Int) = (l1.length : Int)
 ·rw [if_pos c3] at H
  have c3b0 : ((l0.length : Int) == (l1.length : Int)) = true := beq_iff_eq.mpr c3
  have c3b1 : ((l0.length : Int) != (l1.length : Int)) = false := bne_eq_false_iff_eq.mpr c3
  have c3b2 : (l0.length == l1.length) = true := by first | simpa using c3 | (simp at c3 ⊢; omega)
  clear c3
  have H' := Ax H
  clear H
  go_enter Try.func19, Try.ntmps19
  go_wp2
  repeat (go_quiet (fail); try go_wp2)
  go_loopg [13] k (fun kq v13 w' => ∃ (x13_1 : Int), v13 = .int .i64 x13_1 ∧ Aside0 (spoorref16_Alike.l0 kq l0 l1 (l0.length : Int) x13_1 = some r) ∧ Aside0 (kq ≤ k) ∧ Drawn0 w w')
  case atStart => exact ⟨(0), rS, H', ⟨Nat.le_refl _⟩, by repeat (first | exact Drawn0.refl _ | apply Drawn0.step)⟩
  case round =>
   clear H'
   try clear c1
   try clear p2
   try clear c3
   try clear c3b0
   try clear c3b1
   try clear c3b2
   obtain ⟨x13_1, rfl, HA, HK1, ⟨m1, rfl⟩⟩ := hrel
   cases gk with
   | zero => exact absurd HA.out (by simp [spoorref16_Alike.l0])
   | succ k1 =>
    have H := HA.out
    clear HA
    simp only [spoorref16_Alike.l0] at H
    by_cases c4 : x13_1 < (l0.length : Int)
    ·rw [if_pos c4] at H
     have c4b0 : decide (x13_1 < (l0.length : Int)) = true := decide_eq_true c4
     clear c4
     by_cases c5 : 0 ≤ x13_1
     ·rw [if_pos c5] at H
      have c5b0 : decide (0 ≤ x13_1) = true := decide_eq_true c5
      clear c5
      by_cases c6 : x13_1 < (l0.length : Int)
      ·rw [if_pos c6] at H
       have c6b0 : decide (x13_1 < (l0.length : Int)) = true := decide_eq_true c6
       clear c6
       by_cases c7 : x13_1 < (l1.length : Int)
       ·rw [if_pos c7] at H
        have c7b0 : decide (x13_1 < (l1.length : Int)) = true := decide_eq_true c7
        clear c7
        by_cases c8 : (rd l0 x13_1) = (rd l1 x13_1)
        ·rw [if_pos c8] at H
         have c8b0 : ((rd l0 x13_1) == (rd l1 x13_1)) = true := beq_iff_eq.mpr c8
         have c8b1 : ((rd l0 x13_1) != (rd l1 x13_1)) = false := bne_eq_false_iff_eq.mpr c8
         clear c8
         have H' := Ax H
         clear H
         have p308 : 0 ≤ (x13_1 : Int) := of_decide_eq_true (by first | (with_reducible assumption) | assumption)
         have q308 : x13_1 < (l0.length : Int) := of_decide_eq_true (by first | (with_reducible assumption) | assumption)
         obtain ⟨ad308, e308, hx308_0⟩ := Kd.at_int HR0.out x13_1 p308 q308
         cases e308
         replace p308 := eq_true p308
         replace q308 := eq_true q308
         have p309 : 0 ≤ (x13_1 : Int) := of_decide_eq_true (by first | (with_reducible assumption) | assumption)
         have q309 : x13_1 < (l1.length : Int) := of_decide_eq_true (by first | (with_reducible assumption) | assumption)
         obtain ⟨ad309, e309, hx309_0⟩ := Kd.at_int HR1.out x13_1 p309 q309
         cases e309
         replace p309 := eq_true p309
         replace q309 := eq_true q309
         go_wp2
         repeat (go_quiet (fail); try go_wp2)
         go_roundg k1
         case measure => have := HK1.out; omega
         case rel => exact ⟨(wrap64 (x13_1 + 1)), rS, H', ⟨by have := HK1.out; omega⟩, by repeat (first | exact Drawn0.refl _ | apply Drawn0.step)⟩
        ·rw [if_neg c8] at H
         have c8b0 : ((rd l0 x13_1) == (rd l1 x13_1)) = false := beq_eq_false_iff_ne.mpr c8
         have c8b1 : ((rd l0 x13_1) != (rd l1 x13_1)) = true := bne_iff_ne.mpr c8
         obtain rfl := Option.some.inj H
         have p308 : 0 ≤ (x13_1 : Int) := of_decide_eq_true (by first | (with_reducible assumption) | assumption)
         have q308 : x13_1 < (l0.length : Int) := of_decide_eq_true (by first | (with_reducible assumption) | assumption)
         obtain ⟨ad308, e308, hx308_0⟩ := Kd.at_int HR0.out x13_1 p308 q308
         cases e308
         replace p308 := eq_true p308
         replace q308 := eq_true q308
         have p309 : 0 ≤ (x13_1 : Int) := of_decide_eq_true (by first | (with_reducible assumption) | assumption)
         have q309 : x13_1 < (l1.length : Int) := of_decide_eq_true (by first | (with_reducible assumption) | assumption)
         obtain ⟨ad309, e309, hx309_0⟩ := Kd.at_int HR1.out x13_1 p309 q309
         cases e309
         replace p309 := eq_true p309
         replace q309 := eq_true q309
         go_wp2
         repeat (go_quiet (fail); try go_wp2)
         go_ret
         exact ⟨by first | rfl | (simp; done) | (simp [*]; done), by repeat (first | exact Drawn0.refl _ | apply Drawn0.step)⟩
       ·rw [if_neg c7] at H
        exact absurd H (by simp)
      ·rw [if_neg c6] at H
       exact absurd H (by simp)
     ·rw [if_neg c5] at H
      exact absurd H (by simp)
    ·rw [if_neg c4] at H
     have c4b0 : decide (x13_1 < (l0.length : Int)) = false := decide_eq_false c4
     clear c4
     obtain rfl := Option.some.inj H
     go_wp2
     repeat (go_quiet (fail); try go_wp2)
     go_ret
     exact ⟨by first | rfl | (simp; done) | (simp [*]; done), by repeat (first | exact Drawn0.refl _ | apply Drawn0.step)⟩
 ·rw [if_neg c3] at H
  have c3b0 : ((l0.length : Int) == (l1.length : Int)) = false := beq_eq_false_iff_ne.mpr c3
  have c3b1 : ((l0.length : Int) != (l1.length : Int)) = true := bne_iff_ne.mpr c3
  have c3b2 : (l0.length == l1.length) = false := by first | simpa using c3 | (simp at c3 ⊢; omega)
  obtain rfl := Option.some.inj H
  go_enter Try.func19, Try.ntmps19
  go_wp2
  repeat (go_quiet (fail); try go_wp2)
  go_ret
  exact ⟨by first | rfl | (simp; done) | (simp [*]; done), by repeat (first | exact Drawn0.refl _ | apply Drawn0.step)⟩
theorem event_runw {P : Program} {ops : Array Oper} {o : Oper} {rest : List Oper} {a : Act} {Q : Exit → Act → World → Prop} {W w1 : World} {v : Value} (hw : o.guard = none ∨ Region.wanted o (yielded ops a.tmps) = true) (hrun : (execOp a.eval o).run P W = .ok (.value v) w1) (h : wpList P ops Q rest (a.put o.dst v) w1) : wpList P ops Q (o :: rest) a W := by
 rcases hw with hw | hw
 ·exact Kd.event_run hw hrun h
 ·unfold wpList
  rw [if_pos hw]
  refine .inl ?_
  unfold Oper.wp
  rw [hrun]
  exact h
theorem R_litg {α : Type} {P : Program} {ops : Array Oper} {o : Oper} {rest : List Oper} {a : Act} {Q : Exit → Act → World → Prop} (d : Kd α) {w0 W : World} (base e : Nat) (hgd : o.guard = none ∨ Region.wanted o (yielded ops a.tmps) = true) {N : Tmp} (_hd : o.dst = some N) {xs : List α} {inner : List Value} {ok okp : Nat → Prop}
  (hrun : (execOp a.eval o).run P W = .ok (.value (.slice (some ⟨W.heap.size, 0, none⟩) xs.length xs.length)) (W.alloc (.cells inner.toArray e)))
  (hrep : Reps (d.M W base okp) d.sz xs inner) (hok : ∀ k, okp k → ok k) (hfresh : ok W.heap.size) (HB : Below base w0 W) (hbase : base ≤ W.heap.size) (hm : xs.length ≤ 9223372036854775807)
  (h : ∀ v1 w1, d.R e w1 base ok v1 xs → Below base w0 w1 → W.grownBy w1 none → (∃ b, v1.ownBlock = some b ∧ W.heap.size ≤ b) → wpList P ops Q rest (a.put o.dst v1) w1) : wpList P ops Q (o :: rest) a W := by
 refine event_runw hgd hrun (h _ _ ⟨fun k hk => ?_, inner, ?_, ?_⟩ (HB.alloc hbase _) (World.grownBy_alloc W _ none) ⟨W.heap.size, by simp [Value.ownBlock], Nat.le_refl _⟩)
 ·have : W.heap.size = k := by simpa [Value.ownBlock] using hk
  subst this
  exact hfresh
 ·have h2 := World.ownsRow_lit (base := base) (e := e) (size := d.sz) W inner.toArray xs.length hbase (by simpa [maxLen] using hm) (by simpa using hrep.1)
  simpa using h2
 ·refine hrep.imp_ (fun p c hp => d.M_mono (fun k hk => ⟨hok k hk.1, fun he => ?_⟩) (Kd.M_below (d.M_bound hp) (below_alloc (Below.refl _ _) _)))
  have h3 : k = W.heap.size := by simpa [Value.ownBlock] using he
  have := hk.2.2.1
  omega
def spoorlaw16_lives.f (k : Nat)  : Option (Bool) := (links_Put.f k ([] : List (S24)) 3 7).bind fun bt310 => ((links_Put.f k bt310.1 1 9).bind fun bt314 => ((links_Put.f k bt314.1 4 7).bind fun bt318 => ((links_Peer.f k bt318.1 3).bind fun bt322 => ((links_Peer.f k bt318.1 2).bind fun bt324 => ((links_Peers.f k bt318.1).bind fun bt326 => ((links_Del.f k bt318.1 1).bind fun bt330 => ((links_Del.f k bt330.1 1).bind fun bt334 => ((links_Put.f k bt318.1 (-1) 0).bind fun bt338 => (if bt310.2 = 0 then (if bt314.2 = 0 then (if bt318.2 = 0 then ((spoorref16_Same.f k bt318.1 (([(⟨1, 9⟩ : S24), (⟨3, 7⟩ : S24), (⟨4, 7⟩ : S24)] : List (S24)))).bind fun t345 => (if t345 = true then (if bt322.1 = 7 then (if bt322.2 = 0 then (if bt324.2 = 3 then ((spoorref16_Alike.f k bt326.1 (([7, 9] : List Int))).bind fun t349 => (if t349 = true then (if bt326.2 = 0 then (if (bt330.1.length : Int) = 2 then (if bt330.2 = 0 then (if bt334.2 = 3 then (if bt338.2 = 2 then ((links_Check.f k bt318.1).bind fun t350 => (some (t350 == 0))) else (none)) else (none)) else (none)) else (none)) else (none)) else (none))) else (none)) else (none)) else (none)) else (none))) else (none)) else (none)) else (none))))))))))
theorem spoorlaw16_lives.mono : ∀ k, LeO (spoorlaw16_lives.f k ) (spoorlaw16_lives.f (k + 1) ) := by
 intro  k
 unfold spoorlaw16_lives.f
 repeat' first
   | (with_reducible exact links_Check.mono _ _)
   | (with_reducible exact links_Del.mono _ _ _)
   | (with_reducible exact links_Peer.mono _ _ _)
   | (with_reducible exact links_Peers.mono _ _)
   | (with_reducible exact links_Put.mono _ _ _ _)
   | (with_reducible exact spoorref16_Alike.mono _ _ _)
   | (with_reducible exact spoorref16_Same.mono _ _ _)
   | (with_reducible exact LeO.refl _)
   | (with_reducible exact LeO.none _)
   | (with_reducible refine LeO.ite ?_ ?_)
   | (with_reducible refine LeO.bind ?_ (fun _ => ?_))
   | exact links_Check.mono _ _
   | exact links_Del.mono _ _ _
   | exact links_Peer.mono _ _ _
   | exact links_Peers.mono _ _
   | exact links_Put.mono _ _ _ _
   | exact spoorref16_Alike.mono _ _ _
   | exact spoorref16_Same.mono _ _ _
   | exact LeO.none _
   | refine LeO.ite ?_ ?_
   | refine LeO.bind ?_ (fun _ => ?_)
set_option maxHeartbeats 8000000 in
set_option maxRecDepth 100000 in
theorem spoorlaw16_lives.calls (k : Nat)  (r : Bool) (w : World) (h : spoorlaw16_lives.f k  = some r) :
  Calls Try.prog 11 #[] w fun e w' => e = .returned (.bool r) ∧ Below w.heap.size w w' := by
 have hu24 := Try.underlying24
 have HB := Ax (Below.refl w.heap.size w)
 have H : ((links_Put.f k ([] : List (S24)) 3 7).bind fun bt310 => ((links_Put.f k bt310.1 1 9).bind fun bt314 => ((links_Put.f k bt314.1 4 7).bind fun bt318 => ((links_Peer.f k bt318.1 3).bind fun bt322 => ((links_Peer.f k bt318.1 2).bind fun bt324 => ((links_Peers.f k bt318.1).bind fun bt326 => ((links_Del.f k bt318.1 1).bind fun bt330 => ((links_Del.f k bt330.1 1).bind fun bt334 => ((links_Put.f k bt318.1 (-1) 0).bind fun bt338 => (if bt310.2 = 0 then (if bt314.2 = 0 then (if bt318.2 = 0 then ((spoorref16_Same.f k bt318.1 (([(⟨1, 9⟩ : S24), (⟨3, 7⟩ : S24), (⟨4, 7⟩ : S24)] : List (S24)))).bind fun t345 => (if t345 = true then (if bt322.1 = 7 then (if bt322.2 = 0 then (if bt324.2 = 3 then ((spoorref16_Alike.f k bt326.1 (([7, 9] : List Int))).bind fun t349 => (if t349 = true then (if bt326.2 = 0 then (if (bt330.1.length : Int) = 2 then (if bt330.2 = 0 then (if bt334.2 = 3 then (if bt338.2 = 2 then ((links_Check.f k bt318.1).bind fun t350 => (some (t350 == 0))) else (none)) else (none)) else (none)) else (none)) else (none)) else (none))) else (none)) else (none)) else (none)) else (none))) else (none)) else (none)) else (none))))))))))) = some r := h
 clear h
 replace H := Option.bind_eq_some_iff.mp H
 obtain ⟨⟨t310, t313⟩, A10, H⟩ := H
 replace H : ((links_Put.f k t310 1 9).bind fun bt314 => ((links_Put.f k bt314.1 4 7).bind fun bt318 => ((links_Peer.f k bt318.1 3).bind fun bt322 => ((links_Peer.f k bt318.1 2).bind fun bt324 => ((links_Peers.f k bt318.1).bind fun bt326 => ((links_Del.f k bt318.1 1).bind fun bt330 => ((links_Del.f k bt330.1 1).bind fun bt334 => ((links_Put.f k bt318.1 (-1) 0).bind fun bt338 => (if t313 = 0 then (if bt314.2 = 0 then (if bt318.2 = 0 then ((spoorref16_Same.f k bt318.1 (([(⟨1, 9⟩ : S24), (⟨3, 7⟩ : S24), (⟨4, 7⟩ : S24)] : List (S24)))).bind fun t345 => (if t345 = true then (if bt322.1 = 7 then (if bt322.2 = 0 then (if bt324.2 = 3 then ((spoorref16_Alike.f k bt326.1 (([7, 9] : List Int))).bind fun t349 => (if t349 = true then (if bt326.2 = 0 then (if (bt330.1.length : Int) = 2 then (if bt330.2 = 0 then (if bt334.2 = 3 then (if bt338.2 = 2 then ((links_Check.f k bt318.1).bind fun t350 => (some (t350 == 0))) else (none)) else (none)) else (none)) else (none)) else (none)) else (none))) else (none)) else (none)) else (none)) else (none))) else (none)) else (none)) else (none)))))))))) = some r := H
 have A1 := Ax A10
 clear A10
 replace H := Option.bind_eq_some_iff.mp H
 obtain ⟨⟨t314, t317⟩, A20, H⟩ := H
 replace H : ((links_Put.f k t314 4 7).bind fun bt318 => ((links_Peer.f k bt318.1 3).bind fun bt322 => ((links_Peer.f k bt318.1 2).bind fun bt324 => ((links_Peers.f k bt318.1).bind fun bt326 => ((links_Del.f k bt318.1 1).bind fun bt330 => ((links_Del.f k bt330.1 1).bind fun bt334 => ((links_Put.f k bt318.1 (-1) 0).bind fun bt338 => (if t313 = 0 then (if t317 = 0 then (if bt318.2 = 0 then ((spoorref16_Same.f k bt318.1 (([(⟨1, 9⟩ : S24), (⟨3, 7⟩ : S24), (⟨4, 7⟩ : S24)] : List (S24)))).bind fun t345 => (if t345 = true then (if bt322.1 = 7 then (if bt322.2 = 0 then (if bt324.2 = 3 then ((spoorref16_Alike.f k bt326.1 (([7, 9] : List Int))).bind fun t349 => (if t349 = true then (if bt326.2 = 0 then (if (bt330.1.length : Int) = 2 then (if bt330.2 = 0 then (if bt334.2 = 3 then (if bt338.2 = 2 then ((links_Check.f k bt318.1).bind fun t350 => (some (t350 == 0))) else (none)) else (none)) else (none)) else (none)) else (none)) else (none))) else (none)) else (none)) else (none)) else (none))) else (none)) else (none)) else (none))))))))) = some r := H
 have A2 := Ax A20
 clear A20
 replace H := Option.bind_eq_some_iff.mp H
 obtain ⟨⟨t318, t321⟩, A30, H⟩ := H
 replace H : ((links_Peer.f k t318 3).bind fun bt322 => ((links_Peer.f k t318 2).bind fun bt324 => ((links_Peers.f k t318).bind fun bt326 => ((links_Del.f k t318 1).bind fun bt330 => ((links_Del.f k bt330.1 1).bind fun bt334 => ((links_Put.f k t318 (-1) 0).bind fun bt338 => (if t313 = 0 then (if t317 = 0 then (if t321 = 0 then ((spoorref16_Same.f k t318 (([(⟨1, 9⟩ : S24), (⟨3, 7⟩ : S24), (⟨4, 7⟩ : S24)] : List (S24)))).bind fun t345 => (if t345 = true then (if bt322.1 = 7 then (if bt322.2 = 0 then (if bt324.2 = 3 then ((spoorref16_Alike.f k bt326.1 (([7, 9] : List Int))).bind fun t349 => (if t349 = true then (if bt326.2 = 0 then (if (bt330.1.length : Int) = 2 then (if bt330.2 = 0 then (if bt334.2 = 3 then (if bt338.2 = 2 then ((links_Check.f k t318).bind fun t350 => (some (t350 == 0))) else (none)) else (none)) else (none)) else (none)) else (none)) else (none))) else (none)) else (none)) else (none)) else (none))) else (none)) else (none)) else (none)))))))) = some r := H
 have A3 := Ax A30
 clear A30
 replace H := Option.bind_eq_some_iff.mp H
 obtain ⟨⟨t322, t323⟩, A40, H⟩ := H
 replace H : ((links_Peer.f k t318 2).bind fun bt324 => ((links_Peers.f k t318).bind fun bt326 => ((links_Del.f k t318 1).bind fun bt330 => ((links_Del.f k bt330.1 1).bind fun bt334 => ((links_Put.f k t318 (-1) 0).bind fun bt338 => (if t313 = 0 then (if t317 = 0 then (if t321 = 0 then ((spoorref16_Same.f k t318 (([(⟨1, 9⟩ : S24), (⟨3, 7⟩ : S24), (⟨4, 7⟩ : S24)] : List (S24)))).bind fun t345 => (if t345 = true then (if t322 = 7 then (if t323 = 0 then (if bt324.2 = 3 then ((spoorref16_Alike.f k bt326.1 (([7, 9] : List Int))).bind fun t349 => (if t349 = true then (if bt326.2 = 0 then (if (bt330.1.length : Int) = 2 then (if bt330.2 = 0 then (if bt334.2 = 3 then (if bt338.2 = 2 then ((links_Check.f k t318).bind fun t350 => (some (t350 == 0))) else (none)) else (none)) else (none)) else (none)) else (none)) else (none))) else (none)) else (none)) else (none)) else (none))) else (none)) else (none)) else (none))))))) = some r := H
 have A4 := Ax A40
 clear A40
 replace H := Option.bind_eq_some_iff.mp H
 obtain ⟨⟨t324, t325⟩, A50, H⟩ := H
 replace H : ((links_Peers.f k t318).bind fun bt326 => ((links_Del.f k t318 1).bind fun bt330 => ((links_Del.f k bt330.1 1).bind fun bt334 => ((links_Put.f k t318 (-1) 0).bind fun bt338 => (if t313 = 0 then (if t317 = 0 then (if t321 = 0 then ((spoorref16_Same.f k t318 (([(⟨1, 9⟩ : S24), (⟨3, 7⟩ : S24), (⟨4, 7⟩ : S24)] : List (S24)))).bind fun t345 => (if t345 = true then (if t322 = 7 then (if t323 = 0 then (if t325 = 3 then ((spoorref16_Alike.f k bt326.1 (([7, 9] : List Int))).bind fun t349 => (if t349 = true then (if bt326.2 = 0 then (if (bt330.1.length : Int) = 2 then (if bt330.2 = 0 then (if bt334.2 = 3 then (if bt338.2 = 2 then ((links_Check.f k t318).bind fun t350 => (some (t350 == 0))) else (none)) else (none)) else (none)) else (none)) else (none)) else (none))) else (none)) else (none)) else (none)) else (none))) else (none)) else (none)) else (none)))))) = some r := H
 have A5 := Ax A50
 clear A50
 replace H := Option.bind_eq_some_iff.mp H
 obtain ⟨⟨t326, t327⟩, A60, H⟩ := H
 replace H : ((links_Del.f k t318 1).bind fun bt330 => ((links_Del.f k bt330.1 1).bind fun bt334 => ((links_Put.f k t318 (-1) 0).bind fun bt338 => (if t313 = 0 then (if t317 = 0 then (if t321 = 0 then ((spoorref16_Same.f k t318 (([(⟨1, 9⟩ : S24), (⟨3, 7⟩ : S24), (⟨4, 7⟩ : S24)] : List (S24)))).bind fun t345 => (if t345 = true then (if t322 = 7 then (if t323 = 0 then (if t325 = 3 then ((spoorref16_Alike.f k t326 (([7, 9] : List Int))).bind fun t349 => (if t349 = true then (if t327 = 0 then (if (bt330.1.length : Int) = 2 then (if bt330.2 = 0 then (if bt334.2 = 3 then (if bt338.2 = 2 then ((links_Check.f k t318).bind fun t350 => (some (t350 == 0))) else (none)) else (none)) else (none)) else (none)) else (none)) else (none))) else (none)) else (none)) else (none)) else (none))) else (none)) else (none)) else (none))))) = some r := H
 have A6 := Ax A60
 clear A60
 replace H := Option.bind_eq_some_iff.mp H
 obtain ⟨⟨t330, t331⟩, A70, H⟩ := H
 replace H : ((links_Del.f k t330 1).bind fun bt334 => ((links_Put.f k t318 (-1) 0).bind fun bt338 => (if t313 = 0 then (if t317 = 0 then (if t321 = 0 then ((spoorref16_Same.f k t318 (([(⟨1, 9⟩ : S24), (⟨3, 7⟩ : S24), (⟨4, 7⟩ : S24)] : List (S24)))).bind fun t345 => (if t345 = true then (if t322 = 7 then (if t323 = 0 then (if t325 = 3 then ((spoorref16_Alike.f k t326 (([7, 9] : List Int))).bind fun t349 => (if t349 = true then (if t327 = 0 then (if (t330.length : Int) = 2 then (if t331 = 0 then (if bt334.2 = 3 then (if bt338.2 = 2 then ((links_Check.f k t318).bind fun t350 => (some (t350 == 0))) else (none)) else (none)) else (none)) else (none)) else (none)) else (none))) else (none)) else (none)) else (none)) else (none))) else (none)) else (none)) else (none)))) = some r := H
 have A7 := Ax A70
 clear A70
 replace H := Option.bind_eq_some_iff.mp H
 obtain ⟨⟨t334, t335⟩, A80, H⟩ := H
 replace H : ((links_Put.f k t318 (-1) 0).bind fun bt338 => (if t313 = 0 then (if t317 = 0 then (if t321 = 0 then ((spoorref16_Same.f k t318 (([(⟨1, 9⟩ : S24), (⟨3, 7⟩ : S24), (⟨4, 7⟩ : S24)] : List (S24)))).bind fun t345 => (if t345 = true then (if t322 = 7 then (if t323 = 0 then (if t325 = 3 then ((spoorref16_Alike.f k t326 (([7, 9] : List Int))).bind fun t349 => (if t349 = true then (if t327 = 0 then (if (t330.length : Int) = 2 then (if t331 = 0 then (if t335 = 3 then (if bt338.2 = 2 then ((links_Check.f k t318).bind fun t350 => (some (t350 == 0))) else (none)) else (none)) else (none)) else (none)) else (none)) else (none))) else (none)) else (none)) else (none)) else (none))) else (none)) else (none)) else (none))) = some r := H
 have A8 := Ax A80
 clear A80
 replace H := Option.bind_eq_some_iff.mp H
 obtain ⟨⟨t338, t341⟩, A90, H⟩ := H
 replace H : (if t313 = 0 then (if t317 = 0 then (if t321 = 0 then ((spoorref16_Same.f k t318 (([(⟨1, 9⟩ : S24), (⟨3, 7⟩ : S24), (⟨4, 7⟩ : S24)] : List (S24)))).bind fun t345 => (if t345 = true then (if t322 = 7 then (if t323 = 0 then (if t325 = 3 then ((spoorref16_Alike.f k t326 (([7, 9] : List Int))).bind fun t349 => (if t349 = true then (if t327 = 0 then (if (t330.length : Int) = 2 then (if t331 = 0 then (if t335 = 3 then (if t341 = 2 then ((links_Check.f k t318).bind fun t350 => (some (t350 == 0))) else (none)) else (none)) else (none)) else (none)) else (none)) else (none))) else (none)) else (none)) else (none)) else (none))) else (none)) else (none)) else (none)) = some r := H
 have A9 := Ax A90
 clear A90
 by_cases c10 : t313 = 0
 ·rw [if_pos c10] at H
  have c10b0 : (t313 == 0) = true := beq_iff_eq.mpr c10
  have c10b1 : (t313 != 0) = false := bne_eq_false_iff_eq.mpr c10
  clear c10
  by_cases c11 : t317 = 0
  ·rw [if_pos c11] at H
   have c11b0 : (t317 == 0) = true := beq_iff_eq.mpr c11
   have c11b1 : (t317 != 0) = false := bne_eq_false_iff_eq.mpr c11
   clear c11
   by_cases c12 : t321 = 0
   ·rw [if_pos c12] at H
    have c12b0 : (t321 == 0) = true := beq_iff_eq.mpr c12
    have c12b1 : (t321 != 0) = false := bne_eq_false_iff_eq.mpr c12
    clear c12
    obtain ⟨y342, hy342⟩ : ∃ y_ : List (S24), y_ = (([(⟨1, 9⟩ : S24), (⟨3, 7⟩ : S24), (⟨4, 7⟩ : S24)] : List (S24))) := ⟨_, rfl⟩
    replace H : ((spoorref16_Same.f k t318 y342).bind fun t345 => (if t345 = true then (if t322 = 7 then (if t323 = 0 then (if t325 = 3 then ((spoorref16_Alike.f k t326 (([7, 9] : List Int))).bind fun t349 => (if t349 = true then (if t327 = 0 then (if (t330.length : Int) = 2 then (if t331 = 0 then (if t335 = 3 then (if t341 = 2 then ((links_Check.f k t318).bind fun t350 => (some (t350 == 0))) else (none)) else (none)) else (none)) else (none)) else (none)) else (none))) else (none)) else (none)) else (none)) else (none))) = some r := by first | (rw [hy342]; with_reducible exact H) | (have H2_ := (Option.bind_some _ _).symm.trans H; rw [hy342]; with_reducible exact H2_) | (have H2_ := (Option.bind_some _ _).symm.trans H; with_reducible exact H2_) | with_reducible exact H | (rw [hy342]; exact H) | exact H
    have Ny342 := Ax hy342
    clear hy342
    replace H := Option.bind_eq_some_iff.mp H
    obtain ⟨t345, A130, H⟩ := H
    replace H : (if t345 = true then (if t322 = 7 then (if t323 = 0 then (if t325 = 3 then ((spoorref16_Alike.f k t326 (([7, 9] : List Int))).bind fun t349 => (if t349 = true then (if t327 = 0 then (if (t330.length : Int) = 2 then (if t331 = 0 then (if t335 = 3 then (if t341 = 2 then ((links_Check.f k t318).bind fun t350 => (some (t350 == 0))) else (none)) else (none)) else (none)) else (none)) else (none)) else (none))) else (none)) else (none)) else (none)) else (none)) = some r := H
    have A13 := Ax A130
    clear A130
    by_cases c14 : t345 = true
    ·subst c14
     have H1 : (if t322 = 7 then (if t323 = 0 then (if t325 = 3 then ((spoorref16_Alike.f k t326 (([7, 9] : List Int))).bind fun t349 => (if t349 = true then (if t327 = 0 then (if (t330.length : Int) = 2 then (if t331 = 0 then (if t335 = 3 then (if t341 = 2 then ((links_Check.f k t318).bind fun t350 => (some (t350 == 0))) else (none)) else (none)) else (none)) else (none)) else (none)) else (none))) else (none)) else (none)) else (none)) = some r := by rw [if_pos rfl] at H; exact H
     clear H
     have H := H1
     clear H1
     by_cases c15 : t322 = 7
     ·rw [if_pos c15] at H
      have c15b0 : (t322 == 7) = true := beq_iff_eq.mpr c15
      have c15b1 : (t322 != 7) = false := bne_eq_false_iff_eq.mpr c15
      clear c15
      by_cases c16 : t323 = 0
      ·rw [if_pos c16] at H
       have c16b0 : (t323 == 0) = true := beq_iff_eq.mpr c16
       have c16b1 : (t323 != 0) = false := bne_eq_false_iff_eq.mpr c16
       clear c16
       by_cases c17 : t325 = 3
       ·rw [if_pos c17] at H
        have c17b0 : (t325 == 3) = true := beq_iff_eq.mpr c17
        have c17b1 : (t325 != 3) = false := bne_eq_false_iff_eq.mpr c17
        clear c17
        obtain ⟨y346, hy346⟩ : ∃ y_ : List Int, y_ = (([7, 9] : List Int)) := ⟨_, rfl⟩
        replace H : ((spoorref16_Alike.f k t326 y346).bind fun t349 => (if t349 = true then (if t327 = 0 then (if (t330.length : Int) = 2 then (if t331 = 0 then (if t335 = 3 then (if t341 = 2 then ((links_Check.f k t318).bind fun t350 => (some (t350 == 0))) else (none)) else (none)) else (none)) else (none)) else (none)) else (none))) = some r := by first | (rw [hy346]; with_reducible exact H) | (have H2_ := (Option.bind_some _ _).symm.trans H; rw [hy346]; with_reducible exact H2_) | (have H2_ := (Option.bind_some _ _).symm.trans H; with_reducible exact H2_) | with_reducible exact H | (rw [hy346]; exact H) | exact H
        have Ny346 := Ax hy346
        clear hy346
        replace H := Option.bind_eq_some_iff.mp H
        obtain ⟨t349, A180, H⟩ := H
        replace H : (if t349 = true then (if t327 = 0 then (if (t330.length : Int) = 2 then (if t331 = 0 then (if t335 = 3 then (if t341 = 2 then ((links_Check.f k t318).bind fun t350 => (some (t350 == 0))) else (none)) else (none)) else (none)) else (none)) else (none)) else (none)) = some r := H
        have A18 := Ax A180
        clear A180
        by_cases c19 : t349 = true
        ·subst c19
         have H1 : (if t327 = 0 then (if (t330.length : Int) = 2 then (if t331 = 0 then (if t335 = 3 then (if t341 = 2 then ((links_Check.f k t318).bind fun t350 => (some (t350 == 0))) else (none)) else (none)) else (none)) else (none)) else (none)) = some r := by rw [if_pos rfl] at H; exact H
         clear H
         have H := H1
         clear H1
         by_cases c20 : t327 = 0
         ·rw [if_pos c20] at H
          have c20b0 : (t327 == 0) = true := beq_iff_eq.mpr c20
          have c20b1 : (t327 != 0) = false := bne_eq_false_iff_eq.mpr c20
          clear c20
          by_cases c21 : (t330.length : Int) = 2
          ·rw [if_pos c21] at H
           have c21b0 : ((t330.length : Int) == 2) = true := beq_iff_eq.mpr c21
           have c21b1 : ((t330.length : Int) != 2) = false := bne_eq_false_iff_eq.mpr c21
           clear c21
           by_cases c22 : t331 = 0
           ·rw [if_pos c22] at H
            have c22b0 : (t331 == 0) = true := beq_iff_eq.mpr c22
            have c22b1 : (t331 != 0) = false := bne_eq_false_iff_eq.mpr c22
            clear c22
            by_cases c23 : t335 = 3
            ·rw [if_pos c23] at H
             have c23b0 : (t335 == 3) = true := beq_iff_eq.mpr c23
             have c23b1 : (t335 != 3) = false := bne_eq_false_iff_eq.mpr c23
             clear c23
             by_cases c24 : t341 = 2
             ·rw [if_pos c24] at H
              have c24b0 : (t341 == 2) = true := beq_iff_eq.mpr c24
              have c24b1 : (t341 != 2) = false := bne_eq_false_iff_eq.mpr c24
              clear c24
              replace H := Option.bind_eq_some_iff.mp H
              obtain ⟨t350, A250, H⟩ := H
              replace H : (some (t350 == 0)) = some r := H
              have A25 := Ax A250
              clear A250
              obtain rfl := Option.some.inj H
              go_enter Try.func11, Try.ntmps11
              try simp only [List.append_eq, List.cons_append, List.nil_append]
              go_wp2_with (first | ((with_reducible refine gate_callee (f := 7) rfl ?_); refine goesL_ (some 19) rfl rfl Try.func7 (by kernel_rfl) rfl #[.slice none 0 0, .agg #[.int .i64 3, .int .i64 7]] rfl gS ?_; (refine (links_Put.calls k _ _ ([] : List (S24)) 3 7 t310 t313 _ ?side1 ?side2 A1.out).mono ?_); (case side1 => exact Kd.C_nil _ _); (case side2 => exact Nat.le_refl _); rintro e w26 ⟨v311, rfl, ho0, hb⟩; refine ⟨_, rfl, ?_⟩; have HO312 := Ax (Kd.R_lower ho0 (below_size (bw0 HB.out))); replace HB := Bs0 HB hb; (try clear hb); (try clear ho0); obtain ⟨Ao27, co27, eo27⟩ := Kd.R_slice HO312.out; subst eo27) | ((with_reducible refine gate_callee (f := 7) rfl ?_); refine goesL_ (some 25) rfl rfl Try.func7 (by kernel_rfl) rfl #[.slice Ao27 t310.length co27, .agg #[.int .i64 1, .int .i64 9]] rfl gS ?_; (with_reducible refine (links_Put.calls k _ _ t310 1 9 t314 t317 _ ?side1 ?side2 A2.out).mono ?_); (case side1 => repeat (first | exact (Kd.R_reads' HO312.out).2.2 | (with_reducible refine Kd.C_alloc ?_ _) | (with_reducible refine Kd.C_drewN ?_ _) | (with_reducible refine Kd.C_drew ?_))); (case side2 => exact (Kd.R_reads' HO312.out).2.1); rintro e w28 ⟨v315, rfl, ho0, hb⟩; refine ⟨_, rfl, ?_⟩; have n0_ := Ax (Kd.R_elder' (by (with_reducible repeat (first | apply Kd.R_alloc | apply Kd.R_drewN | apply Kd.R_drew)); exact HO312.out) (Kd.R_base ho0) hb); have n1_ := Ax (Kd.R_lower (Kd.R_new' ho0 (Kd.R_lt (by (with_reducible repeat (first | apply Kd.R_alloc | apply Kd.R_drewN | apply Kd.R_drew)); exact HO312.out))) (below_size (bw0 HB.out))); have n2_ := Bs0 HB hb; clear HO312; clear HB; have HO312 := n0_; have HO316 := n1_; have HB := n2_; clear n0_ n1_ n2_; (try clear hb); (try clear ho0); obtain ⟨Ao29, co29, eo29⟩ := Kd.R_slice HO316.out; subst eo29) | ((with_reducible refine gate_callee (f := 7) rfl ?_); refine goesL_ (some 31) rfl rfl Try.func7 (by kernel_rfl) rfl #[.slice Ao29 t314.length co29, .agg #[.int .i64 4, .int .i64 7]] rfl gS ?_; (with_reducible refine (links_Put.calls k _ _ t314 4 7 t318 t321 _ ?side1 ?side2 A3.out).mono ?_); (case side1 => repeat (first | exact (Kd.R_reads' HO316.out).2.2 | (with_reducible refine Kd.C_alloc ?_ _) | (with_reducible refine Kd.C_drewN ?_ _) | (with_reducible refine Kd.C_drew ?_))); (case side2 => exact (Kd.R_reads' HO316.out).2.1); rintro e w30 ⟨v319, rfl, ho0, hb⟩; refine ⟨_, rfl, ?_⟩; have n0_ := Ax (Kd.R_elder' (by (with_reducible repeat (first | apply Kd.R_alloc | apply Kd.R_drewN | apply Kd.R_drew)); exact HO312.out) (Kd.R_base ho0) hb); have n1_ := Ax (Kd.R_elder' (by (with_reducible repeat (first | apply Kd.R_alloc | apply Kd.R_drewN | apply Kd.R_drew)); exact HO316.out) (Kd.R_base ho0) hb); have n2_ := Ax (Kd.R_lower (Kd.R_new' (Kd.R_new' ho0 (Kd.R_lt (by (with_reducible repeat (first | apply Kd.R_alloc | apply Kd.R_drewN | apply Kd.R_drew)); exact HO312.out))) (Kd.R_lt (by (with_reducible repeat (first | apply Kd.R_alloc | apply Kd.R_drewN | apply Kd.R_drew)); exact HO316.out))) (below_size (bw0 HB.out))); have n3_ := Bs0 HB hb; clear HO312; clear HO316; clear HB; have HO312 := n0_; have HO316 := n1_; have HO320 := n2_; have HB := n3_; clear n0_ n1_ n2_ n3_; (try clear hb); (try clear ho0); obtain ⟨Ao31, co31, eo31⟩ := Kd.R_slice HO320.out; subst eo31) | ((with_reducible refine gate_callee (f := 15) rfl ?_); refine goesL_ (some 36) rfl rfl Try.func15 (by kernel_rfl) rfl #[.slice Ao31 t318.length co31, .int .i64 3] rfl gS ?_; (with_reducible refine (links_Peer.calls k _ _ t318 3 t322 t323 _ ?side1 ?side2 A4.out).mono ?_); (case side1 => repeat (first | exact (Kd.R_reads' HO320.out).2.2 | (with_reducible refine Kd.C_alloc ?_ _) | (with_reducible refine Kd.C_drewN ?_ _) | (with_reducible refine Kd.C_drew ?_))); (case side2 => exact (Kd.R_reads' HO320.out).2.1); rintro e w32 ⟨rfl, hb⟩; refine ⟨_, rfl, ?_⟩; have n0_ := Ax (Kd.R_below (by (with_reducible repeat (first | apply Kd.R_alloc | apply Kd.R_drewN | apply Kd.R_drew)); exact HO312.out) hb); have n1_ := Ax (Kd.R_below (by (with_reducible repeat (first | apply Kd.R_alloc | apply Kd.R_drewN | apply Kd.R_drew)); exact HO316.out) hb); have n2_ := Ax (Kd.R_below (by (with_reducible repeat (first | apply Kd.R_alloc | apply Kd.R_drewN | apply Kd.R_drew)); exact HO320.out) hb); have n3_ := Bs0 HB hb; clear HO312; clear HO316; clear HO320; clear HB; have HO312 := n0_; have HO316 := n1_; have HO320 := n2_; have HB := n3_; clear n0_ n1_ n2_ n3_; (try clear hb)) | ((with_reducible refine gate_callee (f := 15) rfl ?_); refine goesL_ (some 41) rfl rfl Try.func15 (by kernel_rfl) rfl #[.slice Ao31 t318.length co31, .int .i64 2] rfl gS ?_; (with_reducible refine (links_Peer.calls k _ _ t318 2 t324 t325 _ ?side1 ?side2 A5.out).mono ?_); (case side1 => repeat (first | exact (Kd.R_reads' HO320.out).2.2 | (with_reducible refine Kd.C_alloc ?_ _) | (with_reducible refine Kd.C_drewN ?_ _) | (with_reducible refine Kd.C_drew ?_))); (case side2 => exact (Kd.R_reads' HO320.out).2.1); rintro e w33 ⟨rfl, hb⟩; refine ⟨_, rfl, ?_⟩; have n0_ := Ax (Kd.R_below (by (with_reducible repeat (first | apply Kd.R_alloc | apply Kd.R_drewN | apply Kd.R_drew)); exact HO312.out) hb); have n1_ := Ax (Kd.R_below (by (with_reducible repeat (first | apply Kd.R_alloc | apply Kd.R_drewN | apply Kd.R_drew)); exact HO316.out) hb); have n2_ := Ax (Kd.R_below (by (with_reducible repeat (first | apply Kd.R_alloc | apply Kd.R_drewN | apply Kd.R_drew)); exact HO320.out) hb); have n3_ := Bs0 HB hb; clear HO312; clear HO316; clear HO320; clear HB; have HO312 := n0_; have HO316 := n1_; have HO320 := n2_; have HB := n3_; clear n0_ n1_ n2_ n3_; (try clear hb)) | ((with_reducible refine gate_callee (f := 17) rfl ?_); refine goesL_ (some 46) rfl rfl Try.func17 (by kernel_rfl) rfl #[.slice Ao31 t318.length co31] rfl gS ?_; (with_reducible refine (links_Peers.calls k _ _ t318 t326 t327 _ ?side1 ?side2 A6.out).mono ?_); (case side1 => repeat (first | exact (Kd.R_reads' HO320.out).2.2 | (with_reducible refine Kd.C_alloc ?_ _) | (with_reducible refine Kd.C_drewN ?_ _) | (with_reducible refine Kd.C_drew ?_))); (case side2 => exact (Kd.R_reads' HO320.out).2.1); rintro e w34 ⟨v328, rfl, ho0, hb⟩; refine ⟨_, rfl, ?_⟩; have n0_ := Ax (Kd.R_below (by (with_reducible repeat (first | apply Kd.R_alloc | apply Kd.R_drewN | apply Kd.R_drew)); exact HO312.out) hb); have n1_ := Ax (Kd.R_below (by (with_reducible repeat (first | apply Kd.R_alloc | apply Kd.R_drewN | apply Kd.R_drew)); exact HO316.out) hb); have n2_ := Ax (Kd.R_below (by (with_reducible repeat (first | apply Kd.R_alloc | apply Kd.R_drewN | apply Kd.R_drew)); exact HO320.out) hb); have n3_ := Ax (Kd.R_lower ho0 (below_size (bw0 HB.out))); have n4_ := Bs0 HB hb; clear HO312; clear HO316; clear HO320; clear HB; have HO312 := n0_; have HO316 := n1_; have HO320 := n2_; have HO329 := n3_; have HB := n4_; clear n0_ n1_ n2_ n3_ n4_; (try clear hb); (try clear ho0)) | ((with_reducible refine gate_callee (f := 9) rfl ?_); refine goesL_ (some 51) rfl rfl Try.func9 (by kernel_rfl) rfl #[.slice Ao31 t318.length co31, .int .i64 1] rfl gS ?_; (with_reducible refine (links_Del.calls k _ _ t318 1 t330 t331 _ ?side1 ?side2 A7.out).mono ?_); (case side1 => repeat (first | exact (Kd.R_reads' HO320.out).2.2 | (with_reducible refine Kd.C_alloc ?_ _) | (with_reducible refine Kd.C_drewN ?_ _) | (with_reducible refine Kd.C_drew ?_))); (case side2 => exact (Kd.R_reads' HO320.out).2.1); rintro e w35 ⟨v332, rfl, ho0, hb⟩; refine ⟨_, rfl, ?_⟩; have n0_ := Ax (Kd.R_elder' (by (with_reducible repeat (first | apply Kd.R_alloc | apply Kd.R_drewN | apply Kd.R_drew)); exact HO312.out) (Kd.R_base ho0) hb); have n1_ := Ax (Kd.R_elder' (by (with_reducible repeat (first | apply Kd.R_alloc | apply Kd.R_drewN | apply Kd.R_drew)); exact HO316.out) (Kd.R_base ho0) hb); have n2_ := Ax (Kd.R_elder' (by (with_reducible repeat (first | apply Kd.R_alloc | apply Kd.R_drewN | apply Kd.R_drew)); exact HO320.out) (Kd.R_base ho0) hb); have n3_ := Ax (Kd.R_below (by (with_reducible repeat (first | apply Kd.R_alloc | apply Kd.R_drewN | apply Kd.R_drew)); exact HO329.out) hb); have n4_ := Ax (Kd.R_lower (Kd.R_new' (Kd.R_new' (Kd.R_new' ho0 (Kd.R_lt (by (with_reducible repeat (first | apply Kd.R_alloc | apply Kd.R_drewN | apply Kd.R_drew)); exact HO312.out))) (Kd.R_lt (by (with_reducible repeat (first | apply Kd.R_alloc | apply Kd.R_drewN | apply Kd.R_drew)); exact HO316.out))) (Kd.R_lt (by (with_reducible repeat (first | apply Kd.R_alloc | apply Kd.R_drewN | apply Kd.R_drew)); exact HO320.out))) (below_size (bw0 HB.out))); have n5_ := Bs0 HB hb; clear HO312; clear HO316; clear HO320; clear HO329; clear HB; have HO312 := n0_; have HO316 := n1_; have HO320 := n2_; have HO329 := n3_; have HO333 := n4_; have HB := n5_; clear n0_ n1_ n2_ n3_ n4_ n5_; (try clear hb); (try clear ho0); obtain ⟨Ao36, co36, eo36⟩ := Kd.R_slice HO333.out; subst eo36) | ((with_reducible refine gate_callee (f := 9) rfl ?_); refine goesL_ (some 56) rfl rfl Try.func9 (by kernel_rfl) rfl #[.slice Ao36 t330.length co36, .int .i64 1] rfl gS ?_; (with_reducible refine (links_Del.calls k _ _ t330 1 t334 t335 _ ?side1 ?side2 A8.out).mono ?_); (case side1 => repeat (first | exact (Kd.R_reads' HO333.out).2.2 | (with_reducible refine Kd.C_alloc ?_ _) | (with_reducible refine Kd.C_drewN ?_ _) | (with_reducible refine Kd.C_drew ?_))); (case side2 => exact (Kd.R_reads' HO333.out).2.1); rintro e w37 ⟨v336, rfl, ho0, hb⟩; refine ⟨_, rfl, ?_⟩; have n0_ := Ax (Kd.R_elder' (by (with_reducible repeat (first | apply Kd.R_alloc | apply Kd.R_drewN | apply Kd.R_drew)); exact HO312.out) (Kd.R_base ho0) hb); have n1_ := Ax (Kd.R_elder' (by (with_reducible repeat (first | apply Kd.R_alloc | apply Kd.R_drewN | apply Kd.R_drew)); exact HO316.out) (Kd.R_base ho0) hb); have n2_ := Ax (Kd.R_elder' (by (with_reducible repeat (first | apply Kd.R_alloc | apply Kd.R_drewN | apply Kd.R_drew)); exact HO320.out) (Kd.R_base ho0) hb); have n3_ := Ax (Kd.R_below (by (with_reducible repeat (first | apply Kd.R_alloc | apply Kd.R_drewN | apply Kd.R_drew)); exact HO329.out) hb); have n4_ := Ax (Kd.R_elder' (by (with_reducible repeat (first | apply Kd.R_alloc | apply Kd.R_drewN | apply Kd.R_drew)); exact HO333.out) (Kd.R_base ho0) hb); have n5_ := Ax (Kd.R_lower (Kd.R_new' (Kd.R_new' (Kd.R_new' (Kd.R_new' ho0 (Kd.R_lt (by (with_reducible repeat (first | apply Kd.R_alloc | apply Kd.R_drewN | apply Kd.R_drew)); exact HO312.out))) (Kd.R_lt (by (with_reducible repeat (first | apply Kd.R_alloc | apply Kd.R_drewN | apply Kd.R_drew)); exact HO316.out))) (Kd.R_lt (by (with_reducible repeat (first | apply Kd.R_alloc | apply Kd.R_drewN | apply Kd.R_drew)); exact HO320.out))) (Kd.R_lt (by (with_reducible repeat (first | apply Kd.R_alloc | apply Kd.R_drewN | apply Kd.R_drew)); exact HO333.out))) (below_size (bw0 HB.out))); have n6_ := Bs0 HB hb; clear HO312; clear HO316; clear HO320; clear HO329; clear HO333; clear HB; have HO312 := n0_; have HO316 := n1_; have HO320 := n2_; have HO329 := n3_; have HO333 := n4_; have HO337 := n5_; have HB := n6_; clear n0_ n1_ n2_ n3_ n4_ n5_ n6_; (try clear hb); (try clear ho0)) | ((with_reducible refine gate_callee (f := 7) rfl ?_); refine goesL_ (some 62) rfl rfl Try.func7 (by kernel_rfl) rfl #[.slice Ao31 t318.length co31, .agg #[.int .i64 (-1), .int .i64 0]] rfl gS ?_; (with_reducible refine (links_Put.calls k _ _ t318 (-1) 0 t338 t341 _ ?side1 ?side2 A9.out).mono ?_); (case side1 => repeat (first | exact (Kd.R_reads' HO320.out).2.2 | (with_reducible refine Kd.C_alloc ?_ _) | (with_reducible refine Kd.C_drewN ?_ _) | (with_reducible refine Kd.C_drew ?_))); (case side2 => exact (Kd.R_reads' HO320.out).2.1); rintro e w38 ⟨v339, rfl, ho0, hb⟩; refine ⟨_, rfl, ?_⟩; have n0_ := Ax (Kd.R_elder' (by (with_reducible repeat (first | apply Kd.R_alloc | apply Kd.R_drewN | apply Kd.R_drew)); exact HO312.out) (Kd.R_base ho0) hb); have n1_ := Ax (Kd.R_elder' (by (with_reducible repeat (first | apply Kd.R_alloc | apply Kd.R_drewN | apply Kd.R_drew)); exact HO316.out) (Kd.R_base ho0) hb); have n2_ := Ax (Kd.R_elder' (by (with_reducible repeat (first | apply Kd.R_alloc | apply Kd.R_drewN | apply Kd.R_drew)); exact HO320.out) (Kd.R_base ho0) hb); have n3_ := Ax (Kd.R_below (by (with_reducible repeat (first | apply Kd.R_alloc | apply Kd.R_drewN | apply Kd.R_drew)); exact HO329.out) hb); have n4_ := Ax (Kd.R_elder' (by (with_reducible repeat (first | apply Kd.R_alloc | apply Kd.R_drewN | apply Kd.R_drew)); exact HO333.out) (Kd.R_base ho0) hb); have n5_ := Ax (Kd.R_elder' (by (with_reducible repeat (first | apply Kd.R_alloc | apply Kd.R_drewN | apply Kd.R_drew)); exact HO337.out) (Kd.R_base ho0) hb); have n6_ := Ax (Kd.R_lower (Kd.R_new' (Kd.R_new' (Kd.R_new' (Kd.R_new' (Kd.R_new' ho0 (Kd.R_lt (by (with_reducible repeat (first | apply Kd.R_alloc | apply Kd.R_drewN | apply Kd.R_drew)); exact HO312.out))) (Kd.R_lt (by (with_reducible repeat (first | apply Kd.R_alloc | apply Kd.R_drewN | apply Kd.R_drew)); exact HO316.out))) (Kd.R_lt (by (with_reducible repeat (first | apply Kd.R_alloc | apply Kd.R_drewN | apply Kd.R_drew)); exact HO320.out))) (Kd.R_lt (by (with_reducible repeat (first | apply Kd.R_alloc | apply Kd.R_drewN | apply Kd.R_drew)); exact HO333.out))) (Kd.R_lt (by (with_reducible repeat (first | apply Kd.R_alloc | apply Kd.R_drewN | apply Kd.R_drew)); exact HO337.out))) (below_size (bw0 HB.out))); have n7_ := Bs0 HB hb; clear HO312; clear HO316; clear HO320; clear HO329; clear HO333; clear HO337; clear HB; have HO312 := n0_; have HO316 := n1_; have HO320 := n2_; have HO329 := n3_; have HO333 := n4_; have HO337 := n5_; have HO340 := n6_; have HB := n7_; clear n0_ n1_ n2_ n3_ n4_ n5_ n6_ n7_; (try clear hb); (try clear ho0)) | ((with_reducible refine gate_dst (N := 80) rfl ?_); refine R_litg k24 _ 24 ?hg (N := 80) ?hd (xs := ([(⟨1, 9⟩ : S24), (⟨3, 7⟩ : S24), (⟨4, 7⟩ : S24)] : List (S24))) (inner := [.int .i64 1, .int .i64 9, .int .i64 3, .int .i64 7, .int .i64 4, .int .i64 7]) (ok := fun _ => True) (okp := fun _ => True) ?hr ?hp (fun _ hk => hk) trivial (Below.refl _ _) (Nat.le_refl _) (by simp) ?_; (case hd => rfl); (case hg => first | exact Or.inl rfl | exact Or.inr rfl); (case hr => first | (go_simp; done) | (go_simp; rfl)); (case hp => exact (Reps.c2 (show Kd.M k24 _ _ _ (⟨1, 9⟩ : S24) [.int .i64 1, .int .i64 9] from (k24_mkM _ _ _ (⟨1, 9⟩ : S24) )) (Reps.c2 (show Kd.M k24 _ _ _ (⟨3, 7⟩ : S24) [.int .i64 3, .int .i64 7] from (k24_mkM _ _ _ (⟨3, 7⟩ : S24) )) (Reps.c2 (show Kd.M k24 _ _ _ (⟨4, 7⟩ : S24) [.int .i64 4, .int .i64 7] from (k24_mkM _ _ _ (⟨4, 7⟩ : S24) )) (Reps.none _ _))))); intro v343 w39 ho40 hb hg_ hnew_; clear hg_ hnew_; (first | rw [← Ny342.out] at ho40 | (simp only [Int.reduceToNat] at ho40; rw [← Ny342.out] at ho40)); have n0_ := Ax (Kd.R_elder' (by (with_reducible repeat (first | apply Kd.R_alloc | apply Kd.R_drewN | apply Kd.R_drew)); exact HO312.out) (Kd.R_base ho40) hb); have n1_ := Ax (Kd.R_elder' (by (with_reducible repeat (first | apply Kd.R_alloc | apply Kd.R_drewN | apply Kd.R_drew)); exact HO316.out) (Kd.R_base ho40) hb); have n2_ := Ax (Kd.R_elder' (by (with_reducible repeat (first | apply Kd.R_alloc | apply Kd.R_drewN | apply Kd.R_drew)); exact HO320.out) (Kd.R_base ho40) hb); have n3_ := Ax (Kd.R_below (by (with_reducible repeat (first | apply Kd.R_alloc | apply Kd.R_drewN | apply Kd.R_drew)); exact HO329.out) hb); have n4_ := Ax (Kd.R_elder' (by (with_reducible repeat (first | apply Kd.R_alloc | apply Kd.R_drewN | apply Kd.R_drew)); exact HO333.out) (Kd.R_base ho40) hb); have n5_ := Ax (Kd.R_elder' (by (with_reducible repeat (first | apply Kd.R_alloc | apply Kd.R_drewN | apply Kd.R_drew)); exact HO337.out) (Kd.R_base ho40) hb); have n6_ := Ax (Kd.R_elder' (by (with_reducible repeat (first | apply Kd.R_alloc | apply Kd.R_drewN | apply Kd.R_drew)); exact HO340.out) (Kd.R_base ho40) hb); have n7_ := Ax (Kd.R_lower (Kd.R_new' (Kd.R_new' (Kd.R_new' (Kd.R_new' (Kd.R_new' (Kd.R_new' ho40 (Kd.R_lt (by (with_reducible repeat (first | apply Kd.R_alloc | apply Kd.R_drewN | apply Kd.R_drew)); exact HO312.out))) (Kd.R_lt (by (with_reducible repeat (first | apply Kd.R_alloc | apply Kd.R_drewN | apply Kd.R_drew)); exact HO316.out))) (Kd.R_lt (by (with_reducible repeat (first | apply Kd.R_alloc | apply Kd.R_drewN | apply Kd.R_drew)); exact HO320.out))) (Kd.R_lt (by (with_reducible repeat (first | apply Kd.R_alloc | apply Kd.R_drewN | apply Kd.R_drew)); exact HO333.out))) (Kd.R_lt (by (with_reducible repeat (first | apply Kd.R_alloc | apply Kd.R_drewN | apply Kd.R_drew)); exact HO337.out))) (Kd.R_lt (by (with_reducible repeat (first | apply Kd.R_alloc | apply Kd.R_drewN | apply Kd.R_drew)); exact HO340.out))) (below_size (bw0 HB.out))); have n8_ := Bs0 HB hb; clear HO312; clear HO316; clear HO320; clear HO329; clear HO333; clear HO337; clear HO340; clear HB; have HO312 := n0_; have HO316 := n1_; have HO320 := n2_; have HO329 := n3_; have HO333 := n4_; have HO337 := n5_; have HO340 := n6_; have HO344 := n7_; have HB := n8_; clear n0_ n1_ n2_ n3_ n4_ n5_ n6_ n7_ n8_; clear hb ho40; obtain ⟨Ao41, co41, eo41⟩ := Kd.R_slice HO344.out; subst eo41) | (go_at_call 14; (with_reducible refine (spoorref16_Same.calls k _ _ t318 _ _ y342 true _ ?side1 ?side2 ?side3 ?side4 A13.out).mono ?_); (case side1 => repeat (first | exact (Kd.R_reads' HO320.out).2.2 | (with_reducible refine Kd.C_alloc ?_ _) | (with_reducible refine Kd.C_drewN ?_ _) | (with_reducible refine Kd.C_drew ?_))); (case side2 => exact (Kd.R_reads' HO320.out).2.1); (case side3 => repeat (first | exact (Kd.R_reads' HO344.out).2.2 | (with_reducible refine Kd.C_alloc ?_ _) | (with_reducible refine Kd.C_drewN ?_ _) | (with_reducible refine Kd.C_drew ?_))); (case side4 => exact (Kd.R_reads' HO344.out).2.1); rintro e w' ⟨rfl, ⟨nd, rfl⟩⟩) | ((with_reducible refine gate_dst (N := 97) rfl ?_); refine R_litg (Kd.int .i64) _ 3 ?hg (N := 97) ?hd (xs := ([7, 9] : List Int)) (inner := [.int .i64 7, .int .i64 9]) (ok := fun _ => True) (okp := fun _ => True) ?hr ?hp (fun _ hk => hk) trivial (Below.refl _ _) (Nat.le_refl _) (by simp) ?_; (case hd => rfl); (case hg => first | exact Or.inl rfl | exact Or.inr rfl); (case hr => first | (go_simp; done) | (go_simp; rfl)); (case hp => exact (Reps.one (show Kd.M (Kd.int .i64) _ _ _ 7 [.int .i64 7] from rfl) (Reps.one (show Kd.M (Kd.int .i64) _ _ _ 9 [.int .i64 9] from rfl) (Reps.none _ _)))); intro v347 w42 ho43 hb hg_ hnew_; clear hg_ hnew_; (first | rw [← Ny346.out] at ho43 | (simp only [Int.reduceToNat] at ho43; rw [← Ny346.out] at ho43)); have n0_ := Ax (Kd.R_below (by (with_reducible repeat (first | apply Kd.R_alloc | apply Kd.R_drewN | apply Kd.R_drew)); exact HO312.out) hb); have n1_ := Ax (Kd.R_below (by (with_reducible repeat (first | apply Kd.R_alloc | apply Kd.R_drewN | apply Kd.R_drew)); exact HO316.out) hb); have n2_ := Ax (Kd.R_below (by (with_reducible repeat (first | apply Kd.R_alloc | apply Kd.R_drewN | apply Kd.R_drew)); exact HO320.out) hb); have n3_ := Ax (Kd.R_elder' (by (with_reducible repeat (first | apply Kd.R_alloc | apply Kd.R_drewN | apply Kd.R_drew)); exact HO329.out) (Kd.R_base ho43) hb); have n4_ := Ax (Kd.R_below (by (with_reducible repeat (first | apply Kd.R_alloc | apply Kd.R_drewN | apply Kd.R_drew)); exact HO333.out) hb); have n5_ := Ax (Kd.R_below (by (with_reducible repeat (first | apply Kd.R_alloc | apply Kd.R_drewN | apply Kd.R_drew)); exact HO337.out) hb); have n6_ := Ax (Kd.R_below (by (with_reducible repeat (first | apply Kd.R_alloc | apply Kd.R_drewN | apply Kd.R_drew)); exact HO340.out) hb); have n7_ := Ax (Kd.R_below (by (with_reducible repeat (first | apply Kd.R_alloc | apply Kd.R_drewN | apply Kd.R_drew)); exact HO344.out) hb); have n8_ := Ax (Kd.R_lower (Kd.R_new' ho43 (Kd.R_lt (by (with_reducible repeat (first | apply Kd.R_alloc | apply Kd.R_drewN | apply Kd.R_drew)); exact HO329.out))) (below_size (bw0 HB.out))); have n9_ := Bs0 HB hb; clear HO312; clear HO316; clear HO320; clear HO329; clear HO333; clear HO337; clear HO340; clear HO344; clear HB; have HO312 := n0_; have HO316 := n1_; have HO320 := n2_; have HO329 := n3_; have HO333 := n4_; have HO337 := n5_; have HO340 := n6_; have HO344 := n7_; have HO348 := n8_; have HB := n9_; clear n0_ n1_ n2_ n3_ n4_ n5_ n6_ n7_ n8_ n9_; clear hb ho43; obtain ⟨Ao44, co44, eo44⟩ := Kd.R_slice HO329.out; subst eo44; obtain ⟨Ao45, co45, eo45⟩ := Kd.R_slice HO348.out; subst eo45) | (go_at_call 19; (with_reducible refine (spoorref16_Alike.calls k _ _ t326 _ _ y346 true _ ?side1 ?side2 ?side3 ?side4 A18.out).mono ?_); (case side1 => repeat (first | exact (Kd.R_reads' HO329.out).2.2 | (with_reducible refine Kd.C_alloc ?_ _) | (with_reducible refine Kd.C_drewN ?_ _) | (with_reducible refine Kd.C_drew ?_))); (case side2 => exact (Kd.R_reads' HO329.out).2.1); (case side3 => repeat (first | exact (Kd.R_reads' HO348.out).2.2 | (with_reducible refine Kd.C_alloc ?_ _) | (with_reducible refine Kd.C_drewN ?_ _) | (with_reducible refine Kd.C_drew ?_))); (case side4 => exact (Kd.R_reads' HO348.out).2.1); rintro e w' ⟨rfl, ⟨nd, rfl⟩⟩) | (go_at_call 12; (with_reducible refine (links_Check.calls k _ _ t318 t350 _ ?side1 ?side2 A25.out).mono ?_); (case side1 => repeat (first | exact (Kd.R_reads' HO320.out).2.2 | (with_reducible refine Kd.C_alloc ?_ _) | (with_reducible refine Kd.C_drewN ?_ _) | (with_reducible refine Kd.C_drew ?_))); (case side2 => exact (Kd.R_reads' HO320.out).2.1); rintro e w46 ⟨rfl, hb⟩; have n0_ := Ax (Kd.R_below (by (with_reducible repeat (first | apply Kd.R_alloc | apply Kd.R_drewN | apply Kd.R_drew)); exact HO312.out) hb); have n1_ := Ax (Kd.R_below (by (with_reducible repeat (first | apply Kd.R_alloc | apply Kd.R_drewN | apply Kd.R_drew)); exact HO316.out) hb); have n2_ := Ax (Kd.R_below (by (with_reducible repeat (first | apply Kd.R_alloc | apply Kd.R_drewN | apply Kd.R_drew)); exact HO320.out) hb); have n3_ := Ax (Kd.R_below (by (with_reducible repeat (first | apply Kd.R_alloc | apply Kd.R_drewN | apply Kd.R_drew)); exact HO329.out) hb); have n4_ := Ax (Kd.R_below (by (with_reducible repeat (first | apply Kd.R_alloc | apply Kd.R_drewN | apply Kd.R_drew)); exact HO333.out) hb); have n5_ := Ax (Kd.R_below (by (with_reducible repeat (first | apply Kd.R_alloc | apply Kd.R_drewN | apply Kd.R_drew)); exact HO337.out) hb); have n6_ := Ax (Kd.R_below (by (with_reducible repeat (first | apply Kd.R_alloc | apply Kd.R_drewN | apply Kd.R_drew)); exact HO340.out) hb); have n7_ := Ax (Kd.R_below (by (with_reducible repeat (first | apply Kd.R_alloc | apply Kd.R_drewN | apply Kd.R_drew)); exact HO344.out) hb); have n8_ := Ax (Kd.R_below (by (with_reducible repeat (first | apply Kd.R_alloc | apply Kd.R_drewN | apply Kd.R_drew)); exact HO348.out) hb); have n9_ := Bs0 HB hb; clear HO312; clear HO316; clear HO320; clear HO329; clear HO333; clear HO337; clear HO340; clear HO344; clear HO348; clear HB; have HO312 := n0_; have HO316 := n1_; have HO320 := n2_; have HO329 := n3_; have HO333 := n4_; have HO337 := n5_; have HO340 := n6_; have HO344 := n7_; have HO348 := n8_; have HB := n9_; clear n0_ n1_ n2_ n3_ n4_ n5_ n6_ n7_ n8_ n9_; (try clear hb)))
              go_ret
              exact ⟨eS, bw0 HB.out⟩
             ·rw [if_neg c24] at H
              exact absurd H (by simp)
            ·rw [if_neg c23] at H
             exact absurd H (by simp)
           ·rw [if_neg c22] at H
            exact absurd H (by simp)
          ·rw [if_neg c21] at H
           exact absurd H (by simp)
         ·rw [if_neg c20] at H
          exact absurd H (by simp)
        ·replace c19 := Bool.eq_false_iff.mpr c19
         subst c19
         have H1 : (none) = some r := by rw [if_neg (show ¬ (false = true) by decide)] at H; exact H
         clear H
         have H := H1
         clear H1
         exact absurd H (by simp)
       ·rw [if_neg c17] at H
        exact absurd H (by simp)
      ·rw [if_neg c16] at H
       exact absurd H (by simp)
     ·rw [if_neg c15] at H
      exact absurd H (by simp)
    ·replace c14 := Bool.eq_false_iff.mpr c14
     subst c14
     have H1 : (none) = some r := by rw [if_neg (show ¬ (false = true) by decide)] at H; exact H
     clear H
     have H := H1
     clear H1
     exact absurd H (by simp)
   ·rw [if_neg c12] at H
    exact absurd H (by simp)
  ·rw [if_neg c11] at H
   exact absurd H (by simp)
 ·rw [if_neg c10] at H
  exact absurd H (by simp)
def spoorref16_Peer.f (k : Nat) (l0 : List (S24)) (a1 : Int) : Option (Int × Int) := (spoorref16_Check.f k l0).bind fun t373 => (if t373 = 0 then ((spoorref16_parts.f k l0 a1).bind fun bt374 => (if (bt374.2.1.length : Int) = 0 then (some (0, 3)) else (if 0 < (bt374.2.1.length : Int) then (some ((rd_T24 bt374.2.1 0).f1, 0)) else (none)))) else (some (0, 2)))
set_option maxHeartbeats 8000000 in
set_option maxRecDepth 100000 in
theorem spoorref16_Peer.calls (k : Nat) (A0 : Option Addr) (c0 : Nat) (l0 : List (S24)) (a1 : Int) (r1 : Int) (r2 : Int) (w : World) (hr0 : Kd.C k24 w A0 l0.length l0) (hc0 : l0.length ≤ c0) (h : spoorref16_Peer.f k l0 a1 = some (r1, r2)) :
  Calls Try.prog 16 #[.slice A0 l0.length c0, .int .i64 a1] w fun e w' => e = .returned (.tuple #[.int .i64 r1, .int .i64 r2]) ∧ Below w.heap.size w w' := by
 have HR0 := Ax hr0
 have HC0 := Ax hc0
 clear hr0 hc0
 have HB := Ax (Below.refl w.heap.size w)
 have H : ((spoorref16_Check.f k l0).bind fun t373 => (if t373 = 0 then ((spoorref16_parts.f k l0 a1).bind fun bt374 => (if (bt374.2.1.length : Int) = 0 then (some (0, 3)) else (if 0 < (bt374.2.1.length : Int) then (some ((rd_T24 bt374.2.1 0).f1, 0)) else (none)))) else (some (0, 2)))) = some (r1, r2) := h
 clear h
 replace H := Option.bind_eq_some_iff.mp H
 obtain ⟨t373, A30, H⟩ := H
 replace H : (if t373 = 0 then ((spoorref16_parts.f k l0 a1).bind fun bt374 => (if (bt374.2.1.length : Int) = 0 then (some (0, 3)) else (if 0 < (bt374.2.1.length : Int) then (some ((rd_T24 bt374.2.1 0).f1, 0)) else (none)))) else (some (0, 2))) = some (r1, r2) := H
 have A3 := Ax A30
 clear A30
 by_cases c4 : t373 = 0
 ·rw [if_pos c4] at H
  have c4b0 : (t373 == 0) = true := beq_iff_eq.mpr c4
  have c4b1 : (t373 != 0) = false := bne_eq_false_iff_eq.mpr c4
  clear c4
  replace H := Option.bind_eq_some_iff.mp H
  obtain ⟨⟨t374, t375, t376⟩, A50, H⟩ := H
  replace H : (if (t375.length : Int) = 0 then (some (0, 3)) else (if 0 < (t375.length : Int) then (some ((rd_T24 t375 0).f1, 0)) else (none))) = some (r1, r2) := H
  have A5 := Ax A50
  clear A50
  by_cases c6 : (t375.length : Int) = 0
  ·rw [if_pos c6] at H
   have c6b0 : ((t375.length : Int) == 0) = true := beq_iff_eq.mpr c6
   have c6b1 : ((t375.length : Int) != 0) = false := bne_eq_false_iff_eq.mpr c6
   clear c6
   simp only [Option.some.injEq, Prod.mk.injEq] at H
   obtain ⟨rfl, rfl⟩ := H
   go_enter Try.func16, Try.ntmps16
   go_wp2_with (first | ((with_reducible refine gate_callee (f := 13) rfl ?_); refine goesL_ (some 10) rfl rfl Try.func13 (by kernel_rfl) rfl #[.slice A0 l0.length c0] rfl gS ?_; (with_reducible refine (spoorref16_Check.calls k _ _ l0 t373 _ ?side1 ?side2 A3.out).mono ?_); (case side1 => repeat (first | exact HR0.out | (with_reducible refine Kd.C_alloc ?_ _) | (with_reducible refine Kd.C_drewN ?_ _) | (with_reducible refine Kd.C_drew ?_))); (case side2 => exact HC0.out); rintro e w7 ⟨rfl, hb⟩; refine ⟨_, rfl, ?_⟩; replace HB := Bs0 HB hb; (try clear hb)) | ((with_reducible refine gate_callee (f := 25) rfl ?_); refine goesL_ (some 15) rfl rfl Try.func25 (by kernel_rfl) rfl #[.slice A0 l0.length c0, .int .i64 a1] rfl gS ?_; (with_reducible refine (spoorref16_parts.calls k _ _ l0 a1 t374 t375 t376 _ ?side1 ?side2 A5.out).mono ?_); (case side1 => repeat (first | exact (Kd.C_below HR0.out HB.out) | (with_reducible refine Kd.C_alloc ?_ _) | (with_reducible refine Kd.C_drewN ?_ _) | (with_reducible refine Kd.C_drew ?_))); (case side2 => exact HC0.out); rintro e w8 ⟨v377, v379, v381, rfl, ho0, ho1, ho2, hb⟩; refine ⟨_, rfl, ?_⟩; have HO378 := Ax (Kd.R_lower ho0 (below_size (bw0 HB.out))); have HO380 := Ax (Kd.R_lower ho1 (below_size (bw0 HB.out))); have HO382 := Ax (Kd.R_lower ho2 (below_size (bw0 HB.out))); replace HB := Bs0 HB hb; (try clear hb); (try clear ho0); (try clear ho1); (try clear ho2); obtain ⟨Ao9, co9, eo9⟩ := Kd.R_slice HO380.out; subst eo9))
   go_ret2
   exact ⟨eS, bw0 HB.out⟩
  ·rw [if_neg c6] at H
   have c6b0 : ((t375.length : Int) == 0) = false := beq_eq_false_iff_ne.mpr c6
   have c6b1 : ((t375.length : Int) != 0) = true := bne_iff_ne.mpr c6
   have c6b2 : ¬ (t375 = []) := fun h_ => c6 (by rw [h_]; rfl)
   by_cases c10 : 0 < (t375.length : Int)
   ·rw [if_pos c10] at H
    have c10b0 : decide (0 < (t375.length : Int)) = true := decide_eq_true c10
    have c10b1 : decide (0 < t375.length) = true := decide_eq_true (by omega)
    clear c10
    simp only [Option.some.injEq, Prod.mk.injEq] at H
    obtain ⟨rfl, rfl⟩ := H
    go_enter Try.func16, Try.ntmps16
    go_wp2_with (first | ((with_reducible refine gate_callee (f := 13) rfl ?_); refine goesL_ (some 10) rfl rfl Try.func13 (by kernel_rfl) rfl #[.slice A0 l0.length c0] rfl gS ?_; (with_reducible refine (spoorref16_Check.calls k _ _ l0 t373 _ ?side1 ?side2 A3.out).mono ?_); (case side1 => repeat (first | exact HR0.out | (with_reducible refine Kd.C_alloc ?_ _) | (with_reducible refine Kd.C_drewN ?_ _) | (with_reducible refine Kd.C_drew ?_))); (case side2 => exact HC0.out); rintro e w11 ⟨rfl, hb⟩; refine ⟨_, rfl, ?_⟩; replace HB := Bs0 HB hb; (try clear hb)) | ((with_reducible refine gate_callee (f := 25) rfl ?_); refine goesL_ (some 15) rfl rfl Try.func25 (by kernel_rfl) rfl #[.slice A0 l0.length c0, .int .i64 a1] rfl gS ?_; (with_reducible refine (spoorref16_parts.calls k _ _ l0 a1 t374 t375 t376 _ ?side1 ?side2 A5.out).mono ?_); (case side1 => repeat (first | exact (Kd.C_below HR0.out HB.out) | (with_reducible refine Kd.C_alloc ?_ _) | (with_reducible refine Kd.C_drewN ?_ _) | (with_reducible refine Kd.C_drew ?_))); (case side2 => exact HC0.out); rintro e w12 ⟨v377, v379, v381, rfl, ho0, ho1, ho2, hb⟩; refine ⟨_, rfl, ?_⟩; have HO378 := Ax (Kd.R_lower ho0 (below_size (bw0 HB.out))); have HO380 := Ax (Kd.R_lower ho1 (below_size (bw0 HB.out))); have HO382 := Ax (Kd.R_lower ho2 (below_size (bw0 HB.out))); replace HB := Bs0 HB hb; (try clear hb); (try clear ho0); (try clear ho1); (try clear ho2); obtain ⟨Ao13, co13, eo13⟩ := Kd.R_slice HO380.out; subst eo13; have p383 : 0 ≤ (0 : Int) := (by omega); have q383 : 0 < (t375.length : Int) := of_decide_eq_true (by first | (with_reducible assumption) | assumption); obtain ⟨ad383, e383, hx383_0, hx383_1⟩ := at_T24 (Kd.R_reads' HO380.out).2.2 0 p383 q383; cases e383; have qi383 : (0 < t375.length) = True := eq_true (by omega); (try rw [show ((0 : Int)).toNat = 0 from rfl] at hx383_0); (try rw [show 0 * 2 = 0 from rfl] at hx383_0); (try rw [Addr.add_zero'] at hx383_0); (try rw [show ((0 : Int)).toNat = 0 from rfl] at hx383_1); (try rw [show 0 * 2 = 0 from rfl] at hx383_1); (try rw [Addr.add_zero'] at hx383_1); replace p383 := eq_true p383; replace q383 := eq_true q383))
    go_ret2
    exact ⟨eS, bw0 HB.out⟩
   ·rw [if_neg c10] at H
    exact absurd H (by simp)
 ·rw [if_neg c4] at H
  have c4b0 : (t373 == 0) = false := beq_eq_false_iff_ne.mpr c4
  have c4b1 : (t373 != 0) = true := bne_iff_ne.mpr c4
  simp only [Option.some.injEq, Prod.mk.injEq] at H
  obtain ⟨rfl, rfl⟩ := H
  go_enter Try.func16, Try.ntmps16
  go_wp2_with (first | ((with_reducible refine gate_callee (f := 13) rfl ?_); refine goesL_ (some 10) rfl rfl Try.func13 (by kernel_rfl) rfl #[.slice A0 l0.length c0] rfl gS ?_; (with_reducible refine (spoorref16_Check.calls k _ _ l0 t373 _ ?side1 ?side2 A3.out).mono ?_); (case side1 => repeat (first | exact HR0.out | (with_reducible refine Kd.C_alloc ?_ _) | (with_reducible refine Kd.C_drewN ?_ _) | (with_reducible refine Kd.C_drew ?_))); (case side2 => exact HC0.out); rintro e w14 ⟨rfl, hb⟩; refine ⟨_, rfl, ?_⟩; replace HB := Bs0 HB hb; (try clear hb)))
  go_ret2
  exact ⟨eS, bw0 HB.out⟩
end Go.Proofs.Ytalkiicjdafhdaa.Q
end
section
namespace Go.Proofs.Ytalkiicjdafhdaa.Q
open Go.RowKit Go.Proofs.YtalkiicjdafhdaaW.PrintWords Go.Proofs.YtalkiicjdafhdaaW.PrintLast Go.Proofs.YtalkiicjdafhdaaW.PrintMore
attribute [local go_sem] max2_int min2_int max_two min_two max_three min_three max_four min_four   -- for this text's walks alone
set_option linter.unusedVariables false
set_option linter.unusedSimpArgs false
def posL (t : Int) : List Int → Nat → Nat
  | xs, 0 => 0
  | xs, i + 1 => if t < xs.getD i 0 then posL t xs i else i + 1
theorem posL_le (t : Int) (xs : List Int) : ∀ i, posL t xs i ≤ i
  | 0 => Nat.le_refl _
  | i + 1 => by
    unfold posL
    split
    · exact Nat.le_succ_of_le (posL_le t xs i)
    · exact Nat.le_refl _
def insS (xs : List Int) (t : Int) : List Int :=
  if 0 < posL t xs xs.length ∧ xs.getD (posL t xs xs.length - 1) 0 = t then xs else xs.take (posL t xs xs.length) ++ t :: xs.drop (posL t xs xs.length)
theorem infoI : (Try.prog.info? 3).map (fun i => (i.zero, i.size, i.bytes)) = some (some (.int .i64 0), 1, 8) := by kernel_rfl
theorem shift_own {w' : World} {base g cap i : Nat} {xs : List Int} {cur : Array Value} (hi : i ≤ xs.length) (hg : base ≤ g) (hc : xs.length + 1 ≤ cap) (hm : cap ≤ maxLen) (hs : cur.size = cap * 1) (ht : cur.toList.take ((xs.length + 1) * 1) = encs (Value.int .i64) (xs ++ [0]))
    (h : w'.heap[g]? = some (.cells (splice cur.toList (i + 1) ((encs (Value.int .i64) (xs ++ [0])).drop i |>.take (xs.length - i))).toArray 3 (0, 0))) :
    w'.ownsRow base 3 1 (.slice (some ⟨g, 0, none⟩) (xs.length + 1) cap) (xs.length + 1) (encs (Value.int .i64) (xs.take i ++ (xs ++ [0]).getD i 0 :: xs.drop i)) := by
  have hl : cur.toList.length = cap := by simp [hs]
  have he : (encs (Value.int .i64) (xs ++ [0])).length = xs.length + 1 := by simp [encs]
  refine ⟨by simp [encs]; omega, .inr ⟨g, cap, _, rfl, hg, h, hc, hm, ?_, ?_⟩⟩
  · rw [List.size_toArray, length_splice _ _ _ (by rw [List.length_take, List.length_drop, he, hl]; omega), hl, Nat.mul_one]
  · have hcut : (((encs (Value.int .i64) (xs ++ [0])).drop i).take (xs.length - i)) = encs (Value.int .i64) (xs.drop i) := by
      unfold encs
      rw [← List.map_drop, ← List.map_take, List.drop_append_of_le_length hi]
      congr 1
      rw [List.take_append_of_le_length (by simp), List.take_of_length_le (by simp)]
    rw [hcut]
    have hlen : (encs (Value.int .i64) (xs.drop i)).length = xs.length - i := by simp [encs]
    show (splice cur.toList (i + 1) (encs (Value.int .i64) (xs.drop i))).take ((xs.length + 1) * 1) = _
    unfold splice
    have e1 : cur.toList.take (i + 1) = encs (Value.int .i64) (xs.take i ++ [(xs ++ [0]).getD i 0]) := by
      have h1 : cur.toList.take (i + 1) = (cur.toList.take ((xs.length + 1) * 1)).take (i + 1) := by rw [List.take_take]; congr 1; omega
      rw [h1, ht]
      unfold encs
      rw [← List.map_take]
      congr 1
      rw [List.take_succ_eq_append_getElem (by simp; omega), List.take_append_of_le_length hi]
      congr 1
      rw [List.getD_eq_getElem?_getD, List.getElem?_eq_getElem (by simp; omega)]
      rfl
    rw [e1, hlen, ← List.append_assoc]
    rw [List.take_append_of_le_length (by simp [encs]; omega), List.take_of_length_le (by simp [encs]; omega)]
    unfold encs
    rw [← List.map_append, List.append_assoc]
    rfl
theorem shift_len {xs : List Int} {i : Nat} (h : i ≤ xs.length) : (((encs (Value.int .i64) (xs ++ [0])).drop i).take (xs.length - i)).length = xs.length - i := by
  simp [encs]
  omega
theorem shift_hn {xs : List Int} {i : Nat} (h : i + 1 ≤ xs.length) : (((encs (Value.int .i64) (xs ++ [0])).drop (i + 1)).take (xs.length - (i + 1))).length = Nat.min (xs.length - i) (xs.length - (i + 1)) := by
  rw [shift_len h]
  show _ = min _ _
  omega
theorem shift_ne {xs : List Int} {i c : Nat} (h : i + 1 ≤ xs.length) (hp : 0 < (((encs (Value.int .i64) (xs ++ [0])).drop (i + 1)).take (xs.length - (i + 1))).length) (h1 : xs.length + 1 ≤ c) : ¬ c = i + 1 + 1 := by
  rw [shift_len h] at hp
  omega
theorem shift_hn0 (xs : List Int) : (((encs (Value.int .i64) (xs ++ [0])).drop 0).take (xs.length - 0)).length = Nat.min (xs.length + 1) xs.length := by
  rw [shift_len (Nat.zero_le _)]
  show _ = min _ _
  omega
theorem shift_ne0 {xs : List Int} {c : Nat} (hp : 0 < (((encs (Value.int .i64) (xs ++ [0])).drop 0).take (xs.length - 0)).length) (h1 : xs.length + 1 ≤ c) : ¬ c = 1 := by
  rw [shift_len (Nat.zero_le _)] at hp
  omega
theorem shift_ne2 {xs : List Int} {i c : Nat} (h : i + 1 ≤ xs.length) (h1 : xs.length + 1 ≤ c) : ¬ c = i + 1 := by omega
theorem shift_fit {xs : List Int} {i c : Nat} {cur : Array Value} (h : i ≤ xs.length) (h1 : xs.length + 1 ≤ c) (h2 : cur.size = c * 1) : i + 1 + (((encs (Value.int .i64) (xs ++ [0])).drop i).take (xs.length - i)).length ≤ cur.toList.length := by
  rw [shift_len h]
  simp
  omega
theorem shift_one {xs : List Int} {i : Nat} : ∀ v ∈ (((encs (Value.int .i64) (xs ++ [0])).drop i).take (xs.length - i)), v.oneCell' = true := by
  intro v hv
  obtain ⟨x, _, rfl⟩ := List.mem_map.1 (List.mem_of_mem_drop (List.mem_of_mem_take hv))
  rfl
theorem shift_cells {W : World} {xs : List Int} {g i : Nat} {cur : Array Value} (hg : W.heap[g]? = some (.cells cur 3 (0, 0))) (ht : cur.toList.take ((xs.length + 1) * 1) = encs (Value.int .i64) (xs ++ [0])) :
    ∀ j v, (((encs (Value.int .i64) (xs ++ [0])).drop i).take (xs.length - i))[j]? = some v → W.cell? ((⟨g, i, none⟩ : Addr).add j) = some v := by
  intro j v hj
  have hadd : (⟨g, i, none⟩ : Addr).add j = ⟨g, i + j, none⟩ := by unfold Addr.add; split <;> simp_all
  rw [hadd, blk_cell hg, ← Array.getElem?_toList]
  rw [List.getElem?_take] at hj
  split at hj
  · rw [List.getElem?_drop, ← ht, List.getElem?_take] at hj
    split at hj
    · exact hj
    · cases hj
  · cases hj
theorem posL_step {t : Int} {xs : List Int} {j : Nat} (h : t < xs.getD j 0) : posL t xs (j + 1) = posL t xs j := by
  show (if t < xs.getD j 0 then posL t xs j else j + 1) = _
  rw [if_pos h]
theorem posL_stop {t : Int} {xs : List Int} {j : Nat} (h : ¬ t < xs.getD j 0) : posL t xs (j + 1) = j + 1 := by
  show (if t < xs.getD j 0 then posL t xs j else j + 1) = _
  rw [if_neg h]
def refPeersV (l : List S24) : List Int := l.foldl (fun acc x => insS acc x.f1) []
theorem rcheck_len {k : Nat} {l : List S24} (h : spoorref16_Check.f k l = some 0) : l.length ≤ 32 := by
  unfold spoorref16_Check.f at h
  by_cases c : (l.length : Int) > 32
  · rw [if_pos c] at h
    exact absurd (Option.some.inj h) (by decide)
  · omega
set_option maxRecDepth 100000 in
set_option maxHeartbeats 8000000 in
theorem refPeers_walk (k : Nat) (A0 : Option Addr) (c0 : Nat) (l0 : List S24) (w : World) (hr0 : Kd.C k24 w A0 l0.length l0) (hc0 : l0.length ≤ c0) (hy : spoorref16_Check.f k l0 = some 0) :
    Calls Try.prog 18 #[.slice A0 l0.length c0] w fun e w' => ∃ v0_ : Value, e = .returned (.tuple #[v0_, .int .i64 0]) ∧ Kd.R (Kd.int .i64) 3 w' w.heap.size (fun _ => True) v0_ (refPeersV l0) ∧ Below w.heap.size w w' := by
  have HR := Aside0.mk hr0
  have HC0 := Aside0.mk hc0
  have HY := Aside0.mk hy
  have HM := Aside0.mk (Kd.C_max hr0)
  have HL32 := Aside0.mk (rcheck_len hy)
  have d0 : ((0 : Int) != 0) = false := rfl
  clear hr0 hc0 hy
  go_enter Try.func18, Try.ntmps18
  go_wp2_with (go_at_call 13; refine (spoorref16_Check.calls k _ _ l0 0 _ HR.out HC0.out HY.out).mono ?_; rintro e w5 ⟨rfl, hb5⟩; have HB5 := Aside0.mk hb5; clear hb5)
  go_loopg [4, 6, 7, 13] l0.length (fun kq v4 v6 v7 v13 w' => ∃ (i : Nat), v13 = .int .i64 (i : Int) ∧ Aside0 (i ≤ l0.length ∧ kq = l0.length - i) ∧ Aside0 (Kd.R (Kd.int .i64) 3 w' w.heap.size (fun _ => True) v4 ((l0.take i).foldl (fun acc x => insS acc x.f1) []) ∧ ((l0.take i).foldl (fun acc x => insS acc x.f1) []).length ≤ i) ∧ Aside0 (Below w.heap.size w w'))
  case atStart => exact ⟨0, rfl, ⟨Nat.zero_le _, rfl⟩, ⟨Kd.R_nil _ _ _ _ _, Nat.le_refl _⟩, HB5⟩
  case round =>
    obtain ⟨i, rfl, HI, HO, Hb⟩ := hrel
    have hm := HM.out
    by_cases hi : i < l0.length
    · have hd : decide ((i : Int) < (l0.length : Int)) = true := decide_eq_true (by omega)
      have hdn : decide (i < l0.length) = true := decide_eq_true hi
      obtain ⟨ad, ead, hx0, hx1⟩ := at_T24 (Kd.C_below HR.out Hb.out) (i : Int) (by omega) (by omega)
      cases ead
      simp only [Int.toNat_natCast] at hx0 hx1
      obtain ⟨x, hx⟩ : ∃ x, rd_T24 l0 (i : Int) = x := ⟨_, rfl⟩
      rw [hx] at hx0 hx1
      obtain ⟨t, ht⟩ : ∃ t, x.f1 = t := ⟨_, rfl⟩
      obtain ⟨f0, hf0⟩ : ∃ f0, x.f0 = f0 := ⟨_, rfl⟩
      rw [hf0] at hx0
      rw [ht] at hx1
      have htk : (l0.take (i + 1)).foldl (fun acc x => insS acc x.f1) [] = insS ((l0.take i).foldl (fun acc x => insS acc x.f1) []) t := by
        rw [List.take_succ_eq_append_getElem hi, List.foldl_append, ← ht, ← hx]
        simp [rd_T24, List.getD_eq_getElem?_getD, hi]
      have HT := Aside0.mk htk
      have HII := Aside0.mk hi
      have p0 : (0 ≤ (i : Int)) = True := eq_true (by omega)
      have q0 : ((i : Int) < (l0.length : Int)) = True := eq_true (by omega)
      obtain ⟨xs, hxs⟩ : ∃ xs, (l0.take i).foldl (fun acc x => insS acc x.f1) [] = xs := ⟨_, rfl⟩
      rw [hxs] at HO
      have HXS := Aside0.mk hxs
      have HXI := Aside0.mk HO.out.2
      obtain ⟨A, c, rfl⟩ := Kd.R_slice HO.out.1
      have hxl := HO.out.2
      have h32 := HL32.out
      have HLL : Aside0 ((xs.length + 1) * 8 ≤ 140737488355328) := ⟨by omega⟩
      have HNE := Aside0.mk (Kd.R_lt HO.out.1)
      have HOA := Aside0.mk (Kd.R_below HO.out.1 (below_alloc (Below.refl _ _) (.cells #[.int .i64 f0, .int .i64 t] 24)))
      have HBA := Aside0.mk (below_alloc Hb.out (.cells #[.int .i64 f0, .int .i64 t] 24))
      have HXA := Aside0.mk (heap_alloc_new wr (.cells #[.int .i64 f0, .int .i64 t] 24))
      clear hxs htk ht hi hx hf0 HO hxl
      go_wp2
      generalize wr.alloc (.cells #[.int .i64 f0, .int .i64 t] 24) = w2 at *
      generalize wr.heap.size = bx at *
      go_loopg [7] xs.length (fun kq v7 w3 => ∃ (j : Nat), v7 = .int .i64 (j : Int) ∧ Aside0 (j ≤ xs.length ∧ kq = j) ∧ Aside0 (posL t xs xs.length = posL t xs j) ∧ Aside0 (Kd.R (Kd.int .i64) 3 w3 w.heap.size (fun _ => True) (.slice A xs.length c) xs) ∧ Aside0 (Below w.heap.size w w3) ∧ Aside0 (w3.heap[bx]? = some (.cells #[.int .i64 f0, .int .i64 t] 24 (0, 0))))
      case atStart => exact ⟨xs.length, rfl, ⟨Nat.le_refl _, rfl⟩, ⟨rfl⟩, HOA, HBA, HXA⟩
      case round =>
        clear HOA HBA HXA
        obtain ⟨j, rfl, HJ, HP, HO2, HB2, HX2⟩ := hrel
        have hjl := HJ.out.1
        have hm2 := Kd.C_max (Kd.R_reads' HO2.out).2.2
        cases j with
        | succ jp =>
          obtain ⟨ad2, ead2, hy0⟩ := Kd.at_int (Kd.R_reads' HO2.out).2.2 (jp : Int) (by omega) (by omega)
          cases ead2
          simp only [Int.toNat_natCast] at hy0
          obtain ⟨y, hy⟩ : ∃ y, xs.getD jp 0 = y := ⟨_, rfl⟩
          have hrd : rd xs (jp : Int) = y := by rw [← hy]; simp [rd]
          rw [hrd] at hy0
          have HY2 := Aside0.mk hy
          have hxc : wr.cell? ⟨bx, 1, none⟩ = some (.int .i64 t) := (blk_cell HX2.out 1).trans rfl
          have wj : IntKind.i64.wrap (((jp + 1 : Nat) : Int) - 1) = (jp : Int) := by rw [i64_w]; unfold wrap64; omega
          have wj2 : wrap64 (jp : Int) = (jp : Int) := by unfold wrap64; omega
          have wj3 : IntKind.i64.wrap (jp : Int) = (jp : Int) := by rw [i64_w]; exact wj2
          have dj : decide ((0 : Int) < ((jp + 1 : Nat) : Int)) = true := decide_eq_true (by omega)
          have p1 : (0 ≤ (jp : Int)) = True := eq_true (by omega)
          have q1 : ((jp : Int) < (xs.length : Int)) = True := eq_true (by omega)
          have q2 : (jp < xs.length) = True := eq_true (by omega)
          have HO3 := Aside0.mk (Kd.R_below HO2.out (below_drew1 (Below.refl _ _)))
          have HB3 := Aside0.mk (below_drew1 HB2.out)
          have HX3 : Aside0 (wr.drew.heap[bx]? = some (.cells #[.int .i64 f0, .int .i64 t] 24 (0, 0))) := HX2
          have HHY := Aside0.mk (And.intro hy0 hxc)
          clear hrd hy
          by_cases c1 : t < y
          · have d1 : decide (t < y) = true := decide_eq_true c1
            have HP2 : Aside0 (posL t xs xs.length = posL t xs jp) := ⟨by rw [HP.out]; exact posL_step (by rw [HY2.out]; exact c1)⟩
            clear c1
            go_wp2
            refine start_ (n := 12) (S := fun W => W.cell? (ad2.add jp) = some (.int .i64 y) ∧ W.cell? ⟨bx, 1, none⟩ = some (.int .i64 t)) (ds := []) #[false,false,false,false,false,false,false,false,false,false,false,false] (by kernel_rfl) rfl rfl ⟨HHY.out.1, HHY.out.2⟩ (fun hHeld => ?_)
            refine pure_ (i := 0) (N := some 19) (v := ?_) (a' := ?_) #[true,false,false,false,false,false,false,false,false,false,false,false] rfl rfl (by kernel_rfl) (fun _ _ _ h => h) (Or.inl ⟨by rfl, ?_⟩) ?_ ?_
            rotate_left
            · intro w'
              go_simp
              with_reducible rfl
            rotate_left
            · simp only [sP]
              rfl
            refine pure_ (i := 1) (N := some 20) (v := ?_) (a' := ?_) #[true,true,false,false,false,false,false,false,false,false,false,false] rfl rfl (by kernel_rfl) (fun _ _ _ h => h) (Or.inl ⟨by rfl, ?_⟩) ?_ ?_
            rotate_left
            · intro w'
              go_simp
              with_reducible rfl
            rotate_left
            · simp only [sP]
              rfl
            refine pure_ (i := 2) (N := some 21) (v := ?_) (a' := ?_) #[true,true,true,false,false,false,false,false,false,false,false,false] rfl rfl (by kernel_rfl) (fun _ _ _ h => h) (Or.inl ⟨by rfl, ?_⟩) ?_ ?_
            rotate_left
            · intro w'
              go_simp
              with_reducible rfl
            rotate_left
            · simp only [sP]
              rfl
            refine pure_ (i := 3) (N := some 22) (v := ?_) (a' := ?_) #[true,true,true,true,false,false,false,false,false,false,false,false] rfl rfl (by kernel_rfl) (fun _ _ _ h => h) (Or.inl ⟨by rfl, ?_⟩) ?_ ?_
            rotate_left
            · intro w'
              go_simp
              with_reducible rfl
            rotate_left
            · simp only [sP]
              rfl
            refine pure_ (i := 4) (N := some 23) (v := ?_) (a' := ?_) #[true,true,true,true,true,false,false,false,false,false,false,false] rfl rfl (by kernel_rfl) (fun _ _ _ h => h) (Or.inl ⟨by rfl, ?_⟩) ?_ ?_
            rotate_left
            · intro w'
              go_simp
              with_reducible rfl
            rotate_left
            · simp only [sP]
              rfl
            refine pure_ (i := 5) (N := some 24) (v := ?_) (a' := ?_) #[true,true,true,true,true,true,false,false,false,false,false,false] rfl rfl (by kernel_rfl) (fun _ _ _ h => h) (Or.inl ⟨by rfl, ?_⟩) ?_ ?_
            rotate_left
            · intro w'
              go_simp
              with_reducible rfl
            rotate_left
            · simp only [sP]
              rfl
            refine pure_ (i := 6) (N := some 25) (v := ?_) (a' := ?_) #[true,true,true,true,true,true,true,false,false,false,false,false] rfl rfl (by kernel_rfl) (fun _ _ _ h => h) (Or.inl ⟨by rfl, ?_⟩) ?_ ?_
            rotate_left
            · intro w'
              go_simp
              with_reducible rfl
            rotate_left
            · simp only [sP]
              rfl
            refine take_ (i := 7) (N := some 26) (v := ?_) (a' := ?_) #[true,true,true,true,true,true,true,true,false,false,false,false] rfl rfl (by kernel_rfl) (fun _ _ _ h => h) (Or.inl ⟨by rfl, ?_⟩) hHeld ?_ ?_
            rotate_left
            · rintro w' ⟨s0, s1⟩
              go_simp
              with_reducible rfl
            rotate_left
            · simp only [sP]
              rfl
            refine pure_ (i := 8) (N := some 27) (v := ?_) (a' := ?_) #[true,true,true,true,true,true,true,true,true,false,false,false] rfl rfl (by kernel_rfl) (fun _ _ _ h => h) (Or.inl ⟨by rfl, ?_⟩) ?_ ?_
            rotate_left
            · intro w'
              go_simp
              with_reducible rfl
            rotate_left
            · simp only [sP]
              rfl
            refine take_ (i := 9) (N := some 28) (v := ?_) (a' := ?_) #[true,true,true,true,true,true,true,true,true,true,false,false] rfl rfl (by kernel_rfl) (fun _ _ _ h => h) (Or.inl ⟨by rfl, ?_⟩) hHeld ?_ ?_
            rotate_left
            · rintro w' ⟨s0, s1⟩
              go_simp
              with_reducible rfl
            rotate_left
            · simp only [sP]
              rfl
            refine pure_ (i := 10) (N := some 29) (v := ?_) (a' := ?_) #[true,true,true,true,true,true,true,true,true,true,true,false] rfl rfl (by kernel_rfl) (fun _ _ _ h => h) (Or.inl ⟨by rfl, ?_⟩) ?_ ?_
            rotate_left
            · intro w'
              go_simp
              with_reducible rfl
            rotate_left
            · simp only [sP]
              rfl
            refine pure_ (i := 11) (N := some 30) (v := ?_) (a' := ?_) #[true,true,true,true,true,true,true,true,true,true,true,true] rfl rfl (by kernel_rfl) (fun _ _ _ h => h) (Or.inl ⟨by rfl, ?_⟩) ?_ ?_
            rotate_left
            · intro w'
              go_simp
              with_reducible rfl
            rotate_left
            · simp only [sP]
              rfl
            refine done_ (by kernel_rfl) ?_
            go_wp2
            go_roundg jp
            case measure => have := HJ.out.2; omega
            case rel => exact ⟨jp, by first | rfl | go_num, ⟨by have := HJ.out.1; omega, rfl⟩, HP2, HO3, HB3, HX3⟩
          · have d1 : decide (t < y) = false := decide_eq_false c1
            have HP2 : Aside0 (posL t xs xs.length = jp + 1) := ⟨by rw [HP.out]; exact posL_stop (by rw [HY2.out]; exact c1)⟩
            have HO4 := Aside0.mk (Kd.R_below HO3.out (below_drew1 (Below.refl _ _)))
            have HB4 := Aside0.mk (below_drew1 HB3.out)
            have HX4 : Aside0 (wr.drew.drew.heap[bx]? = some (.cells #[.int .i64 f0, .int .i64 t] 24 (0, 0))) := HX2
            clear c1
            go_wp2
            refine start_ (n := 12) (S := fun W => W.cell? (ad2.add jp) = some (.int .i64 y) ∧ W.cell? ⟨bx, 1, none⟩ = some (.int .i64 t)) (ds := []) #[false,false,false,false,false,false,false,false,false,false,false,false] (by kernel_rfl) rfl rfl ⟨HHY.out.1, HHY.out.2⟩ (fun hHeld => ?_)
            refine pure_ (i := 0) (N := some 19) (v := ?_) (a' := ?_) #[true,false,false,false,false,false,false,false,false,false,false,false] rfl rfl (by kernel_rfl) (fun _ _ _ h => h) (Or.inl ⟨by rfl, ?_⟩) ?_ ?_
            rotate_left
            · intro w'
              go_simp
              with_reducible rfl
            rotate_left
            · simp only [sP]
              rfl
            refine pure_ (i := 1) (N := some 20) (v := ?_) (a' := ?_) #[true,true,false,false,false,false,false,false,false,false,false,false] rfl rfl (by kernel_rfl) (fun _ _ _ h => h) (Or.inl ⟨by rfl, ?_⟩) ?_ ?_
            rotate_left
            · intro w'
              go_simp
              with_reducible rfl
            rotate_left
            · simp only [sP]
              rfl
            refine pure_ (i := 2) (N := some 21) (v := ?_) (a' := ?_) #[true,true,true,false,false,false,false,false,false,false,false,false] rfl rfl (by kernel_rfl) (fun _ _ _ h => h) (Or.inl ⟨by rfl, ?_⟩) ?_ ?_
            rotate_left
            · intro w'
              go_simp
              with_reducible rfl
            rotate_left
            · simp only [sP]
              rfl
            refine pure_ (i := 3) (N := some 22) (v := ?_) (a' := ?_) #[true,true,true,true,false,false,false,false,false,false,false,false] rfl rfl (by kernel_rfl) (fun _ _ _ h => h) (Or.inl ⟨by rfl, ?_⟩) ?_ ?_
            rotate_left
            · intro w'
              go_simp
              with_reducible rfl
            rotate_left
            · simp only [sP]
              rfl
            refine pure_ (i := 4) (N := some 23) (v := ?_) (a' := ?_) #[true,true,true,true,true,false,false,false,false,false,false,false] rfl rfl (by kernel_rfl) (fun _ _ _ h => h) (Or.inl ⟨by rfl, ?_⟩) ?_ ?_
            rotate_left
            · intro w'
              go_simp
              with_reducible rfl
            rotate_left
            · simp only [sP]
              rfl
            refine pure_ (i := 5) (N := some 24) (v := ?_) (a' := ?_) #[true,true,true,true,true,true,false,false,false,false,false,false] rfl rfl (by kernel_rfl) (fun _ _ _ h => h) (Or.inl ⟨by rfl, ?_⟩) ?_ ?_
            rotate_left
            · intro w'
              go_simp
              with_reducible rfl
            rotate_left
            · simp only [sP]
              rfl
            refine pure_ (i := 6) (N := some 25) (v := ?_) (a' := ?_) #[true,true,true,true,true,true,true,false,false,false,false,false] rfl rfl (by kernel_rfl) (fun _ _ _ h => h) (Or.inl ⟨by rfl, ?_⟩) ?_ ?_
            rotate_left
            · intro w'
              go_simp
              with_reducible rfl
            rotate_left
            · simp only [sP]
              rfl
            refine take_ (i := 7) (N := some 26) (v := ?_) (a' := ?_) #[true,true,true,true,true,true,true,true,false,false,false,false] rfl rfl (by kernel_rfl) (fun _ _ _ h => h) (Or.inl ⟨by rfl, ?_⟩) hHeld ?_ ?_
            rotate_left
            · rintro w' ⟨s0, s1⟩
              go_simp
              with_reducible rfl
            rotate_left
            · simp only [sP]
              rfl
            refine pure_ (i := 8) (N := some 27) (v := ?_) (a' := ?_) #[true,true,true,true,true,true,true,true,true,false,false,false] rfl rfl (by kernel_rfl) (fun _ _ _ h => h) (Or.inl ⟨by rfl, ?_⟩) ?_ ?_
            rotate_left
            · intro w'
              go_simp
              with_reducible rfl
            rotate_left
            · simp only [sP]
              rfl
            refine take_ (i := 9) (N := some 28) (v := ?_) (a' := ?_) #[true,true,true,true,true,true,true,true,true,true,false,false] rfl rfl (by kernel_rfl) (fun _ _ _ h => h) (Or.inl ⟨by rfl, ?_⟩) hHeld ?_ ?_
            rotate_left
            · rintro w' ⟨s0, s1⟩
              go_simp
              with_reducible rfl
            rotate_left
            · simp only [sP]
              rfl
            refine pure_ (i := 10) (N := some 29) (v := ?_) (a' := ?_) #[true,true,true,true,true,true,true,true,true,true,true,false] rfl rfl (by kernel_rfl) (fun _ _ _ h => h) (Or.inl ⟨by rfl, ?_⟩) ?_ ?_
            rotate_left
            · intro w'
              go_simp
              with_reducible rfl
            rotate_left
            · simp only [sP]
              rfl
            refine pure_ (i := 11) (N := some 30) (v := ?_) (a' := ?_) #[true,true,true,true,true,true,true,true,true,true,true,true] rfl rfl (by kernel_rfl) (fun _ _ _ h => h) (Or.inl ⟨by rfl, ?_⟩) ?_ ?_
            rotate_left
            · intro w'
              go_simp
              with_reducible rfl
            rotate_left
            · simp only [sP]
              rfl
            refine done_ (by kernel_rfl) ?_
            go_wp2
            replace HO3 := HO4
            replace HB3 := HB4
            replace HX3 := HX4
            clear HO4 HB4 HX4
            by_cases c2 : y = t
            · have d2 : (y == t) = true := beq_iff_eq.mpr c2
              have HN : Aside0 (insS xs t = xs) := ⟨by
                unfold insS
                rw [if_pos]
                rw [HP2.out, Nat.add_sub_cancel, HY2.out]
                exact ⟨by omega, c2⟩⟩
              clear c2
              refine start_ (n := 12) (S := fun W => W.cell? (ad2.add jp) = some (.int .i64 y) ∧ W.cell? ⟨bx, 1, none⟩ = some (.int .i64 t)) (ds := []) #[false,false,false,false,false,false,false,false,false,false,false,false] (by kernel_rfl) rfl rfl ⟨HHY.out.1, HHY.out.2⟩ (fun hHeld => ?_)
              refine pure_ (i := 0) (N := some 33) (v := ?_) (a' := ?_) #[true,false,false,false,false,false,false,false,false,false,false,false] rfl rfl (by kernel_rfl) (fun _ _ _ h => h) (Or.inl ⟨by rfl, ?_⟩) ?_ ?_
              rotate_left
              · intro w'
                go_simp
                with_reducible rfl
              rotate_left
              · simp only [sP]
                rfl
              refine pure_ (i := 1) (N := some 34) (v := ?_) (a' := ?_) #[true,true,false,false,false,false,false,false,false,false,false,false] rfl rfl (by kernel_rfl) (fun _ _ _ h => h) (Or.inl ⟨by rfl, ?_⟩) ?_ ?_
              rotate_left
              · intro w'
                go_simp
                with_reducible rfl
              rotate_left
              · simp only [sP]
                rfl
              refine pure_ (i := 2) (N := some 35) (v := ?_) (a' := ?_) #[true,true,true,false,false,false,false,false,false,false,false,false] rfl rfl (by kernel_rfl) (fun _ _ _ h => h) (Or.inl ⟨by rfl, ?_⟩) ?_ ?_
              rotate_left
              · intro w'
                go_simp
                with_reducible rfl
              rotate_left
              · simp only [sP]
                rfl
              refine pure_ (i := 3) (N := some 36) (v := ?_) (a' := ?_) #[true,true,true,true,false,false,false,false,false,false,false,false] rfl rfl (by kernel_rfl) (fun _ _ _ h => h) (Or.inl ⟨by rfl, ?_⟩) ?_ ?_
              rotate_left
              · intro w'
                go_simp
                with_reducible rfl
              rotate_left
              · simp only [sP]
                rfl
              refine pure_ (i := 4) (N := some 37) (v := ?_) (a' := ?_) #[true,true,true,true,true,false,false,false,false,false,false,false] rfl rfl (by kernel_rfl) (fun _ _ _ h => h) (Or.inl ⟨by rfl, ?_⟩) ?_ ?_
              rotate_left
              · intro w'
                go_simp
                with_reducible rfl
              rotate_left
              · simp only [sP]
                rfl
              refine pure_ (i := 5) (N := some 38) (v := ?_) (a' := ?_) #[true,true,true,true,true,true,false,false,false,false,false,false] rfl rfl (by kernel_rfl) (fun _ _ _ h => h) (Or.inl ⟨by rfl, ?_⟩) ?_ ?_
              rotate_left
              · intro w'
                go_simp
                with_reducible rfl
              rotate_left
              · simp only [sP]
                rfl
              refine pure_ (i := 6) (N := some 39) (v := ?_) (a' := ?_) #[true,true,true,true,true,true,true,false,false,false,false,false] rfl rfl (by kernel_rfl) (fun _ _ _ h => h) (Or.inl ⟨by rfl, ?_⟩) ?_ ?_
              rotate_left
              · intro w'
                go_simp
                with_reducible rfl
              rotate_left
              · simp only [sP]
                rfl
              refine take_ (i := 7) (N := some 40) (v := ?_) (a' := ?_) #[true,true,true,true,true,true,true,true,false,false,false,false] rfl rfl (by kernel_rfl) (fun _ _ _ h => h) (Or.inl ⟨by rfl, ?_⟩) hHeld ?_ ?_
              rotate_left
              · rintro w' ⟨s0, s1⟩
                go_simp
                with_reducible rfl
              rotate_left
              · simp only [sP]
                rfl
              refine pure_ (i := 8) (N := some 41) (v := ?_) (a' := ?_) #[true,true,true,true,true,true,true,true,true,false,false,false] rfl rfl (by kernel_rfl) (fun _ _ _ h => h) (Or.inl ⟨by rfl, ?_⟩) ?_ ?_
              rotate_left
              · intro w'
                go_simp
                with_reducible rfl
              rotate_left
              · simp only [sP]
                rfl
              refine take_ (i := 9) (N := some 42) (v := ?_) (a' := ?_) #[true,true,true,true,true,true,true,true,true,true,false,false] rfl rfl (by kernel_rfl) (fun _ _ _ h => h) (Or.inl ⟨by rfl, ?_⟩) hHeld ?_ ?_
              rotate_left
              · rintro w' ⟨s0, s1⟩
                go_simp
                with_reducible rfl
              rotate_left
              · simp only [sP]
                rfl
              refine pure_ (i := 10) (N := some 43) (v := ?_) (a' := ?_) #[true,true,true,true,true,true,true,true,true,true,true,false] rfl rfl (by kernel_rfl) (fun _ _ _ h => h) (Or.inl ⟨by rfl, ?_⟩) ?_ ?_
              rotate_left
              · intro w'
                go_simp
                with_reducible rfl
              rotate_left
              · simp only [sP]
                rfl
              refine pure_ (i := 11) (N := some 44) (v := ?_) (a' := ?_) #[true,true,true,true,true,true,true,true,true,true,true,true] rfl rfl (by kernel_rfl) (fun _ _ _ h => h) (Or.inl ⟨by rfl, ?_⟩) ?_ ?_
              rotate_left
              · intro w'
                go_simp
                with_reducible rfl
              rotate_left
              · simp only [sP]
                rfl
              refine done_ (by kernel_rfl) ?_
              go_wp2
              go_roundg (l0.length - (i + 1))
              case measure => have := HI.out; have := HII.out; omega
              case rel => have hii := HII.out; have hll := HL32.out; exact ⟨i + 1, by first | rfl | (simp only [Value.int.injEq, true_and]; unfold wrap64; omega), ⟨HII.out, rfl⟩, ⟨by rw [HT.out, HXS.out, HN.out]; exact HO3.out, by rw [HT.out, HXS.out, HN.out]; exact Nat.le_succ_of_le HXI.out⟩, HB3⟩
            · have d2 : (y == t) = false := beq_eq_false_iff_ne.mpr c2
              have HN : Aside0 (insS xs t = xs.take (jp + 1) ++ t :: xs.drop (jp + 1)) := ⟨by
                unfold insS
                rw [HP2.out, if_neg]
                rw [Nat.add_sub_cancel, HY2.out]
                exact fun h => c2 h.2⟩
              clear c2
              refine start_ (n := 12) (S := fun W => W.cell? (ad2.add jp) = some (.int .i64 y) ∧ W.cell? ⟨bx, 1, none⟩ = some (.int .i64 t)) (ds := []) #[false,false,false,false,false,false,false,false,false,false,false,false] (by kernel_rfl) rfl rfl ⟨HHY.out.1, HHY.out.2⟩ (fun hHeld => ?_)
              refine pure_ (i := 0) (N := some 33) (v := ?_) (a' := ?_) #[true,false,false,false,false,false,false,false,false,false,false,false] rfl rfl (by kernel_rfl) (fun _ _ _ h => h) (Or.inl ⟨by rfl, ?_⟩) ?_ ?_
              rotate_left
              · intro w'
                go_simp
                with_reducible rfl
              rotate_left
              · simp only [sP]
                rfl
              refine pure_ (i := 1) (N := some 34) (v := ?_) (a' := ?_) #[true,true,false,false,false,false,false,false,false,false,false,false] rfl rfl (by kernel_rfl) (fun _ _ _ h => h) (Or.inl ⟨by rfl, ?_⟩) ?_ ?_
              rotate_left
              · intro w'
                go_simp
                with_reducible rfl
              rotate_left
              · simp only [sP]
                rfl
              refine pure_ (i := 2) (N := some 35) (v := ?_) (a' := ?_) #[true,true,true,false,false,false,false,false,false,false,false,false] rfl rfl (by kernel_rfl) (fun _ _ _ h => h) (Or.inl ⟨by rfl, ?_⟩) ?_ ?_
              rotate_left
              · intro w'
                go_simp
                with_reducible rfl
              rotate_left
              · simp only [sP]
                rfl
              refine pure_ (i := 3) (N := some 36) (v := ?_) (a' := ?_) #[true,true,true,true,false,false,false,false,false,false,false,false] rfl rfl (by kernel_rfl) (fun _ _ _ h => h) (Or.inl ⟨by rfl, ?_⟩) ?_ ?_
              rotate_left
              · intro w'
                go_simp
                with_reducible rfl
              rotate_left
              · simp only [sP]
                rfl
              refine pure_ (i := 4) (N := some 37) (v := ?_) (a' := ?_) #[true,true,true,true,true,false,false,false,false,false,false,false] rfl rfl (by kernel_rfl) (fun _ _ _ h => h) (Or.inl ⟨by rfl, ?_⟩) ?_ ?_
              rotate_left
              · intro w'
                go_simp
                with_reducible rfl
              rotate_left
              · simp only [sP]
                rfl
              refine pure_ (i := 5) (N := some 38) (v := ?_) (a' := ?_) #[true,true,true,true,true,true,false,false,false,false,false,false] rfl rfl (by kernel_rfl) (fun _ _ _ h => h) (Or.inl ⟨by rfl, ?_⟩) ?_ ?_
              rotate_left
              · intro w'
                go_simp
                with_reducible rfl
              rotate_left
              · simp only [sP]
                rfl
              refine pure_ (i := 6) (N := some 39) (v := ?_) (a' := ?_) #[true,true,true,true,true,true,true,false,false,false,false,false] rfl rfl (by kernel_rfl) (fun _ _ _ h => h) (Or.inl ⟨by rfl, ?_⟩) ?_ ?_
              rotate_left
              · intro w'
                go_simp
                with_reducible rfl
              rotate_left
              · simp only [sP]
                rfl
              refine take_ (i := 7) (N := some 40) (v := ?_) (a' := ?_) #[true,true,true,true,true,true,true,true,false,false,false,false] rfl rfl (by kernel_rfl) (fun _ _ _ h => h) (Or.inl ⟨by rfl, ?_⟩) hHeld ?_ ?_
              rotate_left
              · rintro w' ⟨s0, s1⟩
                go_simp
                with_reducible rfl
              rotate_left
              · simp only [sP]
                rfl
              refine pure_ (i := 8) (N := some 41) (v := ?_) (a' := ?_) #[true,true,true,true,true,true,true,true,true,false,false,false] rfl rfl (by kernel_rfl) (fun _ _ _ h => h) (Or.inl ⟨by rfl, ?_⟩) ?_ ?_
              rotate_left
              · intro w'
                go_simp
                with_reducible rfl
              rotate_left
              · simp only [sP]
                rfl
              refine take_ (i := 9) (N := some 42) (v := ?_) (a' := ?_) #[true,true,true,true,true,true,true,true,true,true,false,false] rfl rfl (by kernel_rfl) (fun _ _ _ h => h) (Or.inl ⟨by rfl, ?_⟩) hHeld ?_ ?_
              rotate_left
              · rintro w' ⟨s0, s1⟩
                go_simp
                with_reducible rfl
              rotate_left
              · simp only [sP]
                rfl
              refine pure_ (i := 10) (N := some 43) (v := ?_) (a' := ?_) #[true,true,true,true,true,true,true,true,true,true,true,false] rfl rfl (by kernel_rfl) (fun _ _ _ h => h) (Or.inl ⟨by rfl, ?_⟩) ?_ ?_
              rotate_left
              · intro w'
                go_simp
                with_reducible rfl
              rotate_left
              · simp only [sP]
                rfl
              refine pure_ (i := 11) (N := some 44) (v := ?_) (a' := ?_) #[true,true,true,true,true,true,true,true,true,true,true,true] rfl rfl (by kernel_rfl) (fun _ _ _ h => h) (Or.inl ⟨by rfl, ?_⟩) ?_ ?_
              rotate_left
              · intro w'
                go_simp
                with_reducible rfl
              rotate_left
              · simp only [sP]
                rfl
              refine done_ (by kernel_rfl) ?_
              go_wp2_with (at_builtin; refine Kd.R_append (Kd.int .i64) (w0 := w) w.heap.size rfl (.tmp 45) (.tmp 46) 35 3 (.int .i64 0) 8 rfl Try.underlying35 infoI rfl (by decide) (by omega) _ xs 0 [.int .i64 0] (fun _ => True) (fun _ => False) rfl ?aX rfl (fun _ hk => hk.elim) (fun _ _ => trivial) HO3.out HB3.out HB3.out.size HLL.out ?_; (case aX => first | rfl | (go_simp; done) | (go_simp; rfl)); intro v1 w1 ho1 hb1 hg1 hat1; have HO1 := Aside0.mk ho1; have Hb1 := Aside0.mk hb1; have HX4 : Aside0 (w1.heap[bx]? = some (.cells #[.int .i64 f0, .int .i64 t] 24 (0, 0))) := ⟨(hg1.block bx (blk_lt HX3.out) (fun e => Nat.lt_irrefl _ (HNE.out bx e.symm))).trans HX3.out⟩; have HNE4 : Aside0 (some bx ≠ v1.ownBlock) := ⟨fun e => hat1.elim (fun h => Nat.lt_irrefl _ (HNE.out bx (h ▸ e.symm))) (fun ⟨b, h1, h2⟩ => by rw [h1] at e; have := blk_lt HX3.out; have := Option.some.inj e; omega)⟩; obtain ⟨A1, c1, rfl⟩ := Kd.R_slice ho1; clear ho1 hb1 hg1 hat1)
              obtain ⟨hown1, (⟨_, h0⟩ | ⟨g, cap, cur, hv, hbg, hgg, hnc, hcm, hcs, htk⟩)⟩ := Kd.own_of_R HO1.out
              · simp at h0
              simp only [List.length_append, List.length_singleton] at hv hnc htk
              obtain ⟨rfl, _, rfl⟩ : A1 = some ⟨g, 0, none⟩ ∧ True ∧ c1 = cap := by simpa using hv
              have HG := Aside0.mk hgg
              have HGX : Aside0 (bx ≠ g) := ⟨fun e => HNE4.out (by rw [e]; rfl)⟩
              have HCU := Aside0.mk (And.intro hnc (And.intro hcm (And.intro hcs (And.intro htk hbg))))
              have hii := HII.out
              have hxi := HXI.out
              have hl32 := HL32.out
              have tn : ((jp : Int) + 1 + 1).toNat = jp + 1 + 1 := by omega
              have k1 : (0 ≤ (jp : Int) + 1 + 1) = True := eq_true (by omega)
              have k2 : ((jp : Int) + 1 + 1 ≤ (xs.length : Int) + 1) = True := eq_true (by omega)
              have k3 : (0 ≤ (jp : Int) + 1) = True := eq_true (by omega)
              have k4 : ((jp : Int) + 1 ≤ (xs.length : Int) + 1) = True := eq_true (by omega)
              have wk : IntKind.i64.wrap ((jp : Int) + 1 + 1) = (jp : Int) + 1 + 1 := by rw [i64_w]; unfold wrap64; omega
              have HXL : Aside0 (jp + 1 ≤ xs.length) := ⟨hjl⟩
              clear hown1 hv hgg hnc hcm hcs htk hbg
              refine start_ (n := 8) (S := fun _ => True) (ds := [7]) #[false,false,false,false,false,false,false,false] (by kernel_rfl) rfl rfl trivial (fun _ => ?_)
              refine pure_ (i := 0) (N := some 48) (v := ?_) (a' := ?_) #[true,false,false,false,false,false,false,false] rfl rfl (by kernel_rfl) (fun _ _ _ h => h) (Or.inl ⟨by rfl, ?_⟩) ?_ ?_
              rotate_left
              · intro w'
                go_simp
                with_reducible rfl
              rotate_left
              · simp only [sP]
                rfl
              refine pure_ (i := 1) (N := some 49) (v := ?_) (a' := ?_) #[true,true,false,false,false,false,false,false] rfl rfl (by kernel_rfl) (fun _ _ _ h => h) (Or.inl ⟨by rfl, ?_⟩) ?_ ?_
              rotate_left
              · intro w'
                go_simp
                with_reducible rfl
              rotate_left
              · simp only [sP]
                rfl
              refine pure_ (i := 2) (N := some 50) (v := ?_) (a' := ?_) #[true,true,true,false,false,false,false,false] rfl rfl (by kernel_rfl) (fun _ _ _ h => h) (Or.inl ⟨by rfl, ?_⟩) ?_ ?_
              rotate_left
              · intro w'
                go_simp
                with_reducible rfl
              rotate_left
              · simp only [sP]
                rfl
              refine pure_ (i := 3) (N := some 51) (v := ?_) (a' := ?_) #[true,true,true,true,false,false,false,false] rfl rfl (by kernel_rfl) (fun _ _ _ h => h) (Or.inl ⟨by rfl, ?_⟩) ?_ ?_
              rotate_left
              · intro w'
                go_simp
                with_reducible rfl
              rotate_left
              · simp only [sP]
                rfl
              refine pure_ (i := 4) (N := some 52) (v := ?_) (a' := ?_) #[true,true,true,true,true,false,false,false] rfl rfl (by kernel_rfl) (fun _ _ _ h => h) (Or.inl ⟨by rfl, ?_⟩) ?_ ?_
              rotate_left
              · intro w'
                go_simp
                with_reducible rfl
              rotate_left
              · simp only [sP]
                rfl
              refine pure_ (i := 5) (N := some 53) (v := ?_) (a' := ?_) #[true,true,true,true,true,true,false,false] rfl rfl (by kernel_rfl) (fun _ _ _ h => h) (Or.inl ⟨by rfl, ?_⟩) ?_ ?_
              rotate_left
              · intro w'
                go_simp
                with_reducible rfl
              rotate_left
              · simp only [sP]
                rfl
              refine pure_ (i := 6) (N := some 54) (v := ?_) (a' := ?_) #[true,true,true,true,true,true,true,false] rfl rfl (by kernel_rfl) (fun _ _ _ h => h) (Or.inl ⟨by rfl, ?_⟩) ?_ ?_
              rotate_left
              · intro w'
                go_simp
                with_reducible rfl
              rotate_left
              · simp only [sP]
                rfl
              refine last_ (i := 7) (N := some 55) #[true,true,true,true,true,true,true,true] rfl rfl (by kernel_rfl) (by decide) (fun K hK => ?_)
              refine step_copyW rfl (.tmp 51) (.tmp 54) 35 35 rfl 3 1 Try.underlying35 (by kernel_rfl) _ _ _ _ _ _ rfl rfl g (jp + 1 + 1) cur.toList 3 HG.out (((encs (Value.int .i64) (xs ++ [0])).drop (jp + 1)).take (xs.length - (jp + 1))) (by rw [Nat.mul_one]; exact shift_hn HXL.out) (fun hp => ⟨if_neg (shift_ne HXL.out (by rw [shift_hn HXL.out]; exact hp) HCU.out.1), _, if_neg (shift_ne2 HXL.out HCU.out.1), shift_cells HG.out HCU.out.2.2.2.1⟩) (shift_fit HXL.out HCU.out.1 HCU.out.2.2.1) shift_one w.heap.size w (below_drew1 Hb1.out) HCU.out.2.2.2.2 ?_
              intro w4 hg4 hb4 hk4
              refine hK _ _ (done_ (by kernel_rfl) ?_)
              have hx4 : w4.cell? ⟨bx, 1, none⟩ = some (.int .i64 t) := (blk_cell ((hk4 bx HGX.out).trans HX4.out) 1).trans rfl
              have hsh := shift_own HXL.out HCU.out.2.2.2.2 HCU.out.1 HCU.out.2.1 HCU.out.2.2.1 HCU.out.2.2.2.1 hg4.out
              have hcell : w4.cell? ⟨g, jp + 1, none⟩ = some (.int .i64 ((xs ++ [0]).getD (jp + 1) 0)) := by
                rw [hsh.cellAt (jp + 1) (by have := HXL.out; omega)]
                have hl5 : (xs.take (jp + 1)).length = jp + 1 := by rw [List.length_take]; have := HXL.out; omega
                unfold encs
                rw [List.getElem?_map, List.getElem?_append_right (by omega), hl5, Nat.sub_self]
                rfl
              have hfro : w4.frozen? ⟨g, jp + 1, none⟩ = false := hsh.frozenAt _
              have hst := hsh.stored (jp + 1) (.int .i64 t)
              have e5 : (encs (Value.int .i64) (xs.take (jp + 1) ++ (xs ++ [0]).getD (jp + 1) 0 :: xs.drop (jp + 1))).set (jp + 1) (.int .i64 t) = encs (Value.int .i64) (insS xs t) := by
                rw [HN.out]
                unfold encs
                rw [← List.map_set]
                congr 1
                have hl5 : (xs.take (jp + 1)).length = jp + 1 := by rw [List.length_take]; have := HXL.out; omega
                rw [List.set_append_right _ _ (by omega), hl5, Nat.sub_self]
                rfl
              have hln : (insS xs t).length = xs.length + 1 := by rw [HN.out]; simp; have := HXL.out; omega
              have HF : Aside0 (Kd.R (Kd.int .i64) 3 (w4.setCell ⟨g, jp + 1, none⟩ (.int .i64 t)) w.heap.size (fun _ => True) (.slice (some ⟨g, 0, none⟩) (xs.length + 1) c1) (insS xs t)) := ⟨Kd.R_of_own (by rw [hln, ← e5]; exact hst.1) (fun _ _ => trivial)⟩
              have Hb9 : Aside0 (Below w.heap.size w (w4.setCell ⟨g, jp + 1, none⟩ (.int .i64 t))) := ⟨hb4.setCell (p := ⟨g, jp + 1, none⟩) HCU.out.2.2.2.2 _⟩
              have HLN := Aside0.mk hln
              have k5 : ((jp : Int) + 1 < (xs.length : Int) + 1) = True := eq_true (by have := HXL.out; omega)
              have k6 : (jp + 1 < xs.length + 1) = True := eq_true (by have := HXL.out; omega)
              clear hsh hst e5 hln hg4 hb4 hk4
              generalize (if c1 = jp + 1 + 1 then (some ⟨g, 0, none⟩ : Option Addr) else some ⟨g, jp + 1 + 1, none⟩) = D1
              generalize (if c1 = jp + 1 then (some ⟨g, 0, none⟩ : Option Addr) else some ⟨g, jp + 1, none⟩) = D2
              go_wp2
              go_roundg (l0.length - (i + 1))
              case measure => have := HI.out; have := HII.out; omega
              case rel => have hii := HII.out; have hll := HL32.out; exact ⟨i + 1, by first | rfl | (simp only [Value.int.injEq, true_and]; unfold wrap64; omega), ⟨HII.out, rfl⟩, ⟨by rw [HT.out, HXS.out]; exact HF.out, by rw [HT.out, HXS.out, HLN.out]; exact Nat.succ_le_succ HXI.out⟩, Hb9⟩
        | zero =>
          have HN : Aside0 (insS xs t = xs.take 0 ++ t :: xs.drop 0) := ⟨by
            unfold insS
            rw [HP.out]
            exact if_neg (fun h => by cases h.1)⟩
          have dj : decide ((0 : Int) < ((0 : Nat) : Int)) = false := by decide
          have dj2 : decide ((0 : Int) < (0 : Int)) = false := by decide
          have HO3 := Aside0.mk (Kd.R_below HO2.out (below_drew1 (below_drew1 (Below.refl _ _))))
          have HB3 := Aside0.mk (below_drew1 (below_drew1 HB2.out))
          have HX3 : Aside0 (wr.drew.drew.heap[bx]? = some (.cells #[.int .i64 f0, .int .i64 t] 24 (0, 0))) := HX2
          go_wp2
          refine start_ (n := 12) (S := fun _ => True) (ds := []) #[false,false,false,false,false,false,false,false,false,false,false,false] (by kernel_rfl) rfl rfl trivial (fun _ => ?_)
          refine pure_ (i := 0) (N := some 19) (v := ?_) (a' := ?_) #[true,false,false,false,false,false,false,false,false,false,false,false] rfl rfl (by kernel_rfl) (fun _ _ _ h => h) (Or.inl ⟨by rfl, ?_⟩) ?_ ?_
          rotate_left
          · intro w'
            go_simp
            with_reducible rfl
          rotate_left
          · simp only [sP]
            rfl
          refine pure_ (i := 1) (N := some 20) (v := ?_) (a' := ?_) #[true,true,false,false,false,false,false,false,false,false,false,false] rfl rfl (by kernel_rfl) (fun _ _ _ h => h) (Or.inl ⟨by rfl, ?_⟩) ?_ ?_
          rotate_left
          · intro w'
            go_simp
            with_reducible rfl
          rotate_left
          · simp only [sP]
            rfl
          refine pure_ (i := 2) (N := some 21) (v := ?_) (a' := ?_) #[true,true,true,false,false,false,false,false,false,false,false,false] rfl rfl (by kernel_rfl) (fun _ _ _ h => h) (Or.inl ⟨by rfl, ?_⟩) ?_ ?_
          rotate_left
          · intro w'
            go_simp
            with_reducible rfl
          rotate_left
          · simp only [sP]
            rfl
          refine pure_ (i := 3) (N := some 22) (v := undef) (a' := ?_) #[true,true,true,true,false,false,false,false,false,false,false,false] rfl rfl (by kernel_rfl) (fun _ _ _ h => h) (Or.inr ⟨by rfl, rfl⟩) ?_ ?_
          rotate_left
          · simp only [sP]
            rfl
          refine pure_ (i := 4) (N := some 23) (v := undef) (a' := ?_) #[true,true,true,true,true,false,false,false,false,false,false,false] rfl rfl (by kernel_rfl) (fun _ _ _ h => h) (Or.inr ⟨by rfl, rfl⟩) ?_ ?_
          rotate_left
          · simp only [sP]
            rfl
          refine pure_ (i := 5) (N := some 24) (v := undef) (a' := ?_) #[true,true,true,true,true,true,false,false,false,false,false,false] rfl rfl (by kernel_rfl) (fun _ _ _ h => h) (Or.inr ⟨by rfl, rfl⟩) ?_ ?_
          rotate_left
          · simp only [sP]
            rfl
          refine pure_ (i := 6) (N := some 25) (v := undef) (a' := ?_) #[true,true,true,true,true,true,true,false,false,false,false,false] rfl rfl (by kernel_rfl) (fun _ _ _ h => h) (Or.inr ⟨by rfl, rfl⟩) ?_ ?_
          rotate_left
          · simp only [sP]
            rfl
          refine pure_ (i := 7) (N := some 26) (v := undef) (a' := ?_) #[true,true,true,true,true,true,true,true,false,false,false,false] rfl rfl (by kernel_rfl) (fun _ _ _ h => h) (Or.inr ⟨by rfl, rfl⟩) ?_ ?_
          rotate_left
          · simp only [sP]
            rfl
          refine pure_ (i := 8) (N := some 27) (v := undef) (a' := ?_) #[true,true,true,true,true,true,true,true,true,false,false,false] rfl rfl (by kernel_rfl) (fun _ _ _ h => h) (Or.inr ⟨by rfl, rfl⟩) ?_ ?_
          rotate_left
          · simp only [sP]
            rfl
          refine pure_ (i := 9) (N := some 28) (v := undef) (a' := ?_) #[true,true,true,true,true,true,true,true,true,true,false,false] rfl rfl (by kernel_rfl) (fun _ _ _ h => h) (Or.inr ⟨by rfl, rfl⟩) ?_ ?_
          rotate_left
          · simp only [sP]
            rfl
          refine pure_ (i := 10) (N := some 29) (v := undef) (a' := ?_) #[true,true,true,true,true,true,true,true,true,true,true,false] rfl rfl (by kernel_rfl) (fun _ _ _ h => h) (Or.inr ⟨by rfl, rfl⟩) ?_ ?_
          rotate_left
          · simp only [sP]
            rfl
          refine pure_ (i := 11) (N := some 30) (v := ?_) (a' := ?_) #[true,true,true,true,true,true,true,true,true,true,true,true] rfl rfl (by kernel_rfl) (fun _ _ _ h => h) (Or.inl ⟨by rfl, ?_⟩) ?_ ?_
          rotate_left
          · intro w'
            go_simp
            with_reducible rfl
          rotate_left
          · simp only [sP]
            rfl
          refine done_ (by kernel_rfl) ?_
          go_wp2
          refine start_ (n := 12) (S := fun _ => True) (ds := []) #[false,false,false,false,false,false,false,false,false,false,false,false] (by kernel_rfl) rfl rfl trivial (fun _ => ?_)
          refine pure_ (i := 0) (N := some 33) (v := ?_) (a' := ?_) #[true,false,false,false,false,false,false,false,false,false,false,false] rfl rfl (by kernel_rfl) (fun _ _ _ h => h) (Or.inl ⟨by rfl, ?_⟩) ?_ ?_
          rotate_left
          · intro w'
            go_simp
            with_reducible rfl
          rotate_left
          · simp only [sP]
            rfl
          refine pure_ (i := 1) (N := some 34) (v := ?_) (a' := ?_) #[true,true,false,false,false,false,false,false,false,false,false,false] rfl rfl (by kernel_rfl) (fun _ _ _ h => h) (Or.inl ⟨by rfl, ?_⟩) ?_ ?_
          rotate_left
          · intro w'
            go_simp
            with_reducible rfl
          rotate_left
          · simp only [sP]
            rfl
          refine pure_ (i := 2) (N := some 35) (v := ?_) (a' := ?_) #[true,true,true,false,false,false,false,false,false,false,false,false] rfl rfl (by kernel_rfl) (fun _ _ _ h => h) (Or.inl ⟨by rfl, ?_⟩) ?_ ?_
          rotate_left
          · intro w'
            go_simp
            with_reducible rfl
          rotate_left
          · simp only [sP]
            rfl
          refine pure_ (i := 3) (N := some 36) (v := undef) (a' := ?_) #[true,true,true,true,false,false,false,false,false,false,false,false] rfl rfl (by kernel_rfl) (fun _ _ _ h => h) (Or.inr ⟨by rfl, rfl⟩) ?_ ?_
          rotate_left
          · simp only [sP]
            rfl
          refine pure_ (i := 4) (N := some 37) (v := undef) (a' := ?_) #[true,true,true,true,true,false,false,false,false,false,false,false] rfl rfl (by kernel_rfl) (fun _ _ _ h => h) (Or.inr ⟨by rfl, rfl⟩) ?_ ?_
          rotate_left
          · simp only [sP]
            rfl
          refine pure_ (i := 5) (N := some 38) (v := undef) (a' := ?_) #[true,true,true,true,true,true,false,false,false,false,false,false] rfl rfl (by kernel_rfl) (fun _ _ _ h => h) (Or.inr ⟨by rfl, rfl⟩) ?_ ?_
          rotate_left
          · simp only [sP]
            rfl
          refine pure_ (i := 6) (N := some 39) (v := undef) (a' := ?_) #[true,true,true,true,true,true,true,false,false,false,false,false] rfl rfl (by kernel_rfl) (fun _ _ _ h => h) (Or.inr ⟨by rfl, rfl⟩) ?_ ?_
          rotate_left
          · simp only [sP]
            rfl
          refine pure_ (i := 7) (N := some 40) (v := undef) (a' := ?_) #[true,true,true,true,true,true,true,true,false,false,false,false] rfl rfl (by kernel_rfl) (fun _ _ _ h => h) (Or.inr ⟨by rfl, rfl⟩) ?_ ?_
          rotate_left
          · simp only [sP]
            rfl
          refine pure_ (i := 8) (N := some 41) (v := undef) (a' := ?_) #[true,true,true,true,true,true,true,true,true,false,false,false] rfl rfl (by kernel_rfl) (fun _ _ _ h => h) (Or.inr ⟨by rfl, rfl⟩) ?_ ?_
          rotate_left
          · simp only [sP]
            rfl
          refine pure_ (i := 9) (N := some 42) (v := undef) (a' := ?_) #[true,true,true,true,true,true,true,true,true,true,false,false] rfl rfl (by kernel_rfl) (fun _ _ _ h => h) (Or.inr ⟨by rfl, rfl⟩) ?_ ?_
          rotate_left
          · simp only [sP]
            rfl
          refine pure_ (i := 10) (N := some 43) (v := undef) (a' := ?_) #[true,true,true,true,true,true,true,true,true,true,true,false] rfl rfl (by kernel_rfl) (fun _ _ _ h => h) (Or.inr ⟨by rfl, rfl⟩) ?_ ?_
          rotate_left
          · simp only [sP]
            rfl
          refine pure_ (i := 11) (N := some 44) (v := ?_) (a' := ?_) #[true,true,true,true,true,true,true,true,true,true,true,true] rfl rfl (by kernel_rfl) (fun _ _ _ h => h) (Or.inl ⟨by rfl, ?_⟩) ?_ ?_
          rotate_left
          · intro w'
            go_simp
            with_reducible rfl
          rotate_left
          · simp only [sP]
            rfl
          refine done_ (by kernel_rfl) ?_
          go_wp2_with (at_builtin; refine Kd.R_append (Kd.int .i64) (w0 := w) w.heap.size rfl (.tmp 45) (.tmp 46) 35 3 (.int .i64 0) 8 rfl Try.underlying35 infoI rfl (by decide) (by omega) _ xs 0 [.int .i64 0] (fun _ => True) (fun _ => False) rfl ?aX rfl (fun _ hk => hk.elim) (fun _ _ => trivial) HO3.out HB3.out HB3.out.size HLL.out ?_; (case aX => first | rfl | (go_simp; done) | (go_simp; rfl)); intro v1 w1 ho1 hb1 hg1 hat1; have HO1 := Aside0.mk ho1; have Hb1 := Aside0.mk hb1; have HX4 : Aside0 (w1.heap[bx]? = some (.cells #[.int .i64 f0, .int .i64 t] 24 (0, 0))) := ⟨(hg1.block bx (blk_lt HX3.out) (fun e => Nat.lt_irrefl _ (HNE.out bx e.symm))).trans HX3.out⟩; have HNE4 : Aside0 (some bx ≠ v1.ownBlock) := ⟨fun e => hat1.elim (fun h => Nat.lt_irrefl _ (HNE.out bx (h ▸ e.symm))) (fun ⟨b, h1, h2⟩ => by rw [h1] at e; have := blk_lt HX3.out; have := Option.some.inj e; omega)⟩; obtain ⟨A1, c1, rfl⟩ := Kd.R_slice ho1; clear ho1 hb1 hg1 hat1)
          obtain ⟨hown1, (⟨_, h0⟩ | ⟨g, cap, cur, hv, hbg, hgg, hnc, hcm, hcs, htk⟩)⟩ := Kd.own_of_R HO1.out
          · simp at h0
          simp only [List.length_append, List.length_singleton] at hv hnc htk
          obtain ⟨rfl, _, rfl⟩ : A1 = some ⟨g, 0, none⟩ ∧ True ∧ c1 = cap := by simpa using hv
          have HG := Aside0.mk hgg
          have HGX : Aside0 (bx ≠ g) := ⟨fun e => HNE4.out (by rw [e]; rfl)⟩
          have HCU := Aside0.mk (And.intro hnc (And.intro hcm (And.intro hcs (And.intro htk hbg))))
          have hii := HII.out
          have hxi := HXI.out
          have hl32 := HL32.out
          have tn : (1 : Int).toNat = 1 := rfl
          have k1 : (0 ≤ (1 : Int)) = True := eq_true (by omega)
          have k2 : ((1 : Int) ≤ (xs.length : Int) + 1) = True := eq_true (by omega)
          have kw : wrap64 1 = 1 := by unfold wrap64; omega
          have k3 : (0 ≤ (0 : Int)) = True := eq_true (by omega)
          have k4 : ((0 : Int) ≤ (xs.length : Int) + 1) = True := eq_true (by omega)
          have wk : IntKind.i64.wrap ((0 : Int) + 1) = (0 : Int) + 1 := by rw [i64_w]; unfold wrap64; omega
          have HXL : Aside0 (0 ≤ xs.length) := ⟨Nat.zero_le _⟩
          clear hown1 hv hgg hnc hcm hcs htk hbg
          refine start_ (n := 8) (S := fun _ => True) (ds := [7]) #[false,false,false,false,false,false,false,false] (by kernel_rfl) rfl rfl trivial (fun _ => ?_)
          refine pure_ (i := 0) (N := some 48) (v := ?_) (a' := ?_) #[true,false,false,false,false,false,false,false] rfl rfl (by kernel_rfl) (fun _ _ _ h => h) (Or.inl ⟨by rfl, ?_⟩) ?_ ?_
          rotate_left
          · intro w'
            go_simp
            with_reducible rfl
          rotate_left
          · simp only [sP]
            rfl
          refine pure_ (i := 1) (N := some 49) (v := ?_) (a' := ?_) #[true,true,false,false,false,false,false,false] rfl rfl (by kernel_rfl) (fun _ _ _ h => h) (Or.inl ⟨by rfl, ?_⟩) ?_ ?_
          rotate_left
          · intro w'
            go_simp
            with_reducible rfl
          rotate_left
          · simp only [sP]
            rfl
          refine pure_ (i := 2) (N := some 50) (v := ?_) (a' := ?_) #[true,true,true,false,false,false,false,false] rfl rfl (by kernel_rfl) (fun _ _ _ h => h) (Or.inl ⟨by rfl, ?_⟩) ?_ ?_
          rotate_left
          · intro w'
            go_simp
            with_reducible rfl
          rotate_left
          · simp only [sP]
            rfl
          refine pure_ (i := 3) (N := some 51) (v := ?_) (a' := ?_) #[true,true,true,true,false,false,false,false] rfl rfl (by kernel_rfl) (fun _ _ _ h => h) (Or.inl ⟨by rfl, ?_⟩) ?_ ?_
          rotate_left
          · intro w'
            go_simp
            with_reducible rfl
          rotate_left
          · simp only [sP]
            rfl
          refine pure_ (i := 4) (N := some 52) (v := ?_) (a' := ?_) #[true,true,true,true,true,false,false,false] rfl rfl (by kernel_rfl) (fun _ _ _ h => h) (Or.inl ⟨by rfl, ?_⟩) ?_ ?_
          rotate_left
          · intro w'
            go_simp
            with_reducible rfl
          rotate_left
          · simp only [sP]
            rfl
          refine pure_ (i := 5) (N := some 53) (v := ?_) (a' := ?_) #[true,true,true,true,true,true,false,false] rfl rfl (by kernel_rfl) (fun _ _ _ h => h) (Or.inl ⟨by rfl, ?_⟩) ?_ ?_
          rotate_left
          · intro w'
            go_simp
            with_reducible rfl
          rotate_left
          · simp only [sP]
            rfl
          refine pure_ (i := 6) (N := some 54) (v := ?_) (a' := ?_) #[true,true,true,true,true,true,true,false] rfl rfl (by kernel_rfl) (fun _ _ _ h => h) (Or.inl ⟨by rfl, ?_⟩) ?_ ?_
          rotate_left
          · intro w'
            go_simp
            with_reducible rfl
          rotate_left
          · simp only [sP]
            rfl
          refine last_ (i := 7) (N := some 55) #[true,true,true,true,true,true,true,true] rfl rfl (by kernel_rfl) (by decide) (fun K hK => ?_)
          refine step_copyW rfl (.tmp 51) (.tmp 54) 35 35 rfl 3 1 Try.underlying35 (by kernel_rfl) _ _ _ _ _ _ rfl rfl g (0 + 1) cur.toList 3 HG.out (((encs (Value.int .i64) (xs ++ [0])).drop 0).take (xs.length - 0)) (by rw [Nat.mul_one]; exact shift_hn0 xs) (fun hp => ⟨if_neg (shift_ne0 (by rw [shift_hn0 xs]; exact hp) HCU.out.1), _, rfl, shift_cells HG.out HCU.out.2.2.2.1⟩) (shift_fit HXL.out HCU.out.1 HCU.out.2.2.1) shift_one w.heap.size w (below_drew1 Hb1.out) HCU.out.2.2.2.2 ?_
          intro w4 hg4 hb4 hk4
          refine hK _ _ (done_ (by kernel_rfl) ?_)
          have hx4 : w4.cell? ⟨bx, 1, none⟩ = some (.int .i64 t) := (blk_cell ((hk4 bx HGX.out).trans HX4.out) 1).trans rfl
          have hsh := shift_own HXL.out HCU.out.2.2.2.2 HCU.out.1 HCU.out.2.1 HCU.out.2.2.1 HCU.out.2.2.2.1 hg4.out
          have hcell : w4.cell? ⟨g, 0, none⟩ = some (.int .i64 ((xs ++ [0]).getD 0 0)) := by
            rw [hsh.cellAt 0 (by have := HXL.out; omega)]
            have hl5 : (xs.take 0).length = 0 := by rw [List.length_take]; have := HXL.out; omega
            unfold encs
            rw [List.getElem?_map, List.getElem?_append_right (by omega), hl5, Nat.sub_self]
            rfl
          have hfro : w4.frozen? ⟨g, 0, none⟩ = false := hsh.frozenAt _
          have hst := hsh.stored 0 (.int .i64 t)
          have e5 : (encs (Value.int .i64) (xs.take 0 ++ (xs ++ [0]).getD 0 0 :: xs.drop 0)).set 0 (.int .i64 t) = encs (Value.int .i64) (insS xs t) := by
            rw [HN.out]
            unfold encs
            rw [← List.map_set]
            congr 1
          have hln : (insS xs t).length = xs.length + 1 := by rw [HN.out]; simp
          have HF : Aside0 (Kd.R (Kd.int .i64) 3 (w4.setCell ⟨g, 0, none⟩ (.int .i64 t)) w.heap.size (fun _ => True) (.slice (some ⟨g, 0, none⟩) (xs.length + 1) c1) (insS xs t)) := ⟨Kd.R_of_own (by rw [hln, ← e5]; exact hst.1) (fun _ _ => trivial)⟩
          have Hb9 : Aside0 (Below w.heap.size w (w4.setCell ⟨g, 0, none⟩ (.int .i64 t))) := ⟨hb4.setCell (p := ⟨g, 0, none⟩) HCU.out.2.2.2.2 _⟩
          have HLN := Aside0.mk hln
          have k5 : ((0 : Int) < (xs.length : Int) + 1) = True := eq_true (by have := HXL.out; omega)
          have k6 : (0 < xs.length + 1) = True := eq_true (by have := HXL.out; omega)
          clear hsh hst e5 hln hg4 hb4 hk4
          generalize (if c1 = 1 then (some ⟨g, 0, none⟩ : Option Addr) else some ⟨g, 1, none⟩) = D1
          go_wp2
          go_roundg (l0.length - (i + 1))
          case measure => have := HI.out; have := HII.out; omega
          case rel => have hii := HII.out; have hll := HL32.out; exact ⟨i + 1, by first | rfl | (simp only [Value.int.injEq, true_and]; unfold wrap64; omega), ⟨HII.out, rfl⟩, ⟨by rw [HT.out, HXS.out]; exact HF.out, by rw [HT.out, HXS.out, HLN.out]; exact Nat.succ_le_succ HXI.out⟩, Hb9⟩
    · have hd : decide ((i : Int) < (l0.length : Int)) = false := decide_eq_false (by omega)
      have hdn : decide (i < l0.length) = false := decide_eq_false hi
      have ho := HO.out.1
      rw [List.take_of_length_le (by omega)] at ho
      obtain ⟨A, c, rfl⟩ := Kd.R_slice ho
      have HO2 := Aside0.mk ho
      clear ho HO
      go_wp2
      go_ret2
      exact ⟨_, rfl, HO2.out, Hb.out⟩
def spoorref16_Peers.f (k : Nat) (l0 : List S24) : Option (List Int × Int) := (spoorref16_Check.f k l0).bind fun y => if y ≠ 0 then some ([], 2) else some (refPeersV l0, 0)
set_option maxRecDepth 100000 in
set_option maxHeartbeats 8000000 in
theorem spoorref16_Peers.calls (k : Nat) (A0 : Option Addr) (c0 : Nat) (l0 : List (S24)) (r1 : List Int) (r2 : Int) (w : World) (hr0 : Kd.C k24 w A0 l0.length l0) (hc0 : l0.length ≤ c0) (h : spoorref16_Peers.f k l0 = some (r1, r2)) :
    Calls Try.prog 18 #[.slice A0 l0.length c0] w fun e w' => ∃ v0_ : Value, e = .returned (.tuple #[v0_, .int .i64 r2]) ∧ Kd.R (Kd.int .i64) 3 w' w.heap.size (fun _ => True) v0_ r1 ∧ Below w.heap.size w w' := by
  obtain ⟨y, hy, h⟩ := Option.bind_eq_some_iff.mp h
  by_cases cy : y ≠ 0
  · rw [if_pos cy] at h
    obtain ⟨e1, e2⟩ := Prod.mk.inj (Option.some.inj h)
    subst e1
    subst e2
    have HY := Aside0.mk hy
    have HC0 := Aside0.mk hc0
    have HR0 := Aside0.mk hr0
    have d0 : (y != 0) = true := bne_iff_ne.mpr cy
    clear cy h hy hr0 hc0
    go_enter Try.func18, Try.ntmps18
    go_wp2_with (go_at_call 13; refine (spoorref16_Check.calls k _ _ l0 y _ HR0.out HC0.out HY.out).mono ?_; rintro e w5 ⟨rfl, hb5⟩; have HB5 := Aside0.mk hb5; clear hb5)
    go_ret2
    exact ⟨_, rfl, Kd.R_nil _ _ _ _ _, HB5.out⟩
  · have cy0 : y = 0 := Decidable.not_not.mp cy
    subst cy0
    rw [if_neg cy] at h
    obtain ⟨e1, e2⟩ := Prod.mk.inj (Option.some.inj h)
    subst e1
    subst e2
    exact refPeers_walk k A0 c0 l0 w hr0 hc0 hy
def spoorlaw16_LinksAsk.f (k : Nat) (l0 : List (S24)) (a1 : Int) : Option (Bool) := (links_Peer.f k l0 a1).bind fun bt384 => ((spoorref16_Peer.f k l0 a1).bind fun bt386 => ((links_Peers.f k l0).bind fun bt388 => ((spoorref16_Peers.f k l0).bind fun bt392 => ((spoorlaw16_lives.f k).bind fun t396 => (if t396 = true then (if bt384.1 = bt386.1 then (if bt384.2 = bt386.2 then ((spoorref16_Alike.f k bt388.1 bt392.1).bind fun t397 => (if t397 = true then (some (bt388.2 == bt392.2)) else (none))) else (none)) else (none)) else (none))))))
set_option maxHeartbeats 8000000 in
set_option maxRecDepth 100000 in
theorem spoorlaw16_LinksAsk.calls (k : Nat) (A0 : Option Addr) (c0 : Nat) (l0 : List (S24)) (a1 : Int) (r : Bool) (w : World) (hr0 : Kd.C k24 w A0 l0.length l0) (hc0 : l0.length ≤ c0) (h : spoorlaw16_LinksAsk.f k l0 a1 = some r) :
  Calls Try.prog 4 #[.slice A0 l0.length c0, .int .i64 a1] w fun e w' => e = .returned (.bool r) ∧ Below w.heap.size w w' := by
 have HR0 := Ax hr0
 have HC0 := Ax hc0
 clear hr0 hc0
 have HB := Ax (Below.refl w.heap.size w)
 have H : ((links_Peer.f k l0 a1).bind fun bt384 => ((spoorref16_Peer.f k l0 a1).bind fun bt386 => ((links_Peers.f k l0).bind fun bt388 => ((spoorref16_Peers.f k l0).bind fun bt392 => ((spoorlaw16_lives.f k).bind fun t396 => (if t396 = true then (if bt384.1 = bt386.1 then (if bt384.2 = bt386.2 then ((spoorref16_Alike.f k bt388.1 bt392.1).bind fun t397 => (if t397 = true then (some (bt388.2 == bt392.2)) else (none))) else (none)) else (none)) else (none))))))) = some r := h
 clear h
 replace H := Option.bind_eq_some_iff.mp H
 obtain ⟨⟨t384, t385⟩, A30, H⟩ := H
 replace H : ((spoorref16_Peer.f k l0 a1).bind fun bt386 => ((links_Peers.f k l0).bind fun bt388 => ((spoorref16_Peers.f k l0).bind fun bt392 => ((spoorlaw16_lives.f k).bind fun t396 => (if t396 = true then (if t384 = bt386.1 then (if t385 = bt386.2 then ((spoorref16_Alike.f k bt388.1 bt392.1).bind fun t397 => (if t397 = true then (some (bt388.2 == bt392.2)) else (none))) else (none)) else (none)) else (none)))))) = some r := H
 have A3 := Ax A30
 clear A30
 replace H := Option.bind_eq_some_iff.mp H
 obtain ⟨⟨t386, t387⟩, A40, H⟩ := H
 replace H : ((links_Peers.f k l0).bind fun bt388 => ((spoorref16_Peers.f k l0).bind fun bt392 => ((spoorlaw16_lives.f k).bind fun t396 => (if t396 = true then (if t384 = t386 then (if t385 = t387 then ((spoorref16_Alike.f k bt388.1 bt392.1).bind fun t397 => (if t397 = true then (some (bt388.2 == bt392.2)) else (none))) else (none)) else (none)) else (none))))) = some r := H
 have A4 := Ax A40
 clear A40
 replace H := Option.bind_eq_some_iff.mp H
 obtain ⟨⟨t388, t389⟩, A50, H⟩ := H
 replace H : ((spoorref16_Peers.f k l0).bind fun bt392 => ((spoorlaw16_lives.f k).bind fun t396 => (if t396 = true then (if t384 = t386 then (if t385 = t387 then ((spoorref16_Alike.f k t388 bt392.1).bind fun t397 => (if t397 = true then (some (t389 == bt392.2)) else (none))) else (none)) else (none)) else (none)))) = some r := H
 have A5 := Ax A50
 clear A50
 replace H := Option.bind_eq_some_iff.mp H
 obtain ⟨⟨t392, t393⟩, A60, H⟩ := H
 replace H : ((spoorlaw16_lives.f k).bind fun t396 => (if t396 = true then (if t384 = t386 then (if t385 = t387 then ((spoorref16_Alike.f k t388 t392).bind fun t397 => (if t397 = true then (some (t389 == t393)) else (none))) else (none)) else (none)) else (none))) = some r := H
 have A6 := Ax A60
 clear A60
 replace H := Option.bind_eq_some_iff.mp H
 obtain ⟨t396, A70, H⟩ := H
 replace H : (if t396 = true then (if t384 = t386 then (if t385 = t387 then ((spoorref16_Alike.f k t388 t392).bind fun t397 => (if t397 = true then (some (t389 == t393)) else (none))) else (none)) else (none)) else (none)) = some r := H
 have A7 := Ax A70
 clear A70
 by_cases c8 : t396 = true
 ·subst c8
  have H1 : (if t384 = t386 then (if t385 = t387 then ((spoorref16_Alike.f k t388 t392).bind fun t397 => (if t397 = true then (some (t389 == t393)) else (none))) else (none)) else (none)) = some r := by rw [if_pos rfl] at H; exact H
  clear H
  have H := H1
  clear H1
  by_cases c9 : t384 = t386
  ·rw [if_pos c9] at H
   have c9b0 : (t384 == t386) = true := beq_iff_eq.mpr c9
   have c9b1 : (t384 != t386) = false := bne_eq_false_iff_eq.mpr c9
   clear c9
   by_cases c10 : t385 = t387
   ·rw [if_pos c10] at H
    have c10b0 : (t385 == t387) = true := beq_iff_eq.mpr c10
    have c10b1 : (t385 != t387) = false := bne_eq_false_iff_eq.mpr c10
    clear c10
    replace H := Option.bind_eq_some_iff.mp H
    obtain ⟨t397, A110, H⟩ := H
    replace H : (if t397 = true then (some (t389 == t393)) else (none)) = some r := H
    have A11 := Ax A110
    clear A110
    by_cases c12 : t397 = true
    ·subst c12
     have H1 : (some (t389 == t393)) = some r := by rw [if_pos rfl] at H; exact H
     clear H
     have H := H1
     clear H1
     obtain rfl := Option.some.inj H
     go_enter Try.func4, Try.ntmps4
     go_wp2_with (first | ((with_reducible refine gate_callee (f := 15) rfl ?_); refine goesL_ (some 16) rfl rfl Try.func15 (by kernel_rfl) rfl #[.slice A0 l0.length c0, .int .i64 a1] rfl gS ?_; (with_reducible refine (links_Peer.calls k _ _ l0 a1 t384 t385 _ ?side1 ?side2 A3.out).mono ?_); (case side1 => repeat (first | exact HR0.out | (with_reducible refine Kd.C_alloc ?_ _) | (with_reducible refine Kd.C_drewN ?_ _) | (with_reducible refine Kd.C_drew ?_))); (case side2 => exact HC0.out); rintro e w13 ⟨rfl, hb⟩; refine ⟨_, rfl, ?_⟩; replace HB := Bs0 HB hb; (try clear hb)) | ((with_reducible refine gate_callee (f := 16) rfl ?_); refine goesL_ (some 22) rfl rfl Try.func16 (by kernel_rfl) rfl #[.slice A0 l0.length c0, .int .i64 a1] rfl gS ?_; (with_reducible refine (spoorref16_Peer.calls k _ _ l0 a1 t386 t387 _ ?side1 ?side2 A4.out).mono ?_); (case side1 => repeat (first | exact (Kd.C_below HR0.out HB.out) | (with_reducible refine Kd.C_alloc ?_ _) | (with_reducible refine Kd.C_drewN ?_ _) | (with_reducible refine Kd.C_drew ?_))); (case side2 => exact HC0.out); rintro e w14 ⟨rfl, hb⟩; refine ⟨_, rfl, ?_⟩; replace HB := Bs0 HB hb; (try clear hb)) | ((with_reducible refine gate_callee (f := 17) rfl ?_); refine goesL_ (some 27) rfl rfl Try.func17 (by kernel_rfl) rfl #[.slice A0 l0.length c0] rfl gS ?_; (with_reducible refine (links_Peers.calls k _ _ l0 t388 t389 _ ?side1 ?side2 A5.out).mono ?_); (case side1 => repeat (first | exact (Kd.C_below HR0.out HB.out) | (with_reducible refine Kd.C_alloc ?_ _) | (with_reducible refine Kd.C_drewN ?_ _) | (with_reducible refine Kd.C_drew ?_))); (case side2 => exact HC0.out); rintro e w15 ⟨v390, rfl, ho0, hb⟩; refine ⟨_, rfl, ?_⟩; have HO391 := Ax (Kd.R_lower ho0 (below_size (bw0 HB.out))); replace HB := Bs0 HB hb; (try clear hb); (try clear ho0)) | ((with_reducible refine gate_callee (f := 18) rfl ?_); refine goesL_ (some 32) rfl rfl Try.func18 (by kernel_rfl) rfl #[.slice A0 l0.length c0] rfl gS ?_; (with_reducible refine (spoorref16_Peers.calls k _ _ l0 t392 t393 _ ?side1 ?side2 A6.out).mono ?_); (case side1 => repeat (first | exact (Kd.C_below HR0.out HB.out) | (with_reducible refine Kd.C_alloc ?_ _) | (with_reducible refine Kd.C_drewN ?_ _) | (with_reducible refine Kd.C_drew ?_))); (case side2 => exact HC0.out); rintro e w16 ⟨v394, rfl, ho0, hb⟩; refine ⟨_, rfl, ?_⟩; have n0_ := Ax (Kd.R_elder' (by (with_reducible repeat (first | apply Kd.R_alloc | apply Kd.R_drewN | apply Kd.R_drew)); exact HO391.out) (Kd.R_base ho0) hb); have n1_ := Ax (Kd.R_lower (Kd.R_new' ho0 (Kd.R_lt (by (with_reducible repeat (first | apply Kd.R_alloc | apply Kd.R_drewN | apply Kd.R_drew)); exact HO391.out))) (below_size (bw0 HB.out))); have n2_ := Bs0 HB hb; clear HO391; clear HB; have HO391 := n0_; have HO395 := n1_; have HB := n2_; clear n0_ n1_ n2_; (try clear hb); (try clear ho0)) | ((with_reducible refine gate_callee (f := 11) rfl ?_); refine goesL_ (some 35) rfl rfl Try.func11 (by kernel_rfl) rfl #[] rfl gS ?_; (with_reducible refine (spoorlaw16_lives.calls k  true _ A7.out).mono ?_); rintro e w17 ⟨rfl, hb⟩; refine ⟨_, rfl, ?_⟩; have n0_ := Ax (Kd.R_below (by (with_reducible repeat (first | apply Kd.R_alloc | apply Kd.R_drewN | apply Kd.R_drew)); exact HO391.out) hb); have n1_ := Ax (Kd.R_below (by (with_reducible repeat (first | apply Kd.R_alloc | apply Kd.R_drewN | apply Kd.R_drew)); exact HO395.out) hb); have n2_ := Bs0 HB hb; clear HO391; clear HO395; clear HB; have HO391 := n0_; have HO395 := n1_; have HB := n2_; clear n0_ n1_ n2_; (try clear hb); obtain ⟨Ao18, co18, eo18⟩ := Kd.R_slice HO391.out; subst eo18; obtain ⟨Ao19, co19, eo19⟩ := Kd.R_slice HO395.out; subst eo19) | (go_at_call 19; (with_reducible refine (spoorref16_Alike.calls k _ _ t388 _ _ t392 true _ ?side1 ?side2 ?side3 ?side4 A11.out).mono ?_); (case side1 => repeat (first | exact (Kd.R_reads' HO391.out).2.2 | (with_reducible refine Kd.C_alloc ?_ _) | (with_reducible refine Kd.C_drewN ?_ _) | (with_reducible refine Kd.C_drew ?_))); (case side2 => exact (Kd.R_reads' HO391.out).2.1); (case side3 => repeat (first | exact (Kd.R_reads' HO395.out).2.2 | (with_reducible refine Kd.C_alloc ?_ _) | (with_reducible refine Kd.C_drewN ?_ _) | (with_reducible refine Kd.C_drew ?_))); (case side4 => exact (Kd.R_reads' HO395.out).2.1); rintro e w' ⟨rfl, ⟨nd, rfl⟩⟩))
     go_ret
     exact ⟨eS, bw0 HB.out⟩
    ·replace c12 := Bool.eq_false_iff.mpr c12
     subst c12
     have H1 : (none) = some r := by rw [if_neg (show ¬ (false = true) by decide)] at H; exact H
     clear H
     have H := H1
     clear H1
     exact absurd H (by simp)
   ·rw [if_neg c10] at H
    exact absurd H (by simp)
  ·rw [if_neg c9] at H
   exact absurd H (by simp)
 ·replace c8 := Bool.eq_false_iff.mpr c8
  subst c8
  have H1 : (none) = some r := by rw [if_neg (show ¬ (false = true) by decide)] at H; exact H
  clear H
  have H := H1
  clear H1
  exact absurd H (by simp)
end Go.Proofs.Ytalkiicjdafhdaa.Q
end
section
namespace Go.Proofs.Ytalkiicjdafhdaa.Open
set_option linter.unusedVariables false
open Go.RowKit Go.WideShapes Go.Proofs.YtalkiicjdafhdaaW.PrintWords Go.Proofs.YtalkiicjdafhdaaW.PrintLast Go.Proofs.YtalkiicjdafhdaaW.PrintMore
open Go.Proofs.Ytalkiicjdafhdaa.Rows (uptoBulk uptoBulkAll)
def Opens {α : Type} (P : Program) (t : TypeId) (K : Kd α) (wf : α → Prop) (mu : α → Nat) : Prop :=
  ∀ {H : Type} (enc : TypeId × Value → H) (W : World) (spare : Nat → Bool) (held : Bool) (n : Nat) (cs : List Value) (x : DataW H × List MemPlace),
    DataW.trod enc P W 0 spare held n t cs = some x → ∃ a, K.K W a cs ∧ wf a ∧ mu a ≤ uptoBulk x.1
def wfInt (k : IntKind) (n : Int) : Prop := (Lit.int k n).wf = true
def wfAll {α : Type} (wf : α → Prop) (l : List α) : Prop := ∀ a ∈ l, wf a
def mu1 {α : Type} (_ : α) : Nat := 1
def muAll {α : Type} (mu : α → Nat) : List α → Nat
  | [] => 1
  | a :: l => mu a + muAll mu l
theorem wfAll_nil {α : Type} (wf : α → Prop) : wfAll wf [] := fun _ h => by cases h
theorem opens_int {P : Program} {t : TypeId} {k : IntKind} (hu : P.underlying t = some (.int k)) : Opens P t (Kd.int k) (wfInt k) mu1 := by
  intro H enc W spare held n cs x h
  obtain ⟨a, rfl, rfl, hw⟩ := DataW.trod_int hu h
  exact ⟨a, rfl, hw, by simp [mu1, uptoBulk]⟩
theorem opens_list {α H : Type} {P : Program} {e : TypeId} {K : Kd α} {wf : α → Prop} {mu : α → Nat} (he : Opens P e K wf mu) (enc : TypeId × Value → H) (W : World) (spare : Nat → Bool) (held : Bool) (n : Nat) (rd : Nat → Option (List Value)) :
    ∀ (elems : List (DataW H × List MemPlace)) (off : Nat), (∀ i, i < elems.length → (rd (off + i)).bind (DataW.trod enc P W 0 spare held n e) = elems[i]?) →
      ∃ l : List α, l.length = elems.length ∧ (∀ i a, l[i]? = some a → ∃ cs, rd (off + i) = some cs ∧ K.K W a cs) ∧ wfAll wf l ∧ muAll mu l ≤ uptoBulkAll (elems.map (·.1)) + 1
  | [], off, _ => ⟨[], rfl, (fun i a h => by simp at h), wfAll_nil _, by simp [muAll, uptoBulkAll]⟩
  | x :: elems, off, h => by
    have h0 := h 0 (by simp)
    simp only [Nat.add_zero, List.getElem?_cons_zero] at h0
    obtain ⟨cs, hc, ht⟩ := Option.bind_eq_some_iff.1 h0
    obtain ⟨a, hK, hw, hm⟩ := he enc W spare held n cs x ht
    obtain ⟨l, hl, hr, hwf, hmu⟩ := opens_list he enc W spare held n rd elems (off + 1) (fun i hi => by
      have := h (i + 1) (by simp; omega)
      rw [List.getElem?_cons_succ] at this
      rwa [show off + 1 + i = off + (i + 1) by omega])
    refine ⟨a :: l, by simp [hl], ?_, ?_, ?_⟩
    · intro i b hb
      cases i with
      | zero =>
        obtain rfl : a = b := by simpa using hb
        exact ⟨cs, hc, hK⟩
      | succ i =>
        rw [List.getElem?_cons_succ] at hb
        obtain ⟨cs', h1, h2⟩ := hr i b hb
        exact ⟨cs', by rwa [show off + (i + 1) = off + 1 + i by omega], h2⟩
    · intro b hb
      rcases List.mem_cons.1 hb with rfl | hb
      · exact hw
      · exact hwf b hb
    · simp only [muAll, List.map_cons, uptoBulkAll]
      omega
theorem cells_some {W : World} {ad : Addr} {n : Nat} {cs : List Value} (h : W.cells? 0 ad n = some cs) : cs.length = n ∧ ∀ i u, cs[i]? = some u → W.cell? (ad.add i) = some u := by
  obtain ⟨_, hl, hc⟩ := World.cells?_some h
  refine ⟨hl, fun i u hi => ?_⟩
  rw [hc i (by rw [← hl]; exact (List.getElem?_eq_some_iff.1 hi).1)]
  exact hi
theorem opens_slice {α : Type} {P : Program} {t e : TypeId} {K : Kd α} {wf : α → Prop} {mu : α → Nat} (he : Opens P e K wf mu) (hu : P.underlying t = some (.slice e)) (hsz : P.cellsOf e = K.sz) (e' : Nat) :
    Opens P t (Kd.slice e' K) (fun l => wfAll wf l ∧ l.length ≤ maxLen) (muAll mu) := by
  intro H enc W spare held n cs x h
  rcases DataW.trod_slice hu h with ⟨rfl, rfl⟩ | ⟨a, len, cap, elems, rest, m, rfl, rfl, rfl, _, hlc, hcm, hel, hrd, _, _⟩
  · exact ⟨[], ⟨none, 0, rfl, Nat.le_refl _, rfl, Nat.zero_le _, fun h => absurd h (Nat.lt_irrefl _)⟩, ⟨wfAll_nil _, by simp⟩, by simp [muAll, uptoBulk]⟩
  · obtain ⟨l, hl, hr, hw, hm⟩ := opens_list he enc W spare held m (fun i => W.cells? 0 (a.add (i * P.cellsOf e)) (P.cellsOf e)) elems 0 (fun i hi => by
      rw [Nat.zero_add]
      exact hrd i (by omega))
    refine ⟨l, ⟨some a, cap, by rw [hl, hel], by omega, ?_⟩, ⟨hw, by omega⟩, ?_⟩
    · refine ⟨rfl, by simp only [maxLen] at hcm; omega, fun _ => ⟨a, rfl, fun j p hp => ?_⟩⟩
      obtain ⟨cs, hc, hK⟩ := hr j p hp
      rw [Nat.zero_add] at hc
      obtain ⟨h1, h2⟩ := cells_some hc
      refine ⟨cs, by rw [h1, hsz], hK, fun i u hi => ?_⟩
      have := h2 i u hi
      rwa [Addr.add_add, hsz] at this
    · simp only [uptoBulk]
      omega
theorem sized_row {H : Type} {enc : TypeId × Value → H} {P : Program} {W : World} {base : Nat} {spare : Nat → Bool} {held : Bool} {t e : TypeId} {a : Option Addr} {len cap : Nat} {d : DataW H} {ps : List MemPlace} {ts : List TypeId} {ds : List (DataW H)} {j : Nat}
    (hsz : (DataW.weightsEach P ts ds).all (· ≤ reachBytes) = true) (ht : ts[j]? = some t) (hd : ds[j]? = some d) (hu : P.underlying t = some (.slice e)) {B : Nat} (hB : P.bytesOf e = B)
    (h : DataW.Trod enc P W base spare held t (.slice a len cap) d ps) : len * B ≤ 140737488351232 := by
  obtain ⟨fuel, hf⟩ := h
  rcases DataW.trod_slice hu hf with ⟨hcs, _⟩ | ⟨a', len', cap', elems, rest, m, _, hcs, hx, _, hlc, hcm, hel, hrd, _, _⟩
  · simp [Value.cells] at hcs
    obtain ⟨rfl, rfl, rfl⟩ := hcs
    simp
  · simp [Value.cells] at hcs
    obtain ⟨rfl, rfl, rfl⟩ := hcs
    obtain ⟨hx, _⟩ := Prod.mk.inj hx
    subst hx
    have z := sized_slice hsz ht hd hu
    rw [hB] at z
    exact Nat.le_trans (Nat.mul_le_mul_right _ (by simp only [List.length_map]; omega)) z
end Go.Proofs.Ytalkiicjdafhdaa.Open
end
section
namespace Go.Proofs.Ytalkiicjdafhdaa.Q
set_option linter.unusedVariables false
set_option linter.unusedSimpArgs false
open Go.RowKit Go.Proofs.YtalkiicjdafhdaaW.PrintWords Go.Proofs.YtalkiicjdafhdaaW.PrintLast Go.Proofs.YtalkiicjdafhdaaW.PrintMore Go.Proofs.Ytalkiicjdafhdaa.Open
open Go.Proofs.Ytalkiicjdafhdaa.Rows (uptoBulk uptoBulkAll)
def wf24 (x : S24) : Prop := (wfInt .i64) x.f0 ∧ (wfInt .i64) x.f1
def mu24 (x : S24) : Nat := mu1 x.f0 + mu1 x.f1 + 1
set_option maxRecDepth 100000 in
theorem opn24 : Opens Try.prog 24 k24 wf24 mu24 := by
  intro H enc W spare held n cs x h
  obtain ⟨xs, m, rfl, rfl, hl, hs, hf⟩ := DataW.trod_struct Try.underlying24 h
  have hc : cs.length = 2 := hl.trans (by kernel_rfl)
  have hx : xs.length = 2 := hs
  clear hl hs h
  match cs, hc, xs, hx, hf with
  | [c0, c1], _, [y0, y1], _, hf =>
    have e0 : Try.prog.cellsOf 3 = 1 := by kernel_rfl
    have e1 : Try.prog.cellsOf 3 = 1 := by kernel_rfl
    have g0 := hf 0 _ rfl
    simp only [List.getElem_toArray, List.getElem_cons_zero, List.getElem_cons_succ, e0] at g0
    obtain ⟨a0, K0, w0, m0⟩ := (opens_int Try.underlying3) enc W spare held m [c0] y0 g0
    have g1 := hf 1 _ rfl
    simp only [List.getElem_toArray, List.getElem_cons_zero, List.getElem_cons_succ, e1] at g1
    obtain ⟨a1, K1, w1, m1⟩ := (opens_int Try.underlying3) enc W spare held m [c1] y1 g1
    exact ⟨⟨a0, a1⟩, ⟨[c0], [c1], rfl, K0, K1⟩, ⟨w0, w1⟩, by simp only [mu24, List.map_cons, List.map_nil, uptoBulk, uptoBulkAll]; omega⟩
end Go.Proofs.Ytalkiicjdafhdaa.Q
end
section
namespace Go.Proofs.Ytalkiicjdafhdaa.Q
set_option linter.unusedVariables false
open Go.RowKit Go.Proofs.YtalkiicjdafhdaaW.PrintWords Go.Proofs.YtalkiicjdafhdaaW.PrintLast Go.Proofs.YtalkiicjdafhdaaW.PrintMore Go.Proofs.Ytalkiicjdafhdaa.Open
def spoorlaw16_LinksAsk.Pure : Prop := ∀ (l0 : List (S24)) (a1 : Int), (fun l => wfAll wf24 l ∧ l.length ≤ maxLen) l0 → (wfInt .i64) a1 → l0.length * 16 ≤ 140737488351232 → ∃ k, spoorlaw16_LinksAsk.f k l0 a1 = some true
end Go.Proofs.Ytalkiicjdafhdaa.Q
end
section
namespace Go.Proofs.Ytalkiicjdafhdaa.Base
set_option linter.unusedVariables false
open Go.RowKit Go.Proofs.YtalkiicjdafhdaaW.PrintWords Go.Proofs.YtalkiicjdafhdaaW.PrintLast Go.Proofs.YtalkiicjdafhdaaW.PrintMore
theorem Ev.pos {α : Type} {c : Prop} [Decidable c] {f g : Nat → Option α} {r : α} (h : c) (k : Ev f r) : Ev (fun n => if c then f n else g n) r := Ev.congr (fun _ => if_pos h) k
theorem Ev.neg {α : Type} {c : Prop} [Decidable c] {f g : Nat → Option α} {r : α} (h : ¬ c) (k : Ev g r) : Ev (fun n => if c then f n else g n) r := Ev.congr (fun _ => if_neg h) k
theorem Ev.const {α : Type} {o : Option α} {r : α} (h : o = some r) : Ev (fun _ => o) r := ⟨0, fun _ _ => h⟩
theorem Ev.succ {α : Type} {g : Nat → Option α} {r : α} (h : Ev (fun k => g (k + 1)) r) : Ev g r := Ev.step (fun _ => rfl) h
theorem Ev.to {α : Type} {g : Nat → Option α} {r q : α} (h : Ev g r) (e : r = q) : Ev g q := e ▸ h
theorem w64 {n : Int} (h0 : -9223372036854775808 ≤ n) (h1 : n ≤ 9223372036854775807) : wrap64 n = n := by unfold wrap64; omega
def Bytes (l : List Int) : Prop := ∀ x ∈ l, 0 ≤ x ∧ x < 256
theorem Bytes.nil : Bytes [] := fun _ h => by cases h
theorem Bytes.cons {x : Int} {l : List Int} (h0 : 0 ≤ x) (h1 : x < 256) (h : Bytes l) : Bytes (x :: l) := fun y hy => by
  rcases List.mem_cons.1 hy with rfl | hy
  · exact ⟨h0, h1⟩
  · exact h y hy
theorem Bytes.head {x : Int} {l : List Int} (h : Bytes (x :: l)) : 0 ≤ x ∧ x < 256 := h x (by simp)
theorem Bytes.append {a b : List Int} (ha : Bytes a) (hb : Bytes b) : Bytes (a ++ b) := fun x hx => (List.mem_append.1 hx).elim (ha x) (hb x)
theorem Bytes.left {a b : List Int} (h : Bytes (a ++ b)) : Bytes a := fun x hx => h x (by simp [hx])
theorem Bytes.drop {l : List Int} (h : Bytes l) (n : Nat) : Bytes (l.drop n) := fun x hx => h x (List.mem_of_mem_drop hx)
theorem Bytes.take {l : List Int} (h : Bytes l) (n : Nat) : Bytes (l.take n) := fun x hx => h x (List.mem_of_mem_take hx)
theorem drop_lt {l : List Int} {i : Nat} {x : Int} {r : List Int} (h : l.drop i = x :: r) : i < l.length := by
  rcases Nat.lt_or_ge i l.length with g | g
  · exact g
  · rw [List.drop_eq_nil_of_le g] at h; cases h
theorem drop_next {α : Type} {l : List α} {i : Nat} {x : α} {r : List α} (h : l.drop i = x :: r) : l.drop (i + 1) = r := by
  rw [← List.drop_drop, h]; rfl
theorem drop_nil_le {α : Type} {l : List α} {i : Nat} (h : l.drop i = []) : l.length ≤ i := List.drop_eq_nil_iff.1 h
end Go.Proofs.Ytalkiicjdafhdaa.Base
end
section
namespace Go.Proofs.Ytalkiicjdafhdaa.Lnk
set_option linter.unusedVariables false
open Go.RowKit Go.Proofs.Ytalkiicjdafhdaa.Q Go.Proofs.YtalkiicjdafhdaaW.PrintWords Go.Proofs.YtalkiicjdafhdaaW.PrintLast Go.Proofs.Ytalkiicjdafhdaa.Base
abbrev Lk := S24
def okR (x : Lk) : Prop := 0 ≤ x.f0 ∧ x.f0 ≤ 65536 ∧ 0 ≤ x.f1 ∧ x.f1 ≤ 1048576
instance (x : Lk) : Decidable (okR x) := inferInstanceAs (Decidable (0 ≤ x.f0 ∧ x.f0 ≤ 65536 ∧ 0 ≤ x.f1 ∧ x.f1 ≤ 1048576))
theorem right_eq (a b : Int) : links_right.f a b = some (decide (okR ⟨a, b⟩)) := by
  unfold links_right.f
  by_cases h1 : a ≥ 0
  · rw [if_pos h1]
    by_cases h2 : a ≤ 65536
    · rw [if_pos h2]
      by_cases h3 : b ≥ 0
      · rw [if_pos h3]
        by_cases h4 : b ≤ 1048576
        · rw [decide_eq_true h4, decide_eq_true (show okR ⟨a, b⟩ from ⟨h1, h2, h3, h4⟩)]
        · rw [decide_eq_false h4, decide_eq_false (show ¬ okR ⟨a, b⟩ from fun h => h4 h.2.2.2)]
      · rw [if_neg h3, decide_eq_false (show ¬ okR ⟨a, b⟩ from fun h => h3 h.2.2.1)]
    · rw [if_neg h2, decide_eq_false (show ¬ okR ⟨a, b⟩ from fun h => h2 h.2.1)]
  · rw [if_neg h1, decide_eq_false (show ¬ okR ⟨a, b⟩ from fun h => h1 h.1)]
theorem one_eq (a b : Int) : spoorref16_one.f a b = some (decide (okR ⟨a, b⟩)) := right_eq a b
def goB (p : Int) : List Lk → Bool
  | [] => true
  | x :: r => decide (okR x) && decide (p < x.f0) && goB x.f0 r
abbrev Srt (l : List Lk) : Prop := l.Pairwise (fun a b => a.f0 < b.f0)
theorem goB_iff : ∀ (l : List Lk) (p : Int), goB p l = true ↔ (∀ x ∈ l, okR x ∧ p < x.f0) ∧ Srt l
  | [], p => by simp [goB]
  | x :: r, p => by
    simp only [goB, Bool.and_eq_true, decide_eq_true_iff, List.forall_mem_cons, List.pairwise_cons, Srt]
    rw [goB_iff r x.f0]
    constructor
    · rintro ⟨⟨h1, h2⟩, h3, h4⟩
      exact ⟨⟨⟨h1, h2⟩, fun y hy => ⟨(h3 y hy).1, by have := (h3 y hy).2; omega⟩⟩, fun y hy => (h3 y hy).2, h4⟩
    · rintro ⟨⟨⟨h1, h2⟩, h3⟩, h4, h5⟩
      exact ⟨⟨h1, h2⟩, fun y hy => ⟨(h3 y hy).1, h4 y hy⟩, h5⟩
def okL (l : List Lk) : Prop := l.length ≤ 32 ∧ (∀ x ∈ l, okR x) ∧ Srt l
theorem okL_iff (l : List Lk) : (l.length ≤ 32 ∧ goB (-1) l = true) ↔ okL l := by
  unfold okL
  rw [goB_iff]
  exact ⟨fun h => ⟨h.1, fun x hx => (h.2.1 x hx).1, h.2.2⟩, fun h => ⟨h.1, fun x hx => ⟨h.2.1 x hx, by have := (h.2.1 x hx).1; omega⟩, h.2.2⟩⟩
instance (l : List Lk) : Decidable (okL l) := decidable_of_iff _ (okL_iff l)
theorem rdL {l : List Lk} {i : Nat} {x : Lk} {r : List Lk} (h : l.drop i = x :: r) : rd_T24 l (i : Int) = x := by
  have h1 : l[i]? = some x := by
    have := List.getElem?_drop (xs := l) (i := i) (j := 0)
    rw [h] at this
    simpa using this.symm
  simp [rd_T24, List.getD_eq_getElem?_getD, h1]
theorem rdLn {l : List Lk} {i : Nat} (h : i < l.length) : rd_T24 l (i : Int) = l[i] := by
  simp [rd_T24, List.getD_eq_getElem?_getD, h]
theorem ltL {α : Type} {l : List α} {i : Nat} {x : α} {r : List α} (h : l.drop i = x :: r) : i < l.length := by
  rcases Nat.lt_or_ge i l.length with g | g
  · exact g
  · rw [List.drop_eq_nil_of_le g] at h; cases h
theorem chk_l (l : List Lk) (hl : l.length ≤ 32) : ∀ (r : List Lk) (i : Nat) (p : Int), l.drop i = r → Ev (fun k => links_Check.l0 k p l (l.length : Int) (i : Int)) (if goB p r = true then 0 else 2)
  | [], i, p, hd => by
    have := drop_nil_le hd
    refine Ev.succ ?_
    simp only [links_Check.l0]
    exact Ev.neg (by omega) (Ev.const rfl)
  | x :: r, i, p, hd => by
    have hlt := ltL hd
    refine Ev.succ ?_
    simp only [links_Check.l0, rdL hd, right_eq]
    refine Ev.pos (by omega) (Ev.pos (by omega) (Ev.pos (by omega) (Ev.bind (a := decide (okR x)) (Ev.const rfl) ?_)))
    by_cases c : okR x
    · refine Ev.pos (decide_eq_true c) ?_
      by_cases d : x.f0 ≤ p
      · refine Ev.pos d (Ev.const ?_)
        rw [if_neg]
        simp only [goB, Bool.and_eq_true, decide_eq_true_iff]
        exact fun h => by omega
      · refine Ev.neg d ?_
        rw [w64 (n := (i : Int) + 1) (by omega) (by omega)]
        refine Ev.to (chk_l l hl r (i + 1) x.f0 (drop_next hd)) ?_
        have e : goB p (x :: r) = goB x.f0 r := by
          simp only [goB]
          rw [decide_eq_true c, decide_eq_true (show p < x.f0 by omega), Bool.true_and, Bool.true_and]
        rw [e]
    · refine Ev.neg (by simp [c]) (Ev.const ?_)
      rw [if_neg]
      simp only [goB, Bool.and_eq_true, decide_eq_true_iff]
      exact fun h => c h.1.1
def chkV (l : List Lk) : Int := if okL l then 0 else 2
theorem chk_ev (l : List Lk) : Ev (fun k => links_Check.f k l) (chkV l) := by
  simp only [links_Check.f]
  unfold chkV
  by_cases h : (l.length : Int) > 32
  · rw [if_neg (fun hh : okL l => by have := hh.1; omega)]
    exact Ev.pos h (Ev.const rfl)
  · refine Ev.neg h (Ev.to (chk_l l (by omega) l 0 (-1) rfl) ?_)
    by_cases g : goB (-1) l = true
    · rw [if_pos g, if_pos ((okL_iff l).1 ⟨by omega, g⟩)]
    · rw [if_neg g, if_neg (fun hh => g ((okL_iff l).2 hh).2)]
theorem rchk_l (l : List Lk) (hl : l.length ≤ 32) : ∀ (r : List Lk) (i : Nat) (p : Int), l.drop i = r → (p = if i = 0 then -1 else (rd_T24 l ((i - 1 : Nat) : Int)).f0) → Ev (fun k => spoorref16_Check.l0 k l l (l.length : Int) (i : Int)) (if goB p r = true then 0 else 2)
  | [], i, p, hd, hp => by
    have := drop_nil_le hd
    refine Ev.succ ?_
    simp only [spoorref16_Check.l0]
    exact Ev.neg (by omega) (Ev.const rfl)
  | x :: r, i, p, hd, hp => by
    have hlt := ltL hd
    refine Ev.succ ?_
    simp only [spoorref16_Check.l0, rdL hd, one_eq]
    refine Ev.pos (by omega) (Ev.pos (by omega) (Ev.pos (by omega) (Ev.bind (a := decide (okR x)) (Ev.const rfl) ?_)))
    have hn : Ev (fun k => spoorref16_Check.l0 k l l (l.length : Int) (wrap64 ((i : Int) + 1))) (if goB x.f0 r = true then 0 else 2) := by
      rw [w64 (n := (i : Int) + 1) (by omega) (by omega)]
      refine rchk_l l hl r (i + 1) x.f0 (drop_next hd) ?_
      rw [if_neg (Nat.succ_ne_zero i), Nat.add_sub_cancel, rdL hd]
    by_cases c : okR x
    · refine Ev.pos (decide_eq_true c) ?_
      have e : p < x.f0 → goB p (x :: r) = goB x.f0 r := fun h => by
        simp only [goB]
        rw [decide_eq_true c, decide_eq_true h, Bool.true_and, Bool.true_and]
      by_cases i0 : i = 0
      · refine Ev.neg (by omega) ?_
        rw [e (by rw [hp, if_pos i0]; have := c.1; omega)]
        exact hn
      · refine Ev.pos (by omega) ?_
        rw [if_neg i0] at hp
        have ew : wrap64 ((i : Int) - 1) = ((i - 1 : Nat) : Int) := by rw [w64 (by omega) (by omega)]; omega
        simp only [ew, ← hp]
        refine Ev.pos (by omega) (Ev.pos (by omega) ?_)
        by_cases d : p ≥ x.f0
        · refine Ev.pos d (Ev.const ?_)
          rw [if_neg]
          simp only [goB, Bool.and_eq_true, decide_eq_true_iff]
          exact fun h => by omega
        · refine Ev.neg d ?_
          rw [e (by omega)]
          exact hn
    · refine Ev.neg (by simp [c]) (Ev.const ?_)
      rw [if_neg]
      simp only [goB, Bool.and_eq_true, decide_eq_true_iff]
      exact fun h => c h.1.1
theorem rchk_ev (l : List Lk) : Ev (fun k => spoorref16_Check.f k l) (chkV l) := by
  simp only [spoorref16_Check.f]
  unfold chkV
  by_cases h : (l.length : Int) > 32
  · rw [if_neg (fun hh : okL l => by have := hh.1; omega)]
    exact Ev.pos h (Ev.const rfl)
  · refine Ev.neg h (Ev.to (rchk_l l (by omega) l 0 (-1) rfl rfl) ?_)
    by_cases g : goB (-1) l = true
    · rw [if_pos g, if_pos ((okL_iff l).1 ⟨by omega, g⟩)]
    · rw [if_neg g, if_neg (fun hh => g ((okL_iff l).2 hh).2)]
def loL (n : Int) (l : List Lk) : List Lk := l.filter (fun x => decide (x.f0 < n))
def eqL (n : Int) (l : List Lk) : List Lk := l.filter (fun x => decide (x.f0 = n))
def hiL (n : Int) (l : List Lk) : List Lk := l.filter (fun x => decide (n < x.f0))
theorem mem_lo {n : Int} {l : List Lk} {z : Lk} : z ∈ loL n l ↔ z ∈ l ∧ z.f0 < n := by unfold loL; rw [List.mem_filter, decide_eq_true_iff]
theorem mem_eq {n : Int} {l : List Lk} {z : Lk} : z ∈ eqL n l ↔ z ∈ l ∧ z.f0 = n := by unfold eqL; rw [List.mem_filter, decide_eq_true_iff]
theorem mem_hi {n : Int} {l : List Lk} {z : Lk} : z ∈ hiL n l ↔ z ∈ l ∧ n < z.f0 := by unfold hiL; rw [List.mem_filter, decide_eq_true_iff]
theorem split3 (n : Int) : ∀ (l : List Lk), Srt l → l = loL n l ++ (eqL n l ++ hiL n l) ∧ (eqL n l = [] ∨ ∃ y, eqL n l = [y])
  | [], _ => ⟨rfl, .inl rfl⟩
  | x :: r, h => by
    obtain ⟨h1, h2⟩ := List.pairwise_cons.1 h
    obtain ⟨i1, i2⟩ := split3 n r h2
    by_cases c : x.f0 < n
    · have a1 : loL n (x :: r) = x :: loL n r := List.filter_cons_of_pos (decide_eq_true c)
      have a2 : eqL n (x :: r) = eqL n r := List.filter_cons_of_neg (by simp; omega)
      have a3 : hiL n (x :: r) = hiL n r := List.filter_cons_of_neg (by simp; omega)
      rw [a1, a2, a3]
      exact ⟨by rw [List.cons_append, ← i1], i2⟩
    · have b1 : loL n r = [] := List.filter_eq_nil_iff.2 fun y hy => by have := h1 y hy; simp; omega
      have b2 : eqL n r = [] := List.filter_eq_nil_iff.2 fun y hy => by have := h1 y hy; simp; omega
      have a1 : loL n (x :: r) = loL n r := List.filter_cons_of_neg (by simp; omega)
      have b3 : hiL n r = r := List.filter_eq_self.2 fun y hy => by have := h1 y hy; simp; omega
      by_cases d : x.f0 = n
      · have a2 : eqL n (x :: r) = x :: eqL n r := List.filter_cons_of_pos (decide_eq_true d)
        have a3 : hiL n (x :: r) = hiL n r := List.filter_cons_of_neg (by simp; omega)
        rw [a1, a2, a3, b1, b2, b3]
        exact ⟨rfl, .inr ⟨x, rfl⟩⟩
      · have a2 : eqL n (x :: r) = eqL n r := List.filter_cons_of_neg (by simp; omega)
        have a3 : hiL n (x :: r) = x :: hiL n r := List.filter_cons_of_pos (by simp; omega)
        rw [a1, a2, a3, b1, b2, b3]
        exact ⟨rfl, .inl rfl⟩
theorem low_at {n : Int} {l : List Lk} (h : Srt l) {m : Nat} (hm : m < l.length) : (rd_T24 l (m : Int)).f0 < n ↔ m < (loL n l).length := by
  obtain ⟨h1, _⟩ := split3 n l h
  rw [rdLn hm]
  constructor
  · intro g
    rcases Nat.lt_or_ge m (loL n l).length with c | c
    · exact c
    · have : l[m] ∈ eqL n l ++ hiL n l := by
        rw [List.getElem_of_eq h1 hm, List.getElem_append_right c]
        exact List.getElem_mem _
      rcases List.mem_append.1 this with e | e
      · have := (mem_eq.1 e).2; omega
      · have := (mem_hi.1 e).2; omega
  · intro g
    have : l[m] ∈ loL n l := by
      rw [List.getElem_of_eq h1 hm, List.getElem_append_left g]
      exact List.getElem_mem _
    exact (mem_lo.1 this).2
theorem bs_lo {n : Int} {l : List Lk} (h : Srt l) : ∀ (k i j : Nat), i ≤ (loL n l).length → (loL n l).length ≤ j → j ≤ l.length → j - i ≤ k → bsF l n k i j = (loL n l).length
  | 0, i, j, h1, h2, h3, h4 => by
    simp only [bsF]
    omega
  | k + 1, i, j, h1, h2, h3, h4 => by
    simp only [bsF]
    by_cases c : i < j
    · rw [if_pos c]
      have hm : (i + j) / 2 < l.length := by omega
      have hl := low_at (n := n) h hm
      by_cases d : (rd_T24 l (((i + j) / 2 : Nat) : Int)).f0 < n
      · rw [if_pos d]
        have := hl.1 d
        exact bs_lo h k _ j (by omega) h2 h3 (by omega)
      · rw [if_neg d]
        have : ¬ (i + j) / 2 < (loL n l).length := fun g => d (hl.2 g)
        exact bs_lo h k i _ h1 (by omega) (by omega) (by omega)
    · rw [if_neg c]
      omega
theorem lo_len (n : Int) (l : List Lk) : (loL n l).length ≤ l.length := List.length_filter_le _ _
theorem bs_is {l : List Lk} (h : Srt l) (n : Int) : bsF l n l.length 0 l.length = (loL n l).length :=
  bs_lo h l.length 0 l.length (Nat.zero_le _) (lo_len n l) (Nat.le_refl _) (Nat.le_of_eq (Nat.sub_zero _))
theorem fnd_is {l : List Lk} (h : Srt l) (n : Int) : ((loL n l).length < l.length ∧ (rd_T24 l (((loL n l).length : Nat) : Int)).f0 = n) ↔ eqL n l ≠ [] := by
  obtain ⟨h1, h2⟩ := split3 n l h
  constructor
  · rintro ⟨g1, g2⟩ e
    rw [rdLn g1] at g2
    have : l[(loL n l).length] ∈ eqL n l := mem_eq.2 ⟨List.getElem_mem _, g2⟩
    rw [e] at this
    cases this
  · intro e
    rcases h2 with h2 | ⟨y, hy⟩
    · exact absurd h2 e
    · have hl : l.drop (loL n l).length = y :: hiL n l := by
        have e2 : ∀ (A C : List Lk), (A ++ ([y] ++ C)).drop A.length = y :: C := fun A C => by simp
        have e3 := e2 (loL n l) (hiL n l)
        rw [← hy, ← h1] at e3
        exact e3
      refine ⟨ltL hl, ?_⟩
      rw [rdL hl]
      exact (mem_eq.1 (show y ∈ eqL n l by rw [hy]; exact List.mem_singleton.2 rfl)).2
def peerW (l : List Lk) (n : Int) : Int × Int := if okL l then ((eqL n l).headD ⟨0, 0⟩).f1 |> (fun p => if eqL n l = [] then (0, 3) else (p, 0)) else (0, 2)
theorem drop_lo {l : List Lk} (h : Srt l) (n : Int) : l.drop (loL n l).length = eqL n l ++ hiL n l := by
  have e2 : ∀ (A C : List Lk), (A ++ C).drop A.length = C := fun A C => by simp
  have e3 := e2 (loL n l) (eqL n l ++ hiL n l)
  rw [← (split3 n l h).1] at e3
  exact e3
theorem find_ev {l : List Lk} (h : okL l) (n : Int) : Ev (fun k => links_find.f k l n) (((loL n l).length : Nat), !(eqL n l).isEmpty) := by
  simp only [links_find.f, bs_is h.2.2]
  refine Ev.pos (by have := h.1; omega) (Ev.const ?_)
  congr 2
  by_cases c : eqL n l = []
  · rw [decide_eq_false (fun g => (fnd_is h.2.2 n).1 g c), c]
    rfl
  · rw [decide_eq_true ((fnd_is h.2.2 n).2 c)]
    cases g : eqL n l with
    | nil => exact absurd g c
    | cons => rfl
theorem peer_ev (l : List Lk) (n : Int) : Ev (fun k => links_Peer.f k l n) (peerW l n) := by
  simp only [links_Peer.f]
  refine Ev.bind (chk_ev l) ?_
  unfold chkV peerW
  by_cases c : okL l
  · rw [if_pos c, if_pos c]
    refine Ev.pos rfl (Ev.bind (find_ev c n) ?_)
    by_cases d : eqL n l = []
    · simp only [d]
      exact Ev.neg (by decide) (Ev.const rfl)
    · obtain ⟨y, hy⟩ := (split3 n l c.2.2).2.resolve_left d
      have g := ((fnd_is c.2.2 n).2 d).1
      have hd : l.drop (loL n l).length = y :: hiL n l := by rw [drop_lo c.2.2, hy]; rfl
      refine Ev.pos (by rw [hy]; rfl) (Ev.pos (by simp) (Ev.pos (by simp; exact g) (Ev.const ?_)))
      rw [rdL hd, hy]
      rfl
  · rw [if_neg c, if_neg c]
    exact Ev.neg (by decide) (Ev.const rfl)
theorem parts_l (n : Int) (l : List Lk) (hl : l.length ≤ 32) : ∀ (r : List Lk) (i : Nat) (a b c : List Lk), l.drop i = r → a.length ≤ i → b.length ≤ i → c.length ≤ i →
    Ev (fun k => spoorref16_parts.l0 k n a b c l (l.length : Int) (i : Int)) (a ++ loL n r, b ++ eqL n r, c ++ hiL n r)
  | [], i, a, b, c, hd, ha, hb, hc => by
    have := drop_nil_le hd
    refine Ev.succ ?_
    simp only [spoorref16_parts.l0]
    refine Ev.neg (by omega) (Ev.const ?_)
    simp [loL, eqL, hiL]
  | x :: r, i, a, b, c, hd, ha, hb, hc => by
    have hlt := ltL hd
    refine Ev.succ ?_
    simp only [spoorref16_parts.l0, rdL hd]
    rw [w64 (n := (i : Int) + 1) (by omega) (by omega)]
    refine Ev.pos (by omega) (Ev.pos (by omega) (Ev.pos (by omega) ?_))
    by_cases g : x.f0 < n
    · have a1 : loL n (x :: r) = x :: loL n r := List.filter_cons_of_pos (decide_eq_true g)
      have a2 : eqL n (x :: r) = eqL n r := List.filter_cons_of_neg (by simp; omega)
      have a3 : hiL n (x :: r) = hiL n r := List.filter_cons_of_neg (by simp; omega)
      refine Ev.pos g (Ev.pos (by omega) (Ev.to (parts_l n l hl r (i + 1) (a ++ [x]) b c (drop_next hd) (by simp; omega) (by omega) (by omega)) ?_))
      rw [a1, a2, a3, List.append_assoc]
      rfl
    · have a1 : loL n (x :: r) = loL n r := List.filter_cons_of_neg (by simp; omega)
      refine Ev.neg g ?_
      by_cases d : x.f0 = n
      · have a2 : eqL n (x :: r) = x :: eqL n r := List.filter_cons_of_pos (decide_eq_true d)
        have a3 : hiL n (x :: r) = hiL n r := List.filter_cons_of_neg (by simp; omega)
        refine Ev.pos d (Ev.pos (by omega) (Ev.to (parts_l n l hl r (i + 1) a (b ++ [x]) c (drop_next hd) (by omega) (by simp; omega) (by omega)) ?_))
        rw [a1, a2, a3, List.append_assoc]
        rfl
      · have a2 : eqL n (x :: r) = eqL n r := List.filter_cons_of_neg (by simp; omega)
        have a3 : hiL n (x :: r) = x :: hiL n r := List.filter_cons_of_pos (by simp; omega)
        refine Ev.neg d (Ev.pos (by omega) (Ev.to (parts_l n l hl r (i + 1) a b (c ++ [x]) (drop_next hd) (by omega) (by omega) (by simp; omega)) ?_))
        rw [a1, a2, a3, List.append_assoc]
        rfl
theorem parts_ev (n : Int) {l : List Lk} (hl : l.length ≤ 32) : Ev (fun k => spoorref16_parts.f k l n) (loL n l, eqL n l, hiL n l) := by
  simp only [spoorref16_parts.f]
  exact Ev.to (parts_l n l hl l 0 [] [] [] rfl (Nat.le_refl _) (Nat.le_refl _) (Nat.le_refl _)) rfl
end Go.Proofs.Ytalkiicjdafhdaa.Lnk
end
section
namespace Go.Proofs.Ytalkiicjdafhdaa.Pure
set_option linter.unusedVariables false
open Go.RowKit Go.Proofs.Ytalkiicjdafhdaa.Q Go.Proofs.YtalkiicjdafhdaaW.PrintWords Go.Proofs.YtalkiicjdafhdaaW.PrintLast Go.Proofs.Ytalkiicjdafhdaa.Base Go.Proofs.Ytalkiicjdafhdaa.Lnk
theorem posL_spec (t : Int) (xs : List Int) : ∀ i, (∀ j, posL t xs i ≤ j → j < i → t < xs.getD j 0) ∧ (0 < posL t xs i → xs.getD (posL t xs i - 1) 0 ≤ t)
  | 0 => ⟨fun j _ h => absurd h (Nat.not_lt_zero j), fun h => absurd h (Nat.lt_irrefl 0)⟩
  | i + 1 => by
    obtain ⟨h1, h2⟩ := posL_spec t xs i
    by_cases c : t < xs.getD i 0
    · have e : posL t xs (i + 1) = posL t xs i := if_pos c
      rw [e]
      refine ⟨fun j a b => ?_, h2⟩
      by_cases d : j = i
      · rw [d]; exact c
      · exact h1 j a (by omega)
    · have e : posL t xs (i + 1) = i + 1 := if_neg c
      rw [e]
      refine ⟨fun j a b => by omega, fun _ => ?_⟩
      rw [Nat.add_sub_cancel]
      exact Int.not_lt.1 c
theorem getD_of {xs : List Int} {i : Nat} (h : i < xs.length) : xs.getD i 0 = xs[i] := by
  rw [List.getD_eq_getElem?_getD, List.getElem?_eq_getElem h]
  rfl
theorem ins_ok (xs : List Int) (t : Int) (h : xs.Pairwise (· < ·)) : (insS xs t).Pairwise (· < ·) ∧ ∀ x, x ∈ insS xs t ↔ x = t ∨ x ∈ xs := by
  have hp := posL_le t xs xs.length
  obtain ⟨h1, h2⟩ := posL_spec t xs xs.length
  unfold insS
  generalize posL t xs xs.length = p at *
  by_cases c : 0 < p ∧ xs.getD (p - 1) 0 = t
  · rw [if_pos c]
    refine ⟨h, fun x => ⟨.inr, fun hx => hx.elim (fun e => ?_) id⟩⟩
    rw [e, ← c.2, getD_of (by omega)]
    exact List.getElem_mem _
  · rw [if_neg c]
    have hs : xs = xs.take p ++ xs.drop p := (List.take_append_drop p xs).symm
    have hlow : ∀ a ∈ xs.take p, a < t := fun a ha => by
      obtain ⟨i, hi, rfl⟩ := List.mem_iff_getElem.1 ha
      rw [List.length_take] at hi
      rw [List.getElem_take]
      have h0 : 0 < p := by omega
      have h3 := h2 h0
      rw [getD_of (by omega)] at h3
      have h4 : xs[p - 1]'(by omega) ≠ t := fun e => c ⟨h0, by rw [getD_of (by omega)]; exact e⟩
      have h5 : xs[i]'(by omega) ≤ xs[p - 1]'(by omega) := by
        by_cases d : i = p - 1
        · subst d; exact Int.le_refl _
        · exact Int.le_of_lt (List.pairwise_iff_getElem.1 h i (p - 1) (by omega) (by omega) (by omega))
      omega
    have hhigh : ∀ b ∈ xs.drop p, t < b := fun b hb => by
      obtain ⟨i, hi, rfl⟩ := List.mem_iff_getElem.1 hb
      rw [List.length_drop] at hi
      rw [List.getElem_drop]
      have h3 := h1 (p + i) (by omega) (by omega)
      rw [getD_of (by omega)] at h3
      exact h3
    refine ⟨?_, fun x => ?_⟩
    · rw [List.pairwise_append]
      rw [hs, List.pairwise_append] at h
      refine ⟨h.1, List.pairwise_cons.2 ⟨hhigh, h.2.1⟩, fun a ha b hb => ?_⟩
      rcases List.mem_cons.1 hb with e | hb
      · rw [e]; exact hlow a ha
      · exact h.2.2 a ha b hb
    · conv => rhs; rw [hs]
      simp only [List.mem_append, List.mem_cons]
      exact ⟨fun h => h.elim (fun a => .inr (.inl a)) (fun b => b.elim .inl (fun c => .inr (.inr c))), fun h => h.elim (fun a => .inr (.inl a)) (fun b => b.elim .inl (fun c => .inr (.inr c)))⟩
theorem lives16_ev4 : Ev spoorlaw16_lives.f true := Ev.of spoorlaw16_lives.mono (k := 200) (by decide +kernel)
def peersA (l : List Lk) : List Int × Int := if okL l then (peersV l, 0) else ([], 2)
theorem peersA_ev (l : List Lk) : Ev (fun k => links_Peers.f k l) (peersA l) := by
  simp only [links_Peers.f]
  refine Ev.bind (chk_ev l) ?_
  unfold chkV peersA
  by_cases c : okL l
  · rw [if_pos c, if_pos c]
    exact Ev.neg (by decide) (Ev.const rfl)
  · rw [if_neg c, if_neg c]
    exact Ev.pos (by decide) (Ev.const rfl)
theorem refPeersV_acc : ∀ (l : List Lk) (acc : List Int), acc.Pairwise (· < ·) → (l.foldl (fun acc x => insS acc x.f1) acc).Pairwise (· < ·) ∧ ∀ z, z ∈ l.foldl (fun acc x => insS acc x.f1) acc ↔ z ∈ acc ∨ ∃ x ∈ l, x.f1 = z
  | [], acc, h => ⟨h, fun z => by simp⟩
  | x :: r, acc, h => by
    obtain ⟨h1, h2⟩ := ins_ok acc x.f1 h
    obtain ⟨h3, h4⟩ := refPeersV_acc r (insS acc x.f1) h1
    refine ⟨h3, fun z => ?_⟩
    simp only [List.foldl_cons]
    rw [h4, h2]
    constructor
    · rintro ((h | h) | ⟨y, hy, h⟩)
      · exact .inr ⟨x, by simp, h.symm⟩
      · exact .inl h
      · exact .inr ⟨y, by simp [hy], h⟩
    · rintro (h | ⟨y, hy, h⟩)
      · exact .inl (.inr h)
      · rcases List.mem_cons.1 hy with e | e
        · exact .inl (.inl (by rw [← h, e]))
        · exact .inr ⟨y, e, h⟩
theorem int_ext : ∀ {a b : List Int}, a.Pairwise (· < ·) → b.Pairwise (· < ·) → (∀ z, z ∈ a ↔ z ∈ b) → a = b
  | [], [], _, _, _ => rfl
  | [], y :: b, _, _, h => by have := (h y).2 (by simp); cases this
  | x :: a, [], _, _, h => by have := (h x).1 (by simp); cases this
  | x :: a, y :: b, ha, hb, h => by
    obtain ⟨a1, a2⟩ := List.pairwise_cons.1 ha
    obtain ⟨b1, b2⟩ := List.pairwise_cons.1 hb
    have e : x = y := by
      rcases List.mem_cons.1 ((h x).1 (by simp)) with e | e
      · exact e
      · rcases List.mem_cons.1 ((h y).2 (by simp)) with f | f
        · exact f.symm
        · have := b1 x e
          have := a1 y f
          omega
    subst e
    refine congrArg (x :: ·) (int_ext a2 b2 fun z => ?_)
    constructor
    · intro g
      rcases List.mem_cons.1 ((h z).1 (List.mem_cons_of_mem _ g)) with e | e
      · have := a1 z g
        omega
      · exact e
    · intro g
      rcases List.mem_cons.1 ((h z).2 (List.mem_cons_of_mem _ g)) with e | e
      · have := b1 z g
        omega
      · exact e
theorem refPeersV_is (l : List Lk) : refPeersV l = peersV l := by
  obtain ⟨h1, h2⟩ := refPeersV_acc l [] List.Pairwise.nil
  obtain ⟨h3, h4⟩ := peersV_ok l
  refine int_ext h1 h3 fun z => ?_
  rw [h4]
  exact (h2 z).trans (by simp)
theorem rpeersA_ev (l : List Lk) : Ev (fun k => spoorref16_Peers.f k l) (peersA l) := by
  simp only [spoorref16_Peers.f]
  refine Ev.bind (rchk_ev l) ?_
  unfold chkV peersA
  by_cases c : okL l
  · rw [if_pos c, if_pos c, refPeersV_is]
    exact Ev.neg (by decide) (Ev.const rfl)
  · rw [if_neg c, if_neg c]
    exact Ev.pos (by decide) (Ev.const rfl)
theorem rpeer_ev (l : List Lk) (n : Int) : Ev (fun k => spoorref16_Peer.f k l n) (peerW l n) := by
  simp only [spoorref16_Peer.f]
  refine Ev.bind (rchk_ev l) ?_
  unfold chkV peerW
  by_cases c : okL l
  · rw [if_pos c, if_pos c]
    refine Ev.pos rfl (Ev.bind (parts_ev n c.1) ?_)
    by_cases d : eqL n l = []
    · simp only [d]
      exact Ev.pos rfl (Ev.const rfl)
    · obtain ⟨y, hy⟩ := (split3 n l c.2.2).2.resolve_left d
      simp only [hy]
      exact Ev.neg (by simp) (Ev.pos (by simp) (Ev.const rfl))
  · rw [if_neg c, if_neg c]
    exact Ev.neg (by decide) (Ev.const rfl)
theorem alike_l (l : List Int) (hl : l.length ≤ 64) : ∀ (r : List Int) (i : Nat), l.drop i = r → Ev (fun k => spoorref16_Alike.l0 k l l (l.length : Int) (i : Int)) true
  | [], i, hd => by
    have := drop_nil_le hd
    refine Ev.succ ?_
    simp only [spoorref16_Alike.l0]
    exact Ev.neg (by omega) (Ev.const rfl)
  | x :: r, i, hd => by
    have hlt := drop_lt hd
    refine Ev.succ ?_
    simp only [spoorref16_Alike.l0]
    rw [w64 (n := (i : Int) + 1) (by omega) (by omega)]
    exact Ev.pos (by omega) (Ev.pos (by omega) (Ev.pos (by omega) (Ev.pos (by omega) (Ev.pos (by trivial) (alike_l l hl r (i + 1) (drop_next hd))))))
theorem alike_ev {l : List Int} (hl : l.length ≤ 64) : Ev (fun k => spoorref16_Alike.f k l l) true := by
  simp only [spoorref16_Alike.f]
  exact Ev.pos trivial (alike_l l hl l 0 rfl)
theorem insPl (t : Int) : ∀ xs : List Int, (insP t xs).length ≤ xs.length + 1
  | [] => by simp [insP]
  | x :: r => by
    have := insPl t r
    unfold insP
    split
    · simp
    · split <;> simp <;> omega
theorem peersVl : ∀ (l : List Lk) (acc : List Int), (l.foldl (fun acc x => insP x.f1 acc) acc).length ≤ acc.length + l.length
  | [], acc => by simp
  | x :: r, acc => by
    have h1 := peersVl r (insP x.f1 acc)
    have h2 := insPl x.f1 acc
    simp only [List.foldl_cons, List.length_cons]
    omega
theorem peersA_len (l : List Lk) : (peersA l).1.length ≤ 64 := by
  unfold peersA
  by_cases c : okL l
  · rw [if_pos c]
    have := peersVl l []
    rw [List.length_nil, Nat.zero_add] at this
    have h2 := c.1
    exact Nat.le_trans this (by omega)
  · rw [if_neg c]
    simp
theorem LinksAsk : spoorlaw16_LinksAsk.Pure := by
  intro l n h0 h1 hB
  clear h0 h1 hB
  refine Ev.rounds (g := fun k => spoorlaw16_LinksAsk.f k l n) (r := true) ?_
  simp only [spoorlaw16_LinksAsk.f]
  refine Ev.bind (peer_ev l n) (Ev.bind (rpeer_ev l n) (Ev.bind (peersA_ev l) (Ev.bind (rpeersA_ev l) (Ev.bind lives16_ev4 (Ev.pos rfl (Ev.pos rfl (Ev.pos rfl ?_)))))))
  refine Ev.bind (alike_ev (peersA_len l)) (Ev.pos rfl (Ev.const ?_))
  simp
end Go.Proofs.Ytalkiicjdafhdaa.Pure
end
section
namespace Go.Proofs.Ytalkiicjdafhdaa.linksAsk
open Go.ChangeShapes Go.WideShapes Go.ChangeAt Go.RowKit Go.Proofs.Ytalkiicjdafhdaa.Open Go.Proofs.Ytalkiicjdafhdaa.Q
open Go.ChangeMaps (open_string shut_string)
set_option linter.unusedVariables false
theorem own : ownKnob Try.prog.godebug = none := by kernel_rfl
theorem laidOut : laidOutB Try.prog = true := by kernel_rfl
set_option maxRecDepth 100000 in
theorem contract (H : Type) (enc : TypeId × Value → H) (W : World) (base : Nat) (args : Array Value) (ds gs : List (DataW H)) (before : List MemPlace)
    (hval : ∀ (j : Nat) t v, Try.f4.params[j]? = some t → args[j]? = some v → Value.okWide Try.prog W .any base t v)
    (hW : DataW.Whole enc Try.prog Try.f4.params.toList Rows.linksAskSpec.vars false W args.toList ds gs before) (hsz0 : (DataW.weightsEach Try.prog (Try.f4.params.toList ++ Rows.linksAskSpec.plain.varTypes Try.prog) (ds ++ gs)).all (· ≤ reachBytes) = true) :
    Calls Try.prog 4 args W fun e W' => ∃ v, e = .returned v ∧ Rows.linksAskSpec.post enc Try.prog Try.f4 false true false false W args v W' := by
  have hW' := hW
  obtain ⟨p, q, hA0, hV, rfl, hfz, hnd⟩ := hW
  have hA : DataW.TrodAll enc Try.prog W 0 (fun _ => true) true Try.f4.params.toList args.toList ds p := hA0
  have hsz : (DataW.weightsEach Try.prog (Try.f4.params.toList ++ Rows.linksAskSpec.plain.varTypes Try.prog) (ds ++ gs)).all (· ≤ reachBytes) = true := hsz0
  rw [Try.params4] at hA hval hsz
  obtain ⟨v0, vs0, d0, ds0, p0, q0, hargs, rfl, rfl, h0, r0⟩ := trodAll_cons hA
  obtain ⟨v1, vs1, d1, ds1, p1, q1, rfl, rfl, rfl, h1, r1⟩ := trodAll_cons r0
  obtain ⟨rfl, rfl, rfl⟩ := trodAll_nil r1
  obtain rfl : args = #[v0, v1] := by cases args; simp_all
  obtain ⟨rfl, rfl⟩ := trodVars_none hV
  have k0 := h0
  have lt0 : ∀ x ∈ p0, x.block < W.heap.size := by obtain ⟨m, hm⟩ := k0; exact DataW.trod_lt m _ _ _ hm
  obtain ⟨fu0, hf0⟩ := h0
  obtain ⟨b0, K0, o0, u0⟩ := (opens_slice opn24 Try.underlying22 (by kernel_rfl) 24) enc W _ _ _ _ _ hf0
  obtain ⟨A0, c0, z0, lc0, C0⟩ := K0
  obtain rfl : v0 = .slice A0 b0.length c0 := by obtain ⟨x, y, z, rfl⟩ := okWide_slice Try.underlying22 (hval 0 22 v0 rfl rfl); exact (List.cons.inj (show [Value.slice x y z] = [Value.slice A0 b0.length c0] from z0)).1
  have k1 := h1
  have lt1 : ∀ x ∈ p1, x.block < W.heap.size := by obtain ⟨m, hm⟩ := k1; exact DataW.trod_lt m _ _ _ hm
  obtain ⟨fu1, hf1⟩ := h1
  obtain ⟨b1, K1, o1, u1⟩ := (opens_int Try.underlying3) enc W _ _ _ _ _ hf1
  obtain rfl : v1 = .int .i64 b1 := by obtain ⟨x, rfl⟩ := okWide_int Try.underlying3 (hval 1 3 v1 rfl rfl); exact (List.cons.inj (show [Value.int .i64 x] = [Value.int .i64 b1] from K1)).1
  have sz0 : b0.length * 16 ≤ 140737488351232 := sized_row hsz (j := 0) (t := 22) rfl rfl Try.underlying22 (by kernel_rfl) k0
  obtain ⟨k, h⟩ := Pure.LinksAsk b0 b1 o0 o1 sz0
  refine (spoorlaw16_LinksAsk.calls k A0 c0 b0 b1 true W C0 lc0 h).mono fun e W' ⟨he, hd⟩ => ?_
  have bel := hd
  subst he
  exact ⟨_, rfl, _, _, _, [], _, [], hW', trodAll_mk1 (shut_bool Try.underlying4 _), (trodAll_cons_mk (Below.trod laidOut (by kernel_rfl) (of_decide_eq_true (by kernel_rfl)) k0 bel lt0) (trodAll_cons_mk (Below.trod laidOut (by kernel_rfl) (of_decide_eq_true (by kernel_rfl)) k1 bel lt1) trodAll_mk0)), rfl, bel.frame _, fun h => by cases h⟩
set_option maxRecDepth 100000 in
theorem lifted (os : Os) (started : os.Started) (H : Type) (enc : TypeId × Value → H) :
    ReturnsInHanded {} Try.checked os 4 .any (Rows.linksAskSpec.pre6 enc Try.prog Try.f4 Rows.linksAskRow.domain false) (Rows.linksAskSpec.post enc Try.prog Try.f4 false true false false) := by
  refine returnsInHanded_of_change_sized (C := Try.checked) own started (by kernel_rfl) Try.func4
    (ChangeSpec.witness6 (enc := enc) (C := Try.checked) false ⟨#[], #[.slice none 0 0, .int .i64 0], []⟩ 8 (by kernel_rfl) (by kernel_rfl) (by kernel_rfl) (by kernel_rfl)) ?_
  intro W base args ds gs before hval hW _ hsz _
  exact contract H enc W base args ds gs before hval hW hsz
theorem over : Rows.linksAskRow.holds Try.pinned (OpenSpec.ofChange Rows.linksAskSpec) :=
  OpenClaim.holds_of_wide 4 Try.f4 rfl rfl rfl rfl rfl rfl rfl ⟨rfl, rfl, rfl, rfl, rfl⟩ rfl rfl rfl rfl rfl (by kernel_rfl) Try.func4 (by kernel_rfl)
    (of_decide_eq_true (by kernel_rfl)) (by unfold Func.isWrapper; first | (rw [if_pos (by decide +kernel)]; kernel_rfl) | (rw [if_neg (by decide +kernel)]; exact ⟨rfl, rfl⟩))
    (fun os started H enc _ => lifted os started H enc)
theorem proved : Rows.LinksAskSaid := over
#print axioms proved
end Go.Proofs.Ytalkiicjdafhdaa.linksAsk
namespace Go.Proofs.Ytalkiicjdafhdaa
theorem linksAsk_holds : Rows.LinksAskSaid := linksAsk.proved
end Go.Proofs.Ytalkiicjdafhdaa
end
