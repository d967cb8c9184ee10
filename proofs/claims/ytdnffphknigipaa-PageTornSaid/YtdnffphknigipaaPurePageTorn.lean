/- Of a page that is written over a sector whose last eight bytes are another tag's, and torn, nothing is read by its tag, unless all of it is there; by the tag of what was there nothing, unless all of that is; for every tag, data, sector and place. -/
import Derived.Test.YtdnffphknigipaaQx16
import Derived.Test.YtdnffphknigipaaPageG
namespace Go.Proofs.Ytdnffphknigipaa.Pure
open Go.RowKit Go.Proofs.Ytdnffphknigipaa.Q Go.Proofs.YtdnffphknigipaaW.PrintWords Go.Proofs.YtdnffphknigipaaW.PrintLast Go.Proofs.Ytdnffphknigipaa.Base Go.Proofs.Ytdnffphknigipaa.Page
set_option linter.unusedVariables false

theorem torn_bytes (p o : ByteArray) (n : Nat) : bytesOf (p.extract 0 n ++ o.extract n o.size) = (bytesOf p).take n ++ (bytesOf o).drop n := by
  rw [bytes_append, bytes_extract, bytes_from]
  rfl
theorem torn_mine {t : Int} {p o d : ByteArray} {n : Nat} (hp : p.size = 128) (ho : o.size = 128) (hn : n ≤ 128) (hl : (bytesOf p).drop 120 = (w8 t).reverse) (hne : (bytesOf o).drop 120 ≠ (w8 t).reverse)
    (hg : getOf (p.extract 0 n ++ o.extract n o.size) t = (d, 0)) : p.extract 0 n ++ o.extract n o.size = p := by
  obtain ⟨htag, _, _⟩ := get_ok hg
  obtain ⟨_, _, _, _, _, ht⟩ := tag_ok htag
  rw [torn_bytes] at ht
  have lp : (bytesOf p).length = 128 := by rw [bytesOf_length, hp]
  have lo : (bytesOf o).length = 128 := by rw [bytesOf_length, ho]
  by_cases h : n ≤ 120
  · rw [List.drop_append, List.drop_eq_nil_of_le (by simp; omega), List.nil_append, List.drop_drop] at ht
    have : n + (120 - ((bytesOf p).take n).length) = 120 := by simp; omega
    rw [this] at ht
    exact absurd ht hne
  · refine bytes_inj ?_
    rw [torn_bytes]
    have e1 := List.take_append_drop 120 (bytesOf p)
    have e2 : (bytesOf p).take n = (bytesOf p).take 120 ++ ((bytesOf p).take n).drop 120 := by
      have := List.take_append_drop 120 ((bytesOf p).take n)
      rw [List.take_take, show min 120 n = 120 by omega] at this
      exact this.symm
    rw [List.drop_append_of_le_length (by simp; omega)] at ht
    rw [e2, List.append_assoc, ht, ← hl, e1]
theorem torn_old {t was : Int} {p o d : ByteArray} {n : Nat} (hp : p.size = 128) (ho : o.size = 128) (hn : n ≤ 128) (hh : (bytesOf p).take 8 = w8 t) (hne : (bytesOf o).drop 120 ≠ (w8 t).reverse)
    (hw : tagOf o = (was, 0)) (hg : getOf (p.extract 0 n ++ o.extract n o.size) was = (d, 0)) : p.extract 0 n ++ o.extract n o.size = o := by
  obtain ⟨htag, _, _⟩ := get_ok hg
  obtain ⟨_, _, _, _, hth, _⟩ := tag_ok htag
  obtain ⟨_, _, _, _, hoh, hot⟩ := tag_ok hw
  rw [torn_bytes] at hth
  have lp : (bytesOf p).length = 128 := by rw [bytesOf_length, hp]
  have lo : (bytesOf o).length = 128 := by rw [bytesOf_length, ho]
  by_cases h : 8 ≤ n
  · rw [List.take_append_of_le_length (by simp; omega), List.take_take, show min 8 n = 8 by omega, hh] at hth
    rw [← hth] at hot
    exact absurd hot hne
  · refine bytes_inj ?_
    rw [torn_bytes]
    have e1 : (bytesOf o).drop n = ((bytesOf o).drop n).take (8 - n) ++ (bytesOf o).drop 8 := by
      have := List.take_append_drop (8 - n) ((bytesOf o).drop n)
      rw [List.drop_drop, show n + (8 - n) = 8 by omega] at this
      exact this.symm
    rw [List.take_append, List.take_of_length_le (by simp; omega)] at hth
    have e2 : 8 - ((bytesOf p).take n).length = 8 - n := by simp; omega
    rw [e2] at hth
    rw [e1, ← List.append_assoc, hth, ← hoh, List.take_append_drop]
theorem j1_true (o x : ByteArray) (h : ∀ was d, tagOf o = (was, 0) → getOf x was = (d, 0) → x = o) : Ev (fun k => spoorlaw05_PageTorn.j1 k o x false) true := by
  refine Ev.succ ?_
  simp only [spoorlaw05_PageTorn.j1, tag_eq, Option.bind_some]
  refine Ev.neg (by simp) (Ev.bind (get_ev x _) ?_)
  by_cases h1 : (tagOf o).2 = 0
  · refine Ev.pos h1 ?_
    by_cases h2 : (getOf x (tagOf o).1).2 = 0
    · refine Ev.pos h2 (Ev.const ?_)
      rw [h (tagOf o).1 (getOf x (tagOf o).1).1 (Prod.ext rfl h1) (Prod.ext rfl h2), beq_self_eq_true]
    · exact Ev.neg h2 (Ev.const rfl)
  · exact Ev.neg h1 (Ev.const rfl)
theorem j0_skip (t : Int) (o p : ByteArray) (n : Int) : Ev (fun k => spoorlaw05_PageTorn.j0 k t o n p true) true := by
  refine Ev.succ ?_
  simp only [spoorlaw05_PageTorn.j0]
  exact Ev.pos trivial (Ev.const rfl)
theorem PageTorn : spoorlaw05_PageTorn.Pure := by
  intro t d o n ht hd ho hn
  obtain ⟨h0, h1⟩ := wf_u64 ht
  refine Ev.rounds ?_
  simp only [spoorlaw05_PageTorn.f, put_eq t d h0 h1, Option.bind_some]
  refine Ev.bind lives_ev (Ev.pos rfl ?_)
  by_cases hw : (putOf t d).2 = 0
  · refine Ev.pos hw ?_
    have hput : putOf t d = (pageOf t d, 0) ∧ t ≠ 0 ∧ d.size ≤ 111 := by
      unfold putOf at hw ⊢
      by_cases c1 : t = 0
      · rw [if_pos c1] at hw; simp at hw
      · rw [if_neg c1] at hw ⊢
        by_cases c2 : d.size > 111
        · rw [if_pos c2] at hw; simp at hw
        · rw [if_neg c2]
          exact ⟨rfl, c1, by omega⟩
    obtain ⟨hput, hz, hsz⟩ := hput
    rw [hput]
    by_cases hs : (o.size : Int) = 128
    · refine Ev.pos hs ?_
      by_cases hn0 : n < 0
      · exact Ev.pos hn0 (j0_skip _ _ _ _)
      · refine Ev.neg hn0 ?_
        by_cases hn1 : n > 128
        · exact Ev.pos hn1 (j0_skip _ _ _ _)
        · refine Ev.neg hn1 (Ev.pos (by omega) (Ev.bind (eight_ev t h0 h1) (Ev.bind (turned_ev _ (by rw [strOfNums_size, w8_length]; omega)) ?_)))
          rw [bytes_str (w8_bytes t)]
          have hp128 := pageOf_size t d hsz
          have ho128 : o.size = 128 := by omega
          by_cases hq : (o.extract 120 o.size).toList = (strOfNums (w8 t).reverse).toList
          · rw [beq_iff_eq.mpr hq]
            exact j0_skip _ _ _ _
          · have hqf : ((o.extract 120 o.size).toList == (strOfNums (w8 t).reverse).toList) = false := by simpa using hq
            rw [hqf]
            have hne : (bytesOf o).drop 120 ≠ (w8 t).reverse := by
              intro e
              apply hq
              rw [str_from, e]
            obtain ⟨m, rfl⟩ : ∃ m : Nat, n = m := ⟨n.toNat, by omega⟩
            have hb := pageOf_bytes t d hsz
            refine Ev.succ ?_
            simp only [spoorlaw05_PageTorn.j0]
            refine Ev.neg (by simp) (Ev.pos (by omega) (Ev.pos (by omega) (Ev.pos (by omega) (Ev.pos (by simp; omega) (Ev.bind (get_ev _ t) ?_)))))
            rw [Int.toNat_natCast]
            have hold : ∀ was d', tagOf o = (was, 0) → getOf ((pageOf t d).extract 0 m ++ o.extract m o.size) was = (d', 0) → (pageOf t d).extract 0 m ++ o.extract m o.size = o :=
              fun was d' e1 e2 => torn_old hp128 ho128 (by omega) (by rw [hb, page_head]) hne e1 e2
            by_cases hg : (getOf ((pageOf t d).extract 0 m ++ o.extract m o.size) t).2 = 0
            · refine Ev.pos hg ?_
              have e := torn_mine hp128 ho128 (by omega) (by rw [hb, page_tail t d hsz]) hne (Prod.ext rfl hg : getOf ((pageOf t d).extract 0 m ++ o.extract m o.size) t = (_, 0))
              have e2 : (((pageOf t d).extract 0 m ++ o.extract m o.size).toList != (pageOf t d).toList) = false := by rw [e]; simp
              rw [e2]
              exact j1_true _ _ hold
            · exact Ev.neg hg (j1_true _ _ hold)
    · exact Ev.neg hs (j0_skip _ _ _ _)
  · exact Ev.neg hw (j0_skip _ _ _ _)
end Go.Proofs.Ytdnffphknigipaa.Pure
