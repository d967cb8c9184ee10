-- Merged and trimmed by this session's program wip/tools/trim.py.
import Derived.Lib.Builder
import Derived.Lib.AppendStr
import Derived.Lib.UnsafeStr
import Derived.Laws.Externs
import Derived.Lib.Walk
import Derived.Lib.Strings
import Derived.Lib.Slices
import Derived.Test.YthkdfojmhloofaaTGramReadsUpto4
section
namespace Go.Proofs.Ythkdfojmhloofaa.Q
open Go.RowKit Go.Proofs.YthkdfojmhloofaaW.PrintWords Go.Proofs.YthkdfojmhloofaaW.PrintLast Go.Proofs.YthkdfojmhloofaaW.PrintMore
attribute [local go_sem] max2_int min2_int max_two min_two max_three min_three max_four min_four   -- for this text's walks alone
set_option linter.unusedVariables false
set_option linter.unusedSimpArgs false
attribute [local go_sem high] eqA38
theorem bd_size:(Try.prog.info? 69).map (·.size)=some 2:=by kernel_rfl
theorem bd_lies:liesAt Try.prog Try.prog.depth 69 (2 / Try.prog.cellsOf 69) 0 69 1=true:=by kernel_rfl
theorem bd_byte:(Try.prog.info? 5).map (fun i=>(i.zero,i.size,i.bytes))=some (some (.int .u8 0),1,1):=by kernel_rfl
theorem bd_cells:Try.prog.cellsOf 5=1:=by kernel_rfl
set_option maxRecDepth 100000 in
theorem bd_used (b:Nat) (w:World) (h0:w.cell? ⟨b,0,none⟩=some (.pointer (some ⟨b,0,none⟩))):
    Calls Try.prog 49 #[.pointer (some ⟨b,0,none⟩)] w fun e w'=>e= .returned (.tuple #[])∧w'=w:=by
  obtain⟨j,hj,_⟩:=Option.map_eq_some_iff.1 bd_size;go_enter Try.func49,Try.ntmps49;go_wp2;rw [Lib.run_neq_ptr_same w _ Try.underlying66 hj];go_wp2;go_end0;exact⟨rfl,rfl⟩
set_option maxRecDepth 100000 in
set_option maxHeartbeats 1000000 in
theorem bd_fresh (b:Nat) (w:World) (h0:w.cell? ⟨b,0,none⟩=some (.pointer none)) (A:w.shape? b=some (69,2)) (ab:w.frozen? ⟨b,0,none⟩=false):
    Calls Try.prog 49 #[.pointer (some ⟨b,0,none⟩)] w fun e w'=>e= .returned (.tuple #[])∧w'=w.setCell ⟨b,0,none⟩ (.pointer (some ⟨b,0,none⟩)):=by
  obtain⟨j,hj,aa⟩:=Option.map_eq_some_iff.1 bd_size;go_enter Try.func49,Try.ntmps49;go_wp2;rw [Lib.run_to_unsafe w ⟨b,0,none⟩ Try.underlying66 Try.underlying121 hj (by rw [aa];decide) A (Nat.zero_lt_succ 1)];simp only[Result.andThen];rw [Oper.upon_value];go_wp2;rw [run_callFunc_extern Try.func69 (by kernel_rfl) (by kernel_rfl) (by kernel_rfl) (e:=Extern.AbiNoEscape.same) (by kernel_rfl)];rw [Lib.run_noEscape];simp only[Result.andThen];rw [Oper.upon_value];go_wp2;rw [Lib.run_from_unsafe w ⟨b,0,none⟩ Try.underlying121 Try.underlying66 hj A bd_lies];simp only[Result.andThen];rw [Oper.upon_value];go_wp2;go_end0;exact⟨rfl,rfl⟩
theorem bd_check (B b:Nat) (bs:List Value) (w:World) (h:Lib.IsBuilder 69 5 B b bs w):
    Calls Try.prog 49 #[.pointer (some ⟨b,0,none⟩)] w fun e w'=>e= .returned (.tuple #[])∧(Lib.BuilderAt 69 5 B b (.pointer (some ⟨b,0,none⟩)) bs w'∧Below B w w'):=by
  rcases h with h|h
  · refine (bd_fresh b w h.cell0 h.shape h.frozen0).mono ?_
    rintro e w' ⟨rfl,rfl⟩
    exact⟨rfl,h.used _,(Below.refl B w).setCell (p:=⟨b,0,none⟩) h.1 _⟩
  · refine (bd_used b w h.cell0).mono ?_
    rintro e w' ⟨rfl,rfl⟩
    exact⟨rfl,h,Below.refl B _⟩
set_option maxRecDepth 100000 in
set_option maxHeartbeats 2000000 in
theorem bd_write (B b:Nat) (bs:List Value) (s:ByteArray) (w:World) (h:Lib.IsBuilder 69 5 B b bs w) (ag:bs.length+s.size≤140737488355328) (ah:B≤w.heap.size):
    Calls Try.prog 25 #[.pointer (some ⟨b,0,none⟩),.string s] w fun e w'=>e= .returned (.tuple #[.int .i64 s.size,.nilIface])∧(Lib.BuilderAt 69 5 B b (.pointer (some ⟨b,0,none⟩)) (bs++Lib.strCells s) w'∧Below B w w'):=by
  obtain⟨i0,hi,aa,ab,ac⟩:=info_parts bd_byte;go_enter Try.func25,Try.ntmps25;go_wp2_with (go_at_call 49;refine (bd_check B b bs _ h).mono ?_)
  rintro e w1 ⟨rfl,h1,D⟩
  obtain⟨hB,v,A,F,ae⟩:=h1;have c0:w1.cell? ⟨b,0,none⟩=some (.pointer (some ⟨b,0,none⟩)):=by rw [Lib.cell_of_heap A];rfl
  have c1:w1.cell? ⟨b,1,none⟩=some v:=by rw [Lib.cell_of_heap A];rfl
  go_wp2_with (at_builtin;refine Lib.wpList_append_own_string _ rfl _ _ 67 9 rfl B 5 i0 Try.underlying67 Try.underlying9 hi aa ab ac _ _ _ rfl F s rfl ?c3 ?c4 ?c5 ?_)
  case c3=>unfold maxLen;omega
  case c4=>omega
  case c5=>have:=D.size;omega
  intro v' w2 G H _;have af:b<w1.heap.size:=blk_lt A;have C:w2.heap[b]? =some (.cells #[.pointer (some ⟨b,0,none⟩),v] 69 (0,0)):=by rw [H.block b af (fun e=>ae e.symm)];exact A
  have d0:w2.cell? ⟨b,0,none⟩=some (.pointer (some ⟨b,0,none⟩)):=by rw [Lib.cell_of_heap C];rfl
  have d1:w2.cell? ⟨b,1,none⟩=some v:=by rw [Lib.cell_of_heap C];rfl
  have f1:w2.frozen? ⟨b,1,none⟩=false:=Lib.frozen_of_heap C 1
  obtain⟨ao,n',E,rfl⟩: ∃ ao n' E,v'= .slice ao n' E:=by
    rcases G.2 with ⟨hv,_⟩|⟨g,E,aj,hv,_⟩
    · exact⟨_,_,_,hv⟩
    · exact⟨_,_,_,hv⟩
  go_wp2;go_ret2;refine⟨rfl,?_,?_⟩
  · exact Lib.BuilderAt.put (T:=69) (e:=5) hB C (bs':=bs++Lib.strCells s) (by simpa [Lib.strCells_length] using G) (by decide)
  · exact (D.grown H (by have:=D.size;omega) (fun k hk=>(F.lt k hk).1)).setCell (p:=⟨b,1,none⟩) hB _
set_option maxRecDepth 100000 in
set_option maxHeartbeats 1000000 in
theorem bd_string (B b:Nat) (l:List UInt8) (w:World) (h:Lib.IsBuilder 69 5 B b (Lib.byteCells l) w) (h0:l≠ []):
    Calls Try.prog 26 #[.pointer (some ⟨b,0,none⟩)] w fun e w'=>e= .returned (.string ⟨l.toArray⟩)∧Below B w w':=by
  obtain⟨p,hB,v,aa,D,af⟩: ∃ p,Lib.BuilderAt 69 5 B b p (Lib.byteCells l) w:=by
    rcases h with h|h
    · exact⟨_,h⟩
    · exact⟨_,h⟩
  have ab:l.length≠0:=by simpa using h0
  rw [Lib.byteCells_length]at D
  obtain⟨g,A,C,rfl,ac,hg,ag,ae,ah,aj⟩: ∃ g A C,v= .slice (some ⟨g,0,none⟩) l.length A∧B≤g∧w.heap[g]? =some (.cells C 5 (0,0))∧l.length≤A∧A≤maxLen∧C.size=A * 1∧C.toList.take (l.length * 1)=Lib.byteCells l:=by
    rcases D.2 with ⟨_,hz⟩|⟨g,A,C,hv,r⟩
    · exact absurd hz ab
    · exact⟨g,A,C,hv,r⟩
  have c1:w.drew.cell? ⟨b,1,none⟩=some (.slice (some ⟨g,0,none⟩) l.length A):=by have:w.drew.heap[b]? =some (.cells #[p,.slice (some ⟨g,0,none⟩) l.length A] 69 (0,0)):=aa;rw [Lib.cell_of_heap this];rfl
  have al : (Builtin.unsafeSliceData_ #[67] 106 #[.slice (some ⟨g, 0, none⟩) l.length A]).run Try.prog w.drew = .ok (.pointer (some ⟨g, 0, none⟩)) w.drew :=
    Lib.run_unsafeSliceData_row _ _ _ _ _ _ (by omega)
  have am:(Builtin.unsafeString_ #[106,3] 9 #[.pointer (some ⟨g,0,none⟩),.int .i64 l.length]).run Try.prog w.drew= .ok (.string ⟨l.toArray⟩) (w.drew.freeze ⟨g,0,none⟩ l.length):=by refine Lib.run_unsafeString_row w.drew 106 3 9 5 Try.underlying106 bd_cells g C.size (by have hg':w.drew.heap[g]? =some (.cells C 5 (0,0)):=hg;simp [World.shape?,hg']) l h0 (by omega) (by unfold maxLen at ae;omega) ?_;intro j x hx;have:=D.cells (g:=g) rfl j (.int .u8 x.toNat) (by simp [Lib.byteCells,hx]);exact this
  go_enter Try.func26,Try.ntmps26;go_wp2;go_region
  all_goals (go_wp2;go_ret;exact⟨rfl,Lib.below_freeze (Below.drew (Below.refl B w)) (p:=⟨g,0,none⟩) ac _⟩)
set_option maxRecDepth 100000 in
set_option maxHeartbeats 1000000 in
theorem bd_nil (B b:Nat) (p:Value) (w:World) (aa:w.heap[b]? =some (.cells #[p,.slice none 0 0] 69 (0,0))):
    Calls Try.prog 26 #[.pointer (some ⟨b,0,none⟩)] w fun e w'=>e= .returned (.string ⟨#[]⟩)∧Below B w w':=by
  have ab: ∀ W q,(Builtin.unsafeString_ #[106,3] 9 #[.pointer q,.int .i64 0]).run Try.prog W= .ok (.string .empty) W:=fun W q=>Lib.run_unsafeString_none W _ _ _ q
  have c1:w.drew.cell? ⟨b,1,none⟩=some (.slice none 0 0):=by have:w.drew.heap[b]? =some (.cells #[p,.slice none 0 0] 69 (0,0)):=aa;rw [Lib.cell_of_heap this];rfl
  have ac:(Builtin.unsafeSliceData_ #[67] 106 #[.slice none 0 0]).run Try.prog w.drew= .ok (.pointer none) w.drew:=rfl;go_enter Try.func26,Try.ntmps26;go_wp2;go_region
  all_goals (go_wp2;go_ret;exact⟨rfl,Below.drew (Below.refl B w)⟩)
set_option maxRecDepth 100000 in
set_option maxHeartbeats 2000000 in
theorem bd_noroom (B b g:Nat) (p:Value) (A:Array Value) (w:World) (aa:B≤w.heap.size) (C:w.heap[b]? =some (.cells #[p,.slice (some ⟨g,0,none⟩) 0 0] 69 (0,0))) (hg:w.heap[g]? =some (.cells A 5 (0,0))):
    Calls Try.prog 26 #[.pointer (some ⟨b,0,none⟩)] w fun e w'=>e= .returned (.string ⟨#[]⟩)∧Below B w w':=by
  have ac: ∀ W q,(Builtin.unsafeString_ #[106,3] 9 #[.pointer q,.int .i64 0]).run Try.prog W= .ok (.string .empty) W:=fun W q=>Lib.run_unsafeString_none W _ _ _ q
  have ab:b<w.heap.size:=blk_lt C;have c1:w.drew.cell? ⟨b,1,none⟩=some (.slice (some ⟨g,0,none⟩) 0 0):=by have:w.drew.heap[b]? =some (.cells #[p,.slice (some ⟨g,0,none⟩) 0 0] 69 (0,0)):=C;rw [Lib.cell_of_heap this];rfl
  have ae : (Builtin.unsafeSliceData_ #[67] 106 #[.slice (some ⟨g, 0, none⟩) 0 0]).run Try.prog w.drew = .ok (.pointer (some ⟨w.drew.heap.size, 0, none⟩)) (w.drew.alloc (.view ⟨g, 0, none⟩ 5)) :=
    Lib.run_unsafeSliceData_zero w.drew _ _ 5 Try.underlying106 ⟨g, 0, none⟩ 0 (5, A.size) (by have hg' : w.drew.heap[g]? = some (.cells A 5 (0, 0)) := hg; simp [World.shape?, hg'])
  have c2:(w.drew.alloc (.view ⟨g,0,none⟩ 5)).cell? ⟨b,1,none⟩=some (.slice (some ⟨g,0,none⟩) 0 0):=by have:(w.drew.alloc (.view ⟨g,0,none⟩ 5)).heap[b]? =_:=(Lib.alloc_old w.drew _ b ab).trans C;rw [Lib.cell_of_heap this];rfl
  have c3:(w.alloc (.view ⟨g,0,none⟩ 5)).drew.cell? ⟨b,1,none⟩=some (.slice (some ⟨g,0,none⟩) 0 0):=c2;have c0:w.cell? ⟨b,1,none⟩=some (.slice (some ⟨g,0,none⟩) 0 0):=c1;go_enter Try.func26,Try.ntmps26;go_wp2;go_region
  all_goals (go_wp2;go_ret;exact⟨rfl,(Below.drew (Below.refl B w)).alloc aa _⟩)
set_option maxRecDepth 100000 in
set_option maxHeartbeats 2000000 in
theorem bd_room (B b g A:Nat) (p:Value) (w:World) (C:A≠0) (aa:w.heap[b]? =some (.cells #[p,.slice (some ⟨g,0,none⟩) 0 A] 69 (0,0))):
    Calls Try.prog 26 #[.pointer (some ⟨b,0,none⟩)] w fun e w'=>e= .returned (.string ⟨#[]⟩)∧Below B w w':=by
  have ab: ∀ W q,(Builtin.unsafeString_ #[106,3] 9 #[.pointer q,.int .i64 0]).run Try.prog W= .ok (.string .empty) W:=fun W q=>Lib.run_unsafeString_none W _ _ _ q
  have c1:w.drew.cell? ⟨b,1,none⟩=some (.slice (some ⟨g,0,none⟩) 0 A):=by have:w.drew.heap[b]? =some (.cells #[p,.slice (some ⟨g,0,none⟩) 0 A] 69 (0,0)):=aa;rw [Lib.cell_of_heap this];rfl
  have ac : (Builtin.unsafeSliceData_ #[67] 106 #[.slice (some ⟨g, 0, none⟩) 0 A]).run Try.prog w.drew = .ok (.pointer (some ⟨g, 0, none⟩)) w.drew :=
    Lib.run_unsafeSliceData_row _ _ _ _ _ _ C
  clear C;go_enter Try.func26,Try.ntmps26;go_wp2;go_region
  all_goals (go_wp2;go_ret;exact⟨rfl,Below.drew (Below.refl B w)⟩)
theorem bd_any (B b:Nat) (l:List UInt8) (w:World) (h:Lib.IsBuilder 69 5 B b (Lib.byteCells l) w) (aa:B≤w.heap.size):
    Calls Try.prog 26 #[.pointer (some ⟨b,0,none⟩)] w fun e w'=>e= .returned (.string ⟨l.toArray⟩)∧Below B w w':=by
  by_cases h0:l= []
  · subst h0
    obtain⟨p,hB,v,A,ab,ae⟩: ∃ p,Lib.BuilderAt 69 5 B b p (Lib.byteCells []) w:=by
      rcases h with h|h
      · exact⟨_,h⟩
      · exact⟨_,h⟩
    rcases ab.2 with ⟨rfl,_⟩|⟨g,C,ac,rfl,_,hg,_⟩
    · exact bd_nil B b p w A
    · by_cases hc:C=0;·subst hc;exact bd_noroom B b g p ac w aa A hg
      · exact bd_room B b g C p w hc A
  · exact bd_string B b l w h h0
theorem byteCells_append (l m:List UInt8):Lib.byteCells (l++m)=Lib.byteCells l++Lib.byteCells m:=by simp [Lib.byteCells]
theorem bd_below {T e B b:Nat}{bs:List Value}{W W':World} (h:Lib.IsBuilder T e B b bs W) (hb:Below W.heap.size W W'):Lib.IsBuilder T e B b bs W':=by
  rcases h with ⟨h1,v,h2,h3,h4⟩|⟨h1,v,h2,h3,h4⟩
  · exact .inl ⟨h1,v,blk_below h2 hb,pw_own_below h3 hb,h4⟩
  · exact .inr ⟨h1,v,blk_below h2 hb,pw_own_below h3 hb,h4⟩
def gram_Stream.l (k : Nat) : List S35 → ByteArray → Option (ByteArray × Int)
  | [], acc => some (acc, 0)
  | x :: xs, acc => (msg_Put.f k x.f0 x.f1 x.f2 x.f3 x.f4.f0 x.f4.f1.f0 x.f4.f1.f1 x.f4.f2 x.f5.f0 x.f5.f1 x.f6 x.f7).bind fun t =>
    if t.2 ≠ 0 then some (⟨#[]⟩, t.2) else (cutter_Wrap.f t.1).bind fun u => if u.2 ≠ 0 then some (⟨#[]⟩, u.2)
    else if acc.size + u.1.size ≤ 140737488355328 then gram_Stream.l k xs (acc ++ u.1) else none
theorem gram_Stream.l_mono (k : Nat) : ∀ l A, LeO (gram_Stream.l k l A) (gram_Stream.l (k + 1) l A)
  | [], _ => LeO.refl _
  | x :: xs, A => LeO.bind (msg_Put.mono _ _ _ _ _ _ _ _ _ _ _ _ _) (fun _ => LeO.ite (LeO.refl _) (LeO.bind (LeO.refl _) (fun _ => LeO.ite (LeO.refl _) (LeO.ite (gram_Stream.l_mono k xs _) (LeO.refl _)))))
def gram_Stream.f (k:Nat) (l0:List (S35)):Option (ByteArray × Int):=gram_Stream.l k l0 ⟨#[]⟩
theorem gram_Stream.mono: ∀ l0 k,LeO (gram_Stream.f k l0) (gram_Stream.f (k+1) l0):=fun l0 k=>gram_Stream.l_mono k l0 _
set_option maxRecDepth 100000 in
set_option maxHeartbeats 4000000 in
theorem gram_Stream.calls (k:Nat) (A0:Option Addr) (c0:Nat) (l0:List (S35)) (r1:ByteArray) (r2:Int) (w:World) (H:Kd.C k35 w A0 l0.length l0) (N:l0.length≤c0) (h:gram_Stream.f k l0=some (r1,r2)):
    Calls Try.prog 17 #[.slice A0 l0.length c0] w fun e w'=>e= .returned (.tuple #[.string r1,.int .i64 r2])∧Below w.heap.size w w':=by
  have aa:=Aside0.mk H;have aC:=Aside0.mk N;have HM:=Aside0.mk (Kd.C_max H);have H0:=Aside0.mk h;clear H N h;go_enter Try.func17,Try.ntmps17;go_wp2;have I:=Aside0.mk (Lib.fresh_isBuilder 69 5 w);have L:=Aside0.mk (below_alloc (Below.refl w.heap.size w) (.cells #[.pointer none,.slice none 0 0] 69));generalize hw1:w.alloc (.cells #[.pointer none,.slice none 0 0] 69)=w1 at I L ⊢;clear hw1;go_loopg [12] l0.length (fun kq ab w'=> ∃ (i:Nat) (F:ByteArray),ab= .int .i64 (i:Int)∧Aside0 (i≤l0.length∧kq=l0.length - i)∧Aside0 (gram_Stream.l k (l0.drop i) F=some (r1,r2))∧Aside0 (Lib.IsBuilder 69 5 w.heap.size w.heap.size (Lib.byteCells F.data.toList) w')∧Aside0 (Below w.heap.size w w'))
  case atStart=>exact⟨0,⟨#[]⟩,rfl,⟨Nat.zero_le _,rfl⟩,H0,I,L⟩
  case round=>
    clear I L H0;obtain⟨i,F,rfl,HI,HA,HB,Hb⟩:=hrel;have hm:=HM.out;by_cases hi:i<l0.length
    · have hd:decide ((i:Int)<(l0.length:Int))=true:=dT (by omega);have O:l0.drop i=rd_T35 l0 (i:Int) :: l0.drop (i+1):=by rw [List.drop_eq_getElem_cons hi];simp [rd_T35,List.getD_eq_getElem?_getD,hi]
      have M:=HA.out;rw [O]at M;have p0:(0:Int)≤(i:Int):=by omega
      have q0:(i:Int)<(l0.length:Int):=by omega
      obtain⟨ad,ac,ae,af,ag,ah,aj,al,am,ap,aq,ar,au,av⟩:=at_T35 (Kd.C_below aa.out Hb.out) (i:Int) p0 q0;cases ac;simp only[Int.toNat_natCast]at ae af ag ah aj al am ap aq ar au av;generalize rd_T35 l0 (i:Int)=x at *;obtain⟨⟨t1,t2⟩,hp,ha⟩:=Option.bind_eq_some_iff.mp M;have HP:=Aside0.mk hp;have G:=Aside0.mk ha;clear hp ha M O HA;replace p0:=eq_true p0;replace q0:=eq_true q0;have R:=Aside0.mk hi;have aw:decide (i<l0.length)=true:=dT hi;by_cases c1:t2=0
      · subst c1;have ha:=G.out;rw [if_neg (by simp)]at ha;obtain⟨⟨u1,u2⟩,hp,ha⟩:=Option.bind_eq_some_iff.mp ha;have HW:=Aside0.mk hp;by_cases c2:u2=0
        · subst c2;rw [if_neg (by simp)]at ha;by_cases c3:F.size+u1.size≤140737488355328
          · rw [if_pos c3]at ha;have ax:=Aside0.mk ha;have H3:=Aside0.mk c3;clear hp ha G c3;go_wp2_with (first|(go_at_call 23;refine (msg_Put.calls k x.f0 x.f1 x.f2 x.f3 x.f4.f0 x.f4.f1.f0 x.f4.f1.f1 x.f4.f2 x.f5.f0 x.f5.f1 x.f6 x.f7 t1 0 _ HP.out).mono ?_;rintro e w5 ⟨rfl,A⟩;have T:=Aside0.mk (bd_below HB.out (below_step (below_alloc (Below.refl _ _) _) A));have D:=Aside0.mk (below_step (below_alloc Hb.out _) A);clear A)|(go_at_call 24;refine (cutter_Wrap.calls t1 u1 0 _ HW.out).mono ?_;rintro e w6 ⟨rfl,B⟩;have U:=Aside0.mk (bd_below T.out B);have E:=Aside0.mk (below_step D.out B);clear B T D)|(go_at_call 25;refine (bd_write w.heap.size w.heap.size _ u1 _ U.out (by have:=H3.out;simp [Lib.byteCells];exact this) E.out.size).mono ?_;rintro e w7 ⟨rfl,V,X⟩;have ay:=Aside0.mk V;have az:=Aside0.mk (E.out.trans X);clear V X U E));go_roundg (l0.length - (i+1))
            case measure=>have:=HI.out;have:=R.out;omega
            case rel=>exact⟨i+1,F++u1,by go_num,⟨by have:=R.out;omega,rfl⟩,ax,⟨.inr (by have h_:=ay.out;rw [ByteArray.data_append,Array.toList_append,byteCells_append];exact h_)⟩,az⟩
          ·rw [if_neg c3]at ha;cases ha
        ·rw [if_pos c2]at ha;simp only[Option.some.injEq,Prod.mk.injEq]at ha;obtain⟨rfl,rfl⟩:=ha;have aA:(u2 !=0)=true:=bne_iff_ne.mpr c2;clear hp G c2;go_wp2_with (first|(go_at_call 23;refine (msg_Put.calls k x.f0 x.f1 x.f2 x.f3 x.f4.f0 x.f4.f1.f0 x.f4.f1.f1 x.f4.f2 x.f5.f0 x.f5.f1 x.f6 x.f7 t1 0 _ HP.out).mono ?_;rintro e w5 ⟨rfl,A⟩;have D:=Aside0.mk (below_step (below_alloc Hb.out _) A);clear A)|(go_at_call 24;refine (cutter_Wrap.calls t1 u1 u2 _ HW.out).mono ?_;rintro e w6 ⟨rfl,B⟩;have E:=Aside0.mk (below_step D.out B);clear B D));go_ret2;exact⟨rfl,E.out⟩
      ·have ha:=G.out;rw [if_pos c1]at ha;simp only[Option.some.injEq,Prod.mk.injEq]at ha;obtain⟨rfl,rfl⟩:=ha;have aA:(t2 !=0)=true:=bne_iff_ne.mpr c1;clear G c1;go_wp2_with (go_at_call 23;refine (msg_Put.calls k x.f0 x.f1 x.f2 x.f3 x.f4.f0 x.f4.f1.f0 x.f4.f1.f1 x.f4.f2 x.f5.f0 x.f5.f1 x.f6 x.f7 t1 t2 _ HP.out).mono ?_;rintro e w5 ⟨rfl,A⟩;have D:=Aside0.mk (below_step (below_alloc Hb.out _) A);clear A);go_ret2;exact⟨rfl,D.out⟩
    ·have hd:decide ((i:Int)<(l0.length:Int))=false:=dF (by omega);have ha:=HA.out;rw [List.drop_eq_nil_of_le (by omega)]at ha;simp only[gram_Stream.l,Option.some.injEq,Prod.mk.injEq]at ha;obtain⟨rfl,rfl⟩:=ha;have aw:decide (i<l0.length)=false:=dF hi;clear HA;go_wp2_with (go_at_call 26;refine (bd_any w.heap.size w.heap.size _ _ HB.out Hb.out.size).mono ?_;rintro e w6 ⟨rfl,B⟩;have E:=Aside0.mk (Hb.out.trans B);clear B);go_ret2;exact⟨rfl,E.out⟩
theorem event_runw {P:Program}{A:Array Oper}{o:Oper}{B:List Oper}{a:Act}{Q:Exit→Act→World→Prop}{W w1:World}{v:Value} (hw:o.guard=none∨Region.wanted o (yielded A a.tmps)=true) (C:(execOp a.eval o).run P W= .ok (.value v) w1) (h:wpList P A Q B (a.put o.dst v) w1):wpList P A Q (o :: B) a W:=by
 rcases hw with hw|hw
 ·exact Kd.event_run hw C h
 ·unfold wpList;rw [if_pos hw];refine .inl ?_;unfold Oper.wp;rw [C];exact h
theorem R_litg {α:Type}{P:Program}{A:Array Oper}{o:Oper}{B:List Oper}{a:Act}{Q:Exit→Act→World→Prop} (d:Kd α) {w0 W:World} (base e:Nat) (aa:o.guard=none∨Region.wanted o (yielded A a.tmps)=true) {N:Tmp} (_hd:o.dst=some N) {xs:List α}{inner:List Value}{ok okp:Nat→Prop}
  (ab:(execOp a.eval o).run P W= .ok (.value (.slice (some ⟨W.heap.size,0,none⟩) xs.length xs.length)) (W.alloc (.cells inner.toArray e)))
  (C:Reps (d.M W base okp) d.sz xs inner) (ac: ∀ k,okp k→ok k) (ae:ok W.heap.size) (HB:Below base w0 W) (D:base≤W.heap.size) (hm:xs.length≤9223372036854775807)
  (h: ∀ v1 w1,d.R e w1 base ok v1 xs→Below base w0 w1→W.grownBy w1 none→(∃ b,v1.ownBlock=some b∧W.heap.size≤b)→wpList P A Q B (a.put o.dst v1) w1):wpList P A Q (o :: B) a W:=by
 refine event_runw aa ab (h _ _ ⟨fun k hk=>?_,inner,?_,?_⟩ (HB.alloc D _) (World.grownBy_alloc W _ none) ⟨W.heap.size,by simp [Value.ownBlock],Nat.le_refl _⟩)
 ·have:W.heap.size=k:=by simpa [Value.ownBlock] using hk
  subst this;exact ae
 ·have h2:=World.ownsRow_lit (base:=base) (e:=e) (size:=d.sz) W inner.toArray xs.length D (by simpa [maxLen] using hm) (by simpa using C.1)
  simpa using h2
 ·refine C.imp_ (fun p c hp=>d.M_mono (fun k hk=>⟨ac k hk.1,fun he=>?_⟩) (Kd.M_below (d.M_bound hp) (below_alloc (Below.refl _ _) _)));have h3:k=W.heap.size:=by simpa [Value.ownBlock] using he
  have:=hk.2.2.1;omega
def spoorlaw13_lives.f (k:Nat)  :Option (Bool):=(gram_Stream.f k (([(⟨1,1,1,5,(⟨false,(⟨0,0⟩:S28),0⟩:S30),(⟨0,0⟩:S33),0,0⟩:S35)]:List (S35)))).bind fun B=>(if B.1.size+1≤9223372036854775807 then ((gram_Gots.f k (B.1++(⟨#[0]⟩:ByteArray))).bind fun aa=>(if B.1.size+4≤9223372036854775807 then ((gram_Pieces.f k (B.1++(⟨#[245,0,0,245]⟩:ByteArray))).bind fun ab=>((gram_Of.f k 1 (⟨#[63]⟩:ByteArray)).bind fun A=>((gram_Of.f k 2 (⟨#[63]⟩:ByteArray)).bind fun ac=>((gram_Stream.f k (([(⟨0,0,0,0,(⟨false,(⟨0,0⟩:S28),0⟩:S30),(⟨0,0⟩:S33),0,0⟩:S35)]:List (S35)))).bind fun ae=>(if B.1.toList=([245,0,4,1,1,1,5]:List UInt8) then (if B.2=0 then ((spoorref13_Same.f k aa (([(⟨(⟨1,1,1,5,(⟨false,(⟨0,0⟩:S28),0⟩:S30),(⟨0,0⟩:S33),0,0⟩:S35),0⟩:S38),(⟨(⟨0,0,0,0,(⟨false,(⟨0,0⟩:S28),0⟩:S30),(⟨0,0⟩:S33),0,0⟩:S35),7⟩:S38)]:List (S38)))).bind fun af=>(if af=true then ((spoorref12_Same.f k ab (([(⟨1,(⟨#[1,1,1,5]⟩:ByteArray)⟩:S24),(⟨3,(⟨#[]⟩:ByteArray)⟩:S24)]:List (S24)))).bind fun ag=>(if ag=true then (if ((A.1==0&&(A.2.1==0&&(A.2.2.1==0&&(A.2.2.2.1==0&&((!A.2.2.2.2.1&&((A.2.2.2.2.2.1==0&&(A.2.2.2.2.2.2.1==0))&&(A.2.2.2.2.2.2.2.1==0)))&&((A.2.2.2.2.2.2.2.2.1==0&&(A.2.2.2.2.2.2.2.2.2.1==0))&&(A.2.2.2.2.2.2.2.2.2.2.1==0&&(A.2.2.2.2.2.2.2.2.2.2.2.1==0))))))))&&(A.2.2.2.2.2.2.2.2.2.2.2.2.1==2))=true then (if A.2.2.2.2.2.2.2.2.2.2.2.2.2=0 then (if ac.2.2.2.2.2.2.2.2.2.2.2.2.2=2 then (some (ae.2==2)) else (none)) else (none)) else (none)) else (none))) else (none))) else (none)) else (none)))))) else (none))) else (none))
theorem spoorlaw13_lives.mono: ∀ k,LeO (spoorlaw13_lives.f k) (spoorlaw13_lives.f (k+1)):=by
 intro  k;unfold spoorlaw13_lives.f
 repeat' first
   | (with_reducible exact gram_Gots.mono _ _)
   | (with_reducible exact gram_Of.mono _ _ _)
   | (with_reducible exact gram_Pieces.mono _ _)
   | (with_reducible exact gram_Stream.mono _ _)
   | (with_reducible exact spoorref12_Same.mono _ _ _)
   | (with_reducible exact spoorref13_Same.mono _ _ _)
   | (with_reducible exact LeO.refl _)
   | (with_reducible exact LeO.none _)
   | (with_reducible refine LeO.ite ?_ ?_)
   | (with_reducible refine LeO.bind ?_ (fun _ => ?_))
   | exact gram_Gots.mono _ _
   | exact gram_Of.mono _ _ _
   | exact gram_Pieces.mono _ _
   | exact gram_Stream.mono _ _
   | exact spoorref12_Same.mono _ _ _
   | exact spoorref13_Same.mono _ _ _
   | exact LeO.none _
   | refine LeO.ite ?_ ?_
   | refine LeO.bind ?_ (fun _ => ?_)
set_option maxHeartbeats 8000000 in
set_option maxRecDepth 100000 in
theorem spoorlaw13_lives.calls (k:Nat)  (r:Bool) (w:World) (h:spoorlaw13_lives.f k  =some r):
  Calls Try.prog 10 #[] w fun e w'=>e= .returned (.bool r)∧Below w.heap.size w w':=by
 have cu:=Try.underlying35;have cv:=Try.underlying24;have cw:=Try.underlying38;have HB:=Ax (Below.refl w.heap.size w);have H:((gram_Stream.f k (([(⟨1,1,1,5,(⟨false,(⟨0,0⟩:S28),0⟩:S30),(⟨0,0⟩:S33),0,0⟩:S35)]:List (S35)))).bind fun az=>(if az.1.size+1≤9223372036854775807 then ((gram_Gots.f k (az.1++(⟨#[0]⟩:ByteArray))).bind fun aK=>(if az.1.size+4≤9223372036854775807 then ((gram_Pieces.f k (az.1++(⟨#[245,0,0,245]⟩:ByteArray))).bind fun aG=>((gram_Of.f k 1 (⟨#[63]⟩:ByteArray)).bind fun L=>((gram_Of.f k 2 (⟨#[63]⟩:ByteArray)).bind fun bz=>((gram_Stream.f k (([(⟨0,0,0,0,(⟨false,(⟨0,0⟩:S28),0⟩:S30),(⟨0,0⟩:S33),0,0⟩:S35)]:List (S35)))).bind fun bf=>(if az.1.toList=([245,0,4,1,1,1,5]:List UInt8) then (if az.2=0 then ((spoorref13_Same.f k aK (([(⟨(⟨1,1,1,5,(⟨false,(⟨0,0⟩:S28),0⟩:S30),(⟨0,0⟩:S33),0,0⟩:S35),0⟩:S38),(⟨(⟨0,0,0,0,(⟨false,(⟨0,0⟩:S28),0⟩:S30),(⟨0,0⟩:S33),0,0⟩:S35),7⟩:S38)]:List (S38)))).bind fun aH=>(if aH=true then ((spoorref12_Same.f k aG (([(⟨1,(⟨#[1,1,1,5]⟩:ByteArray)⟩:S24),(⟨3,(⟨#[]⟩:ByteArray)⟩:S24)]:List (S24)))).bind fun aA=>(if aA=true then (if ((L.1==0&&(L.2.1==0&&(L.2.2.1==0&&(L.2.2.2.1==0&&((!L.2.2.2.2.1&&((L.2.2.2.2.2.1==0&&(L.2.2.2.2.2.2.1==0))&&(L.2.2.2.2.2.2.2.1==0)))&&((L.2.2.2.2.2.2.2.2.1==0&&(L.2.2.2.2.2.2.2.2.2.1==0))&&(L.2.2.2.2.2.2.2.2.2.2.1==0&&(L.2.2.2.2.2.2.2.2.2.2.2.1==0))))))))&&(L.2.2.2.2.2.2.2.2.2.2.2.2.1==2))=true then (if L.2.2.2.2.2.2.2.2.2.2.2.2.2=0 then (if bz.2.2.2.2.2.2.2.2.2.2.2.2.2=2 then (some (bf.2==2)) else (none)) else (none)) else (none)) else (none))) else (none))) else (none)) else (none)))))) else (none))) else (none)))=some r:=h;clear h;obtain⟨bA,bg⟩: ∃ y_:List (S35),y_=(([(⟨1,1,1,5,(⟨false,(⟨0,0⟩:S28),0⟩:S30),(⟨0,0⟩:S33),0,0⟩:S35)]:List (S35))):=⟨_,rfl⟩;replace H:((gram_Stream.f k bA).bind fun az=>(if az.1.size+1≤9223372036854775807 then ((gram_Gots.f k (az.1++(⟨#[0]⟩:ByteArray))).bind fun aK=>(if az.1.size+4≤9223372036854775807 then ((gram_Pieces.f k (az.1++(⟨#[245,0,0,245]⟩:ByteArray))).bind fun aG=>((gram_Of.f k 1 (⟨#[63]⟩:ByteArray)).bind fun L=>((gram_Of.f k 2 (⟨#[63]⟩:ByteArray)).bind fun bz=>((gram_Stream.f k (([(⟨0,0,0,0,(⟨false,(⟨0,0⟩:S28),0⟩:S30),(⟨0,0⟩:S33),0,0⟩:S35)]:List (S35)))).bind fun bf=>(if az.1.toList=([245,0,4,1,1,1,5]:List UInt8) then (if az.2=0 then ((spoorref13_Same.f k aK (([(⟨(⟨1,1,1,5,(⟨false,(⟨0,0⟩:S28),0⟩:S30),(⟨0,0⟩:S33),0,0⟩:S35),0⟩:S38),(⟨(⟨0,0,0,0,(⟨false,(⟨0,0⟩:S28),0⟩:S30),(⟨0,0⟩:S33),0,0⟩:S35),7⟩:S38)]:List (S38)))).bind fun aH=>(if aH=true then ((spoorref12_Same.f k aG (([(⟨1,(⟨#[1,1,1,5]⟩:ByteArray)⟩:S24),(⟨3,(⟨#[]⟩:ByteArray)⟩:S24)]:List (S24)))).bind fun aA=>(if aA=true then (if ((L.1==0&&(L.2.1==0&&(L.2.2.1==0&&(L.2.2.2.1==0&&((!L.2.2.2.2.1&&((L.2.2.2.2.2.1==0&&(L.2.2.2.2.2.2.1==0))&&(L.2.2.2.2.2.2.2.1==0)))&&((L.2.2.2.2.2.2.2.2.1==0&&(L.2.2.2.2.2.2.2.2.2.1==0))&&(L.2.2.2.2.2.2.2.2.2.2.1==0&&(L.2.2.2.2.2.2.2.2.2.2.2.1==0))))))))&&(L.2.2.2.2.2.2.2.2.2.2.2.2.1==2))=true then (if L.2.2.2.2.2.2.2.2.2.2.2.2.2=0 then (if bz.2.2.2.2.2.2.2.2.2.2.2.2.2=2 then (some (bf.2==2)) else (none)) else (none)) else (none)) else (none))) else (none))) else (none)) else (none)))))) else (none))) else (none)))=some r:=by first|(rw [bg];with_reducible exact H)|(have ae:=(Option.bind_some _ _).symm.trans H;rw [bg];with_reducible exact ae)|(have ae:=(Option.bind_some _ _).symm.trans H;with_reducible exact ae)|with_reducible exact H|(rw [bg];exact H)|exact H
 have bE:=Ax bg;clear bg;replace H:=bI H;obtain⟨⟨af,bh⟩,bF,H⟩:=H;dsimp only at H;have A1:=Ax bF;clear bF;by_cases c2:af.size+1≤9223372036854775807
 ·rw [if_pos c2]at H;have cx:=eq_true c2;have cy:decide (af.size+1≤9223372036854775807)=true:=dT c2;try have cz:(9223372036854775807<af.size+1)=False:=eq_false (Nat.not_lt.2 c2)
  replace H:=bI H;obtain⟨aK,bG,H⟩:=H;(try dsimp only at H);have A3:=Ax bG;clear bG;by_cases c4:af.size+4≤9223372036854775807
  ·rw [if_pos c4]at H;have cA:=eq_true c4;have cB:decide (af.size+4≤9223372036854775807)=true:=dT c4;try have cC:(9223372036854775807<af.size+4)=False:=eq_false (Nat.not_lt.2 c4)
   replace H:=bI H;obtain⟨aG,bH,H⟩:=H;(try dsimp only at H);have A5:=Ax bH;clear bH;replace H:=bI H;obtain⟨⟨ag,ah,aj,al,am,ap,aq,ar,au,av,aw,ax,ay,aI⟩,bJ,H⟩:=H;dsimp only at H;have A6:=Ax bJ;clear bJ;replace H:=bI H;obtain⟨⟨aR,aT,aU,aV,aW,aY,aZ,b2,b3,b4,b5,b6,b7,aJ⟩,bK,H⟩:=H;dsimp only at H;have A7:=Ax bK;clear bK;obtain⟨bB,bi⟩: ∃ y_:List (S35),y_=(([(⟨0,0,0,0,(⟨false,(⟨0,0⟩:S28),0⟩:S30),(⟨0,0⟩:S33),0,0⟩:S35)]:List (S35))):=⟨_,rfl⟩;replace H:((gram_Stream.f k bB).bind fun bf=>(if af.toList=([245,0,4,1,1,1,5]:List UInt8) then (if bh=0 then ((spoorref13_Same.f k aK (([(⟨(⟨1,1,1,5,(⟨false,(⟨0,0⟩:S28),0⟩:S30),(⟨0,0⟩:S33),0,0⟩:S35),0⟩:S38),(⟨(⟨0,0,0,0,(⟨false,(⟨0,0⟩:S28),0⟩:S30),(⟨0,0⟩:S33),0,0⟩:S35),7⟩:S38)]:List (S38)))).bind fun aH=>(if aH=true then ((spoorref12_Same.f k aG (([(⟨1,(⟨#[1,1,1,5]⟩:ByteArray)⟩:S24),(⟨3,(⟨#[]⟩:ByteArray)⟩:S24)]:List (S24)))).bind fun aA=>(if aA=true then (if ((ag==0&&(ah==0&&(aj==0&&(al==0&&((!am&&((ap==0&&(aq==0))&&(ar==0)))&&((au==0&&(av==0))&&(aw==0&&(ax==0))))))))&&(ay==2))=true then (if aI=0 then (if aJ=2 then (some (bf.2==2)) else (none)) else (none)) else (none)) else (none))) else (none))) else (none)) else (none)))=some r:=by first|(rw [bi];with_reducible exact H)|(have ae:=(Option.bind_some _ _).symm.trans H;rw [bi];with_reducible exact ae)|(have ae:=(Option.bind_some _ _).symm.trans H;with_reducible exact ae)|with_reducible exact H|(rw [bi];exact H)|exact H
   have bL:=Ax bi;clear bi;replace H:=bI H;obtain⟨⟨bZ,bj⟩,bM,H⟩:=H;dsimp only at H;have A8:=Ax bM;clear bM;by_cases c9:af.toList=([245,0,4,1,1,1,5]:List UInt8)
   ·rw [if_pos c9]at H;have cD:(af.toList==([245,0,4,1,1,1,5]:List UInt8))=true:=beq_iff_eq.mpr c9;have cE:(af.toList !=([245,0,4,1,1,1,5]:List UInt8))=false:=bne_eq_false_iff_eq.mpr c9;clear c9;by_cases c10:bh=0
    ·rw [if_pos c10]at H;have cF:(bh==0)=true:=beq_iff_eq.mpr c10;have cG:(bh !=0)=false:=bne_eq_false_iff_eq.mpr c10;clear c10;obtain⟨bN,bk⟩: ∃ y_:List (S38),y_=(([(⟨(⟨1,1,1,5,(⟨false,(⟨0,0⟩:S28),0⟩:S30),(⟨0,0⟩:S33),0,0⟩:S35),0⟩:S38),(⟨(⟨0,0,0,0,(⟨false,(⟨0,0⟩:S28),0⟩:S30),(⟨0,0⟩:S33),0,0⟩:S35),7⟩:S38)]:List (S38))):=⟨_,rfl⟩;replace H:((spoorref13_Same.f k aK bN).bind fun aH=>(if aH=true then ((spoorref12_Same.f k aG (([(⟨1,(⟨#[1,1,1,5]⟩:ByteArray)⟩:S24),(⟨3,(⟨#[]⟩:ByteArray)⟩:S24)]:List (S24)))).bind fun aA=>(if aA=true then (if ((ag==0&&(ah==0&&(aj==0&&(al==0&&((!am&&((ap==0&&(aq==0))&&(ar==0)))&&((au==0&&(av==0))&&(aw==0&&(ax==0))))))))&&(ay==2))=true then (if aI=0 then (if aJ=2 then (some (bj==2)) else (none)) else (none)) else (none)) else (none))) else (none)))=some r:=by first|(rw [bk];with_reducible exact H)|(have ae:=(Option.bind_some _ _).symm.trans H;rw [bk];with_reducible exact ae)|(have ae:=(Option.bind_some _ _).symm.trans H;with_reducible exact ae)|with_reducible exact H|(rw [bk];exact H)|exact H
     have bO:=Ax bk;clear bk;replace H:=bI H;obtain⟨aH,bP,H⟩:=H;(try dsimp only at H);have cd:=Ax bP;clear bP;by_cases bu:aH=true
     ·subst bu;have H1:((spoorref12_Same.f k aG (([(⟨1,(⟨#[1,1,1,5]⟩:ByteArray)⟩:S24),(⟨3,(⟨#[]⟩:ByteArray)⟩:S24)]:List (S24)))).bind fun aA=>(if aA=true then (if ((ag==0&&(ah==0&&(aj==0&&(al==0&&((!am&&((ap==0&&(aq==0))&&(ar==0)))&&((au==0&&(av==0))&&(aw==0&&(ax==0))))))))&&(ay==2))=true then (if aI=0 then (if aJ=2 then (some (bj==2)) else (none)) else (none)) else (none)) else (none)))=some r:=by rw [if_pos rfl]at H;exact H
      clear H;have H:=H1;clear H1;obtain⟨bQ,bl⟩: ∃ y_:List (S24),y_=(([(⟨1,(⟨#[1,1,1,5]⟩:ByteArray)⟩:S24),(⟨3,(⟨#[]⟩:ByteArray)⟩:S24)]:List (S24))):=⟨_,rfl⟩;replace H:((spoorref12_Same.f k aG bQ).bind fun aA=>(if aA=true then (if ((ag==0&&(ah==0&&(aj==0&&(al==0&&((!am&&((ap==0&&(aq==0))&&(ar==0)))&&((au==0&&(av==0))&&(aw==0&&(ax==0))))))))&&(ay==2))=true then (if aI=0 then (if aJ=2 then (some (bj==2)) else (none)) else (none)) else (none)) else (none)))=some r:=by first|(rw [bl];with_reducible exact H)|(have ae:=(Option.bind_some _ _).symm.trans H;rw [bl];with_reducible exact ae)|(have ae:=(Option.bind_some _ _).symm.trans H;with_reducible exact ae)|with_reducible exact H|(rw [bl];exact H)|exact H
      have bR:=Ax bl;clear bl;replace H:=bI H;obtain⟨aA,bS,H⟩:=H;(try dsimp only at H);have ce:=Ax bS;clear bS;by_cases bv:aA=true
      ·subst bv;have H1:(if ((ag==0&&(ah==0&&(aj==0&&(al==0&&((!am&&((ap==0&&(aq==0))&&(ar==0)))&&((au==0&&(av==0))&&(aw==0&&(ax==0))))))))&&(ay==2))=true then (if aI=0 then (if aJ=2 then (some (bj==2)) else (none)) else (none)) else (none))=some r:=by rw [if_pos rfl]at H;exact H
       clear H;have H:=H1;clear H1;by_cases bx:((ag==0&&(ah==0&&(aj==0&&(al==0&&((!am&&((ap==0&&(aq==0))&&(ar==0)))&&((au==0&&(av==0))&&(aw==0&&(ax==0))))))))&&(ay==2))=true
       ·rw [if_pos bx]at H;have cH:((ag==0&&(ah==0&&(aj==0&&(al==0&&((!am&&((ap==0&&(aq==0))&&(ar==0)))&&((au==0&&(av==0))&&(aw==0&&(ax==0))))))))&&(ay==2))=true:=bx;clear bx;by_cases bm:aI=0
        ·rw [if_pos bm]at H;have cI:(aI==0)=true:=beq_iff_eq.mpr bm;have cJ:(aI !=0)=false:=bne_eq_false_iff_eq.mpr bm;clear bm;by_cases bn:aJ=2
         ·rw [if_pos bn]at H;have cK:(aJ==2)=true:=beq_iff_eq.mpr bn;have cL:(aJ !=2)=false:=bne_eq_false_iff_eq.mpr bn;clear bn;obtain rfl:=Option.some.inj H;go_enter Try.func10,Try.ntmps10;try simp only[List.append_eq,List.cons_append,List.nil_append]
          go_wp2_with (first|((with_reducible refine gate_dst (N:=1) rfl ?_);refine bX (N:=1) (cs:= #[.int .u8 0,.int .i64 0,.int .u64 0,.int .i64 0,.bool false,.int .u64 0,.int .u64 0,.int .i64 0,.int .u8 0,.int .i64 0,.int .i64 0,.int .i64 0]) (t:=35) ?_;intro bo hg cM aM hb;have C:=Ax (aM);have cN:=Gw0 HB hg;have V:=Gw0 HB hg;replace HB:=Bs0 HB hb;clear hb aM hg;obtain⟨cO,cP,cQ,cR,cS,cT,cU,cV,cW,cX,cY,cZ,d2,d3,d4,d5,d6,d7,d8,d9,da,db,dc,dd⟩:=cl12 C)|((with_reducible refine gate_dst (N:=15) rfl ?_);refine R_litg k35 _ 35 ?hg (N:=15) ?hd (xs:=([(⟨1,1,1,5,(⟨false,(⟨0,0⟩:S28),0⟩:S30),(⟨0,0⟩:S33),0,0⟩:S35)]:List (S35))) (inner:= [.int .u8 1,.int .i64 1,.int .u64 1,.int .i64 5,.bool false,.int .u64 0,.int .u64 0,.int .i64 0,.int .u8 0,.int .i64 0,.int .i64 0,.int .i64 0]) (ok:=fun _=>True) (okp:=fun _=>True) ?hr ?hp (fun _ hk=>hk) trivial (Below.refl _ _) (Nat.le_refl _) (by simp) ?_;(case hd=>rfl);(case hg=>first|exact Or.inl rfl|exact Or.inr rfl);(case hr=>first|(go_simp;done)|(go_simp;rfl));(case hp=>exact (Reps.front (show Kd.M k35 _ _ _ (⟨1,1,1,5,(⟨false,(⟨0,0⟩:S28),0⟩:S30),(⟨0,0⟩:S33),0,0⟩:S35) [.int .u8 1,.int .i64 1,.int .u64 1,.int .i64 5,.bool false,.int .u64 0,.int .u64 0,.int .i64 0,.int .u8 0,.int .i64 0,.int .i64 0,.int .i64 0] from (k35_mkM _ _ _ (⟨1,1,1,5,(⟨false,(⟨0,0⟩:S28),0⟩:S30),(⟨0,0⟩:S33),0,0⟩:S35))) rfl (Reps.none _ _) rfl));intro de df bq hb b8 b9;clear b8 b9;(first|rw [← bE.out]at bq|(simp only[Int.reduceToNat]at bq;rw [← bE.out]at bq));have D:=Ax (Kd.R_lower (Kd.R_newB bq (g:=bo) (o:=.cells #[.int .u8 1,.int .i64 1,.int .u64 1,.int .i64 5,.bool false,.int .u64 0,.int .u64 0,.int .i64 0,.int .u8 0,.int .i64 0,.int .i64 0,.int .i64 0] 35 (0,0)) (gB C.out)) (below_size (bw1 HB.out V.out)));replace C:=Ax (blk_below (g:=bo) (o:=.cells #[.int .u8 1,.int .i64 1,.int .u64 1,.int .i64 5,.bool false,.int .u64 0,.int .u64 0,.int .i64 0,.int .u8 0,.int .i64 0,.int .i64 0,.int .i64 0] 35 (0,0)) (gB C.out) hb);replace HB:=Bs1 HB hb V.out;clear hb bq;obtain⟨cf,cg,ch⟩:=Kd.R_slice D.out;subst ch)|((with_reducible refine gate_callee (f:=17) rfl ?_);refine goesL_ (some 16) rfl rfl Try.func17 (by kernel_rfl) rfl #[.slice cf bA.length cg] rfl gS ?_;(with_reducible refine (gram_Stream.calls k _ _ bA af bh _ ?side1 ?side2 A1.out).mono ?_);(case side1=>repeat (first|exact (Kd.R_reads' D.out).2.2|(with_reducible refine Kd.C_alloc ?_ _)|(with_reducible refine Kd.C_drewN ?_ _)|(with_reducible refine Kd.C_drew ?_)));(case side2=>exact (Kd.R_reads' D.out).2.1);rintro e dg ⟨rfl,hb⟩;refine⟨_,rfl,?_⟩;have E:=Ax (Kd.R_below (by (with_reducible repeat (first|apply Kd.R_alloc|apply Kd.R_drewN|apply Kd.R_drew));exact D.out) hb);have F:=Bx0 C hb;have G:=Bs1 HB hb V.out;clear D;clear C;clear HB;have D:=E;have C:=F;have HB:=G;clear E F G;(try clear hb);(try clear hb2);(try clear hk);(try clear hi))|((with_reducible refine gate_callee (f:=15) rfl ?_);refine goesL_ (some 21) rfl rfl Try.func15 (by kernel_rfl) rfl #[.string (af++(⟨#[0]⟩:ByteArray))] rfl gS ?_;(with_reducible refine (gram_Gots.calls k (af++(⟨#[0]⟩:ByteArray)) aK _ A3.out).mono ?_);rintro e dh ⟨di,rfl,br,hb⟩;refine⟨_,rfl,?_⟩;have E:=Ax (Kd.R_below (by (with_reducible repeat (first|apply Kd.R_alloc|apply Kd.R_drewN|apply Kd.R_drew));exact D.out) hb);have F:=Ax (Kd.R_lower br (below_size (bw1 HB.out V.out)));have G:=Bx0 C hb;have O:=Bs1 HB hb V.out;clear D;clear C;clear HB;have D:=E;have I:=F;have C:=G;have HB:=O;clear E F G O;(try clear hb);(try clear hb2);(try clear hk);(try clear hi);(try clear br))|((with_reducible refine gate_callee (f:=12) rfl ?_);refine goesL_ (some 24) rfl rfl Try.func12 (by kernel_rfl) rfl #[.string (af++(⟨#[245,0,0,245]⟩:ByteArray))] rfl gS ?_;(with_reducible refine (gram_Pieces.calls k (af++(⟨#[245,0,0,245]⟩:ByteArray)) aG _ A5.out).mono ?_);rintro e dj ⟨dk,rfl,br,hb⟩;refine⟨_,rfl,?_⟩;have E:=Ax (Kd.R_below (by (with_reducible repeat (first|apply Kd.R_alloc|apply Kd.R_drewN|apply Kd.R_drew));exact D.out) hb);have F:=Ax (Kd.R_below (by (with_reducible repeat (first|apply Kd.R_alloc|apply Kd.R_drewN|apply Kd.R_drew));exact I.out) hb);have G:=Ax (Kd.R_lower br (below_size (bw1 HB.out V.out)));have O:=Bx0 C hb;have T:=Bs1 HB hb V.out;clear D;clear I;clear C;clear HB;have D:=E;have I:=F;have R:=G;have C:=O;have HB:=T;clear E F G O T;(try clear hb);(try clear hb2);(try clear hk);(try clear hi);(try clear br))|((with_reducible refine gate_callee (f:=8) rfl ?_);refine goesL_ (some 27) rfl rfl Try.func8 (by kernel_rfl) rfl #[.agg #[.int .u8 1,.string (⟨#[63]⟩:ByteArray)]] rfl gS ?_;(with_reducible refine (gram_Of.calls k 1 (⟨#[63]⟩:ByteArray) ag ah aj al am ap aq ar au av aw ax ay aI _ A6.out).mono ?_);rintro e dl ⟨rfl,hb⟩;refine⟨_,rfl,?_⟩;have E:=Ax (Kd.R_below (by (with_reducible repeat (first|apply Kd.R_alloc|apply Kd.R_drewN|apply Kd.R_drew));exact D.out) hb);have F:=Ax (Kd.R_below (by (with_reducible repeat (first|apply Kd.R_alloc|apply Kd.R_drewN|apply Kd.R_drew));exact I.out) hb);have G:=Ax (Kd.R_below (by (with_reducible repeat (first|apply Kd.R_alloc|apply Kd.R_drewN|apply Kd.R_drew));exact R.out) hb);have O:=Bx0 C hb;have T:=Bs1 HB hb V.out;clear D;clear I;clear R;clear C;clear HB;have D:=E;have I:=F;have R:=G;have C:=O;have HB:=T;clear E F G O T;(try clear hb);(try clear hb2);(try clear hk);(try clear hi))|((with_reducible refine gate_dst (N:=6) rfl ?_);refine bX (N:=6) (cs:= #[.int .u8 0,.int .i64 0,.int .u64 0,.int .i64 0,.bool false,.int .u64 0,.int .u64 0,.int .i64 0,.int .u8 0,.int .i64 0,.int .i64 0,.int .i64 0,.int .i64 0]) (t:=38) ?_;intro B hg dm aM hb;have E:=Ax (Kd.R_below (by (with_reducible repeat (first|apply Kd.R_alloc|apply Kd.R_drewN|apply Kd.R_drew));exact D.out) hb);have F:=Ax (Kd.R_below (Kd.R_elderB (by (with_reducible repeat (first|apply Kd.R_alloc|apply Kd.R_drewN|apply Kd.R_drew));exact I.out) B (Nat.le_of_eq hg.symm)) hb);have G:=Ax (Kd.R_below (by (with_reducible repeat (first|apply Kd.R_alloc|apply Kd.R_drewN|apply Kd.R_drew));exact R.out) hb);have O:=Bx0 C hb;have T:=Bs1 HB hb V.out;have X:=Ax (aM);have aa:=Gw1 HB hg V.out;have ab:=Gw1 HB hg V.out;have aE:=Nl0 C hg;have aN:=Nr0 C hg;clear D;clear I;clear R;clear C;clear HB;have D:=E;have I:=F;have R:=G;have C:=O;have HB:=T;have U:=X;have dn:=aa;have aC:=ab;have bT:=aE;have ci:=aN;clear E F G O T X aa ab aE aN;clear hb aM hg;have dp:=ci.out;have dq:=bT.out;obtain⟨dr,dt,du,dv,dw,dx,dy,dz,dA,dB,dC,dD,dE,dG,dH,dI,dJ,dK,dL,dM,dN,dO,dP,dQ,dR,dS⟩:=cl13 U)|((with_reducible refine gate_callee (f:=8) rfl ?_);refine goesL_ (some 32) rfl rfl Try.func8 (by kernel_rfl) rfl #[.agg #[.int .u8 2,.string (⟨#[63]⟩:ByteArray)]] rfl gS ?_;(with_reducible refine (gram_Of.calls k 2 (⟨#[63]⟩:ByteArray) aR aT aU aV aW aY aZ b2 b3 b4 b5 b6 b7 aJ _ A7.out).mono ?_);rintro e dU ⟨rfl,hb⟩;refine⟨_,rfl,?_⟩;have E:=Ax (Kd.R_below (by (with_reducible repeat (first|apply Kd.R_alloc|apply Kd.R_drewN|apply Kd.R_drew));exact (Kd.R_mono (Kd.R_far (p:=⟨B,12,none⟩) (Kd.R_far (p:=⟨B,11,none⟩) (Kd.R_far (p:=⟨B,10,none⟩) (Kd.R_far (p:=⟨B,9,none⟩) (Kd.R_far (p:=⟨B,8,none⟩) (Kd.R_far (p:=⟨B,7,none⟩) (Kd.R_far (p:=⟨B,6,none⟩) (Kd.R_far (p:=⟨B,5,none⟩) (Kd.R_far (p:=⟨B,4,none⟩) (Kd.R_far (p:=⟨B,3,none⟩) (Kd.R_far (p:=⟨B,2,none⟩) (Kd.R_far (p:=⟨B,1,none⟩) (Kd.R_far (p:=⟨B,0,none⟩) (Kd.R_types D.out U.out (by decide)) (fun _ hk=>hk.2) (.int .u8 ag)) (fun _ hk=>hk.2) (.int .i64 ah)) (fun _ hk=>hk.2) (.int .u64 aj)) (fun _ hk=>hk.2) (.int .i64 al)) (fun _ hk=>hk.2) (.bool am)) (fun _ hk=>hk.2) (.int .u64 ap)) (fun _ hk=>hk.2) (.int .u64 aq)) (fun _ hk=>hk.2) (.int .i64 ar)) (fun _ hk=>hk.2) (.int .u8 au)) (fun _ hk=>hk.2) (.int .i64 av)) (fun _ hk=>hk.2) (.int .i64 aw)) (fun _ hk=>hk.2) (.int .i64 ax)) (fun _ hk=>hk.2) (.int .i64 ay)) (fun _ h_=>h_.1))) hb);have F:=Ax (Kd.R_below (by (with_reducible repeat (first|apply Kd.R_alloc|apply Kd.R_drewN|apply Kd.R_drew));exact (Kd.R_mono (Kd.R_far (p:=⟨B,12,none⟩) (Kd.R_far (p:=⟨B,11,none⟩) (Kd.R_far (p:=⟨B,10,none⟩) (Kd.R_far (p:=⟨B,9,none⟩) (Kd.R_far (p:=⟨B,8,none⟩) (Kd.R_far (p:=⟨B,7,none⟩) (Kd.R_far (p:=⟨B,6,none⟩) (Kd.R_far (p:=⟨B,5,none⟩) (Kd.R_far (p:=⟨B,4,none⟩) (Kd.R_far (p:=⟨B,3,none⟩) (Kd.R_far (p:=⟨B,2,none⟩) (Kd.R_far (p:=⟨B,1,none⟩) (Kd.R_far (p:=⟨B,0,none⟩) (Kd.R_mono I.out (fun k_ hk=>(⟨hk,hk.2⟩:_∧k_≠B))) (fun _ hk=>hk.2) (.int .u8 ag)) (fun _ hk=>hk.2) (.int .i64 ah)) (fun _ hk=>hk.2) (.int .u64 aj)) (fun _ hk=>hk.2) (.int .i64 al)) (fun _ hk=>hk.2) (.bool am)) (fun _ hk=>hk.2) (.int .u64 ap)) (fun _ hk=>hk.2) (.int .u64 aq)) (fun _ hk=>hk.2) (.int .i64 ar)) (fun _ hk=>hk.2) (.int .u8 au)) (fun _ hk=>hk.2) (.int .i64 av)) (fun _ hk=>hk.2) (.int .i64 aw)) (fun _ hk=>hk.2) (.int .i64 ax)) (fun _ hk=>hk.2) (.int .i64 ay)) (fun _ h_=>h_.1))) hb);have G:=Ax (Kd.R_below (by (with_reducible repeat (first|apply Kd.R_alloc|apply Kd.R_drewN|apply Kd.R_drew));exact (Kd.R_mono (Kd.R_far (p:=⟨B,12,none⟩) (Kd.R_far (p:=⟨B,11,none⟩) (Kd.R_far (p:=⟨B,10,none⟩) (Kd.R_far (p:=⟨B,9,none⟩) (Kd.R_far (p:=⟨B,8,none⟩) (Kd.R_far (p:=⟨B,7,none⟩) (Kd.R_far (p:=⟨B,6,none⟩) (Kd.R_far (p:=⟨B,5,none⟩) (Kd.R_far (p:=⟨B,4,none⟩) (Kd.R_far (p:=⟨B,3,none⟩) (Kd.R_far (p:=⟨B,2,none⟩) (Kd.R_far (p:=⟨B,1,none⟩) (Kd.R_far (p:=⟨B,0,none⟩) (Kd.R_types R.out U.out (by decide)) (fun _ hk=>hk.2) (.int .u8 ag)) (fun _ hk=>hk.2) (.int .i64 ah)) (fun _ hk=>hk.2) (.int .u64 aj)) (fun _ hk=>hk.2) (.int .i64 al)) (fun _ hk=>hk.2) (.bool am)) (fun _ hk=>hk.2) (.int .u64 ap)) (fun _ hk=>hk.2) (.int .u64 aq)) (fun _ hk=>hk.2) (.int .i64 ar)) (fun _ hk=>hk.2) (.int .u8 au)) (fun _ hk=>hk.2) (.int .i64 av)) (fun _ hk=>hk.2) (.int .i64 aw)) (fun _ hk=>hk.2) (.int .i64 ax)) (fun _ hk=>hk.2) (.int .i64 ay)) (fun _ h_=>h_.1))) hb);have O:=Ax (blk_below (g:=bo) (o:=.cells #[.int .u8 1,.int .i64 1,.int .u64 1,.int .i64 5,.bool false,.int .u64 0,.int .u64 0,.int .i64 0,.int .u8 0,.int .i64 0,.int .i64 0,.int .i64 0] 35 (0,0)) (by (repeat (first|(with_reducible first|refine blk_drewN ?_ _|refine blk_drew ?_|refine blk_alloc ?_ _)|refine blk_far ?_ bT.out _));exact C.out) hb);have T:=Ax (blk_below (g:=B) (o:=.cells #[.int .u8 ag,.int .i64 ah,.int .u64 aj,.int .i64 al,.bool am,.int .u64 ap,.int .u64 aq,.int .i64 ar,.int .u8 au,.int .i64 av,.int .i64 aw,.int .i64 ax,.int .i64 ay] 38 (0,0)) (gB U.out) hb);have X:=Bs2 HB hb V.out aC.out;clear D;clear I;clear R;clear C;clear U;clear HB;have D:=E;have I:=F;have R:=G;have C:=O;have U:=T;have HB:=X;clear E F G O T X;(try clear hb);(try clear hb2);(try clear hk);(try clear hi))|((with_reducible refine gate_dst (N:=8) rfl ?_);refine bX (N:=8) (cs:= #[.int .u8 0,.int .i64 0,.int .u64 0,.int .i64 0,.bool false,.int .u64 0,.int .u64 0,.int .i64 0,.int .u8 0,.int .i64 0,.int .i64 0,.int .i64 0,.int .i64 0]) (t:=38) ?_;intro A hg dV aM hb;have E:=Ax (Kd.R_below (by (with_reducible repeat (first|apply Kd.R_alloc|apply Kd.R_drewN|apply Kd.R_drew));exact D.out) hb);have F:=Ax (Kd.R_below (Kd.R_elderB (by (with_reducible repeat (first|apply Kd.R_alloc|apply Kd.R_drewN|apply Kd.R_drew));exact I.out) A (Nat.le_of_eq hg.symm)) hb);have G:=Ax (Kd.R_below (by (with_reducible repeat (first|apply Kd.R_alloc|apply Kd.R_drewN|apply Kd.R_drew));exact R.out) hb);have O:=Bx0 C hb;have T:=Bx0 U hb;have X:=Bs2 HB hb V.out aC.out;have aa:=Ax (aM);have ab:=Gw2 HB hg V.out aC.out;have aE:=Gw2 HB hg V.out aC.out;have aN:=Nl0 C hg;have bU:=Nr0 C hg;have bV:=Nl0 U hg;have bW:=Nr0 U hg;clear D;clear I;clear R;clear C;clear U;clear HB;have D:=E;have I:=F;have R:=G;have C:=O;have U:=T;have HB:=X;have ac:=aa;have dW:=ab;have aQ:=aE;have bC:=aN;have cj:=bU;have bY:=bV;have ck:=bW;clear E F G O T X aa ab aE aN bU bV bW;clear hb aM hg;have dX:=cj.out;have dY:=bC.out;have dZ:=ck.out;have e7:=bY.out;obtain⟨e8,e9,ea,eb,ec,ed,ee,ef,eg,eh,ei,ej,ek,el,en,eo,ep,eq,er,es,et,eu,ev,ex,ey,ez⟩:=cl13 ac)|((with_reducible refine gate_dst (N:=37) rfl ?_);refine R_litg k35 _ 35 ?hg (N:=37) ?hd (xs:=([(⟨0,0,0,0,(⟨false,(⟨0,0⟩:S28),0⟩:S30),(⟨0,0⟩:S33),0,0⟩:S35)]:List (S35))) (inner:= [.int .u8 0,.int .i64 0,.int .u64 0,.int .i64 0,.bool false,.int .u64 0,.int .u64 0,.int .i64 0,.int .u8 0,.int .i64 0,.int .i64 0,.int .i64 0]) (ok:=fun _=>True) (okp:=fun _=>True) ?hr ?hp (fun _ hk=>hk) trivial (Below.refl _ _) (Nat.le_refl _) (by simp) ?_;(case hd=>rfl);(case hg=>first|exact Or.inl rfl|exact Or.inr rfl);(case hr=>first|(go_simp;done)|(go_simp;rfl));(case hp=>exact (Reps.front (show Kd.M k35 _ _ _ (⟨0,0,0,0,(⟨false,(⟨0,0⟩:S28),0⟩:S30),(⟨0,0⟩:S33),0,0⟩:S35) [.int .u8 0,.int .i64 0,.int .u64 0,.int .i64 0,.bool false,.int .u64 0,.int .u64 0,.int .i64 0,.int .u8 0,.int .i64 0,.int .i64 0,.int .i64 0] from (k35_mkM _ _ _ (⟨0,0,0,0,(⟨false,(⟨0,0⟩:S28),0⟩:S30),(⟨0,0⟩:S33),0,0⟩:S35))) rfl (Reps.none _ _) rfl));intro eA eB ba hb b8 b9;clear b8 b9;(first|rw [← bL.out]at ba|(simp only[Int.reduceToNat]at ba;rw [← bL.out]at ba));have E:=Ax (Kd.R_elder' (by (with_reducible repeat (first|apply Kd.R_alloc|apply Kd.R_drewN|apply Kd.R_drew));exact (Kd.R_mono (Kd.R_far (p:=⟨A,12,none⟩) (Kd.R_far (p:=⟨A,11,none⟩) (Kd.R_far (p:=⟨A,10,none⟩) (Kd.R_far (p:=⟨A,9,none⟩) (Kd.R_far (p:=⟨A,8,none⟩) (Kd.R_far (p:=⟨A,7,none⟩) (Kd.R_far (p:=⟨A,6,none⟩) (Kd.R_far (p:=⟨A,5,none⟩) (Kd.R_far (p:=⟨A,4,none⟩) (Kd.R_far (p:=⟨A,3,none⟩) (Kd.R_far (p:=⟨A,2,none⟩) (Kd.R_far (p:=⟨A,1,none⟩) (Kd.R_far (p:=⟨A,0,none⟩) (Kd.R_types D.out ac.out (by decide)) (fun _ hk=>hk.2) (.int .u8 aR)) (fun _ hk=>hk.2) (.int .i64 aT)) (fun _ hk=>hk.2) (.int .u64 aU)) (fun _ hk=>hk.2) (.int .i64 aV)) (fun _ hk=>hk.2) (.bool aW)) (fun _ hk=>hk.2) (.int .u64 aY)) (fun _ hk=>hk.2) (.int .u64 aZ)) (fun _ hk=>hk.2) (.int .i64 b2)) (fun _ hk=>hk.2) (.int .u8 b3)) (fun _ hk=>hk.2) (.int .i64 b4)) (fun _ hk=>hk.2) (.int .i64 b5)) (fun _ hk=>hk.2) (.int .i64 b6)) (fun _ hk=>hk.2) (.int .i64 b7)) (fun _ h_=>h_.1))) (Kd.R_base ba) hb);have F:=Ax (Kd.R_below (by (with_reducible repeat (first|apply Kd.R_alloc|apply Kd.R_drewN|apply Kd.R_drew));exact (Kd.R_mono (Kd.R_far (p:=⟨A,12,none⟩) (Kd.R_far (p:=⟨A,11,none⟩) (Kd.R_far (p:=⟨A,10,none⟩) (Kd.R_far (p:=⟨A,9,none⟩) (Kd.R_far (p:=⟨A,8,none⟩) (Kd.R_far (p:=⟨A,7,none⟩) (Kd.R_far (p:=⟨A,6,none⟩) (Kd.R_far (p:=⟨A,5,none⟩) (Kd.R_far (p:=⟨A,4,none⟩) (Kd.R_far (p:=⟨A,3,none⟩) (Kd.R_far (p:=⟨A,2,none⟩) (Kd.R_far (p:=⟨A,1,none⟩) (Kd.R_far (p:=⟨A,0,none⟩) (Kd.R_mono I.out (fun k_ hk=>(⟨hk,hk.2⟩:_∧k_≠A))) (fun _ hk=>hk.2) (.int .u8 aR)) (fun _ hk=>hk.2) (.int .i64 aT)) (fun _ hk=>hk.2) (.int .u64 aU)) (fun _ hk=>hk.2) (.int .i64 aV)) (fun _ hk=>hk.2) (.bool aW)) (fun _ hk=>hk.2) (.int .u64 aY)) (fun _ hk=>hk.2) (.int .u64 aZ)) (fun _ hk=>hk.2) (.int .i64 b2)) (fun _ hk=>hk.2) (.int .u8 b3)) (fun _ hk=>hk.2) (.int .i64 b4)) (fun _ hk=>hk.2) (.int .i64 b5)) (fun _ hk=>hk.2) (.int .i64 b6)) (fun _ hk=>hk.2) (.int .i64 b7)) (fun _ h_=>h_.1))) hb);have G:=Ax (Kd.R_below (by (with_reducible repeat (first|apply Kd.R_alloc|apply Kd.R_drewN|apply Kd.R_drew));exact (Kd.R_mono (Kd.R_far (p:=⟨A,12,none⟩) (Kd.R_far (p:=⟨A,11,none⟩) (Kd.R_far (p:=⟨A,10,none⟩) (Kd.R_far (p:=⟨A,9,none⟩) (Kd.R_far (p:=⟨A,8,none⟩) (Kd.R_far (p:=⟨A,7,none⟩) (Kd.R_far (p:=⟨A,6,none⟩) (Kd.R_far (p:=⟨A,5,none⟩) (Kd.R_far (p:=⟨A,4,none⟩) (Kd.R_far (p:=⟨A,3,none⟩) (Kd.R_far (p:=⟨A,2,none⟩) (Kd.R_far (p:=⟨A,1,none⟩) (Kd.R_far (p:=⟨A,0,none⟩) (Kd.R_types R.out ac.out (by decide)) (fun _ hk=>hk.2) (.int .u8 aR)) (fun _ hk=>hk.2) (.int .i64 aT)) (fun _ hk=>hk.2) (.int .u64 aU)) (fun _ hk=>hk.2) (.int .i64 aV)) (fun _ hk=>hk.2) (.bool aW)) (fun _ hk=>hk.2) (.int .u64 aY)) (fun _ hk=>hk.2) (.int .u64 aZ)) (fun _ hk=>hk.2) (.int .i64 b2)) (fun _ hk=>hk.2) (.int .u8 b3)) (fun _ hk=>hk.2) (.int .i64 b4)) (fun _ hk=>hk.2) (.int .i64 b5)) (fun _ hk=>hk.2) (.int .i64 b6)) (fun _ hk=>hk.2) (.int .i64 b7)) (fun _ h_=>h_.1))) hb);have O:=Ax (Kd.R_lower (Kd.R_newB (Kd.R_new' ba (Kd.R_lt (by (with_reducible repeat (first|apply Kd.R_alloc|apply Kd.R_drewN|apply Kd.R_drew));exact (Kd.R_mono (Kd.R_far (p:=⟨A,12,none⟩) (Kd.R_far (p:=⟨A,11,none⟩) (Kd.R_far (p:=⟨A,10,none⟩) (Kd.R_far (p:=⟨A,9,none⟩) (Kd.R_far (p:=⟨A,8,none⟩) (Kd.R_far (p:=⟨A,7,none⟩) (Kd.R_far (p:=⟨A,6,none⟩) (Kd.R_far (p:=⟨A,5,none⟩) (Kd.R_far (p:=⟨A,4,none⟩) (Kd.R_far (p:=⟨A,3,none⟩) (Kd.R_far (p:=⟨A,2,none⟩) (Kd.R_far (p:=⟨A,1,none⟩) (Kd.R_far (p:=⟨A,0,none⟩) (Kd.R_types D.out ac.out (by decide)) (fun _ hk=>hk.2) (.int .u8 aR)) (fun _ hk=>hk.2) (.int .i64 aT)) (fun _ hk=>hk.2) (.int .u64 aU)) (fun _ hk=>hk.2) (.int .i64 aV)) (fun _ hk=>hk.2) (.bool aW)) (fun _ hk=>hk.2) (.int .u64 aY)) (fun _ hk=>hk.2) (.int .u64 aZ)) (fun _ hk=>hk.2) (.int .i64 b2)) (fun _ hk=>hk.2) (.int .u8 b3)) (fun _ hk=>hk.2) (.int .i64 b4)) (fun _ hk=>hk.2) (.int .i64 b5)) (fun _ hk=>hk.2) (.int .i64 b6)) (fun _ hk=>hk.2) (.int .i64 b7)) (fun _ h_=>h_.1))))) (g:=bo) (o:=.cells #[.int .u8 1,.int .i64 1,.int .u64 1,.int .i64 5,.bool false,.int .u64 0,.int .u64 0,.int .i64 0,.int .u8 0,.int .i64 0,.int .i64 0,.int .i64 0] 35 (0,0)) (by (repeat (first|(with_reducible first|refine blk_drewN ?_ _|refine blk_drew ?_|refine blk_alloc ?_ _)|refine blk_far ?_ bC.out _));exact C.out)) (below_size (bw3 HB.out V.out aC.out aQ.out)));have T:=Ax (blk_below (g:=bo) (o:=.cells #[.int .u8 1,.int .i64 1,.int .u64 1,.int .i64 5,.bool false,.int .u64 0,.int .u64 0,.int .i64 0,.int .u8 0,.int .i64 0,.int .i64 0,.int .i64 0] 35 (0,0)) (by (repeat (first|(with_reducible first|refine blk_drewN ?_ _|refine blk_drew ?_|refine blk_alloc ?_ _)|refine blk_far ?_ bC.out _));exact C.out) hb);have X:=Ax (blk_below (g:=B) (o:=.cells #[.int .u8 ag,.int .i64 ah,.int .u64 aj,.int .i64 al,.bool am,.int .u64 ap,.int .u64 aq,.int .i64 ar,.int .u8 au,.int .i64 av,.int .i64 aw,.int .i64 ax,.int .i64 ay] 38 (0,0)) (by (repeat (first|(with_reducible first|refine blk_drewN ?_ _|refine blk_drew ?_|refine blk_alloc ?_ _)|refine blk_far ?_ bY.out _));exact U.out) hb);have aa:=Ax (blk_below (g:=A) (o:=.cells #[.int .u8 aR,.int .i64 aT,.int .u64 aU,.int .i64 aV,.bool aW,.int .u64 aY,.int .u64 aZ,.int .i64 b2,.int .u8 b3,.int .i64 b4,.int .i64 b5,.int .i64 b6,.int .i64 b7] 38 (0,0)) (gB ac.out) hb);have ab:=Bs3 HB hb V.out aC.out aQ.out;clear D;clear I;clear R;clear C;clear U;clear ac;clear HB;have D:=E;have I:=F;have R:=G;have aD:=O;have C:=T;have U:=X;have ac:=aa;have HB:=ab;clear E F G O T X aa ab;clear hb ba;obtain⟨cl,cm,cn⟩:=Kd.R_slice aD.out;subst cn)|((with_reducible refine gate_callee (f:=17) rfl ?_);refine goesL_ (some 38) rfl rfl Try.func17 (by kernel_rfl) rfl #[.slice cl bB.length cm] rfl gS ?_;(with_reducible refine (gram_Stream.calls k _ _ bB bZ bj _ ?side1 ?side2 A8.out).mono ?_);(case side1=>repeat (first|exact (Kd.R_reads' aD.out).2.2|(with_reducible refine Kd.C_alloc ?_ _)|(with_reducible refine Kd.C_drewN ?_ _)|(with_reducible refine Kd.C_drew ?_)));(case side2=>exact (Kd.R_reads' aD.out).2.1);rintro e eC ⟨rfl,hb⟩;refine⟨_,rfl,?_⟩;have E:=Ax (Kd.R_below (by (with_reducible repeat (first|apply Kd.R_alloc|apply Kd.R_drewN|apply Kd.R_drew));exact D.out) hb);have F:=Ax (Kd.R_below (by (with_reducible repeat (first|apply Kd.R_alloc|apply Kd.R_drewN|apply Kd.R_drew));exact I.out) hb);have G:=Ax (Kd.R_below (by (with_reducible repeat (first|apply Kd.R_alloc|apply Kd.R_drewN|apply Kd.R_drew));exact R.out) hb);have O:=Ax (Kd.R_below (by (with_reducible repeat (first|apply Kd.R_alloc|apply Kd.R_drewN|apply Kd.R_drew));exact aD.out) hb);have T:=Bx0 C hb;have X:=Bx0 U hb;have aa:=Bx0 ac hb;have ab:=Bs3 HB hb V.out aC.out aQ.out;clear D;clear I;clear R;clear aD;clear C;clear U;clear ac;clear HB;have D:=E;have I:=F;have R:=G;have aD:=O;have C:=T;have U:=X;have ac:=aa;have HB:=ab;clear E F G O T X aa ab;(try clear hb);(try clear hb2);(try clear hk);(try clear hi);obtain⟨eD,eE,eF,eG,eH,eI,eJ,eK,eL,eM,eN,eO,eP,eQ,eR,eT,eU,eV,eW,eX,eY,eZ,fb,fc⟩:=cl12 C)|((with_reducible refine gate_dst (N:=52) rfl ?_);refine R_litg k38 _ 38 ?hg (N:=52) ?hd (xs:=([(⟨(⟨1,1,1,5,(⟨false,(⟨0,0⟩:S28),0⟩:S30),(⟨0,0⟩:S33),0,0⟩:S35),0⟩:S38),(⟨(⟨0,0,0,0,(⟨false,(⟨0,0⟩:S28),0⟩:S30),(⟨0,0⟩:S33),0,0⟩:S35),7⟩:S38)]:List (S38))) (inner:= [.int .u8 1,.int .i64 1,.int .u64 1,.int .i64 5,.bool false,.int .u64 0,.int .u64 0,.int .i64 0,.int .u8 0,.int .i64 0,.int .i64 0,.int .i64 0,.int .i64 0,.int .u8 0,.int .i64 0,.int .u64 0,.int .i64 0,.bool false,.int .u64 0,.int .u64 0,.int .i64 0,.int .u8 0,.int .i64 0,.int .i64 0,.int .i64 0,.int .i64 7]) (ok:=fun _=>True) (okp:=fun _=>True) ?hr ?hp (fun _ hk=>hk) trivial (Below.refl _ _) (Nat.le_refl _) (by simp) ?_;(case hd=>rfl);(case hg=>first|exact Or.inl rfl|exact Or.inr rfl);(case hr=>first|(go_simp;done)|(go_simp;rfl));(case hp=>exact (Reps.front (show Kd.M k38 _ _ _ (⟨(⟨1,1,1,5,(⟨false,(⟨0,0⟩:S28),0⟩:S30),(⟨0,0⟩:S33),0,0⟩:S35),0⟩:S38) [.int .u8 1,.int .i64 1,.int .u64 1,.int .i64 5,.bool false,.int .u64 0,.int .u64 0,.int .i64 0,.int .u8 0,.int .i64 0,.int .i64 0,.int .i64 0,.int .i64 0] from (k38_mkM _ _ _ (⟨(⟨1,1,1,5,(⟨false,(⟨0,0⟩:S28),0⟩:S30),(⟨0,0⟩:S33),0,0⟩:S35),0⟩:S38))) rfl (Reps.front (show Kd.M k38 _ _ _ (⟨(⟨0,0,0,0,(⟨false,(⟨0,0⟩:S28),0⟩:S30),(⟨0,0⟩:S33),0,0⟩:S35),7⟩:S38) [.int .u8 0,.int .i64 0,.int .u64 0,.int .i64 0,.bool false,.int .u64 0,.int .u64 0,.int .i64 0,.int .u8 0,.int .i64 0,.int .i64 0,.int .i64 0,.int .i64 7] from (k38_mkM _ _ _ (⟨(⟨0,0,0,0,(⟨false,(⟨0,0⟩:S28),0⟩:S30),(⟨0,0⟩:S33),0,0⟩:S35),7⟩:S38))) rfl (Reps.none _ _) rfl) rfl));intro fd fe bb hb b8 b9;clear b8 b9;(first|rw [← bO.out]at bb|(simp only[Int.reduceToNat]at bb;rw [← bO.out]at bb));have E:=Ax (Kd.R_below (by (with_reducible repeat (first|apply Kd.R_alloc|apply Kd.R_drewN|apply Kd.R_drew));exact D.out) hb);have F:=Ax (Kd.R_elder' (by (with_reducible repeat (first|apply Kd.R_alloc|apply Kd.R_drewN|apply Kd.R_drew));exact I.out) (Kd.R_base bb) hb);have G:=Ax (Kd.R_below (by (with_reducible repeat (first|apply Kd.R_alloc|apply Kd.R_drewN|apply Kd.R_drew));exact R.out) hb);have O:=Ax (Kd.R_below (by (with_reducible repeat (first|apply Kd.R_alloc|apply Kd.R_drewN|apply Kd.R_drew));exact aD.out) hb);have T:=Ax (Kd.R_lower (Kd.R_newB (Kd.R_newB (Kd.R_new' bb (Kd.R_lt (by (with_reducible repeat (first|apply Kd.R_alloc|apply Kd.R_drewN|apply Kd.R_drew));exact I.out))) (g:=B) (o:=.cells #[.int .u8 ag,.int .i64 ah,.int .u64 aj,.int .i64 al,.bool am,.int .u64 ap,.int .u64 aq,.int .i64 ar,.int .u8 au,.int .i64 av,.int .i64 aw,.int .i64 ax,.int .i64 ay] 38 (0,0)) (bf0 U.out)) (g:=A) (o:=.cells #[.int .u8 aR,.int .i64 aT,.int .u64 aU,.int .i64 aV,.bool aW,.int .u64 aY,.int .u64 aZ,.int .i64 b2,.int .u8 b3,.int .i64 b4,.int .i64 b5,.int .i64 b6,.int .i64 b7] 38 (0,0)) (bf0 ac.out)) (below_size (bw3 HB.out V.out aC.out aQ.out)));have X:=Bx0 C hb;have aa:=Bx0 U hb;have ab:=Bx0 ac hb;have aE:=Bs3 HB hb V.out aC.out aQ.out;clear D;clear I;clear R;clear aD;clear C;clear U;clear ac;clear HB;have D:=E;have I:=F;have R:=G;have aD:=O;have bc:=T;have C:=X;have U:=aa;have ac:=ab;have HB:=aE;clear E F G O T X aa ab aE;clear hb bb;obtain⟨fg,fh,co⟩:=Kd.R_slice I.out;subst co;obtain⟨fi,fj,cq⟩:=Kd.R_slice bc.out;subst cq)|(go_at_call 14;(with_reducible refine (spoorref13_Same.calls k _ _ aK _ _ bN true _ ?side1 ?side2 ?side3 ?side4 cd.out).mono ?_);(case side1=>repeat (first|exact (Kd.R_reads' I.out).2.2|(with_reducible refine Kd.C_alloc ?_ _)|(with_reducible refine Kd.C_drewN ?_ _)|(with_reducible refine Kd.C_drew ?_)));(case side2=>exact (Kd.R_reads' I.out).2.1);(case side3=>repeat (first|exact (Kd.R_reads' bc.out).2.2|(with_reducible refine Kd.C_alloc ?_ _)|(with_reducible refine Kd.C_drewN ?_ _)|(with_reducible refine Kd.C_drew ?_)));(case side4=>exact (Kd.R_reads' bc.out).2.1);rintro e w' ⟨rfl,⟨nd,rfl⟩⟩)|((with_reducible refine gate_dst (N:=59) rfl ?_);refine R_litg k24 _ 24 ?hg (N:=59) ?hd (xs:=([(⟨1,(⟨#[1,1,1,5]⟩:ByteArray)⟩:S24),(⟨3,(⟨#[]⟩:ByteArray)⟩:S24)]:List (S24))) (inner:= [.int .u8 1,.string (⟨#[1,1,1,5]⟩:ByteArray),.int .u8 3,.string (⟨#[]⟩:ByteArray)]) (ok:=fun _=>True) (okp:=fun _=>True) ?hr ?hp (fun _ hk=>hk) trivial (Below.refl _ _) (Nat.le_refl _) (by simp) ?_;(case hd=>rfl);(case hg=>first|exact Or.inl rfl|exact Or.inr rfl);(case hr=>first|(go_simp;done)|(go_simp;rfl));(case hp=>exact (Reps.c2 (show Kd.M k24 _ _ _ (⟨1,(⟨#[1,1,1,5]⟩:ByteArray)⟩:S24) [.int .u8 1,.string (⟨#[1,1,1,5]⟩:ByteArray)] from (k24_mkM _ _ _ (⟨1,(⟨#[1,1,1,5]⟩:ByteArray)⟩:S24))) (Reps.c2 (show Kd.M k24 _ _ _ (⟨3,(⟨#[]⟩:ByteArray)⟩:S24) [.int .u8 3,.string (⟨#[]⟩:ByteArray)] from (k24_mkM _ _ _ (⟨3,(⟨#[]⟩:ByteArray)⟩:S24))) (Reps.none _ _))));intro fk fl bd hb b8 b9;clear b8 b9;(first|rw [← bR.out]at bd|(simp only[Int.reduceToNat]at bd;rw [← bR.out]at bd));have E:=Ax (Kd.R_below (by (with_reducible repeat (first|apply Kd.R_alloc|apply Kd.R_drewN|apply Kd.R_drew));exact D.out) hb);have F:=Ax (Kd.R_below (by (with_reducible repeat (first|apply Kd.R_alloc|apply Kd.R_drewN|apply Kd.R_drew));exact I.out) hb);have G:=Ax (Kd.R_elder' (by (with_reducible repeat (first|apply Kd.R_alloc|apply Kd.R_drewN|apply Kd.R_drew));exact R.out) (Kd.R_base bd) hb);have O:=Ax (Kd.R_below (by (with_reducible repeat (first|apply Kd.R_alloc|apply Kd.R_drewN|apply Kd.R_drew));exact aD.out) hb);have T:=Ax (Kd.R_below (by (with_reducible repeat (first|apply Kd.R_alloc|apply Kd.R_drewN|apply Kd.R_drew));exact bc.out) hb);have X:=Ax (Kd.R_lower (Kd.R_new' bd (Kd.R_lt (by (with_reducible repeat (first|apply Kd.R_alloc|apply Kd.R_drewN|apply Kd.R_drew));exact R.out))) (below_size (bw3 HB.out V.out aC.out aQ.out)));have aa:=Bx0 C hb;have ab:=Bx0 U hb;have aE:=Bx0 ac hb;have aN:=Bs3 HB hb V.out aC.out aQ.out;clear D;clear I;clear R;clear aD;clear bc;clear C;clear U;clear ac;clear HB;have D:=E;have I:=F;have R:=G;have aD:=O;have bc:=T;have bD:=X;have C:=aa;have U:=ab;have ac:=aE;have HB:=aN;clear E F G O T X aa ab aE aN;clear hb bd;obtain⟨fm,fo,cr⟩:=Kd.R_slice R.out;subst cr;obtain⟨fp,fq,ct⟩:=Kd.R_slice bD.out;subst ct)|(go_at_call 11;(with_reducible refine (spoorref12_Same.calls k _ _ aG _ _ bQ true _ ?side1 ?side2 ?side3 ?side4 ce.out).mono ?_);(case side1=>repeat (first|exact (Kd.R_reads' R.out).2.2|(with_reducible refine Kd.C_alloc ?_ _)|(with_reducible refine Kd.C_drewN ?_ _)|(with_reducible refine Kd.C_drew ?_)));(case side2=>exact (Kd.R_reads' R.out).2.1);(case side3=>repeat (first|exact (Kd.R_reads' bD.out).2.2|(with_reducible refine Kd.C_alloc ?_ _)|(with_reducible refine Kd.C_drewN ?_ _)|(with_reducible refine Kd.C_drew ?_)));(case side4=>exact (Kd.R_reads' bD.out).2.1);rintro e w' ⟨rfl,⟨nd,rfl⟩⟩;obtain⟨ft,fu,fv,fw,fx,fy,fz,fA,fB,fC,fD,fE,fF,fG,fH,fI,fJ,fK,fL,fM,fN,fO,fP,fQ,fR,fS⟩:=cl13 U));go_ret;exact⟨eS,bw3 HB.out V.out aC.out aQ.out⟩
         ·rw [if_neg bn]at H;exact absurd H (by simp)
        ·rw [if_neg bm]at H;exact absurd H (by simp)
       ·rw [if_neg bx]at H;exact absurd H (by simp)
      ·replace bv:=Bool.eq_false_iff.mpr bv;subst bv;have H1:(none)=some r:=by rw [if_neg (show ¬ (false=true) by decide)]at H;exact H
       clear H;have H:=H1;clear H1;exact absurd H (by simp)
     ·replace bu:=Bool.eq_false_iff.mpr bu;subst bu;have H1:(none)=some r:=by rw [if_neg (show ¬ (false=true) by decide)]at H;exact H
      clear H;have H:=H1;clear H1;exact absurd H (by simp)
    ·rw [if_neg c10]at H;exact absurd H (by simp)
   ·rw [if_neg c9]at H;exact absurd H (by simp)
  ·rw [if_neg c4]at H;exact absurd H (by simp)
 ·rw [if_neg c2]at H;exact absurd H (by simp)
def spoorref09_Wide.f (a0:Bool):Option (Int):=if a0=true then (some 128) else (some 32)
set_option maxHeartbeats 8000000 in
set_option maxRecDepth 100000 in
theorem spoorref09_Wide.calls (a0:Bool) (r:Int) (w:World) (h:spoorref09_Wide.f a0=some r):
  Calls Try.prog 64 #[.bool a0] w fun e w'=>e= .returned (.int .i64 r)∧Drawn0 w w':=by
 have H:(if a0=true then (some 128) else (some 32))=some r:=h;clear h;by_cases c2:a0=true
 ·subst c2;have H1:(some 128)=some r:=by rw [if_pos rfl]at H;exact H
  clear H;have H:=H1;clear H1;obtain rfl:=Option.some.inj H;go_enter Try.func64,Try.ntmps64;go_wp2;go_ret;exact⟨by first|rfl|(simp;done)|(simp [*];done),by repeat (first|exact Drawn0.refl _|apply Drawn0.step)⟩
 ·replace c2:=Bool.eq_false_iff.mpr c2;subst c2;have H1:(some 32)=some r:=by rw [if_neg (show ¬ (false=true) by decide)]at H;exact H
  clear H;have H:=H1;clear H1;obtain rfl:=Option.some.inj H;go_enter Try.func64,Try.ntmps64;go_wp2;go_ret;exact⟨by first|rfl|(simp;done)|(simp [*];done),by repeat (first|exact Drawn0.refl _|apply Drawn0.step)⟩
def spoorref09_Right.f (a0:Bool) (aa:Int) (ab:Int):Option (Bool):=if a0=true then (some true) else (if aa=0 then (some (decide (ab<4294967296))) else (some false))
set_option maxHeartbeats 8000000 in
set_option maxRecDepth 100000 in
theorem spoorref09_Right.calls (a0:Bool) (A:Int) (C:Int) (r:Bool) (w:World) (h:spoorref09_Right.f a0 A C=some r):
  Calls Try.prog 74 #[.bool a0,.agg #[.int .u64 A,.int .u64 C]] w fun e w'=>e= .returned (.bool r)∧Below w.heap.size w w':=by
 have ac:=Try.underlying28;have HB:=Ax (Below.refl w.heap.size w);have H:(if a0=true then (some true) else (if A=0 then (some (decide (C<4294967296))) else (some false)))=some r:=h;clear h;by_cases c3:a0=true
 ·subst c3;have H1:(some true)=some r:=by rw [if_pos rfl]at H;exact H
  clear H;have H:=H1;clear H1;obtain rfl:=Option.some.inj H;go_enter Try.func74,Try.ntmps74;go_wp2_with (first|((with_reducible refine gate_dst (N:=3) rfl ?_);refine bX (N:=3) (cs:= #[.int .u64 A,.int .u64 C]) (t:=28) ?_;intro F hg w4 B hb;have E:=Ax (B);have G:=Gw0 HB hg;have D:=Gw0 HB hg;replace HB:=Bs0 HB hb;clear hb B hg));go_ret;exact⟨eS,bw1 HB.out D.out⟩
 ·replace c3:=Bool.eq_false_iff.mpr c3;subst c3;have H1:(if A=0 then (some (decide (C<4294967296))) else (some false))=some r:=by rw [if_neg (show ¬ (false=true) by decide)]at H;exact H
  clear H;have H:=H1;clear H1;by_cases c5:A=0;·rw [if_pos c5]at H;have aa:(A==0)=true:=beq_iff_eq.mpr c5;have ab:(A !=0)=false:=bne_eq_false_iff_eq.mpr c5;clear c5;obtain rfl:=Option.some.inj H;go_enter Try.func74,Try.ntmps74;go_wp2_with (first|((with_reducible refine gate_dst (N:=3) rfl ?_);refine bX (N:=3) (cs:= #[.int .u64 A,.int .u64 C]) (t:=28) ?_;intro F hg w6 B hb;have E:=Ax (B);have G:=Gw0 HB hg;have D:=Gw0 HB hg;replace HB:=Bs0 HB hb;clear hb B hg;obtain⟨ae,af,ag,ah⟩:=cl2 E));go_ret;exact⟨eS,bw1 HB.out D.out⟩
  ·rw [if_neg c5]at H;have aa:(A==0)=false:=beq_eq_false_iff_ne.mpr c5;have ab:(A !=0)=true:=bne_iff_ne.mpr c5;obtain rfl:=Option.some.inj H;go_enter Try.func74,Try.ntmps74;go_wp2_with (first|((with_reducible refine gate_dst (N:=3) rfl ?_);refine bX (N:=3) (cs:= #[.int .u64 A,.int .u64 C]) (t:=28) ?_;intro F hg w8 B hb;have E:=Ax (B);have G:=Gw0 HB hg;have D:=Gw0 HB hg;replace HB:=Bs0 HB hb;clear hb B hg;obtain⟨aj,al,am,ap⟩:=cl2 E));go_ret;exact⟨eS,bw1 HB.out D.out⟩
def spoorref09_bits.l0 : Nat → List Int → Int → Int → Int → Option (List Int)
 | 0, _, _, _, _ => none
 | k + 1, x5, x6, x7, x8 => if x8 ≥ 0 then (if 0 ≤ x8 then (if x8 < (x5.length : Int) then (spoorref09_bits.l0 k (x5.set (x8 : Int).toNat (wrap64 (Int.tmod x6 2))) (IntKind.u64.wrap ((IntKind.u64.wrap (Int.tdiv x6 2)) + (IntKind.u64.wrap ((Int.tmod x7 2) * 9223372036854775808)))) (IntKind.u64.wrap (Int.tdiv x7 2)) (wrap64 (x8 - 1))) else (none)) else (none)) else (some x5)
def spoorref09_bits.f (k:Nat) (a0:Bool) (aa:Int) (ab:Int):Option (List Int):=(spoorref09_Wide.f a0).bind fun A=>(if 0≤A then (if (A:Int).toNat≤35184372088832 then ((some (List.replicate (A:Int).toNat 0:List Int)).bind fun B=>(spoorref09_bits.l0 k B ab aa (wrap64 ((B.length:Int) - 1)))) else (none)) else (none))
set_option maxHeartbeats 8000000 in
set_option maxRecDepth 100000 in
theorem spoorref09_bits.calls (k:Nat) (a0:Bool) (M:Int) (O:Int) (r:List Int) (w:World) (h:spoorref09_bits.f k a0 M O=some r):
  Calls Try.prog 75 #[.bool a0,.agg #[.int .u64 M,.int .u64 O]] w fun e w'=> ∃ aN:Value,e= .returned (aN)∧Kd.R (Kd.int .i64) 3 w' w.heap.size (fun _=>True) aN r∧Below w.heap.size w w':=by
 have b7:=Try.underlying28;have HB:=Ax (Below.refl w.heap.size w);have H:((spoorref09_Wide.f a0).bind fun D=>(if 0≤D then (if (D:Int).toNat≤35184372088832 then ((some (List.replicate (D:Int).toNat 0:List Int)).bind fun ab=>(spoorref09_bits.l0 k ab O M (wrap64 ((ab.length:Int) - 1)))) else (none)) else (none)))=some r:=h;clear h;replace H:=bI H;obtain⟨D,aQ,H⟩:=H;(try dsimp only at H);have A3:=Ax aQ;clear aQ;by_cases c4:0≤D
 ·rw [if_pos c4]at H;have aZ:=eq_true c4;have b2:decide (0≤D)=true:=dT c4;clear c4;by_cases c5:(D:Int).toNat≤35184372088832
  ·rw [if_pos c5]at H;have b3:=eq_true c5;have b4:decide ((D:Int).toNat≤35184372088832)=true:=dT c5;clear c5;obtain⟨ab,ar⟩: ∃ y_:List Int,y_=(List.replicate (D:Int).toNat 0):=⟨_,rfl⟩;replace H:(spoorref09_bits.l0 k ab O M (wrap64 ((ab.length:Int) - 1)))=some r:=by first|(rw [ar];with_reducible exact H)|(have af:=(Option.bind_some _ _).symm.trans H;rw [ar];with_reducible exact af)|(have af:=(Option.bind_some _ _).symm.trans H;with_reducible exact af)|with_reducible exact H|(rw [ar];exact H)|exact H
   have ah:=Ax ar;clear ar;have H':=Ax H;clear H;go_enter Try.func75,Try.ntmps75;go_wp2_with (first|((with_reducible refine gate_dst (N:=3) rfl ?_);refine bX (N:=3) (cs:= #[.int .u64 M,.int .u64 O]) (t:=28) ?_;intro aj hg w6 ac hb;have A:=Ax (ac);have aR:=Gw0 HB hg;have U:=Gw0 HB hg;replace HB:=Bs0 HB hb;clear hb ac hg)|(go_at_call 64;(with_reducible refine (spoorref09_Wide.calls a0 D _ A3.out).mono ?_);rintro e w' ⟨rfl,⟨nd,rfl⟩⟩;(try first|exact⟨rfl,_,World.drewN_drewN _ _ _⟩|exact⟨rfl,_,Eq.trans (World.drewN_drewN _ _ _) (congrArg (World.drewN _) (Nat.add_assoc _ _ _))⟩))|((with_reducible refine gate_dst (N:=11) rfl ?_);refine Kd.R_make (Kd.int .i64) _ 3 rfl (N:=11) rfl 126 _ _ rfl D rfl rfl Try.underlying126 (.int .i64 0) 8 info3 rfl (by decide) (by omega) 0 (ok:=fun _=>True) (okp:=fun _=>True) rfl (fun _ hk=>hk) trivial (of_decide_eq_true (by first|(with_reducible assumption)|assumption)) (Nat.le_trans (Nat.mul_le_mul_right _ (of_decide_eq_true (by first|(with_reducible assumption)|assumption):D.toNat≤35184372088832)) (by omega)) (Below.refl _ _) (Nat.le_refl _) ?_;intro aT w7 E hb au av;clear au av;(first|rw [← ah.out]at E|(simp only[Int.reduceToNat]at E;rw [← ah.out]at E));have al:=Ax (Kd.R_lower E (below_size (bw1 HB.out U.out)));replace A:=Bx0 A hb;replace HB:=Bs1 HB hb U.out;clear hb E;obtain⟨aC,aD,aE,aG⟩:=cl2 A;obtain⟨aH,am,aw⟩:=Kd.R_slice al.out;subst aw))
   repeat (go_quiet (first|((with_reducible refine gate_dst (N:=3) rfl ?_);refine bX (N:=3) (cs:= #[.int .u64 M,.int .u64 O]) (t:=28) ?_;intro aj hg w6 ac hb;have A:=Ax (ac);have aR:=Gw0 HB hg;have U:=Gw0 HB hg;replace HB:=Bs0 HB hb;clear hb ac hg)|(go_at_call 64;(with_reducible refine (spoorref09_Wide.calls a0 D _ A3.out).mono ?_);rintro e w' ⟨rfl,⟨nd,rfl⟩⟩;(try first|exact⟨rfl,_,World.drewN_drewN _ _ _⟩|exact⟨rfl,_,Eq.trans (World.drewN_drewN _ _ _) (congrArg (World.drewN _) (Nat.add_assoc _ _ _))⟩))|((with_reducible refine gate_dst (N:=11) rfl ?_);refine Kd.R_make (Kd.int .i64) _ 3 rfl (N:=11) rfl 126 _ _ rfl D rfl rfl Try.underlying126 (.int .i64 0) 8 info3 rfl (by decide) (by omega) 0 (ok:=fun _=>True) (okp:=fun _=>True) rfl (fun _ hk=>hk) trivial (of_decide_eq_true (by first|(with_reducible assumption)|assumption)) (Nat.le_trans (Nat.mul_le_mul_right _ (of_decide_eq_true (by first|(with_reducible assumption)|assumption):D.toNat≤35184372088832)) (by omega)) (Below.refl _ _) (Nat.le_refl _) ?_;intro aT w7 E hb au av;clear au av;(first|rw [← ah.out]at E|(simp only[Int.reduceToNat]at E;rw [← ah.out]at E));have al:=Ax (Kd.R_lower E (below_size (bw1 HB.out U.out)));replace A:=Bx0 A hb;replace HB:=Bs1 HB hb U.out;clear hb E;obtain⟨aC,aD,aE,aG⟩:=cl2 A;obtain⟨aH,am,aw⟩:=Kd.R_slice al.out;subst aw));try go_wp2_with (first|((with_reducible refine gate_dst (N:=3) rfl ?_);refine bX (N:=3) (cs:= #[.int .u64 M,.int .u64 O]) (t:=28) ?_;intro aj hg w6 ac hb;have A:=Ax (ac);have aR:=Gw0 HB hg;have U:=Gw0 HB hg;replace HB:=Bs0 HB hb;clear hb ac hg)|(go_at_call 64;(with_reducible refine (spoorref09_Wide.calls a0 D _ A3.out).mono ?_);rintro e w' ⟨rfl,⟨nd,rfl⟩⟩;(try first|exact⟨rfl,_,World.drewN_drewN _ _ _⟩|exact⟨rfl,_,Eq.trans (World.drewN_drewN _ _ _) (congrArg (World.drewN _) (Nat.add_assoc _ _ _))⟩))|((with_reducible refine gate_dst (N:=11) rfl ?_);refine Kd.R_make (Kd.int .i64) _ 3 rfl (N:=11) rfl 126 _ _ rfl D rfl rfl Try.underlying126 (.int .i64 0) 8 info3 rfl (by decide) (by omega) 0 (ok:=fun _=>True) (okp:=fun _=>True) rfl (fun _ hk=>hk) trivial (of_decide_eq_true (by first|(with_reducible assumption)|assumption)) (Nat.le_trans (Nat.mul_le_mul_right _ (of_decide_eq_true (by first|(with_reducible assumption)|assumption):D.toNat≤35184372088832)) (by omega)) (Below.refl _ _) (Nat.le_refl _) ?_;intro aT w7 E hb au av;clear au av;(first|rw [← ah.out]at E|(simp only[Int.reduceToNat]at E;rw [← ah.out]at E));have al:=Ax (Kd.R_lower E (below_size (bw1 HB.out U.out)));replace A:=Bx0 A hb;replace HB:=Bs1 HB hb U.out;clear hb E;obtain⟨aC,aD,aE,aG⟩:=cl2 A;obtain⟨aH,am,aw⟩:=Kd.R_slice al.out;subst aw)))
   go_loopg [6,7,8] k (fun kq v6 v7 v8 w'=> ∃ (X:List Int) (L:Int) (ag:Int) (C:Int),v6= .int .u64 L∧v7= .int .u64 ag∧v8= .int .i64 C∧Aside0 (spoorref09_bits.l0 kq X L ag C=some r)∧Aside0 (kq≤k)∧Aside0 (Kd.R (Kd.int .i64) 3 w' w.heap.size (fun _=>True) (.slice aH ab.length am) X)∧Aside0 (w'.heap[aj]? =some (.cells #[.int .u64 M,.int .u64 O] 28 (0,0)))∧Aside0 (Below w.heap.size w w'))
   case atStart=>exact⟨(ab),(O),(M),(wrap64 ((ab.length:Int) - 1)),rS,rS,rS,H',⟨Nat.le_refl _⟩,⟨by (with_reducible repeat (first|apply Kd.R_alloc|apply Kd.R_drewN|apply Kd.R_drew));exact al.out⟩,⟨bf0 A.out⟩,⟨bw1 HB.out U.out⟩⟩
   case round=>
    clear H';(try clear p2);(try clear c4);(try clear aZ);(try clear b2);(try clear c5);(try clear b3);(try clear b4);(try clear p6);(try clear c7);(try clear aC aD);(try clear aE aG);obtain⟨X,L,ag,C,rfl,rfl,rfl,HA,aU,B,A,HB⟩:=hrel;have ap:=(Kd.R_reads' B.out).1;rw [ap]at B
    (try simp only[ap])
    (try simp only[ap]at A)
    cases gk with
    |zero=>exact absurd HA.out (by simp [spoorref09_bits.l0])
    |succ k1=>
     have H:=HA.out;clear HA;simp only[spoorref09_bits.l0]at H;by_cases aq:C ≥ 0
     ·rw [if_pos aq]at H;have b5:decide (0≤C)=true:=dT aq;clear aq;by_cases az:0≤C
      ·rw [if_pos az]at H;have b8:decide (0≤C)=true:=dT az;clear az;by_cases aA:C<(X.length:Int)
       ·rw [if_pos aA]at H;have b9:decide (C<(X.length:Int))=true:=dT aA;clear aA;obtain⟨ax,ay⟩: ∃ y_:List Int,y_=(X.set (C:Int).toNat (wrap64 (Int.tmod L 2))):=⟨_,rfl⟩;replace H:(spoorref09_bits.l0 k1 ax (IntKind.u64.wrap ((IntKind.u64.wrap (Int.tdiv L 2))+(IntKind.u64.wrap ((Int.tmod ag 2) * 9223372036854775808)))) (IntKind.u64.wrap (Int.tdiv ag 2)) (wrap64 (C - 1)))=some r:=by first|(rw [ay];with_reducible exact H)|(have af:=(Option.bind_some _ _).symm.trans H;rw [ay];with_reducible exact af)|(have af:=(Option.bind_some _ _).symm.trans H;with_reducible exact af)|with_reducible exact H|(rw [ay];exact H)|exact H
        have aI:=Ax ay;clear ay;have H':=Ax H;clear H;have aJ:0≤(C:Int):=of_decide_eq_true (by first|(with_reducible assumption)|assumption);have aK:(C:Int)<((X.length:Int):Int):=of_decide_eq_true (by first|(with_reducible assumption)|assumption);obtain⟨aa,ba,aV,aW,b6,cl14,aY⟩:=Kd.R_form B.out (by omega)
        (first|cases aV|(injection aV with ea_ en_ ec_;(first|subst ea_|(injection ea_ with ea_;subst ea_));subst ec_;clear en_))
        have aM:=Ax aW;have bb:=Ax aY;clear aW b6 aY;obtain⟨bc,bd⟩:=Kd.R_celln 0 B.out (C:Int) aJ aK;replace aJ:=eq_true aJ;replace aK:=eq_true aK;have T:=Kd.R_putg B.out (C:Int) (wrap64 (Int.tmod L 2));go_wp2_with (first|((with_reducible refine gate_store (t:=3) (p:=28) rfl ?_);(try (rw [drewN_self wr];generalize hq_:World.drewN wr _=wr;have F:=Ax (Kd.R_at hq_ B.out);have G:=Ax (blk_at hq_ A.out);have I:=Ax (below_at hq_ HB.out);clear hq_ B A HB;have B:=F;have A:=G;have HB:=I;clear F G I;(try (have T:=Kd.R_putg B.out (C:Int) (wrap64 (Int.tmod L 2))))));refine store_event (t:=3) (p:=28) (v:= ?vo_w16) (w1:=(wr.setCell ⟨aa,(C:Int).toNat,none⟩ (.int .i64 (wrap64 (Int.tmod L 2))))) ?hg ?ho ?hn ?hr ?_;(case ho=>rfl);(case hg=>rfl);(case hn=>rfl);(case hr=>first|(go_simp;done)|(go_simp;rfl));intro V hw;have hg:wr.grownBy V (some aa):=(by rw [hw];exact T.2);have ae:Kd.R (Kd.int .i64) 3 V w.heap.size (fun _=>True) (.slice (some ⟨aa,0,none⟩) X.length am) ax:=(by rw [hw,aI.out];exact T.1);clear T;have F:=Ax (ae);have G:=Ax (blk_grown (g:=aj) (o:=.cells #[.int .u64 M,.int .u64 O] 28 (0,0)) (bf0 A.out) hg (Kd.R_ne B.out A.out (by decide)));have I:=Ax ((by rw [hw];exact below_set (HB.out) aM.out:Below w.heap.size w V));clear B;clear A;clear HB;have B:=F;have A:=G;have HB:=I;clear F G I;clear hg hw ae))
        repeat (go_quiet (first|((with_reducible refine gate_store (t:=3) (p:=28) rfl ?_);(try (rw [drewN_self wr];generalize hq_:World.drewN wr _=wr;have F:=Ax (Kd.R_at hq_ B.out);have G:=Ax (blk_at hq_ A.out);have I:=Ax (below_at hq_ HB.out);clear hq_ B A HB;have B:=F;have A:=G;have HB:=I;clear F G I;(try (have T:=Kd.R_putg B.out (C:Int) (wrap64 (Int.tmod L 2))))));refine store_event (t:=3) (p:=28) (v:= ?vo_w16) (w1:=(wr.setCell ⟨aa,(C:Int).toNat,none⟩ (.int .i64 (wrap64 (Int.tmod L 2))))) ?hg ?ho ?hn ?hr ?_;(case ho=>rfl);(case hg=>rfl);(case hn=>rfl);(case hr=>first|(go_simp;done)|(go_simp;rfl));intro V hw;have hg:wr.grownBy V (some aa):=(by rw [hw];exact T.2);have ae:Kd.R (Kd.int .i64) 3 V w.heap.size (fun _=>True) (.slice (some ⟨aa,0,none⟩) X.length am) ax:=(by rw [hw,aI.out];exact T.1);clear T;have F:=Ax (ae);have G:=Ax (blk_grown (g:=aj) (o:=.cells #[.int .u64 M,.int .u64 O] 28 (0,0)) (bf0 A.out) hg (Kd.R_ne B.out A.out (by decide)));have I:=Ax ((by rw [hw];exact below_set (HB.out) aM.out:Below w.heap.size w V));clear B;clear A;clear HB;have B:=F;have A:=G;have HB:=I;clear F G I;clear hg hw ae));try go_wp2_with (first|((with_reducible refine gate_store (t:=3) (p:=28) rfl ?_);(try (rw [drewN_self wr];generalize hq_:World.drewN wr _=wr;have F:=Ax (Kd.R_at hq_ B.out);have G:=Ax (blk_at hq_ A.out);have I:=Ax (below_at hq_ HB.out);clear hq_ B A HB;have B:=F;have A:=G;have HB:=I;clear F G I;(try (have T:=Kd.R_putg B.out (C:Int) (wrap64 (Int.tmod L 2))))));refine store_event (t:=3) (p:=28) (v:= ?vo_w16) (w1:=(wr.setCell ⟨aa,(C:Int).toNat,none⟩ (.int .i64 (wrap64 (Int.tmod L 2))))) ?hg ?ho ?hn ?hr ?_;(case ho=>rfl);(case hg=>rfl);(case hn=>rfl);(case hr=>first|(go_simp;done)|(go_simp;rfl));intro V hw;have hg:wr.grownBy V (some aa):=(by rw [hw];exact T.2);have ae:Kd.R (Kd.int .i64) 3 V w.heap.size (fun _=>True) (.slice (some ⟨aa,0,none⟩) X.length am) ax:=(by rw [hw,aI.out];exact T.1);clear T;have F:=Ax (ae);have G:=Ax (blk_grown (g:=aj) (o:=.cells #[.int .u64 M,.int .u64 O] 28 (0,0)) (bf0 A.out) hg (Kd.R_ne B.out A.out (by decide)));have I:=Ax ((by rw [hw];exact below_set (HB.out) aM.out:Below w.heap.size w V));clear B;clear A;clear HB;have B:=F;have A:=G;have HB:=I;clear F G I;clear hg hw ae)))
        (try simp only[← ap])
        go_roundg k1
        case measure=>have:=aU.out;omega
        case rel=>exact⟨(ax),(IntKind.u64.wrap ((IntKind.u64.wrap (Int.tdiv L 2))+(IntKind.u64.wrap ((Int.tmod ag 2) * 9223372036854775808)))),(IntKind.u64.wrap (Int.tdiv ag 2)),(wrap64 (C - 1)),rS,rS,rS,H',⟨by have:=aU.out;omega⟩,⟨by (try simp only[ap]);(with_reducible repeat (first|apply Kd.R_alloc|apply Kd.R_drewN|apply Kd.R_drew));exact B.out⟩,⟨by (try simp only[ap]);(with_reducible repeat (first|refine blk_drewN ?_ _|refine blk_drew ?_|refine blk_alloc ?_ _));exact A.out⟩,⟨bw1 HB.out U.out⟩⟩
       ·rw [if_neg aA]at H;exact absurd H (by simp)
      ·rw [if_neg az]at H;exact absurd H (by simp)
     ·rw [if_neg aq]at H;have b5:decide (0≤C)=false:=dF aq;clear aq;obtain rfl:=Option.some.inj H;go_wp2
      repeat (go_quiet (fail);try go_wp2)
      go_ret;exact⟨_,eS,by (with_reducible repeat (first|apply Kd.R_alloc|apply Kd.R_drewN|apply Kd.R_drew));exact B.out,bw1 HB.out U.out⟩
  ·rw [if_neg c5]at H;exact absurd H (by simp)
 ·rw [if_neg c4]at H;exact absurd H (by simp)
mutual
def spoorref09_Check.j0 : Nat → Bool → Bool → Int → Int → Int → Option (Int)
 | 0, _, _, _, _, _ => none
 | k + 1, x23, x319000, x319001, x319002, x319003 => if x23 = true then (some 2) else ((spoorref09_bits.f k x319000 x319001 x319002).bind fun A => (spoorref09_Check.l0 k A (A.length : Int) 0 x319000 x319001 x319002 x319003))
def spoorref09_Check.l0 : Nat → List Int → Int → Int → Bool → Int → Int → Int → Option (Int)
 | 0, _, _, _, _, _, _, _ => none
 | k + 1, x28, x29, x30, x319000, x319001, x319002, x319003 => if x30 < x29 then (if 0 ≤ x30 then (if x30 < (x28.length : Int) then (if x30 ≥ x319003 then (if (rd x28 x30) = 0 then (spoorref09_Check.l0 k x28 x29 (wrap64 (x30 + 1)) x319000 x319001 x319002 x319003) else (some 2)) else (spoorref09_Check.l0 k x28 x29 (wrap64 (x30 + 1)) x319000 x319001 x319002 x319003)) else (none)) else (none)) else (some 0)
end
def spoorref09_Check.f (k:Nat) (A:Bool) (C:Int) (D:Int) (B:Int):Option (Int):=if B<0 then (spoorref09_Check.j0 k true A C D B) else ((spoorref09_Wide.f A).bind fun aa=>(if B > aa then (spoorref09_Check.j0 k true A C D B) else ((spoorref09_Right.f A C D).bind fun ab=>(spoorref09_Check.j0 k (!ab) A C D B))))
def spoorref09_Check.T1:Bool × List (List Nat × List Nat):=(true, [([], []),([0], [0]),([1], [1]),([2], [2]),([3], [3]),([4,3], [3,4]),([3], [3]),([6,3], [3,6]),([7,3,3], [3,7]),([5,8,3], [3,5,8]),([3,9], [3,9]),([10,8], [10]),([11], [11]),([12,11], [11,12]),([11], [11]),([14,11], [11,14]),([13,15,11,11], [11,13,15]),([16,11], [11,16]),([11,17], [11,17])])
def spoorref09_Check.B1:List Nat:= [0,1,3,7,15,31,15,79,207,511,1023,2047,4095,8191,4095,20479,65535,131071,262143]
theorem spoorref09_Check.tab1:rtab .any (opsOf Try.f67 1)=spoorref09_Check.T1:=by kernel_rfl
theorem spoorref09_Check.bits1:waitsOk spoorref09_Check.T1.2 spoorref09_Check.B1=true:=by kernel_rfl
set_option maxHeartbeats 8000000 in
set_option maxRecDepth 100000 in
theorem spoorref09_Check.calls (k:Nat) (D:Bool) (G:Int) (I:Int) (E:Int) (r:Int) (w:World) (h:spoorref09_Check.f k D G I E=some r):
  Calls Try.prog 67 #[.agg #[.bool D,.int .u64 G,.int .u64 I,.int .i64 E]] w fun e w'=>e= .returned (.int .i64 r)∧Below w.heap.size w w':=by
 have b5:=Try.underlying30;have b6:=Try.underlying28;have HB:=Ax (Below.refl w.heap.size w);have H:(if E<0 then (spoorref09_Check.j0 k true D G I E) else ((spoorref09_Wide.f D).bind fun X=>(if E > X then (spoorref09_Check.j0 k true D G I E) else ((spoorref09_Right.f D G I).bind fun aj=>(spoorref09_Check.j0 k (!aj) D G I E)))))=some r:=h;clear h;have au:=Ax H;clear H;go_enter Try.func67,Try.ntmps67;go_upto_region 1 with (first|((with_reducible refine gate_dst (N:=1) rfl ?_);refine bX (N:=1) (cs:= #[.bool D,.int .u64 G,.int .u64 I,.int .i64 E]) (t:=30) ?_;intro M hg w3 aw hb;have B:=Ax (aw);have b7:=Gw0 HB hg;have O:=Gw0 HB hg;replace HB:=Bs0 HB hb;clear hb aw hg))
 (try simp only[Act.put,List.setIfInBounds_toArray,List.set_cons_zero,List.set_cons_succ])
 go_cut [23] (fun aG wc=> ∃ (kq:Nat) (al:Bool),aG= .bool al∧Aside0 (spoorref09_Check.j0 kq al D G I E=some r)∧Aside0 (kq≤k)∧Aside0 (wc.heap[M]? =some (.cells #[.bool D,.int .u64 G,.int .u64 I,.int .i64 E] 30 (0,0)))∧Aside0 (Below w.heap.size w wc))
 case first=>
  have H:=au.out;clear au;by_cases c4:E<0
  ·rw [if_pos c4]at H;have aa:decide (E<0)=true:=dT c4;clear c4
   (first|rw [aa]|(simp only[i64_w,i32_w];rw [aa])|skip)
   have H':=Ax H;clear H;try go_wp2
   replace B:=Ax (blk_drew B.out);replace HB:=Ax (below_drew1 HB.out);refine start_ (n:=19) (S:=fun w'=>w'.cell? ⟨M,0,none⟩=some (.bool D)∧w'.cell? ⟨M,1,none⟩=some (.int .u64 G)∧w'.cell? ⟨M,2,none⟩=some (.int .u64 I)∧w'.cell? ⟨M,3,none⟩=some (.int .i64 E)) (ds:= []) #[Y,Y,Y,Y,Y,Y,Y,Y,Y,Y,Y,Y,Y,Y,Y,Y,Y,Y,Y] (by kernel_rfl) rfl rfl (bqc4 B.out) (fun L=>?_);refine with_tabW spoorref09_Check.tab1 spoorref09_Check.bits1 (fun A T=>?_);generalize w3.drew=w5 at B HB L ⊢;refine pz 0 5 #[Z,Y,Y,Y,Y,Y,Y,Y,Y,Y,Y,Y,Y,Y,Y,Y,Y,Y,Y] A.out ?_
   refine take_ (i:=1) (N:=some 6) (v:=?_) (a':=?_) #[Z,Z,Y,Y,Y,Y,Y,Y,Y,Y,Y,Y,Y,Y,Y,Y,Y,Y,Y] rfl rfl (take_ofW A.out T.out (by kernel_rfl)) (fun _ _ _ h=>h) (Or.inl ⟨by rfl,?_⟩) L ?_ ?_;rotate_left
   ·rintro w' ⟨s0,s1,s2,s3⟩
    go_simp;with_reducible rfl
   rotate_left;·simp only[sP];rfl
   refine pz 2 7 #[Z,Z,Z,Y,Y,Y,Y,Y,Y,Y,Y,Y,Y,Y,Y,Y,Y,Y,Y] A.out ?_
   refine pz 3 8 #[Z,Z,Z,Z,Y,Y,Y,Y,Y,Y,Y,Y,Y,Y,Y,Y,Y,Y,Y] A.out ?_
   refine pu 4 9 #[Z,Z,Z,Z,Z,Y,Y,Y,Y,Y,Y,Y,Y,Y,Y,Y,Y,Y,Y] A.out ?_
   refine pu 5 10 #[Z,Z,Z,Z,Z,Z,Y,Y,Y,Y,Y,Y,Y,Y,Y,Y,Y,Y,Y] A.out ?_
   refine pu 6 11 #[Z,Z,Z,Z,Z,Z,Z,Y,Y,Y,Y,Y,Y,Y,Y,Y,Y,Y,Y] A.out ?_
   refine pu 7 12 #[Z,Z,Z,Z,Z,Z,Z,Z,Y,Y,Y,Y,Y,Y,Y,Y,Y,Y,Y] A.out ?_
   refine pu 8 13 #[Z,Z,Z,Z,Z,Z,Z,Z,Z,Y,Y,Y,Y,Y,Y,Y,Y,Y,Y] A.out ?_
   refine pu 9 14 #[Z,Z,Z,Z,Z,Z,Z,Z,Z,Z,Y,Y,Y,Y,Y,Y,Y,Y,Y] A.out ?_
   refine pz 10 15 #[Z,Z,Z,Z,Z,Z,Z,Z,Z,Z,Z,Y,Y,Y,Y,Y,Y,Y,Y] A.out ?_
   refine pz 11 16 #[Z,Z,Z,Z,Z,Z,Z,Z,Z,Z,Z,Z,Y,Y,Y,Y,Y,Y,Y] A.out ?_
   refine pu 12 17 #[Z,Z,Z,Z,Z,Z,Z,Z,Z,Z,Z,Z,Z,Y,Y,Y,Y,Y,Y] A.out ?_
   refine pu 13 18 #[Z,Z,Z,Z,Z,Z,Z,Z,Z,Z,Z,Z,Z,Z,Y,Y,Y,Y,Y] A.out ?_
   refine pu 14 19 #[Z,Z,Z,Z,Z,Z,Z,Z,Z,Z,Z,Z,Z,Z,Z,Y,Y,Y,Y] A.out ?_
   refine pu 15 20 #[Z,Z,Z,Z,Z,Z,Z,Z,Z,Z,Z,Z,Z,Z,Z,Z,Y,Y,Y] A.out ?_
   refine pu 16 21 #[Z,Z,Z,Z,Z,Z,Z,Z,Z,Z,Z,Z,Z,Z,Z,Z,Z,Y,Y] A.out ?_
   refine pu 17 22 #[Z,Z,Z,Z,Z,Z,Z,Z,Z,Z,Z,Z,Z,Z,Z,Z,Z,Z,Y] A.out ?_
   refine pz 18 23 #[Z,Z,Z,Z,Z,Z,Z,Z,Z,Z,Z,Z,Z,Z,Z,Z,Z,Z,Z] A.out ?_
   refine done_ (done_of A.out (by kernel_rfl)) ?_;try go_wp2
   go_meet
   case rel=>exact⟨_,(true),rS,H',⟨by first|omega|exact Nat.le_refl _⟩,⟨bf0 B.out⟩,⟨bw1 HB.out O.out⟩⟩
  ·rw [if_neg c4]at H;have aa:decide (E<0)=false:=dF c4;clear c4
   (first|rw [aa]|(simp only[i64_w,i32_w];rw [aa])|skip)
   replace H:=bI H;obtain⟨X,ax,H⟩:=H;(try dsimp only at H);have A6:=Ax ax;clear ax;by_cases c7:E > X
   ·rw [if_pos c7]at H;have av:decide (X<E)=true:=dT c7;clear c7;have H':=Ax H;clear H;try go_wp2
    replace B:=Ax (blk_drew B.out);replace HB:=Ax (below_drew1 HB.out);refine start_ (n:=19) (S:=fun w'=>w'.cell? ⟨M,0,none⟩=some (.bool D)∧w'.cell? ⟨M,1,none⟩=some (.int .u64 G)∧w'.cell? ⟨M,2,none⟩=some (.int .u64 I)∧w'.cell? ⟨M,3,none⟩=some (.int .i64 E)) (ds:= []) #[Y,Y,Y,Y,Y,Y,Y,Y,Y,Y,Y,Y,Y,Y,Y,Y,Y,Y,Y] (by kernel_rfl) rfl rfl (bqc4 B.out) (fun L=>?_);refine with_tabW spoorref09_Check.tab1 spoorref09_Check.bits1 (fun A T=>?_);generalize w3.drew=w8 at B HB L ⊢;refine pz 0 5 #[Z,Y,Y,Y,Y,Y,Y,Y,Y,Y,Y,Y,Y,Y,Y,Y,Y,Y,Y] A.out ?_
    refine take_ (i:=1) (N:=some 6) (v:=?_) (a':=?_) #[Z,Z,Y,Y,Y,Y,Y,Y,Y,Y,Y,Y,Y,Y,Y,Y,Y,Y,Y] rfl rfl (take_ofW A.out T.out (by kernel_rfl)) (fun _ _ _ h=>h) (Or.inl ⟨by rfl,?_⟩) L ?_ ?_;rotate_left
    ·rintro w' ⟨s0,s1,s2,s3⟩
     go_simp;with_reducible rfl
    rotate_left;·simp only[sP];rfl
    refine pz 2 7 #[Z,Z,Z,Y,Y,Y,Y,Y,Y,Y,Y,Y,Y,Y,Y,Y,Y,Y,Y] A.out ?_
    refine pz 3 8 #[Z,Z,Z,Z,Y,Y,Y,Y,Y,Y,Y,Y,Y,Y,Y,Y,Y,Y,Y] A.out ?_
    refine pz 4 9 #[Z,Z,Z,Z,Z,Y,Y,Y,Y,Y,Y,Y,Y,Y,Y,Y,Y,Y,Y] A.out ?_
    refine pz 6 11 #[Z,Z,Z,Z,Z,Y,Z,Y,Y,Y,Y,Y,Y,Y,Y,Y,Y,Y,Y] A.out ?_
    refine take_ (i:=5) (N:=some 10) (v:=?_) (a':=?_) #[Z,Z,Z,Z,Z,Z,Z,Y,Y,Y,Y,Y,Y,Y,Y,Y,Y,Y,Y] rfl rfl (take_ofW A.out T.out (by kernel_rfl)) (fun _ _ _ h=>h) (Or.inl ⟨by rfl,?_⟩) L ?_ ?_;rotate_left
    ·rintro w' ⟨s0,s1,s2,s3⟩
     go_simp;with_reducible rfl
    rotate_left;·simp only[sP];rfl
    refine take_ (i:=7) (N:=some 12) (v:=?_) (a':=?_) #[Z,Z,Z,Z,Z,Z,Z,Z,Y,Y,Y,Y,Y,Y,Y,Y,Y,Y,Y] rfl rfl (take_ofW A.out T.out (by kernel_rfl)) (fun _ _ _ h=>h) (Or.inl ⟨by rfl,?_⟩) L ?_ ?_;rotate_left
    ·rintro w' ⟨s0,s1,s2,s3⟩
     go_simp;with_reducible rfl
    rotate_left;·simp only[sP];rfl
    refine one_ (i:=8) (N:=some 13) #[Z,Z,Z,Z,Z,Z,Z,Z,Z,Y,Y,Y,Y,Y,Y,Y,Y,Y,Y] rfl rfl (one_of A.out (by kernel_rfl)) (by decide) (fun K hK=>?_);refine goes_ Try.func64 (by kernel_rfl) rfl #[.bool D] (by rfl) rfl rfl gS ?_;with_reducible refine (spoorref09_Wide.calls D X _ A6.out).mono ?_
    rintro e w' ⟨rfl,⟨nd,rfl⟩⟩
    refine⟨_,rfl,?_⟩;refine hK.out _ _ (bqc4 B.out) (fun L=>?_);clear hK K;refine norm_ (a':=?_) ?_ ?_;rotate_left
    ·show Act.put _ (some 13) _=_
     simp only[sP];rfl
    refine pz 9 14 #[Z,Z,Z,Z,Z,Z,Z,Z,Z,Z,Y,Y,Y,Y,Y,Y,Y,Y,Y] A.out ?_
    refine pz 10 15 #[Z,Z,Z,Z,Z,Z,Z,Z,Z,Z,Z,Y,Y,Y,Y,Y,Y,Y,Y] A.out ?_
    refine pz 11 16 #[Z,Z,Z,Z,Z,Z,Z,Z,Z,Z,Z,Z,Y,Y,Y,Y,Y,Y,Y] A.out ?_
    refine pu 12 17 #[Z,Z,Z,Z,Z,Z,Z,Z,Z,Z,Z,Z,Z,Y,Y,Y,Y,Y,Y] A.out ?_
    refine pu 13 18 #[Z,Z,Z,Z,Z,Z,Z,Z,Z,Z,Z,Z,Z,Z,Y,Y,Y,Y,Y] A.out ?_
    refine pu 14 19 #[Z,Z,Z,Z,Z,Z,Z,Z,Z,Z,Z,Z,Z,Z,Z,Y,Y,Y,Y] A.out ?_
    refine pu 15 20 #[Z,Z,Z,Z,Z,Z,Z,Z,Z,Z,Z,Z,Z,Z,Z,Z,Y,Y,Y] A.out ?_
    refine pu 16 21 #[Z,Z,Z,Z,Z,Z,Z,Z,Z,Z,Z,Z,Z,Z,Z,Z,Z,Y,Y] A.out ?_
    refine pu 17 22 #[Z,Z,Z,Z,Z,Z,Z,Z,Z,Z,Z,Z,Z,Z,Z,Z,Z,Z,Y] A.out ?_
    refine pz 18 23 #[Z,Z,Z,Z,Z,Z,Z,Z,Z,Z,Z,Z,Z,Z,Z,Z,Z,Z,Z] A.out ?_
    refine done_ (done_of A.out (by kernel_rfl)) ?_;try go_wp2
    go_meet
    case rel=>exact⟨_,(true),rS,H',⟨by first|omega|exact Nat.le_refl _⟩,⟨bf0 B.out⟩,⟨bw1 HB.out O.out⟩⟩
   ·rw [if_neg c7]at H;have av:decide (X<E)=false:=dF c7;clear c7;replace H:=bI H;obtain⟨aj,ay,H⟩:=H;(try dsimp only at H);have A9:=Ax ay;clear ay;have H':=Ax H;clear H;try go_wp2
    replace B:=Ax (blk_drew B.out);replace HB:=Ax (below_drew1 HB.out);refine start_ (n:=19) (S:=fun w'=>w'.cell? ⟨M,0,none⟩=some (.bool D)∧w'.cell? ⟨M,1,none⟩=some (.int .u64 G)∧w'.cell? ⟨M,2,none⟩=some (.int .u64 I)∧w'.cell? ⟨M,3,none⟩=some (.int .i64 E)) (ds:= []) #[Y,Y,Y,Y,Y,Y,Y,Y,Y,Y,Y,Y,Y,Y,Y,Y,Y,Y,Y] (by kernel_rfl) rfl rfl (bqc4 B.out) (fun L=>?_);refine with_tabW spoorref09_Check.tab1 spoorref09_Check.bits1 (fun A T=>?_);generalize w3.drew=w10 at B HB L ⊢;refine pz 0 5 #[Z,Y,Y,Y,Y,Y,Y,Y,Y,Y,Y,Y,Y,Y,Y,Y,Y,Y,Y] A.out ?_
    refine take_ (i:=1) (N:=some 6) (v:=?_) (a':=?_) #[Z,Z,Y,Y,Y,Y,Y,Y,Y,Y,Y,Y,Y,Y,Y,Y,Y,Y,Y] rfl rfl (take_ofW A.out T.out (by kernel_rfl)) (fun _ _ _ h=>h) (Or.inl ⟨by rfl,?_⟩) L ?_ ?_;rotate_left
    ·rintro w' ⟨s0,s1,s2,s3⟩
     go_simp;with_reducible rfl
    rotate_left;·simp only[sP];rfl
    refine pz 2 7 #[Z,Z,Z,Y,Y,Y,Y,Y,Y,Y,Y,Y,Y,Y,Y,Y,Y,Y,Y] A.out ?_
    refine pz 3 8 #[Z,Z,Z,Z,Y,Y,Y,Y,Y,Y,Y,Y,Y,Y,Y,Y,Y,Y,Y] A.out ?_
    refine pz 4 9 #[Z,Z,Z,Z,Z,Y,Y,Y,Y,Y,Y,Y,Y,Y,Y,Y,Y,Y,Y] A.out ?_
    refine pz 6 11 #[Z,Z,Z,Z,Z,Y,Z,Y,Y,Y,Y,Y,Y,Y,Y,Y,Y,Y,Y] A.out ?_
    refine take_ (i:=5) (N:=some 10) (v:=?_) (a':=?_) #[Z,Z,Z,Z,Z,Z,Z,Y,Y,Y,Y,Y,Y,Y,Y,Y,Y,Y,Y] rfl rfl (take_ofW A.out T.out (by kernel_rfl)) (fun _ _ _ h=>h) (Or.inl ⟨by rfl,?_⟩) L ?_ ?_;rotate_left
    ·rintro w' ⟨s0,s1,s2,s3⟩
     go_simp;with_reducible rfl
    rotate_left;·simp only[sP];rfl
    refine take_ (i:=7) (N:=some 12) (v:=?_) (a':=?_) #[Z,Z,Z,Z,Z,Z,Z,Z,Y,Y,Y,Y,Y,Y,Y,Y,Y,Y,Y] rfl rfl (take_ofW A.out T.out (by kernel_rfl)) (fun _ _ _ h=>h) (Or.inl ⟨by rfl,?_⟩) L ?_ ?_;rotate_left
    ·rintro w' ⟨s0,s1,s2,s3⟩
     go_simp;with_reducible rfl
    rotate_left;·simp only[sP];rfl
    refine one_ (i:=8) (N:=some 13) #[Z,Z,Z,Z,Z,Z,Z,Z,Z,Y,Y,Y,Y,Y,Y,Y,Y,Y,Y] rfl rfl (one_of A.out (by kernel_rfl)) (by decide) (fun K hK=>?_);refine goes_ Try.func64 (by kernel_rfl) rfl #[.bool D] (by rfl) rfl rfl gS ?_;with_reducible refine (spoorref09_Wide.calls D X _ A6.out).mono ?_
    rintro e w' ⟨rfl,⟨nd,rfl⟩⟩
    refine⟨_,rfl,?_⟩;refine hK.out _ _ (bqc4 B.out) (fun L=>?_);clear hK K;refine norm_ (a':=?_) ?_ ?_;rotate_left
    ·show Act.put _ (some 13) _=_
     simp only[sP];rfl
    refine pz 9 14 #[Z,Z,Z,Z,Z,Z,Z,Z,Z,Z,Y,Y,Y,Y,Y,Y,Y,Y,Y] A.out ?_
    refine pz 10 15 #[Z,Z,Z,Z,Z,Z,Z,Z,Z,Z,Z,Y,Y,Y,Y,Y,Y,Y,Y] A.out ?_
    refine pz 11 16 #[Z,Z,Z,Z,Z,Z,Z,Z,Z,Z,Z,Z,Y,Y,Y,Y,Y,Y,Y] A.out ?_
    refine pz 12 17 #[Z,Z,Z,Z,Z,Z,Z,Z,Z,Z,Z,Z,Z,Y,Y,Y,Y,Y,Y] A.out ?_
    refine pz 14 19 #[Z,Z,Z,Z,Z,Z,Z,Z,Z,Z,Z,Z,Z,Y,Z,Y,Y,Y,Y] A.out ?_
    refine take_ (i:=13) (N:=some 18) (v:=?_) (a':=?_) #[Z,Z,Z,Z,Z,Z,Z,Z,Z,Z,Z,Z,Z,Z,Z,Y,Y,Y,Y] rfl rfl (take_ofW A.out T.out (by kernel_rfl)) (fun _ _ _ h=>h) (Or.inl ⟨by rfl,?_⟩) L ?_ ?_;rotate_left
    ·rintro w' ⟨s0,s1,s2,s3⟩
     go_simp;with_reducible rfl
    rotate_left;·simp only[sP];rfl
    refine take_ (i:=15) (N:=some 20) (v:=?_) (a':=?_) #[Z,Z,Z,Z,Z,Z,Z,Z,Z,Z,Z,Z,Z,Z,Z,Z,Y,Y,Y] rfl rfl (take_ofW A.out T.out (by kernel_rfl)) (fun _ _ _ h=>h) (Or.inl ⟨by rfl,?_⟩) L ?_ ?_;rotate_left
    ·rintro w' ⟨s0,s1,s2,s3⟩
     go_simp;with_reducible rfl
    rotate_left;·simp only[sP];rfl
    refine one_ (i:=16) (N:=some 21) #[Z,Z,Z,Z,Z,Z,Z,Z,Z,Z,Z,Z,Z,Z,Z,Z,Z,Y,Y] rfl rfl (one_of A.out (by kernel_rfl)) (by decide) (fun K hK=>?_);refine goes_ Try.func74 (by kernel_rfl) rfl #[.bool D,.agg #[.int .u64 G,.int .u64 I]] (by rfl) rfl rfl gS ?_;with_reducible refine (spoorref09_Right.calls D G I aj _ A9.out).mono ?_
    rintro e b8 ⟨rfl,hb⟩
    refine⟨_,rfl,?_⟩;replace B:=Bx0 B hb;replace HB:=Bs1 HB hb O.out
    (try clear hb)
    refine hK.out _ _ (bqc4 B.out) (fun L=>?_);clear hK K;refine norm_ (a':=?_) ?_ ?_;rotate_left
    ·show Act.put _ (some 21) _=_
     simp only[sP];rfl
    refine pz 17 22 #[Z,Z,Z,Z,Z,Z,Z,Z,Z,Z,Z,Z,Z,Z,Z,Z,Z,Z,Y] A.out ?_
    refine pz 18 23 #[Z,Z,Z,Z,Z,Z,Z,Z,Z,Z,Z,Z,Z,Z,Z,Z,Z,Z,Z] A.out ?_
    refine done_ (done_of A.out (by kernel_rfl)) ?_;try go_wp2
    go_meet
    case rel=>exact⟨_,(!aj),rS,H',⟨by first|omega|exact Nat.le_refl _⟩,⟨bf0 B.out⟩,⟨bw1 HB.out O.out⟩⟩
 case rest=>
  clear au;try clear p2
  try clear c4
  try clear aa
  try clear c6
  try clear c7
  try clear av
  obtain⟨kq,al,rfl,HA,am,B,HB⟩:=hcut;cases kq with
  |zero=>exact absurd HA.out (by simp [spoorref09_Check.j0])
  |succ kj1=>
   have H:=HA.out;clear HA;simp only[spoorref09_Check.j0]at H;by_cases af:al=true
   ·subst af;have H1:(some 2)=some r:=by rw [if_pos rfl]at H;exact H
    clear H;have H:=H1;clear H1;obtain rfl:=Option.some.inj H;go_wp2;go_ret;exact⟨eS,bw1 HB.out O.out⟩
   ·replace af:=Bool.eq_false_iff.mpr af;subst af;have H1:((spoorref09_bits.f kj1 D G I).bind fun F=>(spoorref09_Check.l0 kj1 F (F.length:Int) 0 D G I E))=some r:=by rw [if_neg (show ¬ (false=true) by decide)]at H;exact H
    clear H;have H:=H1;clear H1;replace H:=bI H;obtain⟨F,az,H⟩:=H;(try dsimp only at H);have aH:=Ax az;clear az;have H':=Ax H;clear H;obtain⟨aI,aJ,aK,aM,aN,aQ,aR,aT⟩:=cl4 B;go_wp2_with (first|((with_reducible refine gate_callee (f:=75) rfl ?_);refine goesL_ (some 28) rfl rfl Try.func75 (by kernel_rfl) rfl #[.bool D,.agg #[.int .u64 G,.int .u64 I]] rfl gS ?_;(with_reducible refine (spoorref09_bits.calls kj1 D G I F _ aH.out).mono ?_);rintro e b9 ⟨ba,rfl,aA,hb⟩;refine⟨_,rfl,?_⟩;have aC:=Ax (Kd.R_lower aA (below_size (bw1 HB.out O.out)));replace B:=Bx0 B hb;replace HB:=Bs1 HB hb O.out;(try clear hb);(try clear aA);obtain⟨aU,aV,aW⟩:=Kd.R_slice aC.out;subst aW));go_loopg [30] kj1 (fun kq aY w'=> ∃ (C:Int),aY= .int .i64 C∧Aside0 (spoorref09_Check.l0 kq F (F.length:Int) C D G I E=some r)∧Aside0 (kq≤kj1)∧Aside0 (Kd.R (Kd.int .i64) 3 w' w.heap.size (fun _=>True) (.slice aU F.length aV) F)∧Aside0 (w'.heap[M]? =some (.cells #[.bool D,.int .u64 G,.int .u64 I,.int .i64 E] 30 (0,0)))∧Aside0 (Below w.heap.size w w'))
    case atStart=>exact⟨(0),rS,H',⟨Nat.le_refl _⟩,⟨by (with_reducible repeat (first|apply Kd.R_alloc|apply Kd.R_drewN|apply Kd.R_drew));exact aC.out⟩,⟨bf0 B.out⟩,⟨bw1 HB.out O.out⟩⟩
    case round=>
     clear H';(try clear c1);(try clear p2 p2);(try clear c4);(try clear aa);(try clear c6);(try clear c7);(try clear av);(try clear af);(try clear aI aJ aK aM);(try clear aN aQ aR aT);obtain⟨C,rfl,HA,ap,ag,B,HB⟩:=hrel;cases gk with
     |zero=>exact absurd HA.out (by simp [spoorref09_Check.l0])
     |succ k2=>
      have H:=HA.out;clear HA;simp only[spoorref09_Check.l0]at H;by_cases ac:C<(F.length:Int)
      ·rw [if_pos ac]at H;have aZ:decide (C<(F.length:Int))=true:=dT ac;clear ac;by_cases aq:0≤C
       ·rw [if_pos aq]at H;have bb:decide (0≤C)=true:=dT aq;clear aq;by_cases ar:C<(F.length:Int)
        ·rw [if_pos ar]at H;have bc:decide (C<(F.length:Int))=true:=dT ar;clear ar;by_cases ae:C ≥ E
         ·rw [if_pos ae]at H;have b2:decide (E≤C)=true:=dT ae;clear ae;by_cases ab:(rd F C)=0
          ·rw [if_pos ab]at H;have b3:((rd F C)==0)=true:=beq_iff_eq.mpr ab;have b4:((rd F C) !=0)=false:=bne_eq_false_iff_eq.mpr ab;clear ab;have H':=Ax H;clear H;have U:0≤(C:Int):=of_decide_eq_true (by first|(with_reducible assumption)|assumption);have V:C<(F.length:Int):=of_decide_eq_true (by first|(with_reducible assumption)|assumption);obtain⟨aD,ah,aE⟩:=Kd.at_int (Kd.R_reads' ag.out).2.2 C U V;cases ah;replace U:=eq_true U;replace V:=eq_true V;obtain⟨bd,bf,bg,bh,bi,bj,bk,bl⟩:=cl4 B;go_wp2;go_roundg k2
           case measure=>have:=am.out;have:=ap.out;omega
           case rel=>exact⟨(wrap64 (C+1)),rS,H',⟨by have:=am.out;have:=ap.out;omega⟩,⟨by (with_reducible repeat (first|apply Kd.R_alloc|apply Kd.R_drewN|apply Kd.R_drew));exact ag.out⟩,⟨bf0 B.out⟩,⟨bw1 HB.out O.out⟩⟩
          ·rw [if_neg ab]at H;have b3:((rd F C)==0)=false:=beq_eq_false_iff_ne.mpr ab;have b4:((rd F C) !=0)=true:=bne_iff_ne.mpr ab;obtain rfl:=Option.some.inj H;have U:0≤(C:Int):=of_decide_eq_true (by first|(with_reducible assumption)|assumption);have V:C<(F.length:Int):=of_decide_eq_true (by first|(with_reducible assumption)|assumption);obtain⟨aD,ah,aE⟩:=Kd.at_int (Kd.R_reads' ag.out).2.2 C U V;cases ah;replace U:=eq_true U;replace V:=eq_true V;obtain⟨bm,bn,bo,bq,br,bu,bv,bx⟩:=cl4 B;go_wp2;go_ret;exact⟨eS,bw1 HB.out O.out⟩
         ·rw [if_neg ae]at H;have b2:decide (E≤C)=false:=dF ae;clear ae;have H':=Ax H;clear H;have U:0≤(C:Int):=of_decide_eq_true (by first|(with_reducible assumption)|assumption);have V:C<(F.length:Int):=of_decide_eq_true (by first|(with_reducible assumption)|assumption);obtain⟨aD,ah,aE⟩:=Kd.at_int (Kd.R_reads' ag.out).2.2 C U V;cases ah;replace U:=eq_true U;replace V:=eq_true V;obtain⟨bz,bA,bB,bC,bD,bE,bF,bG⟩:=cl4 B;go_wp2;go_roundg k2
          case measure=>have:=am.out;have:=ap.out;omega
          case rel=>exact⟨(wrap64 (C+1)),rS,H',⟨by have:=am.out;have:=ap.out;omega⟩,⟨by (with_reducible repeat (first|apply Kd.R_alloc|apply Kd.R_drewN|apply Kd.R_drew));exact ag.out⟩,⟨bf0 B.out⟩,⟨bw1 HB.out O.out⟩⟩
        ·rw [if_neg ar]at H;exact absurd H (by simp)
       ·rw [if_neg aq]at H;exact absurd H (by simp)
      ·rw [if_neg ac]at H;have aZ:decide (C<(F.length:Int))=false:=dF ac;clear ac;obtain rfl:=Option.some.inj H;go_wp2;go_ret;exact⟨eS,bw1 HB.out O.out⟩
def spoorref11_Acts.f (B:Int) (A:Int):Option (Bool):=if B=1 then (if A ≥ 0 then (some (decide (A≤65536))) else (some false)) else (if B=2 then (some (A==0)) else (if B=3 then (some (A==0)) else (some false)))
set_option maxHeartbeats 8000000 in
set_option maxRecDepth 100000 in
theorem spoorref11_Acts.calls (A:Int) (B:Int) (r:Bool) (w:World) (h:spoorref11_Acts.f A B=some r):
  Calls Try.prog 68 #[.agg #[.int .u8 A,.int .i64 B]] w fun e w'=>e= .returned (.bool r)∧Below w.heap.size w w':=by
 have aj:=Try.underlying33;have HB:=Ax (Below.refl w.heap.size w);have H:(if A=1 then (if B ≥ 0 then (some (decide (B≤65536))) else (some false)) else (if A=2 then (some (B==0)) else (if A=3 then (some (B==0)) else (some false))))=some r:=h;clear h;by_cases c2:A=1
 ·rw [if_pos c2]at H;have aa:(A==1)=true:=beq_iff_eq.mpr c2;have ab:(A !=1)=false:=bne_eq_false_iff_eq.mpr c2;clear c2;by_cases c3:B ≥ 0;·rw [if_pos c3]at H;have ac:decide (0≤B)=true:=dT c3;clear c3;obtain rfl:=Option.some.inj H;go_enter Try.func68,Try.ntmps68;go_wp2_with (first|((with_reducible refine gate_dst (N:=1) rfl ?_);refine bX (N:=1) (cs:= #[.int .u8 A,.int .i64 B]) (t:=33) ?_;intro G hg w4 C hb;have D:=Ax (C);have I:=Gw0 HB hg;have E:=Gw0 HB hg;replace HB:=Bs0 HB hb;clear hb C hg;obtain⟨al,am,ap,aq⟩:=cl2 D));go_ret;exact⟨eS,bw1 HB.out E.out⟩
  ·rw [if_neg c3]at H;have ac:decide (0≤B)=false:=dF c3;clear c3;obtain rfl:=Option.some.inj H;go_enter Try.func68,Try.ntmps68;go_wp2_with (first|((with_reducible refine gate_dst (N:=1) rfl ?_);refine bX (N:=1) (cs:= #[.int .u8 A,.int .i64 B]) (t:=33) ?_;intro G hg w6 C hb;have D:=Ax (C);have I:=Gw0 HB hg;have E:=Gw0 HB hg;replace HB:=Bs0 HB hb;clear hb C hg;obtain⟨ar,au,av,aw⟩:=cl2 D));go_ret;exact⟨eS,bw1 HB.out E.out⟩
 ·rw [if_neg c2]at H;have aa:(A==1)=false:=beq_eq_false_iff_ne.mpr c2;have ab:(A !=1)=true:=bne_iff_ne.mpr c2;by_cases c8:A=2;·rw [if_pos c8]at H;have ae:(A==2)=true:=beq_iff_eq.mpr c8;have af:(A !=2)=false:=bne_eq_false_iff_eq.mpr c8;clear c8;obtain rfl:=Option.some.inj H;go_enter Try.func68,Try.ntmps68;go_wp2_with (first|((with_reducible refine gate_dst (N:=1) rfl ?_);refine bX (N:=1) (cs:= #[.int .u8 A,.int .i64 B]) (t:=33) ?_;intro G hg w9 C hb;have D:=Ax (C);have I:=Gw0 HB hg;have E:=Gw0 HB hg;replace HB:=Bs0 HB hb;clear hb C hg;obtain⟨ax,ay,az,aA⟩:=cl2 D));go_ret;exact⟨eS,bw1 HB.out E.out⟩
  ·rw [if_neg c8]at H;have ae:(A==2)=false:=beq_eq_false_iff_ne.mpr c8;have af:(A !=2)=true:=bne_iff_ne.mpr c8;by_cases F:A=3;·rw [if_pos F]at H;have ag:(A==3)=true:=beq_iff_eq.mpr F;have ah:(A !=3)=false:=bne_eq_false_iff_eq.mpr F;clear F;obtain rfl:=Option.some.inj H;go_enter Try.func68,Try.ntmps68;go_wp2_with (first|((with_reducible refine gate_dst (N:=1) rfl ?_);refine bX (N:=1) (cs:= #[.int .u8 A,.int .i64 B]) (t:=33) ?_;intro G hg aC C hb;have D:=Ax (C);have I:=Gw0 HB hg;have E:=Gw0 HB hg;replace HB:=Bs0 HB hb;clear hb C hg;obtain⟨aD,aE,aG,aH⟩:=cl2 D));go_ret;exact⟨eS,bw1 HB.out E.out⟩
   ·rw [if_neg F]at H;have ag:(A==3)=false:=beq_eq_false_iff_ne.mpr F;have ah:(A !=3)=true:=bne_iff_ne.mpr F;obtain rfl:=Option.some.inj H;go_enter Try.func68,Try.ntmps68;go_wp2_with (first|((with_reducible refine gate_dst (N:=1) rfl ?_);refine bX (N:=1) (cs:= #[.int .u8 A,.int .i64 B]) (t:=33) ?_;intro G hg aI C hb;have D:=Ax (C);have I:=Gw0 HB hg;have E:=Gw0 HB hg;replace HB:=Bs0 HB hb;clear hb C hg;obtain⟨aJ,aK,aM,aN⟩:=cl2 D));go_ret;exact⟨eS,bw1 HB.out E.out⟩
end Go.Proofs.Ythkdfojmhloofaa.Q
end
section
namespace Go.Proofs.Ythkdfojmhloofaa.Q
open Go.RowKit Go.Proofs.YthkdfojmhloofaaW.PrintWords Go.Proofs.YthkdfojmhloofaaW.PrintLast Go.Proofs.YthkdfojmhloofaaW.PrintMore
attribute [local go_sem] max2_int min2_int max_two min_two max_three min_three max_four min_four   -- for this text's walks alone
set_option linter.unusedVariables false
set_option linter.unusedSimpArgs false
attribute [local go_sem high] eqA35
mutual
def spoorref11_Check.j0 : Nat → Bool → Int → Int → Int → Int → Bool → Int → Int → Int → Int → Int → Int → Int → Option (Int)
 | 0, _, _, _, _, _, _, _, _, _, _, _, _, _ => none
 | k + 1, x32, x327000, x327001, x327002, x327003, x327004, x327005, x327006, x327007, x327008, x327009, x327010, x327011 => if x32 = true then (some 2) else (if x327000 = 1 then (spoorref11_Check.j1 k true x327000 (x327000 == 1) x327000 x327001 x327002 x327003 x327004 x327005 x327006 x327007 x327008 x327009 x327010 x327011 x327000 x327001 x327002 x327003 false 0 0 0 0 0 0 0) else (spoorref11_Check.j1 k true x327000 (x327000 == 2) x327000 x327001 x327002 x327003 x327004 x327005 x327006 x327007 x327008 x327009 x327010 x327011 x327000 x327001 x327002 x327003 false 0 0 0 0 0 0 0))
def spoorref11_Check.j1 : Nat → Bool → Int → Bool → Int → Int → Int → Int → Bool → Int → Int → Int → Int → Int → Int → Int → Int → Int → Int → Int → Bool → Int → Int → Int → Int → Int → Int → Int → Option (Int)
 | 0, _, _, _, _, _, _, _, _, _, _, _, _, _, _, _, _, _, _, _, _, _, _, _, _, _, _, _ => none
 | k + 1, x4, x43, x44, x327000, x327001, x327002, x327003, x327004, x327005, x327006, x327007, x327008, x327009, x327010, x327011, x328000, x328001, x328002, x328003, x328004, x328005, x328006, x328007, x328008, x328009, x328010, x328011 => if x44 = true then (if x4 = true then (if (!(x328000 == x327000) || (!(x328001 == x327001) || (!(x328002 == x327002) || (!(x328003 == x327003) || ((!(x328004 == x327004) || ((!(x328005 == x327005) || (!(x328006 == x327006))) || (!(x328007 == x327007)))) || ((!(x328008 == x327008) || (!(x328009 == x327009))) || (!(x328010 == x327010) || (!(x328011 == x327011))))))))) = true then (some 2) else (some 0)) else (some 2)) else (if x43 = 3 then ((spoorref09_Check.f k x327004 x327005 x327006 x327007).bind fun aa => (if aa = 0 then ((spoorref11_Acts.f x327008 x327009).bind fun ab => (if ab = true then (if (!(x328000 == x327000) || (!(x328001 == x327001) || (!(x328002 == x327002) || (!(x328003 == x327003) || (!(x328010 == x327010) || (!(x328011 == x327011))))))) = true then (some 2) else (some 0)) else (some 2))) else (some 2))) else (if x43 = 4 then ((spoorref09_Check.f k x327004 x327005 x327006 x327007).bind fun ac => (if ac = 0 then (if (!(x328000 == x327000) || (!(x328001 == x327001) || (!(x328002 == x327002) || (!(x328003 == x327003) || ((!(x328008 == x327008) || (!(x328009 == x327009))) || (!(x328010 == x327010) || (!(x328011 == x327011)))))))) = true then (some 2) else (some 0)) else (some 2))) else (if x43 = 5 then (if x327010 ≥ 0 then (if x327010 ≤ 65536 then (if x327011 ≥ 0 then (if x327011 ≤ 1048576 then (if (!(x328000 == x327000) || (!(x328001 == x327001) || (!(x328002 == x327002) || (!(x328003 == x327003) || ((!(x328004 == x327004) || ((!(x328005 == x327005) || (!(x328006 == x327006))) || (!(x328007 == x327007)))) || ((!(x328008 == x327008) || (!(x328009 == x327009))))))))) = true then (some 2) else (some 0)) else (some 2)) else (some 2)) else (some 2)) else (some 2)) else (if x43 = 6 then (if x327010 ≥ 0 then (if x327010 ≤ 65536 then (if (!(x328000 == x327000) || (!(x328001 == x327001) || (!(x328002 == x327002) || (!(x328003 == x327003) || ((!(x328004 == x327004) || ((!(x328005 == x327005) || (!(x328006 == x327006))) || (!(x328007 == x327007)))) || ((!(x328008 == x327008) || (!(x328009 == x327009))) || (!(x328011 == x327011)))))))) = true then (some 2) else (some 0)) else (some 2)) else (some 2)) else (some 2)))))
end
def spoorref11_Check.f (k:Nat) (D:Int) (A:Int) (B:Int) (C:Int) (E:Bool) (F:Int) (G:Int) (H:Int) (I:Int) (L:Int) (M:Int) (N:Int):Option (Int):=if A<0 then (spoorref11_Check.j0 k true D A B C E F G H I L M N) else (if A > 1048576 then (spoorref11_Check.j0 k true D A B C E F G H I L M N) else (if B<1 then (spoorref11_Check.j0 k true D A B C E F G H I L M N) else (if B > 1099511627776 then (spoorref11_Check.j0 k true D A B C E F G H I L M N) else (if C<0 then (spoorref11_Check.j0 k true D A B C E F G H I L M N) else (spoorref11_Check.j0 k (decide (C > 1099511627776)) D A B C E F G H I L M N)))))
def spoorref11_Check.T10:Bool × List (List Nat × List Nat):=(true, [([], []),([0], [0]),([], []),([2], [2]),([0,1], []),([4,1,0,1], [1,4]),([0,1,2,3,4,5], []),([6,3,5,0,1,2,3,4,5], [3,6])])
def spoorref11_Check.B10:List Nat:= [0,1,0,4,3,19,63,127]
theorem spoorref11_Check.tab10:rtab .any (opsOf Try.f50 10)=spoorref11_Check.T10:=by kernel_rfl
theorem spoorref11_Check.bits10:waitsOk spoorref11_Check.T10.2 spoorref11_Check.B10=true:=by kernel_rfl
def spoorref11_Check.T16:Bool × List (List Nat × List Nat):=(true, [([], []),([0], [0]),([], []),([2], [2]),([0,1], []),([4,1,0,1], [1,4]),([0,1,2,3,4,5], []),([6,3,5,0,1,2,3,4,5], [3,6])])
def spoorref11_Check.B16:List Nat:= [0,1,0,4,3,19,63,127]
theorem spoorref11_Check.tab16:rtab .any (opsOf Try.f50 16)=spoorref11_Check.T16:=by kernel_rfl
theorem spoorref11_Check.bits16:waitsOk spoorref11_Check.T16.2 spoorref11_Check.B16=true:=by kernel_rfl
end Go.Proofs.Ythkdfojmhloofaa.Q
end
section
namespace Go.Proofs.Ythkdfojmhloofaa.Q
open Go.RowKit Go.Proofs.YthkdfojmhloofaaW.PrintWords Go.Proofs.YthkdfojmhloofaaW.PrintLast Go.Proofs.YthkdfojmhloofaaW.PrintMore
attribute [local go_sem] max2_int min2_int max_two min_two max_three min_three max_four min_four   -- for this text's walks alone
set_option linter.unusedVariables false
set_option linter.unusedSimpArgs false
def spoorref01_Put.f : Nat → Int → Option (ByteArray)
 | 0, _ => none
 | k + 1, a0 => if a0 < 128 then (some (strOfNums (([(a0) % 256] : List Int)))) else ((some (([(IntKind.u64.wrap ((Int.tmod a0 128) + 128)) % 256] : List Int) : List Int)).bind fun A => ((spoorref01_Put.f k (IntKind.u64.wrap (Int.tdiv a0 128))).bind fun B => (if (strOfNums A).size + B.size ≤ 9223372036854775807 then (some ((strOfNums A) ++ B)) else (none))))
def spoorref01_Put.T3:Bool × List (List Nat × List Nat):=(true, [([], []),([0], [0]),([1], [1]),([2], [2]),([3], [3]),([4], [4]),([], []),([6], [6]),([7], [7]),([5,8], [5,8]),([9,8,0,1,2,3,4,5,6,7,8,9], [9])])
def spoorref01_Put.B3:List Nat:= [0,1,3,7,15,31,0,64,192,511,1023]
theorem spoorref01_Put.tab3:rtab .any (opsOf Try.f51 3)=spoorref01_Put.T3:=by kernel_rfl
theorem spoorref01_Put.bits3:waitsOk spoorref01_Put.T3.2 spoorref01_Put.B3=true:=by kernel_rfl
set_option maxHeartbeats 8000000 in
set_option maxRecDepth 100000 in
theorem spoorref01_Put.calls (k:Nat): ∀ (a0:Int) (r:ByteArray) (w:World) (h:spoorref01_Put.f k a0=some r),
  Calls Try.prog 51 #[.int .u64 a0] w fun e w'=>e= .returned (.string r)∧Below w.heap.size w w':=by
 induction k using Nat.strongRecOn with
 |_ k ih=>
 intro a0 r w h;cases k with
 |zero=>exact absurd h (by simp [spoorref01_Put.f])
 |succ k=>
 simp only[spoorref01_Put.f]at h;have HB:=Ax (Below.refl w.heap.size w);have H:(if a0<128 then (some (strOfNums (([(a0) % 256]:List Int)))) else ((some (([(IntKind.u64.wrap ((Int.tmod a0 128)+128)) % 256]:List Int):List Int)).bind fun D=>((spoorref01_Put.f k (IntKind.u64.wrap (Int.tdiv a0 128))).bind fun B=>(if (strOfNums D).size+B.size≤9223372036854775807 then (some ((strOfNums D)++B)) else (none)))))=some r:=h;clear h;by_cases c2:a0<128
 ·rw [if_pos c2]at H;have ap:decide (a0<128)=true:=dT c2;clear c2;obtain⟨aq,I⟩: ∃ y_:List Int,y_=(([(a0) % 256]:List Int)):=⟨_,rfl⟩;replace H:(some (strOfNums aq))=some r:=by first|(rw [I];with_reducible exact H)|(have F:=(Option.bind_some _ _).symm.trans H;rw [I];with_reducible exact F)|(have F:=(Option.bind_some _ _).symm.trans H;with_reducible exact F)|with_reducible exact H|(rw [I];exact H)|exact H
  have ae:=Ax I;clear I;obtain rfl:=Option.some.inj H;go_enter Try.func51,Try.ntmps51;go_wp2_with (first|((with_reducible refine gate_dst (N:=7) rfl ?_);refine Kd.R_lit (Kd.int .u8) _ 5 ?hg (N:=7) ?hd (xs:=([(a0) % 256]:List Int)) (inner:= [.int .u8 ((a0) % 256)]) (ok:=fun _=>True) (okp:=fun _=>True) ?hr ?hp (fun _ hk=>hk) trivial (Below.refl _ _) (Nat.le_refl _) (by simp) ?_;(case hd=>rfl);(case hg=>rfl);(case hr=>first|(go_simp;done)|(go_simp;rfl));(case hp=>exact (Reps.one (show Kd.M (Kd.int .u8) _ _ _ ((a0) % 256) [.int .u8 ((a0) % 256)] from rfl) (Reps.none _ _)));intro av w3 L hb O T;clear O T;(first|rw [← ae.out]at L|(simp only[Int.reduceToNat]at L;rw [← ae.out]at L));have ar:=Ax (Kd.R_lower L (below_size (bw0 HB.out)));replace HB:=Bs0 HB hb;clear hb L;have aw:=own_string (P:=Try.prog) Try.underlying67 Try.underlying5 Try.underlying9 (Kd.own_of_R ar.out)));go_ret;exact⟨eS,bw0 HB.out⟩
 ·rw [if_neg c2]at H;have ap:decide (a0<128)=false:=dF c2;clear c2;obtain⟨D,U⟩: ∃ y_:List Int,y_=(([(IntKind.u64.wrap ((Int.tmod a0 128)+128)) % 256]:List Int)):=⟨_,rfl⟩;replace H:((spoorref01_Put.f k (IntKind.u64.wrap (Int.tdiv a0 128))).bind fun B=>(if (strOfNums D).size+B.size≤9223372036854775807 then (some ((strOfNums D)++B)) else (none)))=some r:=by first|(rw [U];with_reducible exact H)|(have F:=(Option.bind_some _ _).symm.trans H;rw [U];with_reducible exact F)|(have F:=(Option.bind_some _ _).symm.trans H;with_reducible exact F)|with_reducible exact H|(rw [U];exact H)|exact H
  have aa:=Ax U;clear U;replace H:=bI H;obtain⟨B,af,H⟩:=H;(try dsimp only at H);have A6:=Ax af;clear af;by_cases c7:(strOfNums D).size+B.size≤9223372036854775807
  ·rw [if_pos c7]at H;have ax:=eq_true c7;have ay:decide ((strOfNums D).size+B.size≤9223372036854775807)=true:=dT c7;try have az:(9223372036854775807<(strOfNums D).size+B.size)=False:=eq_false (Nat.not_lt.2 c7)
   obtain rfl:=Option.some.inj H;go_enter Try.func51,Try.ntmps51;try go_wp2
   replace HB:=Ax (below_drew1 HB.out);refine start_ (n:=11) (S:=fun w'=>True) (ds:= []) #[Y,Y,Y,Y,Y,Y,Y,Y,Y,Y,Y] (by kernel_rfl) rfl rfl trivial (fun E=>?_);refine with_tabW spoorref01_Put.tab3 spoorref01_Put.bits3 (fun A aA=>?_);generalize w.drew=w8 at HB E ⊢;refine pz 0 9 #[Z,Y,Y,Y,Y,Y,Y,Y,Y,Y,Y] A.out ?_
   refine pz 1 10 #[Z,Z,Y,Y,Y,Y,Y,Y,Y,Y,Y] A.out ?_
   refine pz 2 11 #[Z,Z,Z,Y,Y,Y,Y,Y,Y,Y,Y] A.out ?_
   refine pz 3 12 #[Z,Z,Z,Z,Y,Y,Y,Y,Y,Y,Y] A.out ?_
   refine pz 6 15 #[Z,Z,Z,Z,Y,Y,Z,Y,Y,Y,Y] A.out ?_
   refine pz 7 16 #[Z,Z,Z,Z,Y,Y,Z,Z,Y,Y,Y] A.out ?_
   refine join_ (σ:=Value) 2 #[Z,Z,Z,Z,Z,Z,Z,Z,Z,Y,Y] (fun s_=> [(13,s_),(14,.string (strOfNums D)),(17,.string B)]) (fun s_ w'=>(Kd.R (Kd.int .u8) 5 w' w.heap.size (fun _=>True) s_ D)∧(Below w.heap.size w w')) ?_ ?_;rotate_left
   ·intro ab;refine two_ (i:=4) (j:=8) (Ni:=some 13) (Nj:=some 17) #[Z,Z,Z,Z,Z,Y,Z,Z,Y,Y,Y] #[Z,Z,Z,Z,Y,Y,Z,Z,Z,Y,Y] rfl rfl rfl rfl (two_of A.out (by kernel_rfl)) (by decide) (by decide) (fun K hK=>?_) (fun K hK=>?_)
    ·skip
     refine Kd.R_lit_step (Kd.int .u8) _ 5 ?hg (N:=13) ?hd (xs:=([(IntKind.u64.wrap ((Int.tmod a0 128)+128)) % 256]:List Int)) (inner:= [.int .u8 ((IntKind.u64.wrap ((Int.tmod a0 128)+128)) % 256)]) (ok:=fun _=>True) (okp:=fun _=>True) ?hr ?hp (fun _ hk=>hk) trivial (Below.refl _ _) (Nat.le_refl _) (by simp) ?_;(case hd=>rfl);(case hg=>rfl);(case hr=>first|(go_simp;done)|(go_simp;rfl));(case hp=>exact (Reps.one (show Kd.M (Kd.int .u8) _ _ _ ((IntKind.u64.wrap ((Int.tmod a0 128)+128)) % 256) [.int .u8 ((IntKind.u64.wrap ((Int.tmod a0 128)+128)) % 256)] from rfl) (Reps.none _ _)));intro G w9 V hb O T;clear O T
     (first|rw [← aa.out]at V|(simp only[Int.reduceToNat]at V;rw [← aa.out]at V))
     have C:=Ax (Kd.R_lower V (below_size (bw0 HB.out)));replace HB:=Bs0 HB hb;clear hb V;refine hK.out _ _ trivial (fun E=>?_);clear hK K;refine norm_ (a':=?_) ?_ ?_;rotate_left
     ·show Act.put _ (some 13) _=_
      simp only[sP];rfl
     refine two_ (i:=5) (j:=8) (Ni:=some 14) (Nj:=some 17) #[Z,Z,Z,Z,Z,Z,Z,Z,Y,Y,Y] #[Z,Z,Z,Z,Z,Y,Z,Z,Z,Y,Y] rfl rfl rfl rfl (two_of A.out (by kernel_rfl)) (by decide) (by decide) (fun K hK=>?_) (fun K hK=>?_)
     ·skip
      have au:=own_string (P:=Try.prog) Try.underlying67 Try.underlying5 Try.underlying9 (Kd.own_of_R C.out);refine value_ (w1:=?_) (v:=?_) (by rfl) rfl ?_ ?_;rotate_left 2
      ·go_simp;constructor;·rfl
       ·rfl
      clear au;refine hK.out _ _ trivial (fun E=>?_);clear hK K;refine norm_ (a':=?_) ?_ ?_;rotate_left
      ·show Act.put _ (some 14) _=_
       simp only[sP];rfl
      refine one_ (i:=8) (N:=some 17) #[Z,Z,Z,Z,Z,Z,Z,Z,Z,Y,Y] rfl rfl (one_of A.out (by kernel_rfl)) (by decide) (fun K hK=>?_);refine goes_ Try.func51 (by kernel_rfl) rfl #[.int .u64 (IntKind.u64.wrap (Int.tdiv a0 128))] (by rfl) rfl rfl gS ?_;with_reducible refine (ih k (by omega) (IntKind.u64.wrap (Int.tdiv a0 128)) B _ A6.out).mono ?_
      rintro e aC ⟨rfl,hb⟩
      refine⟨_,rfl,?_⟩;replace C:=Ax (Kd.R_below (by (with_reducible repeat (first|apply Kd.R_alloc|apply Kd.R_drewN|apply Kd.R_drew));exact C.out) hb);replace HB:=Bs0 HB hb
      (try clear hb)
      refine hK.out _ _ trivial (fun E=>?_);clear hK K;refine norm_ (a':=?_) ?_ ?_;rotate_left
      ·show Act.put _ (some 17) _=_
       simp only[sP];rfl
      exact norm_ (by simp only[putAll,Act.put,List.setIfInBounds_toArray,List.set_cons_zero,List.set_cons_succ]) (ab (G) _ ⟨(by (with_reducible repeat (first|apply Kd.R_alloc|apply Kd.R_drewN|apply Kd.R_drew));exact C.out),(bw0 HB.out)⟩)
     ·skip
      refine goes_ Try.func51 (by kernel_rfl) rfl #[.int .u64 (IntKind.u64.wrap (Int.tdiv a0 128))] (by rfl) rfl rfl gS ?_;with_reducible refine (ih k (by omega) (IntKind.u64.wrap (Int.tdiv a0 128)) B _ A6.out).mono ?_
      rintro e aD ⟨rfl,hb⟩
      refine⟨_,rfl,?_⟩;replace C:=Ax (Kd.R_below (by (with_reducible repeat (first|apply Kd.R_alloc|apply Kd.R_drewN|apply Kd.R_drew));exact C.out) hb);replace HB:=Bs0 HB hb
      (try clear hb)
      refine hK.out _ _ trivial (fun E=>?_);clear hK K;refine norm_ (a':=?_) ?_ ?_;rotate_left
      ·show Act.put _ (some 17) _=_
       simp only[sP];rfl
      refine one_ (i:=5) (N:=some 14) #[Z,Z,Z,Z,Z,Z,Z,Z,Z,Y,Y] rfl rfl (one_of A.out (by kernel_rfl)) (by decide) (fun K hK=>?_);have ac:=own_string (P:=Try.prog) Try.underlying67 Try.underlying5 Try.underlying9 (Kd.own_of_R C.out);refine value_ (w1:=?_) (v:=?_) (by rfl) rfl ?_ ?_;rotate_left 2
      ·go_simp;constructor;·rfl
       ·rfl
      clear ac;refine hK.out _ _ trivial (fun E=>?_);clear hK K;refine norm_ (a':=?_) ?_ ?_;rotate_left
      ·show Act.put _ (some 14) _=_
       simp only[sP];rfl
      exact norm_ (by simp only[putAll,Act.put,List.setIfInBounds_toArray,List.set_cons_zero,List.set_cons_succ]) (ab (G) _ ⟨(by (with_reducible repeat (first|apply Kd.R_alloc|apply Kd.R_drewN|apply Kd.R_drew));exact C.out),(bw0 HB.out)⟩)
    ·skip
     refine goes_ Try.func51 (by kernel_rfl) rfl #[.int .u64 (IntKind.u64.wrap (Int.tdiv a0 128))] (by rfl) rfl rfl gS ?_;with_reducible refine (ih k (by omega) (IntKind.u64.wrap (Int.tdiv a0 128)) B _ A6.out).mono ?_
     rintro e w9 ⟨rfl,hb⟩
     refine⟨_,rfl,?_⟩;replace HB:=Bs0 HB hb
     (try clear hb)
     refine hK.out _ _ trivial (fun E=>?_);clear hK K;refine norm_ (a':=?_) ?_ ?_;rotate_left
     ·show Act.put _ (some 17) _=_
      simp only[sP];rfl
     refine one_ (i:=4) (N:=some 13) #[Z,Z,Z,Z,Z,Y,Z,Z,Z,Y,Y] rfl rfl (one_of A.out (by kernel_rfl)) (by decide) (fun K hK=>?_);refine Kd.R_lit_step (Kd.int .u8) _ 5 ?hg (N:=13) ?hd (xs:=([(IntKind.u64.wrap ((Int.tmod a0 128)+128)) % 256]:List Int)) (inner:= [.int .u8 ((IntKind.u64.wrap ((Int.tmod a0 128)+128)) % 256)]) (ok:=fun _=>True) (okp:=fun _=>True) ?hr ?hp (fun _ hk=>hk) trivial (Below.refl _ _) (Nat.le_refl _) (by simp) ?_;(case hd=>rfl);(case hg=>rfl);(case hr=>first|(go_simp;done)|(go_simp;rfl));(case hp=>exact (Reps.one (show Kd.M (Kd.int .u8) _ _ _ ((IntKind.u64.wrap ((Int.tmod a0 128)+128)) % 256) [.int .u8 ((IntKind.u64.wrap ((Int.tmod a0 128)+128)) % 256)] from rfl) (Reps.none _ _)));intro G aE X hb O T;clear O T
     (first|rw [← aa.out]at X|(simp only[Int.reduceToNat]at X;rw [← aa.out]at X))
     have C:=Ax (Kd.R_lower X (below_size (bw0 HB.out)));replace HB:=Bs0 HB hb;clear hb X;refine hK.out _ _ trivial (fun E=>?_);clear hK K;refine norm_ (a':=?_) ?_ ?_;rotate_left
     ·show Act.put _ (some 13) _=_
      simp only[sP];rfl
     refine one_ (i:=5) (N:=some 14) #[Z,Z,Z,Z,Z,Z,Z,Z,Z,Y,Y] rfl rfl (one_of A.out (by kernel_rfl)) (by decide) (fun K hK=>?_);have ac:=own_string (P:=Try.prog) Try.underlying67 Try.underlying5 Try.underlying9 (Kd.own_of_R C.out);refine value_ (w1:=?_) (v:=?_) (by rfl) rfl ?_ ?_;rotate_left 2
     ·go_simp;constructor;·rfl
      ·rfl
     clear ac;refine hK.out _ _ trivial (fun E=>?_);clear hK K;refine norm_ (a':=?_) ?_ ?_;rotate_left
     ·show Act.put _ (some 14) _=_
      simp only[sP];rfl
     exact norm_ (by simp only[putAll,Act.put,List.setIfInBounds_toArray,List.set_cons_zero,List.set_cons_succ]) (ab (G) _ ⟨(by (with_reducible repeat (first|apply Kd.R_alloc|apply Kd.R_drewN|apply Kd.R_drew));exact C.out),(bw0 HB.out)⟩)
   rintro G ag ⟨ah,aj⟩
   have al:Aside0 (Kd.R (Kd.int .u8) 5 ag w.heap.size (fun _=>True) G D):=⟨ah⟩;have am:Aside0 (Below w.heap.size w ag):=⟨aj⟩;clear HB;clear ah aj;have C:=al;have HB:=am;clear al am;have E:=trivial;refine norm_ (a':=?_) ?_ ?_;rotate_left;·simp only[putAll,Act.put,List.setIfInBounds_toArray,List.set_cons_zero,List.set_cons_succ];rfl
   refine pz 9 18 #[Z,Z,Z,Z,Z,Z,Z,Z,Z,Z,Y] A.out ?_
   refine pz 10 2 #[Z,Z,Z,Z,Z,Z,Z,Z,Z,Z,Z] A.out ?_
   refine done_ (done_of A.out (by kernel_rfl)) ?_;try go_wp2
   go_ret;exact⟨eS,bw0 HB.out⟩
  ·rw [if_neg c7]at H;exact absurd H (by simp)
def spoorref05_Eight.l0 : Nat → Int → List Int → Int → Option (ByteArray)
 | 0, _, _, _ => none
 | k + 1, x0, x3, x4 => if x4 ≥ 0 then (if 0 ≤ x4 then (if x4 < (x3.length : Int) then (spoorref05_Eight.l0 k (IntKind.u64.wrap (Int.tdiv x0 256)) (x3.set (x4 : Int).toNat ((Int.tmod x0 256) % 256)) (wrap64 (x4 - 1))) else (none)) else (none)) else (some (strOfNums x3))
def spoorref05_Eight.f (k:Nat) (a0:Int):Option (ByteArray):=spoorref05_Eight.l0 k a0 (List.replicate 8 0) 7
set_option maxHeartbeats 8000000 in
set_option maxRecDepth 100000 in
theorem spoorref05_Eight.calls (k:Nat) (a0:Int) (r:ByteArray) (w:World) (h:spoorref05_Eight.f k a0=some r):
  Calls Try.prog 76 #[.int .u64 a0] w fun e w'=>e= .returned (.string r)∧Below w.heap.size w w':=by
 have HB:=Ax (Below.refl w.heap.size w);have H:(spoorref05_Eight.l0 k a0 (List.replicate 8 0) 7)=some r:=h;clear h;obtain⟨T,F⟩: ∃ y_:List Int,y_=(List.replicate 8 0):=⟨_,rfl⟩;replace H:(spoorref05_Eight.l0 k a0 T 7)=some r:=by first|(rw [F];with_reducible exact H)|(have D:=(Option.bind_some _ _).symm.trans H;rw [F];with_reducible exact D)|(have D:=(Option.bind_some _ _).symm.trans H;with_reducible exact D)|with_reducible exact H|(rw [F];exact H)|exact H
 have U:=Ax F;clear F;have H':=Ax H;clear H;go_enter Try.func76,Try.ntmps76;go_wp2_with (first|((with_reducible refine gate_dst (N:=5) rfl ?_);refine Kd.R_make (Kd.int .u8) _ 5 rfl (N:=5) rfl 67 _ _ rfl 8 rfl rfl Try.underlying67 (.int .u8 0) 1 info5 rfl (by decide) (by omega) 0 (ok:=fun _=>True) (okp:=fun _=>True) rfl (fun _ hk=>hk) trivial (by omega) (by omega) (Below.refl _ _) (Nat.le_refl _) ?_;intro ag w2 G hb ah aj;clear ah aj;(first|rw [← U.out]at G|(simp only[Int.reduceToNat]at G;rw [← U.out]at G));have al:=Ax (Kd.R_lower G (below_size (bw0 HB.out)));replace HB:=Bs0 HB hb;clear hb G));go_loopg [0,4] k (fun kq v0 v4 w'=> ∃ (B:Int) (C:List Int) (A:Int),v0= .int .u64 B∧v4= .int .i64 A∧Aside0 (spoorref05_Eight.l0 kq B C A=some r)∧Aside0 (kq≤k)∧Aside0 (Kd.R (Kd.int .u8) 5 w' w.heap.size (fun _=>True) ag C)∧Aside0 (Below w.heap.size w w'))
 case atStart=>exact⟨(a0),(T),(7),rS,rS,H',⟨Nat.le_refl _⟩,⟨by (with_reducible repeat (first|apply Kd.R_alloc|apply Kd.R_drewN|apply Kd.R_drew));exact al.out⟩,⟨bw0 HB.out⟩⟩
 case round=>
  clear H';try clear p2
  obtain⟨B,C,A,rfl,rfl,HA,V,E,HB⟩:=hrel;cases gk with
  |zero=>exact absurd HA.out (by simp [spoorref05_Eight.l0])
  |succ k1=>
   have H:=HA.out;clear HA;simp only[spoorref05_Eight.l0]at H;by_cases c4:A ≥ 0
   ·rw [if_pos c4]at H;have am:decide (0≤A)=true:=dT c4;clear c4;by_cases c5:0≤A
    ·rw [if_pos c5]at H;have av:decide (0≤A)=true:=dT c5;clear c5;by_cases c6:A<(C.length:Int)
     ·rw [if_pos c6]at H;have aw:decide (A<(C.length:Int))=true:=dT c6;clear c6;obtain⟨L,I⟩: ∃ y_:List Int,y_=(C.set (A:Int).toNat ((Int.tmod B 256) % 256)):=⟨_,rfl⟩;replace H:(spoorref05_Eight.l0 k1 (IntKind.u64.wrap (Int.tdiv B 256)) L (wrap64 (A - 1)))=some r:=by first|(rw [I];with_reducible exact H)|(have D:=(Option.bind_some _ _).symm.trans H;rw [I];with_reducible exact D)|(have D:=(Option.bind_some _ _).symm.trans H;with_reducible exact D)|with_reducible exact H|(rw [I];exact H)|exact H
      have ap:=Ax I;clear I;have H':=Ax H;clear H;have p7:0≤(A:Int):=of_decide_eq_true (by first|(with_reducible assumption)|assumption);have q7:(A:Int)<((C.length:Int):Int):=of_decide_eq_true (by first|(with_reducible assumption)|assumption);obtain⟨M,aq,X,aa,ar,cl7,ab⟩:=Kd.R_form E.out (by omega)
      (first|cases X|(injection X with ea_ en_ ec_;(first|subst ea_|(injection ea_ with ea_;subst ea_));subst ec_;clear en_))
      have au:=Ax aa;have ax:=Ax ab;clear aa ar ab;obtain⟨ay,az⟩:=Kd.R_celln 0 E.out (A:Int) p7 q7;replace p7:=eq_true p7;replace q7:=eq_true q7;have O:=Kd.R_putg E.out (A:Int) ((Int.tmod B 256) % 256);go_wp2_with (first|((with_reducible refine gate_store (t:=5) (p:=15) rfl ?_);refine store_event (t:=5) (p:=15) (v:= ?vo_w9) (w1:=(wr.setCell ⟨M,(A:Int).toNat,none⟩ (.int .u8 ((Int.tmod B 256) % 256)))) ?hg ?ho ?hn ?hr ?_;(case ho=>rfl);(case hg=>rfl);(case hn=>rfl);(case hr=>first|(go_simp;done)|(go_simp;rfl));intro w9 hw;have hg:wr.grownBy w9 (some M):=(by rw [hw];exact O.2);have ac:Kd.R (Kd.int .u8) 5 w9 w.heap.size (fun _=>True) (.slice (some ⟨M,0,none⟩) C.length aq) L:=(by rw [hw,ap.out];exact O.1);clear O;have ae:=Ax (ac);have af:=Ax ((by rw [hw];exact below_set (HB.out) au.out:Below w.heap.size w w9));clear E;clear HB;have E:=ae;have HB:=af;clear ae af;clear hg hw ac));go_roundg k1
      case measure=>have:=V.out;omega
      case rel=>exact⟨(IntKind.u64.wrap (Int.tdiv B 256)),(L),(wrap64 (A - 1)),rS,rS,H',⟨by have:=V.out;omega⟩,⟨by (with_reducible repeat (first|apply Kd.R_alloc|apply Kd.R_drewN|apply Kd.R_drew));exact E.out⟩,⟨bw0 HB.out⟩⟩
     ·rw [if_neg c6]at H;exact absurd H (by simp)
    ·rw [if_neg c5]at H;exact absurd H (by simp)
   ·rw [if_neg c4]at H;have am:decide (0≤A)=false:=dF c4;clear c4;obtain rfl:=Option.some.inj H;have aA:=own_string (P:=Try.prog) Try.underlying67 Try.underlying5 Try.underlying9 (Kd.own_of_R E.out);go_wp2;go_ret;exact⟨eS,bw0 HB.out⟩
def spoorref11_address.f (k:Nat) (a0:Bool) (aa:Int) (ab:Int):Option (ByteArray):=(spoorref05_Eight.f k aa).bind fun A=>((spoorref05_Eight.f k ab).bind fun B=>(if A.size+B.size≤9223372036854775807 then (if a0=true then (some (A++B)) else (if 12≤((A++B).size:Int) then (some ((A++B).extract 12 (A++B).size)) else (none))) else (none)))
def spoorref11_address.T1:Bool × List (List Nat × List Nat):=(true, [([], []),([0], [0]),([1], [1]),([], []),([3], [3]),([4,2], [4]),([2,5], [2,5]),([6,5,0,1,2,3,4,5,6], [6])])
def spoorref11_address.B1:List Nat:= [0,1,3,0,8,31,63,127]
theorem spoorref11_address.tab1:rtab .any (opsOf Try.f70 1)=spoorref11_address.T1:=by kernel_rfl
theorem spoorref11_address.bits1:waitsOk spoorref11_address.T1.2 spoorref11_address.B1=true:=by kernel_rfl
set_option maxHeartbeats 8000000 in
set_option maxRecDepth 100000 in
theorem spoorref11_address.calls (k:Nat) (a0:Bool) (E:Int) (F:Int) (r:ByteArray) (w:World) (h:spoorref11_address.f k a0 E F=some r):
  Calls Try.prog 70 #[.bool a0,.agg #[.int .u64 E,.int .u64 F]] w fun e w'=>e= .returned (.string r)∧Below w.heap.size w w':=by
 have ac:=Try.underlying28;have HB:=Ax (Below.refl w.heap.size w);have H:((spoorref05_Eight.f k E).bind fun C=>((spoorref05_Eight.f k F).bind fun D=>(if C.size+D.size≤9223372036854775807 then (if a0=true then (some (C++D)) else (if 12≤((C++D).size:Int) then (some ((C++D).extract 12 (C++D).size)) else (none))) else (none))))=some r:=h;clear h;replace H:=bI H;obtain⟨C,T,H⟩:=H;(try dsimp only at H);have A3:=Ax T;clear T;replace H:=bI H;obtain⟨D,U,H⟩:=H;(try dsimp only at H);have A4:=Ax U;clear U;by_cases c5:C.size+D.size≤9223372036854775807
 ·rw [if_pos c5]at H;have ae:=eq_true c5;have af:decide (C.size+D.size≤9223372036854775807)=true:=dT c5;try have ag:(9223372036854775807<C.size+D.size)=False:=eq_false (Nat.not_lt.2 c5)
  by_cases c6:a0=true
  ·subst c6;have H1:(some (C++D))=some r:=by rw [if_pos rfl]at H;exact H
   clear H;have H:=H1;clear H1;obtain rfl:=Option.some.inj H;go_enter Try.func70,Try.ntmps70;try go_wp2_with (first|((with_reducible refine gate_dst (N:=3) rfl ?_);refine bX (N:=3) (cs:= #[.int .u64 E,.int .u64 F]) (t:=28) ?_;intro L hg w7 M hb;have A:=Ax (M);have aa:=Gw0 HB hg;have I:=Gw0 HB hg;replace HB:=Bs0 HB hb;clear hb M hg))
   replace A:=Ax (blk_drew A.out);replace HB:=Ax (below_drew1 HB.out);refine start_ (n:=8) (S:=fun w'=>w'.cell? ⟨L,0,none⟩=some (.int .u64 E)∧w'.cell? ⟨L,1,none⟩=some (.int .u64 F)) (ds:= []) #[Y,Y,Y,Y,Y,Y,Y,Y] (by kernel_rfl) rfl rfl (bqc2 A.out) (fun G=>?_);refine with_tabW spoorref11_address.tab1 spoorref11_address.bits1 (fun B O=>?_);generalize w7.drew=w8 at A HB G ⊢;refine pz 0 6 #[Z,Y,Y,Y,Y,Y,Y,Y] B.out ?_
   refine pz 3 9 #[Z,Y,Y,Z,Y,Y,Y,Y] B.out ?_
   refine take_ (i:=1) (N:=some 7) (v:=?_) (a':=?_) #[Z,Z,Y,Z,Y,Y,Y,Y] rfl rfl (take_ofW B.out O.out (by kernel_rfl)) (fun _ _ _ h=>h) (Or.inl ⟨by rfl,?_⟩) G ?_ ?_;rotate_left
   ·rintro w' ⟨s0,s1⟩
    go_simp;with_reducible rfl
   rotate_left;·simp only[sP];rfl
   refine take_ (i:=4) (N:=some 10) (v:=?_) (a':=?_) #[Z,Z,Y,Z,Z,Y,Y,Y] rfl rfl (take_ofW B.out O.out (by kernel_rfl)) (fun _ _ _ h=>h) (Or.inl ⟨by rfl,?_⟩) G ?_ ?_;rotate_left
   ·rintro w' ⟨s0,s1⟩
    go_simp;with_reducible rfl
   rotate_left;·simp only[sP];rfl
   refine one_ (i:=2) (N:=some 8) #[Z,Z,Z,Z,Z,Y,Y,Y] rfl rfl (one_of B.out (by kernel_rfl)) (by decide) (fun K hK=>?_);refine goes_ Try.func76 (by kernel_rfl) rfl #[.int .u64 E] (by rfl) rfl rfl gS ?_;with_reducible refine (spoorref05_Eight.calls k E C _ A3.out).mono ?_
   rintro e w9 ⟨rfl,hb⟩
   refine⟨_,rfl,?_⟩;replace A:=Bx0 A hb;replace HB:=Bs1 HB hb I.out
   (try clear hb)
   refine hK.out _ _ (bqc2 A.out) (fun G=>?_);clear hK K;refine norm_ (a':=?_) ?_ ?_;rotate_left
   ·show Act.put _ (some 8) _=_
    simp only[sP];rfl
   refine one_ (i:=5) (N:=some 11) #[Z,Z,Z,Z,Z,Z,Y,Y] rfl rfl (one_of B.out (by kernel_rfl)) (by decide) (fun K hK=>?_);refine goes_ Try.func76 (by kernel_rfl) rfl #[.int .u64 F] (by rfl) rfl rfl gS ?_;with_reducible refine (spoorref05_Eight.calls k F D _ A4.out).mono ?_
   rintro e ah ⟨rfl,hb⟩
   refine⟨_,rfl,?_⟩;replace A:=Bx0 A hb;replace HB:=Bs1 HB hb I.out
   (try clear hb)
   refine hK.out _ _ (bqc2 A.out) (fun G=>?_);clear hK K;refine norm_ (a':=?_) ?_ ?_;rotate_left
   ·show Act.put _ (some 11) _=_
    simp only[sP];rfl
   refine pz 6 12 #[Z,Z,Z,Z,Z,Z,Z,Y] B.out ?_
   refine pz 7 5 #[Z,Z,Z,Z,Z,Z,Z,Z] B.out ?_
   refine done_ (done_of B.out (by kernel_rfl)) ?_;try go_wp2
   go_ret;exact⟨eS,bw1 HB.out I.out⟩
  ·replace c6:=Bool.eq_false_iff.mpr c6;subst c6;have H1:(if 12≤((C++D).size:Int) then (some ((C++D).extract 12 (C++D).size)) else (none))=some r:=by rw [if_neg (show ¬ (false=true) by decide)]at H;exact H
   clear H;have H:=H1;clear H1;by_cases R:12≤((C++D).size:Int)
   ·rw [if_pos R]at H;have aj:=eq_true R;have al:decide (12≤((C++D).size:Int))=true:=dT R;obtain rfl:=Option.some.inj H;go_enter Try.func70,Try.ntmps70;try go_wp2_with (first|((with_reducible refine gate_dst (N:=3) rfl ?_);refine bX (N:=3) (cs:= #[.int .u64 E,.int .u64 F]) (t:=28) ?_;intro L hg ab M hb;have A:=Ax (M);have aa:=Gw0 HB hg;have I:=Gw0 HB hg;replace HB:=Bs0 HB hb;clear hb M hg))
    replace A:=Ax (blk_drew A.out);replace HB:=Ax (below_drew1 HB.out);refine start_ (n:=8) (S:=fun w'=>w'.cell? ⟨L,0,none⟩=some (.int .u64 E)∧w'.cell? ⟨L,1,none⟩=some (.int .u64 F)) (ds:= []) #[Y,Y,Y,Y,Y,Y,Y,Y] (by kernel_rfl) rfl rfl (bqc2 A.out) (fun G=>?_);refine with_tabW spoorref11_address.tab1 spoorref11_address.bits1 (fun B O=>?_);generalize ab.drew=w13 at A HB G ⊢;refine pz 0 6 #[Z,Y,Y,Y,Y,Y,Y,Y] B.out ?_
    refine pz 3 9 #[Z,Y,Y,Z,Y,Y,Y,Y] B.out ?_
    refine take_ (i:=1) (N:=some 7) (v:=?_) (a':=?_) #[Z,Z,Y,Z,Y,Y,Y,Y] rfl rfl (take_ofW B.out O.out (by kernel_rfl)) (fun _ _ _ h=>h) (Or.inl ⟨by rfl,?_⟩) G ?_ ?_;rotate_left
    ·rintro w' ⟨s0,s1⟩
     go_simp;with_reducible rfl
    rotate_left;·simp only[sP];rfl
    refine take_ (i:=4) (N:=some 10) (v:=?_) (a':=?_) #[Z,Z,Y,Z,Z,Y,Y,Y] rfl rfl (take_ofW B.out O.out (by kernel_rfl)) (fun _ _ _ h=>h) (Or.inl ⟨by rfl,?_⟩) G ?_ ?_;rotate_left
    ·rintro w' ⟨s0,s1⟩
     go_simp;with_reducible rfl
    rotate_left;·simp only[sP];rfl
    refine one_ (i:=2) (N:=some 8) #[Z,Z,Z,Z,Z,Y,Y,Y] rfl rfl (one_of B.out (by kernel_rfl)) (by decide) (fun K hK=>?_);refine goes_ Try.func76 (by kernel_rfl) rfl #[.int .u64 E] (by rfl) rfl rfl gS ?_;with_reducible refine (spoorref05_Eight.calls k E C _ A3.out).mono ?_
    rintro e am ⟨rfl,hb⟩
    refine⟨_,rfl,?_⟩;replace A:=Bx0 A hb;replace HB:=Bs1 HB hb I.out
    (try clear hb)
    refine hK.out _ _ (bqc2 A.out) (fun G=>?_);clear hK K;refine norm_ (a':=?_) ?_ ?_;rotate_left
    ·show Act.put _ (some 8) _=_
     simp only[sP];rfl
    refine one_ (i:=5) (N:=some 11) #[Z,Z,Z,Z,Z,Z,Y,Y] rfl rfl (one_of B.out (by kernel_rfl)) (by decide) (fun K hK=>?_);refine goes_ Try.func76 (by kernel_rfl) rfl #[.int .u64 F] (by rfl) rfl rfl gS ?_;with_reducible refine (spoorref05_Eight.calls k F D _ A4.out).mono ?_
    rintro e ap ⟨rfl,hb⟩
    refine⟨_,rfl,?_⟩;replace A:=Bx0 A hb;replace HB:=Bs1 HB hb I.out
    (try clear hb)
    refine hK.out _ _ (bqc2 A.out) (fun G=>?_);clear hK K;refine norm_ (a':=?_) ?_ ?_;rotate_left
    ·show Act.put _ (some 11) _=_
     simp only[sP];rfl
    refine pz 6 12 #[Z,Z,Z,Z,Z,Z,Z,Y] B.out ?_
    refine pz 7 5 #[Z,Z,Z,Z,Z,Z,Z,Z] B.out ?_
    refine done_ (done_of B.out (by kernel_rfl)) ?_;try go_wp2
    go_ret;exact⟨eS,bw1 HB.out I.out⟩
   ·rw [if_neg R]at H;exact absurd H (by simp)
 ·rw [if_neg c5]at H;exact absurd H (by simp)
def spoorref11_PutPrefix.f (k:Nat) (B:Bool) (C:Int) (D:Int) (A:Int):Option (ByteArray × Int):=(spoorref09_Check.f k B C D A).bind fun aa=>(if aa=0 then (if B=true then ((some (([6,(A) % 256]:List Int):List Int)).bind fun G=>((spoorref11_address.f k B C D).bind fun E=>(if 0≤(wrap64 (Int.tdiv (wrap64 (A+7)) 8)) then (if (wrap64 (Int.tdiv (wrap64 (A+7)) 8))≤(E.size:Int) then (if (strOfNums G).size+(E.extract 0 ((wrap64 (Int.tdiv (wrap64 (A+7)) 8)):Int).toNat).size≤9223372036854775807 then (some ((strOfNums G)++(E.extract 0 ((wrap64 (Int.tdiv (wrap64 (A+7)) 8)):Int).toNat),0)) else (none)) else (none)) else (none)))) else ((some (([4,(A) % 256]:List Int):List Int)).bind fun H=>((spoorref11_address.f k B C D).bind fun F=>(if 0≤(wrap64 (Int.tdiv (wrap64 (A+7)) 8)) then (if (wrap64 (Int.tdiv (wrap64 (A+7)) 8))≤(F.size:Int) then (if (strOfNums H).size+(F.extract 0 ((wrap64 (Int.tdiv (wrap64 (A+7)) 8)):Int).toNat).size≤9223372036854775807 then (some ((strOfNums H)++(F.extract 0 ((wrap64 (Int.tdiv (wrap64 (A+7)) 8)):Int).toNat),0)) else (none)) else (none)) else (none))))) else (some ((⟨#[]⟩:ByteArray),2)))
def spoorref11_PutPrefix.T6:Bool × List (List Nat × List Nat):=(true, [([], []),([], []),([1], [1]),([2], [2]),([0,3], [0,3]),([4], [4]),([], []),([6], [6]),([], []),([8], [8]),([7,9], [7,9]),([], []),([11], [11]),([12], [12]),([13], [13]),([10,14], [10,14]),([5,15], [5,15]),([16,10,0,1,2,3,4,5,6,7,8,9,10,11,12,13,14,15,16], [16]),([17,0,1,2,3,4,5,6,7,8,9,10,11,12,13,14,15,16,17], [])])
def spoorref11_PutPrefix.B6:List Nat:= [0,0,2,6,15,31,0,64,0,256,960,0,2048,6144,14336,32704,65535,131071,262143]
theorem spoorref11_PutPrefix.tab6:rtab .any (opsOf Try.f52 6)=spoorref11_PutPrefix.T6:=by kernel_rfl
theorem spoorref11_PutPrefix.bits6:waitsOk spoorref11_PutPrefix.T6.2 spoorref11_PutPrefix.B6=true:=by kernel_rfl
set_option maxHeartbeats 8000000 in
set_option maxRecDepth 100000 in
theorem spoorref11_PutPrefix.calls (k:Nat) (ac:Bool) (D:Int) (E:Int) (A:Int) (r1:ByteArray) (r2:Int) (w:World) (h:spoorref11_PutPrefix.f k ac D E A=some (r1,r2)):
  Calls Try.prog 52 #[.agg #[.bool ac,.int .u64 D,.int .u64 E,.int .i64 A]] w fun e w'=>e= .returned (.tuple #[.string r1,.int .i64 r2])∧Below w.heap.size w w':=by
 have bd:=Try.underlying30;have bf:=Try.underlying28;have HB:=Ax (Below.refl w.heap.size w);have H:((spoorref09_Check.f k ac D E A).bind fun ae=>(if ae=0 then (if ac=true then ((some (([6,(A) % 256]:List Int):List Int)).bind fun T=>((spoorref11_address.f k ac D E).bind fun L=>(if 0≤(wrap64 (Int.tdiv (wrap64 (A+7)) 8)) then (if (wrap64 (Int.tdiv (wrap64 (A+7)) 8))≤(L.size:Int) then (if (strOfNums T).size+(L.extract 0 ((wrap64 (Int.tdiv (wrap64 (A+7)) 8)):Int).toNat).size≤9223372036854775807 then (some ((strOfNums T)++(L.extract 0 ((wrap64 (Int.tdiv (wrap64 (A+7)) 8)):Int).toNat),0)) else (none)) else (none)) else (none)))) else ((some (([4,(A) % 256]:List Int):List Int)).bind fun U=>((spoorref11_address.f k ac D E).bind fun O=>(if 0≤(wrap64 (Int.tdiv (wrap64 (A+7)) 8)) then (if (wrap64 (Int.tdiv (wrap64 (A+7)) 8))≤(O.size:Int) then (if (strOfNums U).size+(O.extract 0 ((wrap64 (Int.tdiv (wrap64 (A+7)) 8)):Int).toNat).size≤9223372036854775807 then (some ((strOfNums U)++(O.extract 0 ((wrap64 (Int.tdiv (wrap64 (A+7)) 8)):Int).toNat),0)) else (none)) else (none)) else (none))))) else (some ((⟨#[]⟩:ByteArray),2))))=some (r1,r2):=h;clear h;replace H:=bI H;obtain⟨ae,ah,H⟩:=H;(try dsimp only at H);have A2:=Ax ah;clear ah;by_cases c3:ae=0
 ·rw [if_pos c3]at H;have b5:(ae==0)=true:=beq_iff_eq.mpr c3;have b6:(ae !=0)=false:=bne_eq_false_iff_eq.mpr c3;clear c3;by_cases c4:ac=true
  ·subst c4;have H1:((some (([6,(A) % 256]:List Int):List Int)).bind fun T=>((spoorref11_address.f k true D E).bind fun L=>(if 0≤(wrap64 (Int.tdiv (wrap64 (A+7)) 8)) then (if (wrap64 (Int.tdiv (wrap64 (A+7)) 8))≤(L.size:Int) then (if (strOfNums T).size+(L.extract 0 ((wrap64 (Int.tdiv (wrap64 (A+7)) 8)):Int).toNat).size≤9223372036854775807 then (some ((strOfNums T)++(L.extract 0 ((wrap64 (Int.tdiv (wrap64 (A+7)) 8)):Int).toNat),0)) else (none)) else (none)) else (none))))=some (r1,r2):=by rw [if_pos rfl]at H;exact H
   clear H;have H:=H1;clear H1;obtain⟨T,aA⟩: ∃ y_:List Int,y_=(([6,(A) % 256]:List Int)):=⟨_,rfl⟩;replace H:((spoorref11_address.f k true D E).bind fun L=>(if 0≤(wrap64 (Int.tdiv (wrap64 (A+7)) 8)) then (if (wrap64 (Int.tdiv (wrap64 (A+7)) 8))≤(L.size:Int) then (if (strOfNums T).size+(L.extract 0 ((wrap64 (Int.tdiv (wrap64 (A+7)) 8)):Int).toNat).size≤9223372036854775807 then (some ((strOfNums T)++(L.extract 0 ((wrap64 (Int.tdiv (wrap64 (A+7)) 8)):Int).toNat),0)) else (none)) else (none)) else (none)))=some (r1,r2):=by first|(rw [aA];with_reducible exact H)|(have aj:=(Option.bind_some _ _).symm.trans H;rw [aA];with_reducible exact aj)|(have aj:=(Option.bind_some _ _).symm.trans H;with_reducible exact aj)|with_reducible exact H|(rw [aA];exact H)|exact H
   have aU:=Ax aA;clear aA;replace H:=bI H;obtain⟨L,b2,H⟩:=H;(try dsimp only at H);have A5:=Ax b2;clear b2;obtain⟨V,av⟩: ∃ j_:Int,(wrap64 (Int.tdiv (wrap64 (A+7)) 8))=j_:=⟨_,rfl⟩;replace H:(if 0≤(V) then (if (V)≤(L.size:Int) then (if (strOfNums T).size+(L.extract 0 ((V):Int).toNat).size≤9223372036854775807 then (some ((strOfNums T)++(L.extract 0 ((V):Int).toNat),0)) else (none)) else (none)) else (none))=some (r1,r2):=by first|(rw [av]at H;exact H)|(simp only[av]at H ⊢;exact H)
   (try rw [av]at A2)
   (try rw [av]at A5)
   have bg:(IntKind.i64.wrap (Int.tdiv (wrap64 (A+7)) 8))=V:=(i64_w _).trans av;by_cases c7:0≤(V)
   ·rw [if_pos c7]at H;have bh:=eq_true c7;have bi:decide (0≤(V))=true:=dT c7;clear c7;by_cases c8:(V)≤(L.size:Int)
    ·rw [if_pos c8]at H;have bj:=eq_true c8;have bk:decide ((V)≤(L.size:Int))=true:=dT c8;clear c8;by_cases c9:(strOfNums T).size+(L.extract 0 ((V):Int).toNat).size≤9223372036854775807
     ·rw [if_pos c9]at H;have bl:=eq_true c9;have bm:decide ((strOfNums T).size+(L.extract 0 ((V):Int).toNat).size≤9223372036854775807)=true:=dT c9;try have bn:(9223372036854775807<(strOfNums T).size+(L.extract 0 ((V):Int).toNat).size)=False:=eq_false (Nat.not_lt.2 c9)
      try (have al:=c9;simp [go_sem, *]at al;have bo:=eq_false (Nat.not_lt.2 al);clear al)
      simp only[Option.some.injEq,Prod.mk.injEq]at H;obtain⟨rfl,rfl⟩:=H;go_enter Try.func52,Try.ntmps52;try go_wp2_with (first|((with_reducible refine gate_dst (N:=1) rfl ?_);refine bX (N:=1) (cs:= #[.bool true,.int .u64 D,.int .u64 E,.int .i64 A]) (t:=30) ?_;intro G hg bq ag hb;have B:=Ax (ag);have b3:=Gw0 HB hg;have I:=Gw0 HB hg;replace HB:=Bs0 HB hb;clear hb ag hg;obtain⟨br,bu,bv,bx,bz,bA,bB,bC⟩:=cl4 B)|((with_reducible refine gate_callee (f:=67) rfl ?_);refine goesL_ (some 6) rfl rfl Try.func67 (by kernel_rfl) rfl #[.agg #[.bool true,.int .u64 D,.int .u64 E,.int .i64 A]] rfl gS ?_;(with_reducible refine (spoorref09_Check.calls k true D E A ae _ A2.out).mono ?_);rintro e b7 ⟨rfl,hb⟩;refine⟨_,rfl,?_⟩;replace B:=Bx0 B hb;replace HB:=Bs1 HB hb I.out;(try clear hb);obtain⟨bD,bE,bF,bG,bH,bJ,bK,bL⟩:=cl4 B))
      replace B:=Ax (blk_drew B.out);replace HB:=Ax (below_drew1 HB.out);refine start_ (n:=19) (S:=fun w'=>w'.cell? ⟨G,0,none⟩=some (.bool true)∧w'.cell? ⟨G,1,none⟩=some (.int .u64 D)∧w'.cell? ⟨G,2,none⟩=some (.int .u64 E)∧w'.cell? ⟨G,3,none⟩=some (.int .i64 A)) (ds:= []) #[Y,Y,Y,Y,Y,Y,Y,Y,Y,Y,Y,Y,Y,Y,Y,Y,Y,Y,Y] (by kernel_rfl) rfl rfl (bqc4 B.out) (fun F=>?_);refine with_tabW spoorref11_PutPrefix.tab6 spoorref11_PutPrefix.bits6 (fun C af=>?_);generalize b7.drew=w14 at B HB F ⊢;refine pz 0 10 #[Z,Y,Y,Y,Y,Y,Y,Y,Y,Y,Y,Y,Y,Y,Y,Y,Y,Y,Y] C.out ?_
      refine pz 1 11 #[Z,Z,Y,Y,Y,Y,Y,Y,Y,Y,Y,Y,Y,Y,Y,Y,Y,Y,Y] C.out ?_
      refine pz 6 16 #[Z,Z,Y,Y,Y,Y,Z,Y,Y,Y,Y,Y,Y,Y,Y,Y,Y,Y,Y] C.out ?_
      refine pz 8 18 #[Z,Z,Y,Y,Y,Y,Z,Y,Z,Y,Y,Y,Y,Y,Y,Y,Y,Y,Y] C.out ?_
      refine pz 11 21 #[Z,Z,Y,Y,Y,Y,Z,Y,Z,Y,Y,Z,Y,Y,Y,Y,Y,Y,Y] C.out ?_
      refine take_ (i:=2) (N:=some 12) (v:=?_) (a':=?_) #[Z,Z,Z,Y,Y,Y,Z,Y,Z,Y,Y,Z,Y,Y,Y,Y,Y,Y,Y] rfl rfl (take_ofW C.out af.out (by kernel_rfl)) (fun _ _ _ h=>h) (Or.inl ⟨by rfl,?_⟩) F ?_ ?_;rotate_left
      ·rintro w' ⟨s0,s1,s2,s3⟩
       go_simp;with_reducible rfl
      rotate_left;·simp only[sP];rfl
      refine pz 3 13 #[Z,Z,Z,Z,Y,Y,Z,Y,Z,Y,Y,Z,Y,Y,Y,Y,Y,Y,Y] C.out ?_
      refine take_ (i:=7) (N:=some 17) (v:=?_) (a':=?_) #[Z,Z,Z,Z,Y,Y,Z,Z,Z,Y,Y,Z,Y,Y,Y,Y,Y,Y,Y] rfl rfl (take_ofW C.out af.out (by kernel_rfl)) (fun _ _ _ h=>h) (Or.inl ⟨by rfl,?_⟩) F ?_ ?_;rotate_left
      ·rintro w' ⟨s0,s1,s2,s3⟩
       go_simp;with_reducible rfl
      rotate_left;·simp only[sP];rfl
      refine take_ (i:=9) (N:=some 19) (v:=?_) (a':=?_) #[Z,Z,Z,Z,Y,Y,Z,Z,Z,Z,Y,Z,Y,Y,Y,Y,Y,Y,Y] rfl rfl (take_ofW C.out af.out (by kernel_rfl)) (fun _ _ _ h=>h) (Or.inl ⟨by rfl,?_⟩) F ?_ ?_;rotate_left
      ·rintro w' ⟨s0,s1,s2,s3⟩
       go_simp;with_reducible rfl
      rotate_left;·simp only[sP];rfl
      refine take_ (i:=12) (N:=some 22) (v:=?_) (a':=?_) #[Z,Z,Z,Z,Y,Y,Z,Z,Z,Z,Y,Z,Z,Y,Y,Y,Y,Y,Y] rfl rfl (take_ofW C.out af.out (by kernel_rfl)) (fun _ _ _ h=>h) (Or.inl ⟨by rfl,?_⟩) F ?_ ?_;rotate_left
      ·rintro w' ⟨s0,s1,s2,s3⟩
       go_simp;with_reducible rfl
      rotate_left;·simp only[sP];rfl
      refine pz 13 23 #[Z,Z,Z,Z,Y,Y,Z,Z,Z,Z,Y,Z,Z,Z,Y,Y,Y,Y,Y] C.out ?_
      refine pz 14 24 #[Z,Z,Z,Z,Y,Y,Z,Z,Z,Z,Y,Z,Z,Z,Z,Y,Y,Y,Y] C.out ?_
      refine join_ (σ:=Value) 3 #[Z,Z,Z,Z,Z,Z,Z,Z,Z,Z,Z,Z,Z,Z,Z,Z,Y,Y,Y] (fun s_=> [(14,s_),(15,.string (strOfNums T)),(20,.string L),(25,.string (L.extract 0 ((V):Int).toNat))]) (fun s_ w'=>(w'.cell? ⟨G,0,none⟩=some (.bool true)∧w'.cell? ⟨G,1,none⟩=some (.int .u64 D)∧w'.cell? ⟨G,2,none⟩=some (.int .u64 E)∧w'.cell? ⟨G,3,none⟩=some (.int .i64 A))∧(Kd.R (Kd.int .u8) 5 w' w.heap.size (fun _=>True) s_ T)∧(w'.heap[G]? =some (.cells #[.bool true,.int .u64 D,.int .u64 E,.int .i64 A] 30 (0,0)))∧(Below w.heap.size w w')) ?_ ?_;rotate_left
      ·intro am;refine two_ (i:=4) (j:=10) (Ni:=some 14) (Nj:=some 20) #[Z,Z,Z,Z,Z,Y,Z,Z,Z,Z,Y,Z,Z,Z,Z,Y,Y,Y,Y] #[Z,Z,Z,Z,Y,Y,Z,Z,Z,Z,Z,Z,Z,Z,Z,Y,Y,Y,Y] rfl rfl rfl rfl (two_of C.out (by kernel_rfl)) (by decide) (by decide) (fun K hK=>?_) (fun K hK=>?_)
       ·skip
        refine Kd.R_lit_step (Kd.int .u8) _ 5 ?hg (N:=14) ?hd (xs:=([6,(A) % 256]:List Int)) (inner:= [.int .u8 6,.int .u8 ((A) % 256)]) (ok:=fun _=>True) (okp:=fun _=>True) ?hr ?hp (fun _ hk=>hk) trivial (Below.refl _ _) (Nat.le_refl _) (by simp) ?_;(case hd=>rfl);(case hg=>rfl);(case hr=>first|(go_simp;done)|(go_simp;rfl));(case hp=>exact (Reps.one (show Kd.M (Kd.int .u8) _ _ _ 6 [.int .u8 6] from rfl) (Reps.one (show Kd.M (Kd.int .u8) _ _ _ ((A) % 256) [.int .u8 ((A) % 256)] from rfl) (Reps.none _ _))));intro aw b8 aC hb ap aq;clear ap aq
        (first|rw [← aU.out]at aC|(simp only[Int.reduceToNat]at aC;rw [← aU.out]at aC))
        have aa:=Ax (Kd.R_lower aC (below_size (bw1 HB.out I.out)));replace B:=Bx0 B hb;replace HB:=Bs1 HB hb I.out;clear hb aC;refine hK.out _ _ (bqc4 B.out) (fun F=>?_);clear hK K;refine norm_ (a':=?_) ?_ ?_;rotate_left
        ·show Act.put _ (some 14) _=_
         simp only[sP];rfl
        refine two_ (i:=5) (j:=10) (Ni:=some 15) (Nj:=some 20) #[Z,Z,Z,Z,Z,Z,Z,Z,Z,Z,Y,Z,Z,Z,Z,Y,Y,Y,Y] #[Z,Z,Z,Z,Z,Y,Z,Z,Z,Z,Z,Z,Z,Z,Z,Y,Y,Y,Y] rfl rfl rfl rfl (two_of C.out (by kernel_rfl)) (by decide) (by decide) (fun K hK=>?_) (fun K hK=>?_)
        ·skip
         have b9:=own_string (P:=Try.prog) Try.underlying67 Try.underlying5 Try.underlying9 (Kd.own_of_R aa.out);refine value_ (w1:=?_) (v:=?_) (by rfl) rfl ?_ ?_;rotate_left 2
         ·go_simp;constructor;·rfl
          ·rfl
         clear b9;refine hK.out _ _ (bqc4 B.out) (fun F=>?_);clear hK K;refine norm_ (a':=?_) ?_ ?_;rotate_left
         ·show Act.put _ (some 15) _=_
          simp only[sP];rfl
         refine one_ (i:=10) (N:=some 20) #[Z,Z,Z,Z,Z,Z,Z,Z,Z,Z,Z,Z,Z,Z,Z,Y,Y,Y,Y] rfl rfl (one_of C.out (by kernel_rfl)) (by decide) (fun K hK=>?_);refine goes_ Try.func70 (by kernel_rfl) rfl #[.bool true,.agg #[.int .u64 D,.int .u64 E]] (by rfl) rfl rfl gS ?_;with_reducible refine (spoorref11_address.calls k true D E L _ A5.out).mono ?_
         rintro e bM ⟨rfl,hb⟩
         refine⟨_,rfl,?_⟩;replace aa:=Ax (Kd.R_below (by (with_reducible repeat (first|apply Kd.R_alloc|apply Kd.R_drewN|apply Kd.R_drew));exact aa.out) hb);replace B:=Bx0 B hb;replace HB:=Bs1 HB hb I.out
         (try clear hb)
         refine hK.out _ _ (bqc4 B.out) (fun F=>?_);clear hK K;refine norm_ (a':=?_) ?_ ?_;rotate_left
         ·show Act.put _ (some 20) _=_
          simp only[sP];rfl
         refine pz 15 25 #[Z,Z,Z,Z,Z,Z,Z,Z,Z,Z,Z,Z,Z,Z,Z,Z,Y,Y,Y] C.out ?_
         exact norm_ (by simp only[putAll,Act.put,List.setIfInBounds_toArray,List.set_cons_zero,List.set_cons_succ]) (am (aw) _ ⟨F,(by (with_reducible repeat (first|apply Kd.R_alloc|apply Kd.R_drewN|apply Kd.R_drew));exact aa.out),(bf0 B.out),(bw1 HB.out I.out)⟩)
        ·skip
         refine goes_ Try.func70 (by kernel_rfl) rfl #[.bool true,.agg #[.int .u64 D,.int .u64 E]] (by rfl) rfl rfl gS ?_;with_reducible refine (spoorref11_address.calls k true D E L _ A5.out).mono ?_
         rintro e bN ⟨rfl,hb⟩
         refine⟨_,rfl,?_⟩;replace aa:=Ax (Kd.R_below (by (with_reducible repeat (first|apply Kd.R_alloc|apply Kd.R_drewN|apply Kd.R_drew));exact aa.out) hb);replace B:=Bx0 B hb;replace HB:=Bs1 HB hb I.out
         (try clear hb)
         refine hK.out _ _ (bqc4 B.out) (fun F=>?_);clear hK K;refine norm_ (a':=?_) ?_ ?_;rotate_left
         ·show Act.put _ (some 20) _=_
          simp only[sP];rfl
         refine pz 15 25 #[Z,Z,Z,Z,Z,Y,Z,Z,Z,Z,Z,Z,Z,Z,Z,Z,Y,Y,Y] C.out ?_
         refine one_ (i:=5) (N:=some 15) #[Z,Z,Z,Z,Z,Z,Z,Z,Z,Z,Z,Z,Z,Z,Z,Z,Y,Y,Y] rfl rfl (one_of C.out (by kernel_rfl)) (by decide) (fun K hK=>?_);have aW:=own_string (P:=Try.prog) Try.underlying67 Try.underlying5 Try.underlying9 (Kd.own_of_R aa.out);refine value_ (w1:=?_) (v:=?_) (by rfl) rfl ?_ ?_;rotate_left 2
         ·go_simp;constructor;·rfl
          ·rfl
         clear aW;refine hK.out _ _ (bqc4 B.out) (fun F=>?_);clear hK K;refine norm_ (a':=?_) ?_ ?_;rotate_left
         ·show Act.put _ (some 15) _=_
          simp only[sP];rfl
         exact norm_ (by simp only[putAll,Act.put,List.setIfInBounds_toArray,List.set_cons_zero,List.set_cons_succ]) (am (aw) _ ⟨F,(by (with_reducible repeat (first|apply Kd.R_alloc|apply Kd.R_drewN|apply Kd.R_drew));exact aa.out),(bf0 B.out),(bw1 HB.out I.out)⟩)
       ·skip
        refine goes_ Try.func70 (by kernel_rfl) rfl #[.bool true,.agg #[.int .u64 D,.int .u64 E]] (by rfl) rfl rfl gS ?_;with_reducible refine (spoorref11_address.calls k true D E L _ A5.out).mono ?_
        rintro e b8 ⟨rfl,hb⟩
        refine⟨_,rfl,?_⟩;replace B:=Bx0 B hb;replace HB:=Bs1 HB hb I.out
        (try clear hb)
        refine hK.out _ _ (bqc4 B.out) (fun F=>?_);clear hK K;refine norm_ (a':=?_) ?_ ?_;rotate_left
        ·show Act.put _ (some 20) _=_
         simp only[sP];rfl
        refine pz 15 25 #[Z,Z,Z,Z,Y,Y,Z,Z,Z,Z,Z,Z,Z,Z,Z,Z,Y,Y,Y] C.out ?_
        refine one_ (i:=4) (N:=some 14) #[Z,Z,Z,Z,Z,Y,Z,Z,Z,Z,Z,Z,Z,Z,Z,Z,Y,Y,Y] rfl rfl (one_of C.out (by kernel_rfl)) (by decide) (fun K hK=>?_);refine Kd.R_lit_step (Kd.int .u8) _ 5 ?hg (N:=14) ?hd (xs:=([6,(A) % 256]:List Int)) (inner:= [.int .u8 6,.int .u8 ((A) % 256)]) (ok:=fun _=>True) (okp:=fun _=>True) ?hr ?hp (fun _ hk=>hk) trivial (Below.refl _ _) (Nat.le_refl _) (by simp) ?_;(case hd=>rfl);(case hg=>rfl);(case hr=>first|(go_simp;done)|(go_simp;rfl));(case hp=>exact (Reps.one (show Kd.M (Kd.int .u8) _ _ _ 6 [.int .u8 6] from rfl) (Reps.one (show Kd.M (Kd.int .u8) _ _ _ ((A) % 256) [.int .u8 ((A) % 256)] from rfl) (Reps.none _ _))));intro aw bO aD hb ap aq;clear ap aq
        (first|rw [← aU.out]at aD|(simp only[Int.reduceToNat]at aD;rw [← aU.out]at aD))
        have aa:=Ax (Kd.R_lower aD (below_size (bw1 HB.out I.out)));replace B:=Bx0 B hb;replace HB:=Bs1 HB hb I.out;clear hb aD;refine hK.out _ _ (bqc4 B.out) (fun F=>?_);clear hK K;refine norm_ (a':=?_) ?_ ?_;rotate_left
        ·show Act.put _ (some 14) _=_
         simp only[sP];rfl
        refine one_ (i:=5) (N:=some 15) #[Z,Z,Z,Z,Z,Z,Z,Z,Z,Z,Z,Z,Z,Z,Z,Z,Y,Y,Y] rfl rfl (one_of C.out (by kernel_rfl)) (by decide) (fun K hK=>?_);have aW:=own_string (P:=Try.prog) Try.underlying67 Try.underlying5 Try.underlying9 (Kd.own_of_R aa.out);refine value_ (w1:=?_) (v:=?_) (by rfl) rfl ?_ ?_;rotate_left 2
        ·go_simp;constructor;·rfl
         ·rfl
        clear aW;refine hK.out _ _ (bqc4 B.out) (fun F=>?_);clear hK K;refine norm_ (a':=?_) ?_ ?_;rotate_left
        ·show Act.put _ (some 15) _=_
         simp only[sP];rfl
        exact norm_ (by simp only[putAll,Act.put,List.setIfInBounds_toArray,List.set_cons_zero,List.set_cons_succ]) (am (aw) _ ⟨F,(by (with_reducible repeat (first|apply Kd.R_alloc|apply Kd.R_drewN|apply Kd.R_drew));exact aa.out),(bf0 B.out),(bw1 HB.out I.out)⟩)
      rintro aw ar ⟨aY,aE,aG,aH⟩
      have aI:Aside0 (Kd.R (Kd.int .u8) 5 ar w.heap.size (fun _=>True) aw T):=⟨aE⟩;have aJ:Aside0 (ar.heap[G]? =some (.cells #[.bool true,.int .u64 D,.int .u64 E,.int .i64 A] 30 (0,0))):=⟨aG⟩;have aK:Aside0 (Below w.heap.size w ar):=⟨aH⟩;clear B;clear HB;clear aE aG aH;have aa:=aI;have B:=aJ;have HB:=aK;clear aI aJ aK;have F:ar.cell? ⟨G,0,none⟩=some (.bool true)∧ar.cell? ⟨G,1,none⟩=some (.int .u64 D)∧ar.cell? ⟨G,2,none⟩=some (.int .u64 E)∧ar.cell? ⟨G,3,none⟩=some (.int .i64 A):=aY;refine norm_ (a':=?_) ?_ ?_;rotate_left;·simp only[putAll,Act.put,List.setIfInBounds_toArray,List.set_cons_zero,List.set_cons_succ];rfl
      refine pz 16 26 #[Z,Z,Z,Z,Z,Z,Z,Z,Z,Z,Z,Z,Z,Z,Z,Z,Z,Y,Y] C.out ?_
      refine pz 17 2 #[Z,Z,Z,Z,Z,Z,Z,Z,Z,Z,Z,Z,Z,Z,Z,Z,Z,Z,Y] C.out ?_
      refine pz 18 3 #[Z,Z,Z,Z,Z,Z,Z,Z,Z,Z,Z,Z,Z,Z,Z,Z,Z,Z,Z] C.out ?_
      refine done_ (done_of C.out (by kernel_rfl)) ?_;try go_wp2
      go_ret2;exact⟨by first|rfl|(simp [errW_none,errW_some] <;> rfl)|(simp only[← av];first|rfl|(simp [errW_none,errW_some] <;> rfl))|(simp [*,errW_none,errW_some] <;> rfl),bw1 HB.out I.out⟩
     ·rw [if_neg c9]at H;exact absurd H (by simp)
    ·rw [if_neg c8]at H;exact absurd H (by simp)
   ·rw [if_neg c7]at H;exact absurd H (by simp)
  ·replace c4:=Bool.eq_false_iff.mpr c4;subst c4;have H1:((some (([4,(A) % 256]:List Int):List Int)).bind fun U=>((spoorref11_address.f k false D E).bind fun O=>(if 0≤(wrap64 (Int.tdiv (wrap64 (A+7)) 8)) then (if (wrap64 (Int.tdiv (wrap64 (A+7)) 8))≤(O.size:Int) then (if (strOfNums U).size+(O.extract 0 ((wrap64 (Int.tdiv (wrap64 (A+7)) 8)):Int).toNat).size≤9223372036854775807 then (some ((strOfNums U)++(O.extract 0 ((wrap64 (Int.tdiv (wrap64 (A+7)) 8)):Int).toNat),0)) else (none)) else (none)) else (none))))=some (r1,r2):=by rw [if_neg (show ¬ (false=true) by decide)]at H;exact H
   clear H;have H:=H1;clear H1;obtain⟨U,aM⟩: ∃ y_:List Int,y_=(([4,(A) % 256]:List Int)):=⟨_,rfl⟩;replace H:((spoorref11_address.f k false D E).bind fun O=>(if 0≤(wrap64 (Int.tdiv (wrap64 (A+7)) 8)) then (if (wrap64 (Int.tdiv (wrap64 (A+7)) 8))≤(O.size:Int) then (if (strOfNums U).size+(O.extract 0 ((wrap64 (Int.tdiv (wrap64 (A+7)) 8)):Int).toNat).size≤9223372036854775807 then (some ((strOfNums U)++(O.extract 0 ((wrap64 (Int.tdiv (wrap64 (A+7)) 8)):Int).toNat),0)) else (none)) else (none)) else (none)))=some (r1,r2):=by first|(rw [aM];with_reducible exact H)|(have aj:=(Option.bind_some _ _).symm.trans H;rw [aM];with_reducible exact aj)|(have aj:=(Option.bind_some _ _).symm.trans H;with_reducible exact aj)|with_reducible exact H|(rw [aM];exact H)|exact H
   have aV:=Ax aM;clear aM;replace H:=bI H;obtain⟨O,b4,H⟩:=H;(try dsimp only at H);have ah:=Ax b4;clear b4;obtain⟨X,ax⟩: ∃ j_:Int,(wrap64 (Int.tdiv (wrap64 (A+7)) 8))=j_:=⟨_,rfl⟩;replace H:(if 0≤(X) then (if (X)≤(O.size:Int) then (if (strOfNums U).size+(O.extract 0 ((X):Int).toNat).size≤9223372036854775807 then (some ((strOfNums U)++(O.extract 0 ((X):Int).toNat),0)) else (none)) else (none)) else (none))=some (r1,r2):=by first|(rw [ax]at H;exact H)|(simp only[ax]at H ⊢;exact H)
   (try rw [ax]at A2)
   (try rw [ax]at ah)
   have bP:(IntKind.i64.wrap (Int.tdiv (wrap64 (A+7)) 8))=X:=(i64_w _).trans ax;by_cases aN:0≤(X)
   ·rw [if_pos aN]at H;have bQ:=eq_true aN;have bR:decide (0≤(X))=true:=dT aN;clear aN;by_cases aQ:(X)≤(O.size:Int)
    ·rw [if_pos aQ]at H;have bS:=eq_true aQ;have bT:decide ((X)≤(O.size:Int))=true:=dT aQ;clear aQ;by_cases ay:(strOfNums U).size+(O.extract 0 ((X):Int).toNat).size≤9223372036854775807
     ·rw [if_pos ay]at H;have bU:=eq_true ay;have bV:decide ((strOfNums U).size+(O.extract 0 ((X):Int).toNat).size≤9223372036854775807)=true:=dT ay;try have bW:(9223372036854775807<(strOfNums U).size+(O.extract 0 ((X):Int).toNat).size)=False:=eq_false (Nat.not_lt.2 ay)
      try (have al:=ay;simp [go_sem, *]at al;have bY:=eq_false (Nat.not_lt.2 al);clear al)
      simp only[Option.some.injEq,Prod.mk.injEq]at H;obtain⟨rfl,rfl⟩:=H;go_enter Try.func52,Try.ntmps52;try go_wp2_with (first|((with_reducible refine gate_dst (N:=1) rfl ?_);refine bX (N:=1) (cs:= #[.bool false,.int .u64 D,.int .u64 E,.int .i64 A]) (t:=30) ?_;intro G hg bZ ag hb;have B:=Ax (ag);have b3:=Gw0 HB hg;have I:=Gw0 HB hg;replace HB:=Bs0 HB hb;clear hb ag hg;obtain⟨cd,ce,cf,cg,ch,ci,cj,ck⟩:=cl4 B)|((with_reducible refine gate_callee (f:=67) rfl ?_);refine goesL_ (some 6) rfl rfl Try.func67 (by kernel_rfl) rfl #[.agg #[.bool false,.int .u64 D,.int .u64 E,.int .i64 A]] rfl gS ?_;(with_reducible refine (spoorref09_Check.calls k false D E A ae _ A2.out).mono ?_);rintro e ba ⟨rfl,hb⟩;refine⟨_,rfl,?_⟩;replace B:=Bx0 B hb;replace HB:=Bs1 HB hb I.out;(try clear hb);obtain⟨cl,cm,cn,co,cq,cr,ct,cu⟩:=cl4 B))
      replace B:=Ax (blk_drew B.out);replace HB:=Ax (below_drew1 HB.out);refine start_ (n:=19) (S:=fun w'=>w'.cell? ⟨G,0,none⟩=some (.bool false)∧w'.cell? ⟨G,1,none⟩=some (.int .u64 D)∧w'.cell? ⟨G,2,none⟩=some (.int .u64 E)∧w'.cell? ⟨G,3,none⟩=some (.int .i64 A)) (ds:= []) #[Y,Y,Y,Y,Y,Y,Y,Y,Y,Y,Y,Y,Y,Y,Y,Y,Y,Y,Y] (by kernel_rfl) rfl rfl (bqc4 B.out) (fun F=>?_);refine with_tabW spoorref11_PutPrefix.tab6 spoorref11_PutPrefix.bits6 (fun C af=>?_);generalize ba.drew=w29 at B HB F ⊢;refine pz 0 10 #[Z,Y,Y,Y,Y,Y,Y,Y,Y,Y,Y,Y,Y,Y,Y,Y,Y,Y,Y] C.out ?_
      refine pz 1 11 #[Z,Z,Y,Y,Y,Y,Y,Y,Y,Y,Y,Y,Y,Y,Y,Y,Y,Y,Y] C.out ?_
      refine pz 6 16 #[Z,Z,Y,Y,Y,Y,Z,Y,Y,Y,Y,Y,Y,Y,Y,Y,Y,Y,Y] C.out ?_
      refine pz 8 18 #[Z,Z,Y,Y,Y,Y,Z,Y,Z,Y,Y,Y,Y,Y,Y,Y,Y,Y,Y] C.out ?_
      refine pz 11 21 #[Z,Z,Y,Y,Y,Y,Z,Y,Z,Y,Y,Z,Y,Y,Y,Y,Y,Y,Y] C.out ?_
      refine take_ (i:=2) (N:=some 12) (v:=?_) (a':=?_) #[Z,Z,Z,Y,Y,Y,Z,Y,Z,Y,Y,Z,Y,Y,Y,Y,Y,Y,Y] rfl rfl (take_ofW C.out af.out (by kernel_rfl)) (fun _ _ _ h=>h) (Or.inl ⟨by rfl,?_⟩) F ?_ ?_;rotate_left
      ·rintro w' ⟨s0,s1,s2,s3⟩
       go_simp;with_reducible rfl
      rotate_left;·simp only[sP];rfl
      refine pz 3 13 #[Z,Z,Z,Z,Y,Y,Z,Y,Z,Y,Y,Z,Y,Y,Y,Y,Y,Y,Y] C.out ?_
      refine take_ (i:=7) (N:=some 17) (v:=?_) (a':=?_) #[Z,Z,Z,Z,Y,Y,Z,Z,Z,Y,Y,Z,Y,Y,Y,Y,Y,Y,Y] rfl rfl (take_ofW C.out af.out (by kernel_rfl)) (fun _ _ _ h=>h) (Or.inl ⟨by rfl,?_⟩) F ?_ ?_;rotate_left
      ·rintro w' ⟨s0,s1,s2,s3⟩
       go_simp;with_reducible rfl
      rotate_left;·simp only[sP];rfl
      refine take_ (i:=9) (N:=some 19) (v:=?_) (a':=?_) #[Z,Z,Z,Z,Y,Y,Z,Z,Z,Z,Y,Z,Y,Y,Y,Y,Y,Y,Y] rfl rfl (take_ofW C.out af.out (by kernel_rfl)) (fun _ _ _ h=>h) (Or.inl ⟨by rfl,?_⟩) F ?_ ?_;rotate_left
      ·rintro w' ⟨s0,s1,s2,s3⟩
       go_simp;with_reducible rfl
      rotate_left;·simp only[sP];rfl
      refine take_ (i:=12) (N:=some 22) (v:=?_) (a':=?_) #[Z,Z,Z,Z,Y,Y,Z,Z,Z,Z,Y,Z,Z,Y,Y,Y,Y,Y,Y] rfl rfl (take_ofW C.out af.out (by kernel_rfl)) (fun _ _ _ h=>h) (Or.inl ⟨by rfl,?_⟩) F ?_ ?_;rotate_left
      ·rintro w' ⟨s0,s1,s2,s3⟩
       go_simp;with_reducible rfl
      rotate_left;·simp only[sP];rfl
      refine pz 13 23 #[Z,Z,Z,Z,Y,Y,Z,Z,Z,Z,Y,Z,Z,Z,Y,Y,Y,Y,Y] C.out ?_
      refine pz 14 24 #[Z,Z,Z,Z,Y,Y,Z,Z,Z,Z,Y,Z,Z,Z,Z,Y,Y,Y,Y] C.out ?_
      refine join_ (σ:=Value) 3 #[Z,Z,Z,Z,Z,Z,Z,Z,Z,Z,Z,Z,Z,Z,Z,Z,Y,Y,Y] (fun s_=> [(14,s_),(15,.string (strOfNums U)),(20,.string O),(25,.string (O.extract 0 ((X):Int).toNat))]) (fun s_ w'=>(w'.cell? ⟨G,0,none⟩=some (.bool false)∧w'.cell? ⟨G,1,none⟩=some (.int .u64 D)∧w'.cell? ⟨G,2,none⟩=some (.int .u64 E)∧w'.cell? ⟨G,3,none⟩=some (.int .i64 A))∧(Kd.R (Kd.int .u8) 5 w' w.heap.size (fun _=>True) s_ U)∧(w'.heap[G]? =some (.cells #[.bool false,.int .u64 D,.int .u64 E,.int .i64 A] 30 (0,0)))∧(Below w.heap.size w w')) ?_ ?_;rotate_left
      ·intro am;refine two_ (i:=4) (j:=10) (Ni:=some 14) (Nj:=some 20) #[Z,Z,Z,Z,Z,Y,Z,Z,Z,Z,Y,Z,Z,Z,Z,Y,Y,Y,Y] #[Z,Z,Z,Z,Y,Y,Z,Z,Z,Z,Z,Z,Z,Z,Z,Y,Y,Y,Y] rfl rfl rfl rfl (two_of C.out (by kernel_rfl)) (by decide) (by decide) (fun K hK=>?_) (fun K hK=>?_)
       ·skip
        refine Kd.R_lit_step (Kd.int .u8) _ 5 ?hg (N:=14) ?hd (xs:=([4,(A) % 256]:List Int)) (inner:= [.int .u8 4,.int .u8 ((A) % 256)]) (ok:=fun _=>True) (okp:=fun _=>True) ?hr ?hp (fun _ hk=>hk) trivial (Below.refl _ _) (Nat.le_refl _) (by simp) ?_;(case hd=>rfl);(case hg=>rfl);(case hr=>first|(go_simp;done)|(go_simp;rfl));(case hp=>exact (Reps.one (show Kd.M (Kd.int .u8) _ _ _ 4 [.int .u8 4] from rfl) (Reps.one (show Kd.M (Kd.int .u8) _ _ _ ((A) % 256) [.int .u8 ((A) % 256)] from rfl) (Reps.none _ _))));intro az bb aR hb ap aq;clear ap aq
        (first|rw [← aV.out]at aR|(simp only[Int.reduceToNat]at aR;rw [← aV.out]at aR))
        have ab:=Ax (Kd.R_lower aR (below_size (bw1 HB.out I.out)));replace B:=Bx0 B hb;replace HB:=Bs1 HB hb I.out;clear hb aR;refine hK.out _ _ (bqc4 B.out) (fun F=>?_);clear hK K;refine norm_ (a':=?_) ?_ ?_;rotate_left
        ·show Act.put _ (some 14) _=_
         simp only[sP];rfl
        refine two_ (i:=5) (j:=10) (Ni:=some 15) (Nj:=some 20) #[Z,Z,Z,Z,Z,Z,Z,Z,Z,Z,Y,Z,Z,Z,Z,Y,Y,Y,Y] #[Z,Z,Z,Z,Z,Y,Z,Z,Z,Z,Z,Z,Z,Z,Z,Y,Y,Y,Y] rfl rfl rfl rfl (two_of C.out (by kernel_rfl)) (by decide) (by decide) (fun K hK=>?_) (fun K hK=>?_)
        ·skip
         have bc:=own_string (P:=Try.prog) Try.underlying67 Try.underlying5 Try.underlying9 (Kd.own_of_R ab.out);refine value_ (w1:=?_) (v:=?_) (by rfl) rfl ?_ ?_;rotate_left 2
         ·go_simp;constructor;·rfl
          ·rfl
         clear bc;refine hK.out _ _ (bqc4 B.out) (fun F=>?_);clear hK K;refine norm_ (a':=?_) ?_ ?_;rotate_left
         ·show Act.put _ (some 15) _=_
          simp only[sP];rfl
         refine one_ (i:=10) (N:=some 20) #[Z,Z,Z,Z,Z,Z,Z,Z,Z,Z,Z,Z,Z,Z,Z,Y,Y,Y,Y] rfl rfl (one_of C.out (by kernel_rfl)) (by decide) (fun K hK=>?_);refine goes_ Try.func70 (by kernel_rfl) rfl #[.bool false,.agg #[.int .u64 D,.int .u64 E]] (by rfl) rfl rfl gS ?_;with_reducible refine (spoorref11_address.calls k false D E O _ ah.out).mono ?_
         rintro e cv ⟨rfl,hb⟩
         refine⟨_,rfl,?_⟩;replace ab:=Ax (Kd.R_below (by (with_reducible repeat (first|apply Kd.R_alloc|apply Kd.R_drewN|apply Kd.R_drew));exact ab.out) hb);replace B:=Bx0 B hb;replace HB:=Bs1 HB hb I.out
         (try clear hb)
         refine hK.out _ _ (bqc4 B.out) (fun F=>?_);clear hK K;refine norm_ (a':=?_) ?_ ?_;rotate_left
         ·show Act.put _ (some 20) _=_
          simp only[sP];rfl
         refine pz 15 25 #[Z,Z,Z,Z,Z,Z,Z,Z,Z,Z,Z,Z,Z,Z,Z,Z,Y,Y,Y] C.out ?_
         exact norm_ (by simp only[putAll,Act.put,List.setIfInBounds_toArray,List.set_cons_zero,List.set_cons_succ]) (am (az) _ ⟨F,(by (with_reducible repeat (first|apply Kd.R_alloc|apply Kd.R_drewN|apply Kd.R_drew));exact ab.out),(bf0 B.out),(bw1 HB.out I.out)⟩)
        ·skip
         refine goes_ Try.func70 (by kernel_rfl) rfl #[.bool false,.agg #[.int .u64 D,.int .u64 E]] (by rfl) rfl rfl gS ?_;with_reducible refine (spoorref11_address.calls k false D E O _ ah.out).mono ?_
         rintro e cw ⟨rfl,hb⟩
         refine⟨_,rfl,?_⟩;replace ab:=Ax (Kd.R_below (by (with_reducible repeat (first|apply Kd.R_alloc|apply Kd.R_drewN|apply Kd.R_drew));exact ab.out) hb);replace B:=Bx0 B hb;replace HB:=Bs1 HB hb I.out
         (try clear hb)
         refine hK.out _ _ (bqc4 B.out) (fun F=>?_);clear hK K;refine norm_ (a':=?_) ?_ ?_;rotate_left
         ·show Act.put _ (some 20) _=_
          simp only[sP];rfl
         refine pz 15 25 #[Z,Z,Z,Z,Z,Y,Z,Z,Z,Z,Z,Z,Z,Z,Z,Z,Y,Y,Y] C.out ?_
         refine one_ (i:=5) (N:=some 15) #[Z,Z,Z,Z,Z,Z,Z,Z,Z,Z,Z,Z,Z,Z,Z,Z,Y,Y,Y] rfl rfl (one_of C.out (by kernel_rfl)) (by decide) (fun K hK=>?_);have aZ:=own_string (P:=Try.prog) Try.underlying67 Try.underlying5 Try.underlying9 (Kd.own_of_R ab.out);refine value_ (w1:=?_) (v:=?_) (by rfl) rfl ?_ ?_;rotate_left 2
         ·go_simp;constructor;·rfl
          ·rfl
         clear aZ;refine hK.out _ _ (bqc4 B.out) (fun F=>?_);clear hK K;refine norm_ (a':=?_) ?_ ?_;rotate_left
         ·show Act.put _ (some 15) _=_
          simp only[sP];rfl
         exact norm_ (by simp only[putAll,Act.put,List.setIfInBounds_toArray,List.set_cons_zero,List.set_cons_succ]) (am (az) _ ⟨F,(by (with_reducible repeat (first|apply Kd.R_alloc|apply Kd.R_drewN|apply Kd.R_drew));exact ab.out),(bf0 B.out),(bw1 HB.out I.out)⟩)
       ·skip
        refine goes_ Try.func70 (by kernel_rfl) rfl #[.bool false,.agg #[.int .u64 D,.int .u64 E]] (by rfl) rfl rfl gS ?_;with_reducible refine (spoorref11_address.calls k false D E O _ ah.out).mono ?_
        rintro e bb ⟨rfl,hb⟩
        refine⟨_,rfl,?_⟩;replace B:=Bx0 B hb;replace HB:=Bs1 HB hb I.out
        (try clear hb)
        refine hK.out _ _ (bqc4 B.out) (fun F=>?_);clear hK K;refine norm_ (a':=?_) ?_ ?_;rotate_left
        ·show Act.put _ (some 20) _=_
         simp only[sP];rfl
        refine pz 15 25 #[Z,Z,Z,Z,Y,Y,Z,Z,Z,Z,Z,Z,Z,Z,Z,Z,Y,Y,Y] C.out ?_
        refine one_ (i:=4) (N:=some 14) #[Z,Z,Z,Z,Z,Y,Z,Z,Z,Z,Z,Z,Z,Z,Z,Z,Y,Y,Y] rfl rfl (one_of C.out (by kernel_rfl)) (by decide) (fun K hK=>?_);refine Kd.R_lit_step (Kd.int .u8) _ 5 ?hg (N:=14) ?hd (xs:=([4,(A) % 256]:List Int)) (inner:= [.int .u8 4,.int .u8 ((A) % 256)]) (ok:=fun _=>True) (okp:=fun _=>True) ?hr ?hp (fun _ hk=>hk) trivial (Below.refl _ _) (Nat.le_refl _) (by simp) ?_;(case hd=>rfl);(case hg=>rfl);(case hr=>first|(go_simp;done)|(go_simp;rfl));(case hp=>exact (Reps.one (show Kd.M (Kd.int .u8) _ _ _ 4 [.int .u8 4] from rfl) (Reps.one (show Kd.M (Kd.int .u8) _ _ _ ((A) % 256) [.int .u8 ((A) % 256)] from rfl) (Reps.none _ _))));intro az cx aT hb ap aq;clear ap aq
        (first|rw [← aV.out]at aT|(simp only[Int.reduceToNat]at aT;rw [← aV.out]at aT))
        have ab:=Ax (Kd.R_lower aT (below_size (bw1 HB.out I.out)));replace B:=Bx0 B hb;replace HB:=Bs1 HB hb I.out;clear hb aT;refine hK.out _ _ (bqc4 B.out) (fun F=>?_);clear hK K;refine norm_ (a':=?_) ?_ ?_;rotate_left
        ·show Act.put _ (some 14) _=_
         simp only[sP];rfl
        refine one_ (i:=5) (N:=some 15) #[Z,Z,Z,Z,Z,Z,Z,Z,Z,Z,Z,Z,Z,Z,Z,Z,Y,Y,Y] rfl rfl (one_of C.out (by kernel_rfl)) (by decide) (fun K hK=>?_);have aZ:=own_string (P:=Try.prog) Try.underlying67 Try.underlying5 Try.underlying9 (Kd.own_of_R ab.out);refine value_ (w1:=?_) (v:=?_) (by rfl) rfl ?_ ?_;rotate_left 2
        ·go_simp;constructor;·rfl
         ·rfl
        clear aZ;refine hK.out _ _ (bqc4 B.out) (fun F=>?_);clear hK K;refine norm_ (a':=?_) ?_ ?_;rotate_left
        ·show Act.put _ (some 15) _=_
         simp only[sP];rfl
        exact norm_ (by simp only[putAll,Act.put,List.setIfInBounds_toArray,List.set_cons_zero,List.set_cons_succ]) (am (az) _ ⟨F,(by (with_reducible repeat (first|apply Kd.R_alloc|apply Kd.R_drewN|apply Kd.R_drew));exact ab.out),(bf0 B.out),(bw1 HB.out I.out)⟩)
      rintro az au ⟨aY,aE,aG,aH⟩
      have aI:Aside0 (Kd.R (Kd.int .u8) 5 au w.heap.size (fun _=>True) az U):=⟨aE⟩;have aJ:Aside0 (au.heap[G]? =some (.cells #[.bool false,.int .u64 D,.int .u64 E,.int .i64 A] 30 (0,0))):=⟨aG⟩;have aK:Aside0 (Below w.heap.size w au):=⟨aH⟩;clear B;clear HB;clear aE aG aH;have ab:=aI;have B:=aJ;have HB:=aK;clear aI aJ aK;have F:au.cell? ⟨G,0,none⟩=some (.bool false)∧au.cell? ⟨G,1,none⟩=some (.int .u64 D)∧au.cell? ⟨G,2,none⟩=some (.int .u64 E)∧au.cell? ⟨G,3,none⟩=some (.int .i64 A):=aY;refine norm_ (a':=?_) ?_ ?_;rotate_left;·simp only[putAll,Act.put,List.setIfInBounds_toArray,List.set_cons_zero,List.set_cons_succ];rfl
      refine pz 16 26 #[Z,Z,Z,Z,Z,Z,Z,Z,Z,Z,Z,Z,Z,Z,Z,Z,Z,Y,Y] C.out ?_
      refine pz 17 2 #[Z,Z,Z,Z,Z,Z,Z,Z,Z,Z,Z,Z,Z,Z,Z,Z,Z,Z,Y] C.out ?_
      refine pz 18 3 #[Z,Z,Z,Z,Z,Z,Z,Z,Z,Z,Z,Z,Z,Z,Z,Z,Z,Z,Z] C.out ?_
      refine done_ (done_of C.out (by kernel_rfl)) ?_;try go_wp2
      go_ret2;exact⟨by first|rfl|(simp [errW_none,errW_some] <;> rfl)|(simp only[← ax];first|rfl|(simp [errW_none,errW_some] <;> rfl))|(simp [*,errW_none,errW_some] <;> rfl),bw1 HB.out I.out⟩
     ·rw [if_neg ay]at H;exact absurd H (by simp)
    ·rw [if_neg aQ]at H;exact absurd H (by simp)
   ·rw [if_neg aN]at H;exact absurd H (by simp)
 ·rw [if_neg c3]at H;have b5:(ae==0)=false:=beq_eq_false_iff_ne.mpr c3;have b6:(ae !=0)=true:=bne_iff_ne.mpr c3;simp only[Option.some.injEq,Prod.mk.injEq]at H;obtain⟨rfl,rfl⟩:=H;go_enter Try.func52,Try.ntmps52;go_wp2_with (first|((with_reducible refine gate_dst (N:=1) rfl ?_);refine bX (N:=1) (cs:= #[.bool ac,.int .u64 D,.int .u64 E,.int .i64 A]) (t:=30) ?_;intro G hg cy ag hb;have B:=Ax (ag);have b3:=Gw0 HB hg;have I:=Gw0 HB hg;replace HB:=Bs0 HB hb;clear hb ag hg;obtain⟨cz,cA,cB,cC,cD,cE,cF,cG⟩:=cl4 B)|((with_reducible refine gate_callee (f:=67) rfl ?_);refine goesL_ (some 6) rfl rfl Try.func67 (by kernel_rfl) rfl #[.agg #[.bool ac,.int .u64 D,.int .u64 E,.int .i64 A]] rfl gS ?_;(with_reducible refine (spoorref09_Check.calls k ac D E A ae _ A2.out).mono ?_);rintro e cH ⟨rfl,hb⟩;refine⟨_,rfl,?_⟩;replace B:=Bx0 B hb;replace HB:=Bs1 HB hb I.out;(try clear hb)));go_ret2;exact⟨eS,bw1 HB.out I.out⟩
def spoorref11_PutAction.f (k:Nat) (A:Int) (C:Int):Option (ByteArray × Int):=(spoorref11_Acts.f A C).bind fun aa=>(if aa=true then ((some (([A]:List Int):List Int)).bind fun B=>(if A=1 then ((spoorref01_Put.f k (IntKind.u64.wrap (C))).bind fun D=>(if (strOfNums B).size+D.size≤9223372036854775807 then (some ((strOfNums B)++D,0)) else (none))) else (some (strOfNums B,0)))) else (some ((⟨#[]⟩:ByteArray),2)))
set_option maxHeartbeats 8000000 in
set_option maxRecDepth 100000 in
theorem spoorref11_PutAction.calls (k:Nat) (A:Int) (C:Int) (r1:ByteArray) (r2:Int) (w:World) (h:spoorref11_PutAction.f k A C=some (r1,r2)):
  Calls Try.prog 53 #[.agg #[.int .u8 A,.int .i64 C]] w fun e w'=>e= .returned (.tuple #[.string r1,.int .i64 r2])∧Below w.heap.size w w':=by
 have aq:=Try.underlying33;have HB:=Ax (Below.refl w.heap.size w);have H:((spoorref11_Acts.f A C).bind fun U=>(if U=true then ((some (([A]:List Int):List Int)).bind fun D=>(if A=1 then ((spoorref01_Put.f k (IntKind.u64.wrap (C))).bind fun E=>(if (strOfNums D).size+E.size≤9223372036854775807 then (some ((strOfNums D)++E,0)) else (none))) else (some (strOfNums D,0)))) else (some ((⟨#[]⟩:ByteArray),2))))=some (r1,r2):=h;clear h;replace H:=bI H;obtain⟨U,ab,H⟩:=H;(try dsimp only at H);have A2:=Ax ab;clear ab;by_cases c3:U=true
 ·subst c3;have H1:((some (([A]:List Int):List Int)).bind fun D=>(if A=1 then ((spoorref01_Put.f k (IntKind.u64.wrap (C))).bind fun E=>(if (strOfNums D).size+E.size≤9223372036854775807 then (some ((strOfNums D)++E,0)) else (none))) else (some (strOfNums D,0))))=some (r1,r2):=by rw [if_pos rfl]at H;exact H
  clear H;have H:=H1;clear H1;obtain⟨D,L⟩: ∃ y_:List Int,y_=(([A]:List Int)):=⟨_,rfl⟩;replace H:(if A=1 then ((spoorref01_Put.f k (IntKind.u64.wrap (C))).bind fun E=>(if (strOfNums D).size+E.size≤9223372036854775807 then (some ((strOfNums D)++E,0)) else (none))) else (some (strOfNums D,0)))=some (r1,r2):=by first|(rw [L];with_reducible exact H)|(have V:=(Option.bind_some _ _).symm.trans H;rw [L];with_reducible exact V)|(have V:=(Option.bind_some _ _).symm.trans H;with_reducible exact V)|with_reducible exact H|(rw [L];exact H)|exact H
  have T:=Ax L;clear L;by_cases c4:A=1
  ·rw [if_pos c4]at H;have al:(A==1)=true:=beq_iff_eq.mpr c4;have am:(A !=1)=false:=bne_eq_false_iff_eq.mpr c4;clear c4;replace H:=bI H;obtain⟨E,ac,H⟩:=H;(try dsimp only at H);have A5:=Ax ac;clear ac;by_cases c6:(strOfNums D).size+E.size≤9223372036854775807
   ·rw [if_pos c6]at H;have ar:=eq_true c6;have au:decide ((strOfNums D).size+E.size≤9223372036854775807)=true:=dT c6;try have av:(9223372036854775807<(strOfNums D).size+E.size)=False:=eq_false (Nat.not_lt.2 c6)
    simp only[Option.some.injEq,Prod.mk.injEq]at H;obtain⟨rfl,rfl⟩:=H;go_enter Try.func53,Try.ntmps53;go_wp2_with (first|((with_reducible refine gate_dst (N:=1) rfl ?_);refine bX (N:=1) (cs:= #[.int .u8 A,.int .i64 C]) (t:=33) ?_;intro ae hg w7 G hb;have B:=Ax (G);have af:=Gw0 HB hg;have F:=Gw0 HB hg;replace HB:=Bs0 HB hb;clear hb G hg;obtain⟨aw,ax,ay,az⟩:=cl2 B)|((with_reducible refine gate_callee (f:=68) rfl ?_);refine goesL_ (some 6) rfl rfl Try.func68 (by kernel_rfl) rfl #[.agg #[.int .u8 A,.int .i64 C]] rfl gS ?_;(with_reducible refine (spoorref11_Acts.calls A C true _ A2.out).mono ?_);rintro e w9 ⟨rfl,hb⟩;refine⟨_,rfl,?_⟩;replace B:=Bx0 B hb;replace HB:=Bs1 HB hb F.out;(try clear hb);obtain⟨aA,aC,aD,aE⟩:=cl2 B)|((with_reducible refine gate_dst (N:=10) rfl ?_);refine Kd.R_lit (Kd.int .u8) _ 5 ?hg (N:=10) ?hd (xs:=([A]:List Int)) (inner:= [.int .u8 A]) (ok:=fun _=>True) (okp:=fun _=>True) ?hr ?hp (fun _ hk=>hk) trivial (Below.refl _ _) (Nat.le_refl _) (by simp) ?_;(case hd=>rfl);(case hg=>rfl);(case hr=>first|(go_simp;done)|(go_simp;rfl));(case hp=>exact (Reps.one (show Kd.M (Kd.int .u8) _ _ _ A [.int .u8 A] from rfl) (Reps.none _ _)));intro ap aG O hb X aa;clear X aa;(first|rw [← T.out]at O|(simp only[Int.reduceToNat]at O;rw [← T.out]at O));have I:=Ax (Kd.R_lower O (below_size (bw1 HB.out F.out)));replace B:=Bx0 B hb;replace HB:=Bs1 HB hb F.out;clear hb O;have aH:=own_string (P:=Try.prog) Try.underlying67 Try.underlying5 Try.underlying9 (Kd.own_of_R I.out);obtain⟨aI,aJ,aK,aM⟩:=cl2 B)|((with_reducible refine gate_callee (f:=51) rfl ?_);refine goesL_ (some 19) rfl rfl Try.func51 (by kernel_rfl) rfl #[.int .u64 (IntKind.u64.wrap (C))] rfl gS ?_;(with_reducible refine (spoorref01_Put.calls k (IntKind.u64.wrap (C)) E _ A5.out).mono ?_);rintro e aN ⟨rfl,hb⟩;refine⟨_,rfl,?_⟩;have ag:=Ax (Kd.R_below (by (with_reducible repeat (first|apply Kd.R_alloc|apply Kd.R_drewN|apply Kd.R_drew));exact I.out) hb);have ah:=Bx0 B hb;have aj:=Bs1 HB hb F.out;clear I;clear B;clear HB;have I:=ag;have B:=ah;have HB:=aj;clear ag ah aj;(try clear hb)));go_ret2;exact⟨eS,bw1 HB.out F.out⟩
   ·rw [if_neg c6]at H;exact absurd H (by simp)
  ·rw [if_neg c4]at H;have al:(A==1)=false:=beq_eq_false_iff_ne.mpr c4;have am:(A !=1)=true:=bne_iff_ne.mpr c4;simp only[Option.some.injEq,Prod.mk.injEq]at H;obtain⟨rfl,rfl⟩:=H;go_enter Try.func53,Try.ntmps53;go_wp2_with (first|((with_reducible refine gate_dst (N:=1) rfl ?_);refine bX (N:=1) (cs:= #[.int .u8 A,.int .i64 C]) (t:=33) ?_;intro ae hg aQ G hb;have B:=Ax (G);have af:=Gw0 HB hg;have F:=Gw0 HB hg;replace HB:=Bs0 HB hb;clear hb G hg;obtain⟨aR,aT,aU,aV⟩:=cl2 B)|((with_reducible refine gate_callee (f:=68) rfl ?_);refine goesL_ (some 6) rfl rfl Try.func68 (by kernel_rfl) rfl #[.agg #[.int .u8 A,.int .i64 C]] rfl gS ?_;(with_reducible refine (spoorref11_Acts.calls A C true _ A2.out).mono ?_);rintro e aW ⟨rfl,hb⟩;refine⟨_,rfl,?_⟩;replace B:=Bx0 B hb;replace HB:=Bs1 HB hb F.out;(try clear hb);obtain⟨aY,aZ,b2,b3⟩:=cl2 B)|((with_reducible refine gate_dst (N:=10) rfl ?_);refine Kd.R_lit (Kd.int .u8) _ 5 ?hg (N:=10) ?hd (xs:=([A]:List Int)) (inner:= [.int .u8 A]) (ok:=fun _=>True) (okp:=fun _=>True) ?hr ?hp (fun _ hk=>hk) trivial (Below.refl _ _) (Nat.le_refl _) (by simp) ?_;(case hd=>rfl);(case hg=>rfl);(case hr=>first|(go_simp;done)|(go_simp;rfl));(case hp=>exact (Reps.one (show Kd.M (Kd.int .u8) _ _ _ A [.int .u8 A] from rfl) (Reps.none _ _)));intro ap b4 R hb X aa;clear X aa;(first|rw [← T.out]at R|(simp only[Int.reduceToNat]at R;rw [← T.out]at R));have I:=Ax (Kd.R_lower R (below_size (bw1 HB.out F.out)));replace B:=Bx0 B hb;replace HB:=Bs1 HB hb F.out;clear hb R;have b5:=own_string (P:=Try.prog) Try.underlying67 Try.underlying5 Try.underlying9 (Kd.own_of_R I.out);obtain⟨b6,b7,b8,b9⟩:=cl2 B));go_ret2;exact⟨eS,bw1 HB.out F.out⟩
 ·replace c3:=Bool.eq_false_iff.mpr c3;subst c3;have H1:(some ((⟨#[]⟩:ByteArray),2))=some (r1,r2):=by rw [if_neg (show ¬ (false=true) by decide)]at H;exact H
  clear H;have H:=H1;clear H1;simp only[Option.some.injEq,Prod.mk.injEq]at H;obtain⟨rfl,rfl⟩:=H;go_enter Try.func53,Try.ntmps53;go_wp2_with (first|((with_reducible refine gate_dst (N:=1) rfl ?_);refine bX (N:=1) (cs:= #[.int .u8 A,.int .i64 C]) (t:=33) ?_;intro ae hg ba G hb;have B:=Ax (G);have af:=Gw0 HB hg;have F:=Gw0 HB hg;replace HB:=Bs0 HB hb;clear hb G hg;obtain⟨bb,bc,bd,bf⟩:=cl2 B)|((with_reducible refine gate_callee (f:=68) rfl ?_);refine goesL_ (some 6) rfl rfl Try.func68 (by kernel_rfl) rfl #[.agg #[.int .u8 A,.int .i64 C]] rfl gS ?_;(with_reducible refine (spoorref11_Acts.calls A C false _ A2.out).mono ?_);rintro e bg ⟨rfl,hb⟩;refine⟨_,rfl,?_⟩;replace B:=Bx0 B hb;replace HB:=Bs1 HB hb F.out;(try clear hb)));go_ret2;exact⟨eS,bw1 HB.out F.out⟩
end Go.Proofs.Ythkdfojmhloofaa.Q
end
section
namespace Go.Proofs.Ythkdfojmhloofaa.Q
open Go.RowKit Go.Proofs.YthkdfojmhloofaaW.PrintWords Go.Proofs.YthkdfojmhloofaaW.PrintLast Go.Proofs.YthkdfojmhloofaaW.PrintMore
attribute [local go_sem] max2_int min2_int max_two min_two max_three min_three max_four min_four   -- for this text's walks alone
set_option linter.unusedVariables false
set_option linter.unusedSimpArgs false
mutual
def spoorref11_Put.j0 : Nat → ByteArray → Bool → Int → Int → Int → Int → Bool → Int → Int → Int → Int → Int → Int → Int → Option (ByteArray × Int)
 | 0, _, _, _, _, _, _, _, _, _, _, _, _, _, _ => none
 | k + 1, x4, x37, x362000, x362001, x362002, x362003, x362004, x362005, x362006, x362007, x362008, x362009, x362010, x362011 => if x37 = true then ((spoorref11_PutPrefix.f k x362004 x362005 x362006 x362007).bind fun A => (if x4.size + A.1.size ≤ 9223372036854775807 then (spoorref11_Put.j1 k (x4 ++ A.1) x362000 x362001 x362002 x362003 x362004 x362005 x362006 x362007 x362008 x362009 x362010 x362011) else (none))) else (spoorref11_Put.j1 k x4 x362000 x362001 x362002 x362003 x362004 x362005 x362006 x362007 x362008 x362009 x362010 x362011)
def spoorref11_Put.j1 : Nat → ByteArray → Int → Int → Int → Int → Bool → Int → Int → Int → Int → Int → Int → Int → Option (ByteArray × Int)
 | 0, _, _, _, _, _, _, _, _, _, _, _, _, _ => none
 | k + 1, x4, x362000, x362001, x362002, x362003, x362004, x362005, x362006, x362007, x362008, x362009, x362010, x362011 => if x362000 = 3 then ((spoorref11_PutAction.f k x362008 x362009).bind fun A => (if x4.size + A.1.size ≤ 9223372036854775807 then (spoorref11_Put.j2 k (x4 ++ A.1) x362000 x362001 x362002 x362003 x362004 x362005 x362006 x362007 x362008 x362009 x362010 x362011) else (none))) else (spoorref11_Put.j2 k x4 x362000 x362001 x362002 x362003 x362004 x362005 x362006 x362007 x362008 x362009 x362010 x362011)
def spoorref11_Put.j2 : Nat → ByteArray → Int → Int → Int → Int → Bool → Int → Int → Int → Int → Int → Int → Int → Option (ByteArray × Int)
 | 0, _, _, _, _, _, _, _, _, _, _, _, _, _ => none
 | k + 1, x4, x362000, x362001, x362002, x362003, x362004, x362005, x362006, x362007, x362008, x362009, x362010, x362011 => if x362000 = 5 then (spoorref11_Put.j3 k x4 true x362000 x362001 x362002 x362003 x362004 x362005 x362006 x362007 x362008 x362009 x362010 x362011) else (spoorref11_Put.j3 k x4 (x362000 == 6) x362000 x362001 x362002 x362003 x362004 x362005 x362006 x362007 x362008 x362009 x362010 x362011)
def spoorref11_Put.j3 : Nat → ByteArray → Bool → Int → Int → Int → Int → Bool → Int → Int → Int → Int → Int → Int → Int → Option (ByteArray × Int)
 | 0, _, _, _, _, _, _, _, _, _, _, _, _, _, _ => none
 | k + 1, x4, x66, x362000, x362001, x362002, x362003, x362004, x362005, x362006, x362007, x362008, x362009, x362010, x362011 => if x66 = true then ((spoorref01_Put.f k (IntKind.u64.wrap (x362010))).bind fun A => (if x4.size + A.size ≤ 9223372036854775807 then (if x362000 = 5 then ((spoorref01_Put.f k (IntKind.u64.wrap (x362011))).bind fun B => (if (x4 ++ A).size + B.size ≤ 9223372036854775807 then (some ((x4 ++ A) ++ B, 0)) else (none))) else (some (x4 ++ A, 0))) else (none))) else (if x362000 = 5 then ((spoorref01_Put.f k (IntKind.u64.wrap (x362011))).bind fun C => (if x4.size + C.size ≤ 9223372036854775807 then (some (x4 ++ C, 0)) else (none))) else (some (x4, 0)))
end
def spoorref11_Put.f (k:Nat) (A:Int) (D:Int) (E:Int) (F:Int) (H:Bool) (I:Int) (L:Int) (M:Int) (N:Int) (O:Int) (R:Int) (T:Int):Option (ByteArray × Int):=(spoorref11_Check.f k A D E F H I L M N O R T).bind fun aa=>(if aa=0 then ((some (([A]:List Int):List Int)).bind fun B=>((spoorref01_Put.f k (IntKind.u64.wrap (D))).bind fun C=>(if (strOfNums B).size+C.size≤9223372036854775807 then ((spoorref01_Put.f k E).bind fun G=>(if ((strOfNums B)++C).size+G.size≤9223372036854775807 then ((spoorref01_Put.f k (IntKind.u64.wrap (F))).bind fun U=>(if (((strOfNums B)++C)++G).size+U.size≤9223372036854775807 then (if A=3 then (spoorref11_Put.j0 k ((((strOfNums B)++C)++G)++U) true A D E F H I L M N O R T) else (spoorref11_Put.j0 k ((((strOfNums B)++C)++G)++U) (A==4) A D E F H I L M N O R T)) else (none))) else (none))) else (none)))) else (some ((⟨#[]⟩:ByteArray),2)))
def spoorref11_Put.T3:Bool × List (List Nat × List Nat):=(true, [([], []),([0], [0]),([1], [1]),([2], [2]),([], []),([4], [4]),([5], [5]),([6], [6]),([3,7], [3,7]),([], []),([9], [9]),([10,7], [10]),([8,11], [8,11]),([], []),([13], [13]),([14], [14]),([15,11], [15]),([12,16], [12,16]),([17,16,0,1,2,3,4,5,6,7,8,9,10,11,12,13,14,15,16,17], [17])])
def spoorref11_Put.B3:List Nat:= [0,1,3,7,0,16,48,112,255,0,512,1776,4095,0,8192,24576,61168,131071,262143]
theorem spoorref11_Put.tab3:rtab .any (opsOf Try.f27 3)=spoorref11_Put.T3:=by kernel_rfl
theorem spoorref11_Put.bits3:waitsOk spoorref11_Put.T3.2 spoorref11_Put.B3=true:=by kernel_rfl
end Go.Proofs.Ythkdfojmhloofaa.Q
end
