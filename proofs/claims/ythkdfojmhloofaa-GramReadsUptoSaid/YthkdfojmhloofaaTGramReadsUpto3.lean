-- Merged and trimmed by this session's program wip/tools/trim.py.
import Derived.Shelf.Abstract
import Derived.RangeFuncNested
import Derived.RangeFuncBox
import Derived.RangeFuncLeaves
import Derived.RangeFuncFrom
import Derived.RangeFuncCalls
import Derived.RangeFuncBound
import Derived.OwnWalkIn
import Derived.TacticsInMore
import Derived.LoopNIn
import Derived.LoopIn
import Derived.Sort.QuietIn
import Derived.Maps.AppendAt
import Derived.Deep.RegionLaw
import Derived.BigQuiet
import Derived.Deep.RegionWith
import Derived.Test.YthkdfojmhloofaaTGramReadsUpto2
section
namespace Go.Proofs.Ythkdfojmhloofaa.Q
open Go.RowKit Go.Proofs.YthkdfojmhloofaaW.PrintWords Go.Proofs.YthkdfojmhloofaaW.PrintLast Go.Proofs.YthkdfojmhloofaaW.PrintMore
attribute [local go_sem] max2_int min2_int max_two min_two max_three min_three max_four min_four   -- for this text's walks alone
set_option linter.unusedVariables false
set_option linter.unusedSimpArgs false
set_option maxHeartbeats 8000000 in
set_option maxRecDepth 100000 in
theorem msg_Get.calls (k:Nat) (a0:ByteArray) (r1:Int) (r2:Int) (r3:Int) (r4:Int) (r5:Bool) (r6:Int) (r7:Int) (r8:Int) (r9:Int) (aZ:Int) (b2:Int) (b3:Int) (b4:Int) (w:World) (h:msg_Get.f k a0=some (r1,r2,r3,r4,r5,r6,r7,r8,r9,aZ,b2,b3,b4)):
  Calls Try.prog 20 #[.string a0] w fun e w'=>e= .returned (.tuple #[.agg #[.int .u8 r1,.int .i64 r2,.int .u64 r3,.int .i64 r4,.bool r5,.int .u64 r6,.int .u64 r7,.int .i64 r8,.int .u8 r9,.int .i64 aZ,.int .i64 b2,.int .i64 b3],.int .i64 b4])∧Below w.heap.size w w':=by
 have fI:=Try.underlying35;have fJ:=Try.underlying83;have fK:=Try.underlying85;have fL:=Try.underlying30;have fM:=Try.underlying33;have HB:=Ax (Below.refl w.heap.size w);have H:(if a0.toList=([]:List UInt8) then (some (0,0,0,0,false,0,0,0,0,0,0,0,7)) else (if 1≤(a0.size:Int) then (if 0<(a0.size:Int) then ((num_Reader_Many.f k (a0.extract 1 a0.size) 0 1048576).bind fun b5=>((num_Reader_Num.f k b5.2.1 b5.2.2).bind fun b6=>((num_Reader_Num.f k b6.2.1 b6.2.2).bind fun al=>(if (bt a0 0)=3 then ((api_Prefix.f k al.2.1 al.2.2).bind fun ba=>((api_Action.f k ba.2.2.2.2.1 ba.2.2.2.2.2).bind fun bh=>(msg_Get.j0 k bh.2.2.1 bh.2.2.2 (bt a0 0) b5.1 b6.1 (wrap64 (al.1)) ba.1 ba.2.1 ba.2.2.1 ba.2.2.2.1 bh.1 bh.2.1 0 0))) else (if (bt a0 0)=4 then ((api_Prefix.f k al.2.1 al.2.2).bind fun bb=>(msg_Get.j0 k bb.2.2.2.2.1 bb.2.2.2.2.2 (bt a0 0) b5.1 b6.1 (wrap64 (al.1)) bb.1 bb.2.1 bb.2.2.1 bb.2.2.2.1 0 0 0 0)) else (if (bt a0 0)=5 then ((num_Reader_Many.f k al.2.1 al.2.2 65536).bind fun bm=>((num_Reader_Many.f k bm.2.1 bm.2.2 1048576).bind fun bn=>(msg_Get.j0 k bn.2.1 bn.2.2 (bt a0 0) b5.1 b6.1 (wrap64 (al.1)) false 0 0 0 0 0 bm.1 bn.1))) else (if (bt a0 0)=6 then ((num_Reader_Many.f k al.2.1 al.2.2 65536).bind fun bo=>(msg_Get.j0 k bo.2.1 bo.2.2 (bt a0 0) b5.1 b6.1 (wrap64 (al.1)) false 0 0 0 0 0 bo.1 0)) else (msg_Get.j0 k al.2.1 al.2.2 (bt a0 0) b5.1 b6.1 (wrap64 (al.1)) false 0 0 0 0 0 0 0)))))))) else (none)) else (none)))=some (r1,r2,r3,r4,r5,r6,r7,r8,r9,aZ,b2,b3,b4):=h;clear h;by_cases c2:a0.toList=([]:List UInt8);·rw [if_pos c2]at H;have eC:(a0.toList==([]:List UInt8))=true:=beq_iff_eq.mpr c2;have eD:(a0.toList !=([]:List UInt8))=false:=bne_eq_false_iff_eq.mpr c2;clear c2;simp only[Option.some.injEq,Prod.mk.injEq]at H;obtain⟨rfl,rfl,rfl,rfl,rfl,rfl,rfl,rfl,rfl,rfl,rfl,rfl,rfl⟩:=H;go_enter Try.func20,Try.ntmps20;go_wp2_with (first|((with_reducible refine gate_dst (N:=2) rfl ?_);refine bX (N:=2) (cs:= #[.int .u8 0,.int .i64 0,.int .u64 0,.int .i64 0,.bool false,.int .u64 0,.int .u64 0,.int .i64 0,.int .u8 0,.int .i64 0,.int .i64 0,.int .i64 0]) (t:=35) ?_;intro T hg w3 aj hb;have C:=Ax (aj);have eE:=Gw0 HB hg;have F:=Gw0 HB hg;replace HB:=Bs0 HB hb;clear hb aj hg;obtain⟨fN,fO,fP,fQ,fR,fS,fT,fU,fV,fW,fX,fY,fZ,g6,g7,g8,g9,ga,gb,gc,gh,gi,gj,gl⟩:=cl12 C));refine bodyPost_ret (results_ct rfl _ _ T 35 #[.int .u8 0,.int .i64 0,.int .u64 0,.int .i64 0,.bool false,.int .u64 0,.int .u64 0,.int .i64 0,.int .u8 0,.int .i64 0,.int .i64 0,.int .i64 0] (0,0) _ rfl (gB C.out) Try.underlying35 rfl (by kernel_rfl)) rfl ?_;exact⟨eS,bw1 HB.out F.out⟩
 ·rw [if_neg c2]at H;have eC:(a0.toList==([]:List UInt8))=false:=beq_eq_false_iff_ne.mpr c2;have eD:(a0.toList !=([]:List UInt8))=true:=bne_iff_ne.mpr c2;by_cases c5:1≤(a0.size:Int)
  ·rw [if_pos c5]at H;have gn:=eq_true c5;have gq:decide (1≤(a0.size:Int))=true:=dT c5;clear c5;by_cases c6:0<(a0.size:Int)
   ·rw [if_pos c6]at H;have gt:decide (0<(a0.size:Int))=true:=dT c6;have gu:decide (0<a0.size)=true:=dT (by omega);clear c6;replace H:=bI H;obtain⟨⟨af,b7,b8⟩,bH,H⟩:=H;dsimp only at H;have A8:=Ax bH;clear bH;replace H:=bI H;obtain⟨⟨ae,az,aA⟩,bJ,H⟩:=H;dsimp only at H;have A9:=Ax bJ;clear bJ;replace H:=bI H;obtain⟨⟨ab,ap,aq⟩,bK,H⟩:=H;dsimp only at H;have bi:=Ax bK;clear bK;have bq:=Ax H;clear H;go_enter Try.func20,Try.ntmps20;try go_wp2_with (first|((with_reducible refine gate_dst (N:=2) rfl ?_);refine bX (N:=2) (cs:= #[.int .u8 0,.int .i64 0,.int .u64 0,.int .i64 0,.bool false,.int .u64 0,.int .u64 0,.int .i64 0,.int .u8 0,.int .i64 0,.int .i64 0,.int .i64 0]) (t:=35) ?_;intro T hg gv aj hb;have C:=Ax (aj);have eE:=Gw0 HB hg;have F:=Gw0 HB hg;replace HB:=Bs0 HB hb;clear hb aj hg)|((with_reducible refine gate_dst (N:=13) rfl ?_);refine bX (N:=13) (cs:= #[.string (a0.extract 1 a0.size),.int .i64 0]) (t:=85) ?_;intro E hg bL aj hb;have br:=Ax (aj);have gx:=Gw1 HB hg F.out;have eF:=Gw1 HB hg F.out;replace HB:=Bs1 HB hb F.out;have am:=Nl0 C hg;have L:=Nr0 C hg;replace C:=Bx0 C hb;clear hb aj hg))
    have A:=Ax (show IsS85 w bL E (a0.extract 1 a0.size) 0 from ⟨by first|exact br.out|simpa using br.out,eF.out⟩);clear br;replace C:=Ax (blk_drew C.out);replace A:=Ax (IsS85.drew A.out);replace HB:=Ax (below_drew1 HB.out);have p7:0≤(0:Int):=(by omega);have q7:0<a0.size:=(by have:(0:Int)<(a0.size:Int):=of_decide_eq_true (by first|(with_reducible assumption)|assumption);first|omega|(simp only[ByteArray.size_append];omega));have gy: ∀ h:0<a0.size,((a0[0]'h).toNat:Int)=bt a0 0:=bt_at a0 0;clear p7;have gz:(0<(a0.size:Int))=True:=eq_true (of_decide_eq_true (by first|(with_reducible assumption)|assumption));replace q7:=eq_true q7;refine start_ (n:=18) (S:=fun w'=>True) (ds:= []) #[Y,Y,Y,Y,Y,Y,Y,Y,Y,Y,Y,Y,Y,Y,Y,Y,Y,Y] (by kernel_rfl) rfl rfl trivial (fun ag=>?_);refine with_tabW msg_Get.tab4 msg_Get.bits4 (fun I bM=>?_);generalize bL.drew=w14 at C A HB ag ⊢;refine pz 0 14 #[Z,Y,Y,Y,Y,Y,Y,Y,Y,Y,Y,Y,Y,Y,Y,Y,Y,Y] I.out ?_
    refine pz 2 16 #[Z,Y,Z,Y,Y,Y,Y,Y,Y,Y,Y,Y,Y,Y,Y,Y,Y,Y] I.out ?_
    refine pz 3 17 #[Z,Y,Z,Z,Y,Y,Y,Y,Y,Y,Y,Y,Y,Y,Y,Y,Y,Y] I.out ?_
    refine pz 4 18 #[Z,Y,Z,Z,Z,Y,Y,Y,Y,Y,Y,Y,Y,Y,Y,Y,Y,Y] I.out ?_
    refine pz 6 20 #[Z,Y,Z,Z,Z,Y,Z,Y,Y,Y,Y,Y,Y,Y,Y,Y,Y,Y] I.out ?_
    refine pz 7 21 #[Z,Y,Z,Z,Z,Y,Z,Z,Y,Y,Y,Y,Y,Y,Y,Y,Y,Y] I.out ?_
    refine pz 8 22 #[Z,Y,Z,Z,Z,Y,Z,Z,Z,Y,Y,Y,Y,Y,Y,Y,Y,Y] I.out ?_
    refine pz 10 24 #[Z,Y,Z,Z,Z,Y,Z,Z,Z,Y,Z,Y,Y,Y,Y,Y,Y,Y] I.out ?_
    refine pz 11 25 #[Z,Y,Z,Z,Z,Y,Z,Z,Z,Y,Z,Z,Y,Y,Y,Y,Y,Y] I.out ?_
    refine pz 12 26 #[Z,Y,Z,Z,Z,Y,Z,Z,Z,Y,Z,Z,Z,Y,Y,Y,Y,Y] I.out ?_
    refine take_ (i:=1) (N:=some 15) (v:=?_) (a':=?_) #[Z,Z,Z,Z,Z,Y,Z,Z,Z,Y,Z,Z,Z,Y,Y,Y,Y,Y] rfl rfl (take_ofW I.out bM.out (by kernel_rfl)) (fun _ _ _ h=>h) (Or.inl ⟨by rfl,?_⟩) ag ?_ ?_;rotate_left;·intro w' _;go_simp;with_reducible rfl
    rotate_left;·simp only[sP];rfl
    refine join_ (σ:=Nat) 1 #[Z,Z,Z,Z,Z,Z,Z,Z,Z,Z,Z,Z,Z,Z,Z,Z,Z,Y] (fun s_=> [(19,.int .i64 af),(23,.int .u64 ae),(27,.int .u64 ab),(5,.pointer (some ⟨s_,0,none⟩)),(28,.int .i64 (wrap64 (ab))),(29,.agg #[.int .u8 (bt a0 0),.int .i64 af,.int .u64 ae,.int .i64 (wrap64 (ab)),.bool false,.int .u64 0,.int .u64 0,.int .i64 0,.int .u8 0,.int .i64 0,.int .i64 0,.int .i64 0])]) (fun s_ w'=>(w'.heap[T]? =some (.cells #[.int .u8 0,.int .i64 0,.int .u64 0,.int .i64 0,.bool false,.int .u64 0,.int .u64 0,.int .i64 0,.int .u8 0,.int .i64 0,.int .i64 0,.int .i64 0] 35 (0,0)))∧(w'.heap[s_]? =some (.cells #[.int .u8 0,.int .i64 0,.int .u64 0,.int .i64 0,.bool false,.int .u64 0,.int .u64 0,.int .i64 0,.int .u8 0,.int .i64 0,.int .i64 0,.int .i64 0] 35 (0,0)))∧(w.heap.size≤s_)∧(w.heap.size≤s_)∧(E≠s_)∧(s_≠E)∧(T≠s_)∧(s_≠T)∧(IsS85 w w' E ap aq)∧(Below w.heap.size w w')) ?_ ?_;rotate_left
    ·intro bj;refine two_ (i:=5) (j:=16) (Ni:=some 19) (Nj:=some 5) #[Z,Z,Z,Z,Z,Z,Z,Z,Z,Y,Z,Z,Z,Y,Y,Y,Y,Y] #[Z,Z,Z,Z,Z,Y,Z,Z,Z,Y,Z,Z,Z,Y,Y,Y,Z,Y] rfl rfl rfl rfl (two_of I.out (by kernel_rfl)) (by decide) (by decide) (fun K hK=>?_) (fun K hK=>?_)
     ·skip
      refine goes_ Try.func33 (by kernel_rfl) rfl #[.pointer (some ⟨E,0,none⟩),.int .i64 1048576] (by rfl) rfl rfl gS ?_;with_reducible refine (num_Reader_Many.calls85 k E (a0.extract 1 a0.size) 0 1048576 af b7 b8 w _ ?side1 ?side2 A8.out).mono ?_
      (case side1=>repeat (first|(with_reducible first|exact A.out|apply IsS85.alloc|apply IsS85.drewN|apply IsS85.drew|apply IsS85.set_0|apply IsS85.set_1|refine IsS85.far ?_ L.out _)|exact A.out))
      (case side2=>repeat (first|(with_reducible first|exact HB.out|apply below_alloc|apply pw_below_drewN|apply below_drew1|refine below_set ?_ (IsS85.ge A.out)|refine below_set ?_ F.out)|exact HB.out))
      rintro e eG ⟨rfl,hi,hb,hk⟩
      refine⟨_,rfl,?_⟩;replace C:=Ax (KeepBut.blk hk (g':=T) (o:=.cells #[.int .u8 0,.int .i64 0,.int .u64 0,.int .i64 0,.bool false,.int .u64 0,.int .u64 0,.int .i64 0,.int .u8 0,.int .i64 0,.int .i64 0,.int .i64 0] 35 (0,0)) (bf0 C.out) am.out (by simp));replace HB:=Ax (hb);replace A:=Ax (hi)
      (try clear hb)
      (try clear hb2)
      (try clear hk)
      (try clear hi)
      refine hK.out _ _ trivial (fun ag=>?_);clear hK K;refine norm_ (a':=?_) ?_ ?_;rotate_left
      ·show Act.put _ (some 19) _=_
       simp only[sP];rfl
      refine two_ (i:=9) (j:=16) (Ni:=some 23) (Nj:=some 5) #[Z,Z,Z,Z,Z,Z,Z,Z,Z,Z,Z,Z,Z,Y,Y,Y,Y,Y] #[Z,Z,Z,Z,Z,Z,Z,Z,Z,Y,Z,Z,Z,Y,Y,Y,Z,Y] rfl rfl rfl rfl (two_of I.out (by kernel_rfl)) (by decide) (by decide) (fun K hK=>?_) (fun K hK=>?_)
      ·skip
       refine goes_ Try.func34 (by kernel_rfl) rfl #[.pointer (some ⟨E,0,none⟩)] (by rfl) rfl rfl gS ?_;with_reducible refine (num_Reader_Num.calls85 k E b7 b8 ae az aA w _ ?side1 ?side2 A9.out).mono ?_
       (case side1=>repeat (first|(with_reducible first|exact A.out|apply IsS85.alloc|apply IsS85.drewN|apply IsS85.drew|apply IsS85.set_0|apply IsS85.set_1|refine IsS85.far ?_ L.out _)|exact A.out))
       (case side2=>repeat (first|(with_reducible first|exact HB.out|apply below_alloc|apply pw_below_drewN|apply below_drew1|refine below_set ?_ (IsS85.ge A.out)|refine below_set ?_ F.out)|exact HB.out))
       rintro e bN ⟨rfl,hi,hb,hk⟩
       refine⟨_,rfl,?_⟩;replace C:=Ax (KeepBut.blk hk (g':=T) (o:=.cells #[.int .u8 0,.int .i64 0,.int .u64 0,.int .i64 0,.bool false,.int .u64 0,.int .u64 0,.int .i64 0,.int .u8 0,.int .i64 0,.int .i64 0,.int .i64 0] 35 (0,0)) (bf0 C.out) am.out (by simp));replace HB:=Ax (hb);replace A:=Ax (hi)
       (try clear hb)
       (try clear hb2)
       (try clear hk)
       (try clear hi)
       refine hK.out _ _ trivial (fun ag=>?_);clear hK K;refine norm_ (a':=?_) ?_ ?_;rotate_left
       ·show Act.put _ (some 23) _=_
        simp only[sP];rfl
       refine two_ (i:=13) (j:=16) (Ni:=some 27) (Nj:=some 5) #[Z,Z,Z,Z,Z,Z,Z,Z,Z,Z,Z,Z,Z,Z,Y,Y,Y,Y] #[Z,Z,Z,Z,Z,Z,Z,Z,Z,Z,Z,Z,Z,Y,Y,Y,Z,Y] rfl rfl rfl rfl (two_of I.out (by kernel_rfl)) (by decide) (by decide) (fun K hK=>?_) (fun K hK=>?_)
       ·skip
        refine goes_ Try.func34 (by kernel_rfl) rfl #[.pointer (some ⟨E,0,none⟩)] (by rfl) rfl rfl gS ?_;with_reducible refine (num_Reader_Num.calls85 k E az aA ab ap aq w _ ?side1 ?side2 bi.out).mono ?_
        (case side1=>repeat (first|(with_reducible first|exact A.out|apply IsS85.alloc|apply IsS85.drewN|apply IsS85.drew|apply IsS85.set_0|apply IsS85.set_1|refine IsS85.far ?_ L.out _)|exact A.out))
        (case side2=>repeat (first|(with_reducible first|exact HB.out|apply below_alloc|apply pw_below_drewN|apply below_drew1|refine below_set ?_ (IsS85.ge A.out)|refine below_set ?_ F.out)|exact HB.out))
        rintro e bu ⟨rfl,hi,hb,hk⟩
        refine⟨_,rfl,?_⟩;replace C:=Ax (KeepBut.blk hk (g':=T) (o:=.cells #[.int .u8 0,.int .i64 0,.int .u64 0,.int .i64 0,.bool false,.int .u64 0,.int .u64 0,.int .i64 0,.int .u8 0,.int .i64 0,.int .i64 0,.int .i64 0] 35 (0,0)) (bf0 C.out) am.out (by simp));replace HB:=Ax (hb);replace A:=Ax (hi)
        (try clear hb)
        (try clear hb2)
        (try clear hk)
        (try clear hi)
        refine hK.out _ _ trivial (fun ag=>?_);clear hK K;refine norm_ (a':=?_) ?_ ?_;rotate_left
        ·show Act.put _ (some 27) _=_
         simp only[sP];rfl
        refine pz 14 28 #[Z,Z,Z,Z,Z,Z,Z,Z,Z,Z,Z,Z,Z,Z,Z,Y,Y,Y] I.out ?_
        refine pz 15 29 #[Z,Z,Z,Z,Z,Z,Z,Z,Z,Z,Z,Z,Z,Z,Z,Z,Y,Y] I.out ?_
        refine one_ (i:=16) (N:=some 5) #[Z,Z,Z,Z,Z,Z,Z,Z,Z,Z,Z,Z,Z,Z,Z,Z,Z,Y] rfl rfl (one_of I.out (by kernel_rfl)) (by decide) (fun K hK=>?_);refine box_step ?hg (N:=5) ?hd (cs:= #[.int .u8 0,.int .i64 0,.int .u64 0,.int .i64 0,.bool false,.int .u64 0,.int .u64 0,.int .i64 0,.int .u8 0,.int .i64 0,.int .i64 0,.int .i64 0]) (t:=35) ?hr ?_;(case hd=>rfl);(case hg=>rfl);(case hr=>first|(go_simp;done)|(go_simp;rfl));intro B hg bv aj hb;have U:=Bx0 C hb;have V:=Ax (IsS85.below (by repeat (first|(with_reducible first|exact A.out|apply IsS85.alloc|apply IsS85.drewN|apply IsS85.drew|apply IsS85.set_0|apply IsS85.set_1|refine IsS85.far ?_ L.out _)|exact A.out)) hb);have X:=Bs2 HB hb (IsS85.ge A.out) F.out;have aa:=Ax (aj);have ar:=Gw2 HB hg (IsS85.ge A.out) F.out;have au:=Gw2 HB hg (IsS85.ge A.out) F.out;have av:=Nl0 C hg;have aw:=Nr0 C hg;have ax:=Ax ((by rw [hg];exact Nat.ne_of_lt (IsS85.lt (show IsS85 w _ E ap aq from by repeat (first|(with_reducible first|exact A.out|apply IsS85.alloc|apply IsS85.drewN|apply IsS85.drew|apply IsS85.set_0|apply IsS85.set_1|refine IsS85.far ?_ L.out _)|exact A.out))):E≠B));have ay:=Ax ((by rw [hg];exact Nat.ne_of_gt (IsS85.lt (show IsS85 w _ E ap aq from by repeat (first|(with_reducible first|exact A.out|apply IsS85.alloc|apply IsS85.drewN|apply IsS85.drew|apply IsS85.set_0|apply IsS85.set_1|refine IsS85.far ?_ L.out _)|exact A.out))):B≠E));clear C;clear A;clear HB;have C:=U;have A:=V;have HB:=X;have D:=aa;have aH:=ar;have M:=au;have G:=av;have R:=aw;have O:=ax;have ac:=ay;clear U V X aa ar au av aw ax ay;clear hb aj hg;refine hK.out _ _ trivial (fun ag=>?_);clear hK K;refine norm_ (a':=?_) ?_ ?_;rotate_left
        ·show Act.put _ (some 5) _=_
         simp only[sP];rfl
        exact norm_ (by simp only[putAll,Act.put,List.setIfInBounds_toArray,List.set_cons_zero,List.set_cons_succ]) (bj (B) _ ⟨(bf0 C.out),(bf0 D.out),aH.out,M.out,O.out,ac.out,G.out,R.out,(by repeat (first|(with_reducible first|exact A.out|apply IsS85.alloc|apply IsS85.drewN|apply IsS85.drew|apply IsS85.set_0|apply IsS85.set_1|refine IsS85.far ?_ L.out _|refine IsS85.far ?_ O.out _)|exact A.out)),(bw3 HB.out (IsS85.ge A.out) F.out M.out)⟩)
       ·skip
        refine box_step ?hg (N:=5) ?hd (cs:= #[.int .u8 0,.int .i64 0,.int .u64 0,.int .i64 0,.bool false,.int .u64 0,.int .u64 0,.int .i64 0,.int .u8 0,.int .i64 0,.int .i64 0,.int .i64 0]) (t:=35) ?hr ?_;(case hd=>rfl);(case hg=>rfl);(case hr=>first|(go_simp;done)|(go_simp;rfl));intro B hg bu aj hb;have U:=Bx0 C hb;have V:=Ax (IsS85.below (by repeat (first|(with_reducible first|exact A.out|apply IsS85.alloc|apply IsS85.drewN|apply IsS85.drew|apply IsS85.set_0|apply IsS85.set_1|refine IsS85.far ?_ L.out _)|exact A.out)) hb);have X:=Bs2 HB hb (IsS85.ge A.out) F.out;have aa:=Ax (aj);have ar:=Gw2 HB hg (IsS85.ge A.out) F.out;have au:=Gw2 HB hg (IsS85.ge A.out) F.out;have av:=Nl0 C hg;have aw:=Nr0 C hg;have ax:=Ax ((by rw [hg];exact Nat.ne_of_lt (IsS85.lt (show IsS85 w _ E az aA from by repeat (first|(with_reducible first|exact A.out|apply IsS85.alloc|apply IsS85.drewN|apply IsS85.drew|apply IsS85.set_0|apply IsS85.set_1|refine IsS85.far ?_ L.out _)|exact A.out))):E≠B));have ay:=Ax ((by rw [hg];exact Nat.ne_of_gt (IsS85.lt (show IsS85 w _ E az aA from by repeat (first|(with_reducible first|exact A.out|apply IsS85.alloc|apply IsS85.drewN|apply IsS85.drew|apply IsS85.set_0|apply IsS85.set_1|refine IsS85.far ?_ L.out _)|exact A.out))):B≠E));clear C;clear A;clear HB;have C:=U;have A:=V;have HB:=X;have D:=aa;have aH:=ar;have M:=au;have G:=av;have R:=aw;have O:=ax;have ac:=ay;clear U V X aa ar au av aw ax ay;clear hb aj hg;refine hK.out _ _ trivial (fun ag=>?_);clear hK K;refine norm_ (a':=?_) ?_ ?_;rotate_left
        ·show Act.put _ (some 5) _=_
         simp only[sP];rfl
        refine one_ (i:=13) (N:=some 27) #[Z,Z,Z,Z,Z,Z,Z,Z,Z,Z,Z,Z,Z,Z,Y,Y,Z,Y] rfl rfl (one_of I.out (by kernel_rfl)) (by decide) (fun K hK=>?_);refine goes_ Try.func34 (by kernel_rfl) rfl #[.pointer (some ⟨E,0,none⟩)] (by rfl) rfl rfl gS ?_;with_reducible refine (num_Reader_Num.calls85 k E az aA ab ap aq w _ ?side1 ?side2 bi.out).mono ?_
        (case side1=>repeat (first|(with_reducible first|exact A.out|apply IsS85.alloc|apply IsS85.drewN|apply IsS85.drew|apply IsS85.set_0|apply IsS85.set_1|refine IsS85.far ?_ L.out _|refine IsS85.far ?_ O.out _)|exact A.out))
        (case side2=>repeat (first|(with_reducible first|exact HB.out|apply below_alloc|apply pw_below_drewN|apply below_drew1|refine below_set ?_ (IsS85.ge A.out)|refine below_set ?_ F.out|refine below_set ?_ M.out)|exact HB.out))
        rintro e bv ⟨rfl,hi,hb,hk⟩
        refine⟨_,rfl,?_⟩;replace C:=Ax (KeepBut.blk hk (g':=T) (o:=.cells #[.int .u8 0,.int .i64 0,.int .u64 0,.int .i64 0,.bool false,.int .u64 0,.int .u64 0,.int .i64 0,.int .u8 0,.int .i64 0,.int .i64 0,.int .i64 0] 35 (0,0)) (bf0 C.out) am.out (by simp));replace D:=Ax (KeepBut.blk hk (g':=B) (o:=.cells #[.int .u8 0,.int .i64 0,.int .u64 0,.int .i64 0,.bool false,.int .u64 0,.int .u64 0,.int .i64 0,.int .u8 0,.int .i64 0,.int .i64 0,.int .i64 0] 35 (0,0)) (bf0 D.out) ac.out (by simp));replace HB:=Ax (hb);replace A:=Ax (hi)
        (try clear hb)
        (try clear hb2)
        (try clear hk)
        (try clear hi)
        refine hK.out _ _ trivial (fun ag=>?_);clear hK K;refine norm_ (a':=?_) ?_ ?_;rotate_left
        ·show Act.put _ (some 27) _=_
         simp only[sP];rfl
        refine pz 14 28 #[Z,Z,Z,Z,Z,Z,Z,Z,Z,Z,Z,Z,Z,Z,Z,Y,Z,Y] I.out ?_
        refine pz 15 29 #[Z,Z,Z,Z,Z,Z,Z,Z,Z,Z,Z,Z,Z,Z,Z,Z,Z,Y] I.out ?_
        exact norm_ (by simp only[putAll,Act.put,List.setIfInBounds_toArray,List.set_cons_zero,List.set_cons_succ]) (bj (B) _ ⟨(bf0 C.out),(bf0 D.out),aH.out,M.out,O.out,ac.out,G.out,R.out,(by repeat (first|(with_reducible first|exact A.out|apply IsS85.alloc|apply IsS85.drewN|apply IsS85.drew|apply IsS85.set_0|apply IsS85.set_1|refine IsS85.far ?_ L.out _|refine IsS85.far ?_ O.out _)|exact A.out)),(bw3 HB.out (IsS85.ge A.out) F.out M.out)⟩)
      ·skip
       refine box_step ?hg (N:=5) ?hd (cs:= #[.int .u8 0,.int .i64 0,.int .u64 0,.int .i64 0,.bool false,.int .u64 0,.int .u64 0,.int .i64 0,.int .u8 0,.int .i64 0,.int .i64 0,.int .i64 0]) (t:=35) ?hr ?_;(case hd=>rfl);(case hg=>rfl);(case hr=>first|(go_simp;done)|(go_simp;rfl));intro B hg bN aj hb;have U:=Bx0 C hb;have V:=Ax (IsS85.below (by repeat (first|(with_reducible first|exact A.out|apply IsS85.alloc|apply IsS85.drewN|apply IsS85.drew|apply IsS85.set_0|apply IsS85.set_1|refine IsS85.far ?_ L.out _)|exact A.out)) hb);have X:=Bs2 HB hb (IsS85.ge A.out) F.out;have aa:=Ax (aj);have ar:=Gw2 HB hg (IsS85.ge A.out) F.out;have au:=Gw2 HB hg (IsS85.ge A.out) F.out;have av:=Nl0 C hg;have aw:=Nr0 C hg;have ax:=Ax ((by rw [hg];exact Nat.ne_of_lt (IsS85.lt (show IsS85 w _ E b7 b8 from by repeat (first|(with_reducible first|exact A.out|apply IsS85.alloc|apply IsS85.drewN|apply IsS85.drew|apply IsS85.set_0|apply IsS85.set_1|refine IsS85.far ?_ L.out _)|exact A.out))):E≠B));have ay:=Ax ((by rw [hg];exact Nat.ne_of_gt (IsS85.lt (show IsS85 w _ E b7 b8 from by repeat (first|(with_reducible first|exact A.out|apply IsS85.alloc|apply IsS85.drewN|apply IsS85.drew|apply IsS85.set_0|apply IsS85.set_1|refine IsS85.far ?_ L.out _)|exact A.out))):B≠E));clear C;clear A;clear HB;have C:=U;have A:=V;have HB:=X;have D:=aa;have aH:=ar;have M:=au;have G:=av;have R:=aw;have O:=ax;have ac:=ay;clear U V X aa ar au av aw ax ay;clear hb aj hg;refine hK.out _ _ trivial (fun ag=>?_);clear hK K;refine norm_ (a':=?_) ?_ ?_;rotate_left
       ·show Act.put _ (some 5) _=_
        simp only[sP];rfl
       refine one_ (i:=9) (N:=some 23) #[Z,Z,Z,Z,Z,Z,Z,Z,Z,Z,Z,Z,Z,Y,Y,Y,Z,Y] rfl rfl (one_of I.out (by kernel_rfl)) (by decide) (fun K hK=>?_);refine goes_ Try.func34 (by kernel_rfl) rfl #[.pointer (some ⟨E,0,none⟩)] (by rfl) rfl rfl gS ?_;with_reducible refine (num_Reader_Num.calls85 k E b7 b8 ae az aA w _ ?side1 ?side2 A9.out).mono ?_
       (case side1=>repeat (first|(with_reducible first|exact A.out|apply IsS85.alloc|apply IsS85.drewN|apply IsS85.drew|apply IsS85.set_0|apply IsS85.set_1|refine IsS85.far ?_ L.out _|refine IsS85.far ?_ O.out _)|exact A.out))
       (case side2=>repeat (first|(with_reducible first|exact HB.out|apply below_alloc|apply pw_below_drewN|apply below_drew1|refine below_set ?_ (IsS85.ge A.out)|refine below_set ?_ F.out|refine below_set ?_ M.out)|exact HB.out))
       rintro e bu ⟨rfl,hi,hb,hk⟩
       refine⟨_,rfl,?_⟩;replace C:=Ax (KeepBut.blk hk (g':=T) (o:=.cells #[.int .u8 0,.int .i64 0,.int .u64 0,.int .i64 0,.bool false,.int .u64 0,.int .u64 0,.int .i64 0,.int .u8 0,.int .i64 0,.int .i64 0,.int .i64 0] 35 (0,0)) (bf0 C.out) am.out (by simp));replace D:=Ax (KeepBut.blk hk (g':=B) (o:=.cells #[.int .u8 0,.int .i64 0,.int .u64 0,.int .i64 0,.bool false,.int .u64 0,.int .u64 0,.int .i64 0,.int .u8 0,.int .i64 0,.int .i64 0,.int .i64 0] 35 (0,0)) (bf0 D.out) ac.out (by simp));replace HB:=Ax (hb);replace A:=Ax (hi)
       (try clear hb)
       (try clear hb2)
       (try clear hk)
       (try clear hi)
       refine hK.out _ _ trivial (fun ag=>?_);clear hK K;refine norm_ (a':=?_) ?_ ?_;rotate_left
       ·show Act.put _ (some 23) _=_
        simp only[sP];rfl
       refine one_ (i:=13) (N:=some 27) #[Z,Z,Z,Z,Z,Z,Z,Z,Z,Z,Z,Z,Z,Z,Y,Y,Z,Y] rfl rfl (one_of I.out (by kernel_rfl)) (by decide) (fun K hK=>?_);refine goes_ Try.func34 (by kernel_rfl) rfl #[.pointer (some ⟨E,0,none⟩)] (by rfl) rfl rfl gS ?_;with_reducible refine (num_Reader_Num.calls85 k E az aA ab ap aq w _ ?side1 ?side2 bi.out).mono ?_
       (case side1=>repeat (first|(with_reducible first|exact A.out|apply IsS85.alloc|apply IsS85.drewN|apply IsS85.drew|apply IsS85.set_0|apply IsS85.set_1|refine IsS85.far ?_ L.out _|refine IsS85.far ?_ O.out _)|exact A.out))
       (case side2=>repeat (first|(with_reducible first|exact HB.out|apply below_alloc|apply pw_below_drewN|apply below_drew1|refine below_set ?_ (IsS85.ge A.out)|refine below_set ?_ F.out|refine below_set ?_ M.out)|exact HB.out))
       rintro e bv ⟨rfl,hi,hb,hk⟩
       refine⟨_,rfl,?_⟩;replace C:=Ax (KeepBut.blk hk (g':=T) (o:=.cells #[.int .u8 0,.int .i64 0,.int .u64 0,.int .i64 0,.bool false,.int .u64 0,.int .u64 0,.int .i64 0,.int .u8 0,.int .i64 0,.int .i64 0,.int .i64 0] 35 (0,0)) (bf0 C.out) am.out (by simp));replace D:=Ax (KeepBut.blk hk (g':=B) (o:=.cells #[.int .u8 0,.int .i64 0,.int .u64 0,.int .i64 0,.bool false,.int .u64 0,.int .u64 0,.int .i64 0,.int .u8 0,.int .i64 0,.int .i64 0,.int .i64 0] 35 (0,0)) (bf0 D.out) ac.out (by simp));replace HB:=Ax (hb);replace A:=Ax (hi)
       (try clear hb)
       (try clear hb2)
       (try clear hk)
       (try clear hi)
       refine hK.out _ _ trivial (fun ag=>?_);clear hK K;refine norm_ (a':=?_) ?_ ?_;rotate_left
       ·show Act.put _ (some 27) _=_
        simp only[sP];rfl
       refine pz 14 28 #[Z,Z,Z,Z,Z,Z,Z,Z,Z,Z,Z,Z,Z,Z,Z,Y,Z,Y] I.out ?_
       refine pz 15 29 #[Z,Z,Z,Z,Z,Z,Z,Z,Z,Z,Z,Z,Z,Z,Z,Z,Z,Y] I.out ?_
       exact norm_ (by simp only[putAll,Act.put,List.setIfInBounds_toArray,List.set_cons_zero,List.set_cons_succ]) (bj (B) _ ⟨(bf0 C.out),(bf0 D.out),aH.out,M.out,O.out,ac.out,G.out,R.out,(by repeat (first|(with_reducible first|exact A.out|apply IsS85.alloc|apply IsS85.drewN|apply IsS85.drew|apply IsS85.set_0|apply IsS85.set_1|refine IsS85.far ?_ L.out _|refine IsS85.far ?_ O.out _)|exact A.out)),(bw3 HB.out (IsS85.ge A.out) F.out M.out)⟩)
     ·skip
      refine box_step ?hg (N:=5) ?hd (cs:= #[.int .u8 0,.int .i64 0,.int .u64 0,.int .i64 0,.bool false,.int .u64 0,.int .u64 0,.int .i64 0,.int .u8 0,.int .i64 0,.int .i64 0,.int .i64 0]) (t:=35) ?hr ?_;(case hd=>rfl);(case hg=>rfl);(case hr=>first|(go_simp;done)|(go_simp;rfl));intro B hg eG aj hb;have U:=Bx0 C hb;have V:=Ax (IsS85.below (by repeat (first|(with_reducible first|exact A.out|apply IsS85.alloc|apply IsS85.drewN|apply IsS85.drew|apply IsS85.set_0|apply IsS85.set_1|refine IsS85.far ?_ L.out _)|exact A.out)) hb);have X:=Bs2 HB hb (IsS85.ge A.out) F.out;have aa:=Ax (aj);have ar:=Gw2 HB hg (IsS85.ge A.out) F.out;have au:=Gw2 HB hg (IsS85.ge A.out) F.out;have av:=Nl0 C hg;have aw:=Nr0 C hg;have ax:=Ax ((by rw [hg];exact Nat.ne_of_lt (IsS85.lt (show IsS85 w _ E (a0.extract 1 a0.size) 0 from by repeat (first|(with_reducible first|exact A.out|apply IsS85.alloc|apply IsS85.drewN|apply IsS85.drew|apply IsS85.set_0|apply IsS85.set_1|refine IsS85.far ?_ L.out _)|exact A.out))):E≠B));have ay:=Ax ((by rw [hg];exact Nat.ne_of_gt (IsS85.lt (show IsS85 w _ E (a0.extract 1 a0.size) 0 from by repeat (first|(with_reducible first|exact A.out|apply IsS85.alloc|apply IsS85.drewN|apply IsS85.drew|apply IsS85.set_0|apply IsS85.set_1|refine IsS85.far ?_ L.out _)|exact A.out))):B≠E));clear C;clear A;clear HB;have C:=U;have A:=V;have HB:=X;have D:=aa;have aH:=ar;have M:=au;have G:=av;have R:=aw;have O:=ax;have ac:=ay;clear U V X aa ar au av aw ax ay;clear hb aj hg;refine hK.out _ _ trivial (fun ag=>?_);clear hK K;refine norm_ (a':=?_) ?_ ?_;rotate_left
      ·show Act.put _ (some 5) _=_
       simp only[sP];rfl
      refine one_ (i:=5) (N:=some 19) #[Z,Z,Z,Z,Z,Z,Z,Z,Z,Y,Z,Z,Z,Y,Y,Y,Z,Y] rfl rfl (one_of I.out (by kernel_rfl)) (by decide) (fun K hK=>?_);refine goes_ Try.func33 (by kernel_rfl) rfl #[.pointer (some ⟨E,0,none⟩),.int .i64 1048576] (by rfl) rfl rfl gS ?_;with_reducible refine (num_Reader_Many.calls85 k E (a0.extract 1 a0.size) 0 1048576 af b7 b8 w _ ?side1 ?side2 A8.out).mono ?_
      (case side1=>repeat (first|(with_reducible first|exact A.out|apply IsS85.alloc|apply IsS85.drewN|apply IsS85.drew|apply IsS85.set_0|apply IsS85.set_1|refine IsS85.far ?_ L.out _|refine IsS85.far ?_ O.out _)|exact A.out))
      (case side2=>repeat (first|(with_reducible first|exact HB.out|apply below_alloc|apply pw_below_drewN|apply below_drew1|refine below_set ?_ (IsS85.ge A.out)|refine below_set ?_ F.out|refine below_set ?_ M.out)|exact HB.out))
      rintro e bN ⟨rfl,hi,hb,hk⟩
      refine⟨_,rfl,?_⟩;replace C:=Ax (KeepBut.blk hk (g':=T) (o:=.cells #[.int .u8 0,.int .i64 0,.int .u64 0,.int .i64 0,.bool false,.int .u64 0,.int .u64 0,.int .i64 0,.int .u8 0,.int .i64 0,.int .i64 0,.int .i64 0] 35 (0,0)) (bf0 C.out) am.out (by simp));replace D:=Ax (KeepBut.blk hk (g':=B) (o:=.cells #[.int .u8 0,.int .i64 0,.int .u64 0,.int .i64 0,.bool false,.int .u64 0,.int .u64 0,.int .i64 0,.int .u8 0,.int .i64 0,.int .i64 0,.int .i64 0] 35 (0,0)) (bf0 D.out) ac.out (by simp));replace HB:=Ax (hb);replace A:=Ax (hi)
      (try clear hb)
      (try clear hb2)
      (try clear hk)
      (try clear hi)
      refine hK.out _ _ trivial (fun ag=>?_);clear hK K;refine norm_ (a':=?_) ?_ ?_;rotate_left
      ·show Act.put _ (some 19) _=_
       simp only[sP];rfl
      refine one_ (i:=9) (N:=some 23) #[Z,Z,Z,Z,Z,Z,Z,Z,Z,Z,Z,Z,Z,Y,Y,Y,Z,Y] rfl rfl (one_of I.out (by kernel_rfl)) (by decide) (fun K hK=>?_);refine goes_ Try.func34 (by kernel_rfl) rfl #[.pointer (some ⟨E,0,none⟩)] (by rfl) rfl rfl gS ?_;with_reducible refine (num_Reader_Num.calls85 k E b7 b8 ae az aA w _ ?side1 ?side2 A9.out).mono ?_
      (case side1=>repeat (first|(with_reducible first|exact A.out|apply IsS85.alloc|apply IsS85.drewN|apply IsS85.drew|apply IsS85.set_0|apply IsS85.set_1|refine IsS85.far ?_ L.out _|refine IsS85.far ?_ O.out _)|exact A.out))
      (case side2=>repeat (first|(with_reducible first|exact HB.out|apply below_alloc|apply pw_below_drewN|apply below_drew1|refine below_set ?_ (IsS85.ge A.out)|refine below_set ?_ F.out|refine below_set ?_ M.out)|exact HB.out))
      rintro e bu ⟨rfl,hi,hb,hk⟩
      refine⟨_,rfl,?_⟩;replace C:=Ax (KeepBut.blk hk (g':=T) (o:=.cells #[.int .u8 0,.int .i64 0,.int .u64 0,.int .i64 0,.bool false,.int .u64 0,.int .u64 0,.int .i64 0,.int .u8 0,.int .i64 0,.int .i64 0,.int .i64 0] 35 (0,0)) (bf0 C.out) am.out (by simp));replace D:=Ax (KeepBut.blk hk (g':=B) (o:=.cells #[.int .u8 0,.int .i64 0,.int .u64 0,.int .i64 0,.bool false,.int .u64 0,.int .u64 0,.int .i64 0,.int .u8 0,.int .i64 0,.int .i64 0,.int .i64 0] 35 (0,0)) (bf0 D.out) ac.out (by simp));replace HB:=Ax (hb);replace A:=Ax (hi)
      (try clear hb)
      (try clear hb2)
      (try clear hk)
      (try clear hi)
      refine hK.out _ _ trivial (fun ag=>?_);clear hK K;refine norm_ (a':=?_) ?_ ?_;rotate_left
      ·show Act.put _ (some 23) _=_
       simp only[sP];rfl
      refine one_ (i:=13) (N:=some 27) #[Z,Z,Z,Z,Z,Z,Z,Z,Z,Z,Z,Z,Z,Z,Y,Y,Z,Y] rfl rfl (one_of I.out (by kernel_rfl)) (by decide) (fun K hK=>?_);refine goes_ Try.func34 (by kernel_rfl) rfl #[.pointer (some ⟨E,0,none⟩)] (by rfl) rfl rfl gS ?_;with_reducible refine (num_Reader_Num.calls85 k E az aA ab ap aq w _ ?side1 ?side2 bi.out).mono ?_
      (case side1=>repeat (first|(with_reducible first|exact A.out|apply IsS85.alloc|apply IsS85.drewN|apply IsS85.drew|apply IsS85.set_0|apply IsS85.set_1|refine IsS85.far ?_ L.out _|refine IsS85.far ?_ O.out _)|exact A.out))
      (case side2=>repeat (first|(with_reducible first|exact HB.out|apply below_alloc|apply pw_below_drewN|apply below_drew1|refine below_set ?_ (IsS85.ge A.out)|refine below_set ?_ F.out|refine below_set ?_ M.out)|exact HB.out))
      rintro e bv ⟨rfl,hi,hb,hk⟩
      refine⟨_,rfl,?_⟩;replace C:=Ax (KeepBut.blk hk (g':=T) (o:=.cells #[.int .u8 0,.int .i64 0,.int .u64 0,.int .i64 0,.bool false,.int .u64 0,.int .u64 0,.int .i64 0,.int .u8 0,.int .i64 0,.int .i64 0,.int .i64 0] 35 (0,0)) (bf0 C.out) am.out (by simp));replace D:=Ax (KeepBut.blk hk (g':=B) (o:=.cells #[.int .u8 0,.int .i64 0,.int .u64 0,.int .i64 0,.bool false,.int .u64 0,.int .u64 0,.int .i64 0,.int .u8 0,.int .i64 0,.int .i64 0,.int .i64 0] 35 (0,0)) (bf0 D.out) ac.out (by simp));replace HB:=Ax (hb);replace A:=Ax (hi)
      (try clear hb)
      (try clear hb2)
      (try clear hk)
      (try clear hi)
      refine hK.out _ _ trivial (fun ag=>?_);clear hK K;refine norm_ (a':=?_) ?_ ?_;rotate_left
      ·show Act.put _ (some 27) _=_
       simp only[sP];rfl
      refine pz 14 28 #[Z,Z,Z,Z,Z,Z,Z,Z,Z,Z,Z,Z,Z,Z,Z,Y,Z,Y] I.out ?_
      refine pz 15 29 #[Z,Z,Z,Z,Z,Z,Z,Z,Z,Z,Z,Z,Z,Z,Z,Z,Z,Y] I.out ?_
      exact norm_ (by simp only[putAll,Act.put,List.setIfInBounds_toArray,List.set_cons_zero,List.set_cons_succ]) (bj (B) _ ⟨(bf0 C.out),(bf0 D.out),aH.out,M.out,O.out,ac.out,G.out,R.out,(by repeat (first|(with_reducible first|exact A.out|apply IsS85.alloc|apply IsS85.drewN|apply IsS85.drew|apply IsS85.set_0|apply IsS85.set_1|refine IsS85.far ?_ L.out _|refine IsS85.far ?_ O.out _)|exact A.out)),(bw3 HB.out (IsS85.ge A.out) F.out M.out)⟩)
    rintro B ah ⟨bO,bP,bQ,bR,bS,bT,bU,bV,bW,bY⟩
    have U:Aside0 (ah.heap[T]? =some (.cells #[.int .u8 0,.int .i64 0,.int .u64 0,.int .i64 0,.bool false,.int .u64 0,.int .u64 0,.int .i64 0,.int .u8 0,.int .i64 0,.int .i64 0,.int .i64 0] 35 (0,0))):=⟨bO⟩;have V:Aside0 (ah.heap[B]? =some (.cells #[.int .u8 0,.int .i64 0,.int .u64 0,.int .i64 0,.bool false,.int .u64 0,.int .u64 0,.int .i64 0,.int .u8 0,.int .i64 0,.int .i64 0,.int .i64 0] 35 (0,0))):=⟨bP⟩;have X:Aside0 (w.heap.size≤B):=⟨bQ⟩;have aa:Aside0 (w.heap.size≤B):=⟨bR⟩;have ar:Aside0 (E≠B):=⟨bS⟩;have au:Aside0 (B≠E):=⟨bT⟩;have av:Aside0 (T≠B):=⟨bU⟩;have aw:Aside0 (B≠T):=⟨bV⟩;have ax:Aside0 (IsS85 w ah E ap aq):=⟨bW⟩;have ay:Aside0 (Below w.heap.size w ah):=⟨bY⟩;clear C;clear A;clear HB;clear bO bP bQ bR bS bT bU bV bW bY;have C:=U;have D:=V;have aH:=X;have M:=aa;have O:=ar;have ac:=au;have G:=av;have R:=aw;have A:=ax;have HB:=ay;clear U V X aa ar au av aw ax ay;have ag:=trivial;refine norm_ (a':=?_) ?_ ?_;rotate_left;·simp only[putAll,Act.put,List.setIfInBounds_toArray,List.set_cons_zero,List.set_cons_succ];rfl
    refine one_ (i:=17) (N:=none) #[Z,Z,Z,Z,Z,Z,Z,Z,Z,Z,Z,Z,Z,Z,Z,Z,Z,Z] rfl rfl (one_of I.out (by kernel_rfl)) (by decide) (fun K hK=>?_);have gA:ah.cell? ⟨B,0,none⟩=some (.int .u8 0):=(blk_cell D.out 0).trans rfl;have gC:=blk_frozen D.out 0;have gD:=G.out;have gE:=R.out;have gG:ah.cell? ⟨B,1,none⟩=some (.int .i64 0):=(blk_cell D.out 1).trans rfl;have gH:=blk_frozen D.out 1;have gI:=G.out;have gJ:=R.out;have gM:ah.cell? ⟨B,2,none⟩=some (.int .u64 0):=(blk_cell D.out 2).trans rfl;have gN:=blk_frozen D.out 2;have gO:=G.out;have gP:=R.out;have gQ:ah.cell? ⟨B,3,none⟩=some (.int .i64 0):=(blk_cell D.out 3).trans rfl;have gR:=blk_frozen D.out 3;have gT:=G.out;have gU:=R.out;have gV:ah.cell? ⟨B,4,none⟩=some (.bool false):=(blk_cell D.out 4).trans rfl;have gW:=blk_frozen D.out 4;have gX:=G.out;have gY:=R.out;have gZ:ah.cell? ⟨B,5,none⟩=some (.int .u64 0):=(blk_cell D.out 5).trans rfl;have hH:=blk_frozen D.out 5;have hL:=G.out;have hO:=R.out;have hP:ah.cell? ⟨B,6,none⟩=some (.int .u64 0):=(blk_cell D.out 6).trans rfl;have hU:=blk_frozen D.out 6;have hX:=G.out;have hZ:=R.out;have i1:ah.cell? ⟨B,7,none⟩=some (.int .i64 0):=(blk_cell D.out 7).trans rfl;have i2:=blk_frozen D.out 7;have i3:=G.out;have i4:=R.out;have i5:ah.cell? ⟨B,8,none⟩=some (.int .u8 0):=(blk_cell D.out 8).trans rfl;have i6:=blk_frozen D.out 8;have i7:=G.out;have i8:=R.out;have i9:ah.cell? ⟨B,9,none⟩=some (.int .i64 0):=(blk_cell D.out 9).trans rfl;have ia:=blk_frozen D.out 9;have ib:=G.out;have ic:=R.out;have ie:ah.cell? ⟨B,10,none⟩=some (.int .i64 0):=(blk_cell D.out 10).trans rfl;have ig:=blk_frozen D.out 10;have ii:=G.out;have ij:=R.out;have ik:ah.cell? ⟨B,11,none⟩=some (.int .i64 0):=(blk_cell D.out 11).trans rfl;have il:=blk_frozen D.out 11;have im:=G.out;have io:=R.out;refine skip_ (w1:=?_) (by rfl) rfl ?_ ?_;rotate_left;·go_simp;rfl
    refine hK.out _ _ trivial (fun ag=>?_);clear hK K;refine done_ (done_of I.out (by kernel_rfl)) ?_;have ip:=R.out;have iq:=G.out;have ir:=ac.out;have iu:=O.out;obtain⟨bZ,cd,ce,cf,cg,ch,ci,cj,ck,cl,cm,cn,co,cq,cr,ct,cu,cv,cw,cx,cy,cz,cA,cB⟩:=cl12 D;go_upto_block 0 with (fail)
    go_cut [] (fun wc=> ∃ (kq:Nat) (aI:ByteArray) (aJ:Int) (aK:Bool) (aM:Int) (aN:Int) (aQ:Int) (aR:Int) (aT:Int) (aU:Int) (aV:Int),Aside0 (msg_Get.j0 kq aI aJ (bt a0 0) af ae (wrap64 (ab)) aK aM aN aQ aR aT aU aV=some (r1,r2,r3,r4,r5,r6,r7,r8,r9,aZ,b2,b3,b4))∧Aside0 (kq≤k)∧Aside0 (wc.heap[T]? =some (.cells #[.int .u8 0,.int .i64 0,.int .u64 0,.int .i64 0,.bool false,.int .u64 0,.int .u64 0,.int .i64 0,.int .u8 0,.int .i64 0,.int .i64 0,.int .i64 0] 35 (0,0)))∧Aside0 (wc.heap[B]? =some (.cells #[.int .u8 (bt a0 0),.int .i64 af,.int .u64 ae,.int .i64 (wrap64 (ab)),.bool aK,.int .u64 aM,.int .u64 aN,.int .i64 aQ,.int .u8 aR,.int .i64 aT,.int .i64 aU,.int .i64 aV] 35 (0,0)))∧Aside0 (IsS85 w wc E aI aJ)∧Aside0 (Below w.heap.size w wc))
    case first=>
     have H:=bq.out;clear bq;by_cases aC:(bt a0 0)=3
     ·rw [if_pos aC]at H;have b9:((bt a0 0)==3)=true:=beq_iff_eq.mpr aC;have bx:((bt a0 0) !=3)=false:=bne_eq_false_iff_eq.mpr aC;clear aC
      (first|rw [b9]|(simp only[i64_w,i32_w];rw [b9])|skip)
      replace H:=bI H;obtain⟨⟨cC,cD,cE,cF,cG,cH⟩,cI,H⟩:=H;dsimp only at H;have eH:=Ax cI;clear cI;replace H:=bI H;obtain⟨⟨cJ,cK,cL,cM⟩,cN,H⟩:=H;dsimp only at H;have eI:=Ax cN;clear cN;have H':=Ax H;clear H;go_wp2_with (first|((with_reducible refine gate_callee (f:=35) rfl ?_);refine goesL_ (some 35) rfl rfl Try.func35 (by kernel_rfl) rfl #[.pointer (some ⟨E,0,none⟩),.func (.func 36) #[] #[]] rfl gS ?_;(with_reducible refine (api_Prefix.calls k E ap aq cC cD cE cF cG cH w _ ?side1 ?side2 eH.out).mono ?_);(case side1=>repeat (first|(with_reducible first|exact A.out|apply IsS85.alloc|apply IsS85.drewN|apply IsS85.drew|apply IsS85.set_0|apply IsS85.set_1|refine IsS85.far ?_ L.out _|refine IsS85.far ?_ O.out _)|exact A.out));(case side2=>repeat (first|(with_reducible first|exact HB.out|apply below_alloc|apply pw_below_drewN|apply below_drew1|refine below_set ?_ (IsS85.ge A.out)|refine below_set ?_ F.out|refine below_set ?_ M.out)|exact HB.out));rintro e iv ⟨rfl,hi,hb,hk⟩;refine⟨_,rfl,?_⟩;have U:=Ax (KeepBut.blk hk (g':=T) (o:=.cells #[.int .u8 0,.int .i64 0,.int .u64 0,.int .i64 0,.bool false,.int .u64 0,.int .u64 0,.int .i64 0,.int .u8 0,.int .i64 0,.int .i64 0,.int .i64 0] 35 (0,0)) (by (repeat (first|(with_reducible first|refine blk_drewN ?_ _|refine blk_drew ?_|refine blk_alloc ?_ _)|refine blk_far ?_ G.out _));exact C.out) am.out (by simp));have V:=Ax (KeepBut.blk hk (g':=B) (o:=.cells #[.int .u8 (bt a0 0),.int .i64 af,.int .u64 ae,.int .i64 (wrap64 (ab)),.bool false,.int .u64 0,.int .u64 0,.int .i64 0,.int .u8 0,.int .i64 0,.int .i64 0,.int .i64 0] 35 (0,0)) (gB D.out) ac.out (by simp));have X:=Ax (hb);have aa:=Ax (hi);clear C;clear D;clear HB;clear A;have C:=U;have D:=V;have HB:=X;have A:=aa;clear U V X aa;(try clear hb);(try clear hb2);(try clear hk);(try clear hi))|((with_reducible refine gate_callee (f:=37) rfl ?_);refine goesL_ (some 37) rfl rfl Try.func37 (by kernel_rfl) rfl #[.pointer (some ⟨E,0,none⟩),.func (.func 38) #[] #[]] rfl gS ?_;(with_reducible refine (api_Action.calls k E cG cH cJ cK cL cM w _ ?side1 ?side2 eI.out).mono ?_);(case side1=>repeat (first|(with_reducible first|exact A.out|apply IsS85.alloc|apply IsS85.drewN|apply IsS85.drew|apply IsS85.set_0|apply IsS85.set_1|refine IsS85.far ?_ L.out _|refine IsS85.far ?_ O.out _)|exact A.out));(case side2=>repeat (first|(with_reducible first|exact HB.out|apply below_alloc|apply pw_below_drewN|apply below_drew1|refine below_set ?_ (IsS85.ge A.out)|refine below_set ?_ F.out|refine below_set ?_ M.out)|exact HB.out));rintro e iw ⟨rfl,hi,hb,hk⟩;refine⟨_,rfl,?_⟩;replace C:=Ax (KeepBut.blk hk (g':=T) (o:=.cells #[.int .u8 0,.int .i64 0,.int .u64 0,.int .i64 0,.bool false,.int .u64 0,.int .u64 0,.int .i64 0,.int .u8 0,.int .i64 0,.int .i64 0,.int .i64 0] 35 (0,0)) (bf0 C.out) am.out (by simp));replace D:=Ax (KeepBut.blk hk (g':=B) (o:=.cells #[.int .u8 (bt a0 0),.int .i64 af,.int .u64 ae,.int .i64 (wrap64 (ab)),.bool false,.int .u64 0,.int .u64 0,.int .i64 0,.int .u8 0,.int .i64 0,.int .i64 0,.int .i64 0] 35 (0,0)) (bf0 D.out) ac.out (by simp));replace HB:=Ax (hb);replace A:=Ax (hi);(try clear hb);(try clear hb2);(try clear hk);(try clear hi);have ix:=R.out;have iy:=G.out;have iz:=ac.out;have iA:=O.out;obtain⟨cO,cP,cQ,cR,cS,cT,cU,cV,cW,cX,cY,cZ,d2,d3,d4,d5,d6,d7,d8,d9,da,db,dc,dd⟩:=cl12 D));go_meet
      case rel=>exact⟨_,(cL),(cM),(cC),(cD),(cE),(cF),(cJ),(cK),(0),(0),H',⟨by first|omega|exact Nat.le_refl _⟩,⟨bf6 C.out G.out G.out G.out G.out G.out G.out⟩,⟨gB D.out⟩,⟨by repeat (first|(with_reducible first|exact A.out|apply IsS85.alloc|apply IsS85.drewN|apply IsS85.drew|apply IsS85.set_0|apply IsS85.set_1|refine IsS85.far ?_ L.out _|refine IsS85.far ?_ O.out _)|exact A.out)⟩,⟨bw3 HB.out (IsS85.ge A.out) F.out M.out⟩⟩
     ·rw [if_neg aC]at H;have b9:((bt a0 0)==3)=false:=beq_eq_false_iff_ne.mpr aC;have bx:((bt a0 0) !=3)=true:=bne_iff_ne.mpr aC
      (first|rw [b9]|(simp only[i64_w,i32_w];rw [b9])|skip)
      by_cases aD:(bt a0 0)=4
      ·rw [if_pos aD]at H;have bz:((bt a0 0)==4)=true:=beq_iff_eq.mpr aD;have bA:((bt a0 0) !=4)=false:=bne_eq_false_iff_eq.mpr aD;clear aD;replace H:=bI H;obtain⟨⟨de,df,dg,dh,di,dj⟩,dk,H⟩:=H;dsimp only at H;have eJ:=Ax dk;clear dk;have H':=Ax H;clear H;go_wp2_with (first|((with_reducible refine gate_callee (f:=35) rfl ?_);refine goesL_ (some 43) rfl rfl Try.func35 (by kernel_rfl) rfl #[.pointer (some ⟨E,0,none⟩),.func (.func 36) #[] #[]] rfl gS ?_;(with_reducible refine (api_Prefix.calls k E ap aq de df dg dh di dj w _ ?side1 ?side2 eJ.out).mono ?_);(case side1=>repeat (first|(with_reducible first|exact A.out|apply IsS85.alloc|apply IsS85.drewN|apply IsS85.drew|apply IsS85.set_0|apply IsS85.set_1|refine IsS85.far ?_ L.out _|refine IsS85.far ?_ O.out _)|exact A.out));(case side2=>repeat (first|(with_reducible first|exact HB.out|apply below_alloc|apply pw_below_drewN|apply below_drew1|refine below_set ?_ (IsS85.ge A.out)|refine below_set ?_ F.out|refine below_set ?_ M.out)|exact HB.out));rintro e iB ⟨rfl,hi,hb,hk⟩;refine⟨_,rfl,?_⟩;have U:=Ax (KeepBut.blk hk (g':=T) (o:=.cells #[.int .u8 0,.int .i64 0,.int .u64 0,.int .i64 0,.bool false,.int .u64 0,.int .u64 0,.int .i64 0,.int .u8 0,.int .i64 0,.int .i64 0,.int .i64 0] 35 (0,0)) (by (repeat (first|(with_reducible first|refine blk_drewN ?_ _|refine blk_drew ?_|refine blk_alloc ?_ _)|refine blk_far ?_ G.out _));exact C.out) am.out (by simp));have V:=Ax (KeepBut.blk hk (g':=B) (o:=.cells #[.int .u8 (bt a0 0),.int .i64 af,.int .u64 ae,.int .i64 (wrap64 (ab)),.bool false,.int .u64 0,.int .u64 0,.int .i64 0,.int .u8 0,.int .i64 0,.int .i64 0,.int .i64 0] 35 (0,0)) (gB D.out) ac.out (by simp));have X:=Ax (hb);have aa:=Ax (hi);clear C;clear D;clear HB;clear A;have C:=U;have D:=V;have HB:=X;have A:=aa;clear U V X aa;(try clear hb);(try clear hb2);(try clear hk);(try clear hi);have iC:=R.out;have iD:=G.out;have iE:=ac.out;have iF:=O.out;obtain⟨dl,dm,dn,dp,dq,dr,dt,du,dv,dw,dx,dy,dz,dA,dB,dC,dD,dE,dG,dH,dI,dJ,dK,dL⟩:=cl12 D));go_meet
       case rel=>exact⟨_,(di),(dj),(de),(df),(dg),(dh),(0),(0),(0),(0),H',⟨by first|omega|exact Nat.le_refl _⟩,⟨bf4 C.out G.out G.out G.out G.out⟩,⟨gB D.out⟩,⟨by repeat (first|(with_reducible first|exact A.out|apply IsS85.alloc|apply IsS85.drewN|apply IsS85.drew|apply IsS85.set_0|apply IsS85.set_1|refine IsS85.far ?_ L.out _|refine IsS85.far ?_ O.out _)|exact A.out)⟩,⟨bw3 HB.out (IsS85.ge A.out) F.out M.out⟩⟩
      ·rw [if_neg aD]at H;have bz:((bt a0 0)==4)=false:=beq_eq_false_iff_ne.mpr aD;have bA:((bt a0 0) !=4)=true:=bne_iff_ne.mpr aD;by_cases aE:(bt a0 0)=5
       ·rw [if_pos aE]at H;have bB:((bt a0 0)==5)=true:=beq_iff_eq.mpr aE;have bC:((bt a0 0) !=5)=false:=bne_eq_false_iff_eq.mpr aE;clear aE;replace H:=bI H;obtain⟨⟨dM,dN,dO⟩,dP,H⟩:=H;dsimp only at H;have eK:=Ax dP;clear dP;replace H:=bI H;obtain⟨⟨dQ,dR,dS⟩,dU,H⟩:=H;dsimp only at H;have eL:=Ax dU;clear dU;have H':=Ax H;clear H;try go_wp2
        have U:Aside0 (((((((((((((ah.setCell ⟨B,0,none⟩ (.int .u8 (bt a0 0))).setCell ⟨B,1,none⟩ (.int .i64 af)).setCell ⟨B,2,none⟩ (.int .u64 ae)).setCell ⟨B,3,none⟩ (.int .i64 (wrap64 (ab)))).setCell ⟨B,4,none⟩ (.bool false)).setCell ⟨B,5,none⟩ (.int .u64 0)).setCell ⟨B,6,none⟩ (.int .u64 0)).setCell ⟨B,7,none⟩ (.int .i64 0)).setCell ⟨B,8,none⟩ (.int .u8 0)).setCell ⟨B,9,none⟩ (.int .i64 0)).setCell ⟨B,10,none⟩ (.int .i64 0)).setCell ⟨B,11,none⟩ (.int .i64 0)).heap[T]? =some (.cells #[.int .u8 0,.int .i64 0,.int .u64 0,.int .i64 0,.bool false,.int .u64 0,.int .u64 0,.int .i64 0,.int .u8 0,.int .i64 0,.int .i64 0,.int .i64 0] 35 (0,0))):=⟨by (repeat (first|(with_reducible first|refine blk_drewN ?_ _|refine blk_drew ?_|refine blk_alloc ?_ _)|refine blk_far ?_ G.out _));exact C.out⟩;have V:Aside0 (((((((((((((ah.setCell ⟨B,0,none⟩ (.int .u8 (bt a0 0))).setCell ⟨B,1,none⟩ (.int .i64 af)).setCell ⟨B,2,none⟩ (.int .u64 ae)).setCell ⟨B,3,none⟩ (.int .i64 (wrap64 (ab)))).setCell ⟨B,4,none⟩ (.bool false)).setCell ⟨B,5,none⟩ (.int .u64 0)).setCell ⟨B,6,none⟩ (.int .u64 0)).setCell ⟨B,7,none⟩ (.int .i64 0)).setCell ⟨B,8,none⟩ (.int .u8 0)).setCell ⟨B,9,none⟩ (.int .i64 0)).setCell ⟨B,10,none⟩ (.int .i64 0)).setCell ⟨B,11,none⟩ (.int .i64 0)).heap[B]? =some (.cells #[.int .u8 (bt a0 0),.int .i64 af,.int .u64 ae,.int .i64 (wrap64 (ab)),.bool false,.int .u64 0,.int .u64 0,.int .i64 0,.int .u8 0,.int .i64 0,.int .i64 0,.int .i64 0] 35 (0,0))):=⟨gB D.out⟩;have X:Aside0 (IsS85 w ((((((((((((ah.setCell ⟨B,0,none⟩ (.int .u8 (bt a0 0))).setCell ⟨B,1,none⟩ (.int .i64 af)).setCell ⟨B,2,none⟩ (.int .u64 ae)).setCell ⟨B,3,none⟩ (.int .i64 (wrap64 (ab)))).setCell ⟨B,4,none⟩ (.bool false)).setCell ⟨B,5,none⟩ (.int .u64 0)).setCell ⟨B,6,none⟩ (.int .u64 0)).setCell ⟨B,7,none⟩ (.int .i64 0)).setCell ⟨B,8,none⟩ (.int .u8 0)).setCell ⟨B,9,none⟩ (.int .i64 0)).setCell ⟨B,10,none⟩ (.int .i64 0)).setCell ⟨B,11,none⟩ (.int .i64 0)) E ap aq):=⟨by repeat (first|(with_reducible first|exact A.out|apply IsS85.alloc|apply IsS85.drewN|apply IsS85.drew|apply IsS85.set_0|apply IsS85.set_1|refine IsS85.far ?_ L.out _|refine IsS85.far ?_ O.out _)|exact A.out)⟩;have aa:Aside0 (Below w.heap.size w ((((((((((((ah.setCell ⟨B,0,none⟩ (.int .u8 (bt a0 0))).setCell ⟨B,1,none⟩ (.int .i64 af)).setCell ⟨B,2,none⟩ (.int .u64 ae)).setCell ⟨B,3,none⟩ (.int .i64 (wrap64 (ab)))).setCell ⟨B,4,none⟩ (.bool false)).setCell ⟨B,5,none⟩ (.int .u64 0)).setCell ⟨B,6,none⟩ (.int .u64 0)).setCell ⟨B,7,none⟩ (.int .i64 0)).setCell ⟨B,8,none⟩ (.int .u8 0)).setCell ⟨B,9,none⟩ (.int .i64 0)).setCell ⟨B,10,none⟩ (.int .i64 0)).setCell ⟨B,11,none⟩ (.int .i64 0))):=⟨bw3 HB.out (IsS85.ge A.out) F.out M.out⟩
        (try clear C)
        (try clear D)
        (try clear A)
        (try clear HB)
        generalize ((((((((((((ah.setCell ⟨B,0,none⟩ (.int .u8 (bt a0 0))).setCell ⟨B,1,none⟩ (.int .i64 af)).setCell ⟨B,2,none⟩ (.int .u64 ae)).setCell ⟨B,3,none⟩ (.int .i64 (wrap64 (ab)))).setCell ⟨B,4,none⟩ (.bool false)).setCell ⟨B,5,none⟩ (.int .u64 0)).setCell ⟨B,6,none⟩ (.int .u64 0)).setCell ⟨B,7,none⟩ (.int .i64 0)).setCell ⟨B,8,none⟩ (.int .u8 0)).setCell ⟨B,9,none⟩ (.int .i64 0)).setCell ⟨B,10,none⟩ (.int .i64 0)).setCell ⟨B,11,none⟩ (.int .i64 0))=w52 at U V X aa ⊢;have C:=U;have D:=V;have A:=X;have HB:=aa;clear U V X aa;replace C:=Ax (blk_drew C.out);replace D:=Ax (blk_drew D.out);replace A:=Ax (IsS85.drew A.out);replace HB:=Ax (below_drew1 HB.out);refine start_ (n:=12) (S:=fun w'=>True) (ds:= []) #[Y,Y,Y,Y,Y,Y,Y,Y,Y,Y,Y,Y] (by kernel_rfl) rfl rfl trivial (fun ag=>?_);refine with_tabW msg_Get.tab11 msg_Get.bits11 (fun I bM=>?_);generalize w52.drew=w53 at C D A HB ag ⊢;refine pz 0 47 #[Z,Y,Y,Y,Y,Y,Y,Y,Y,Y,Y,Y] I.out ?_
        refine pz 1 48 #[Z,Z,Y,Y,Y,Y,Y,Y,Y,Y,Y,Y] I.out ?_
        refine pz 2 49 #[Z,Z,Z,Y,Y,Y,Y,Y,Y,Y,Y,Y] I.out ?_
        refine pz 4 51 #[Z,Z,Z,Y,Z,Y,Y,Y,Y,Y,Y,Y] I.out ?_
        refine pz 5 52 #[Z,Z,Z,Y,Z,Z,Y,Y,Y,Y,Y,Y] I.out ?_
        refine pz 6 53 #[Z,Z,Z,Y,Z,Z,Z,Y,Y,Y,Y,Y] I.out ?_
        refine one_ (i:=3) (N:=some 50) #[Z,Z,Z,Z,Z,Z,Z,Y,Y,Y,Y,Y] rfl rfl (one_of I.out (by kernel_rfl)) (by decide) (fun K hK=>?_);refine goes_ Try.func33 (by kernel_rfl) rfl #[.pointer (some ⟨E,0,none⟩),.int .i64 65536] (by rfl) rfl rfl gS ?_;with_reducible refine (num_Reader_Many.calls85 k E ap aq 65536 dM dN dO w _ ?side1 ?side2 eK.out).mono ?_
        (case side1=>repeat (first|(with_reducible first|exact A.out|apply IsS85.alloc|apply IsS85.drewN|apply IsS85.drew|apply IsS85.set_0|apply IsS85.set_1|refine IsS85.far ?_ L.out _|refine IsS85.far ?_ O.out _)|exact A.out))
        (case side2=>repeat (first|(with_reducible first|exact HB.out|apply below_alloc|apply pw_below_drewN|apply below_drew1|refine below_set ?_ (IsS85.ge A.out)|refine below_set ?_ F.out|refine below_set ?_ M.out)|exact HB.out))
        rintro e iG ⟨rfl,hi,hb,hk⟩
        refine⟨_,rfl,?_⟩;replace C:=Ax (KeepBut.blk hk (g':=T) (o:=.cells #[.int .u8 0,.int .i64 0,.int .u64 0,.int .i64 0,.bool false,.int .u64 0,.int .u64 0,.int .i64 0,.int .u8 0,.int .i64 0,.int .i64 0,.int .i64 0] 35 (0,0)) (bf0 C.out) am.out (by simp));replace D:=Ax (KeepBut.blk hk (g':=B) (o:=.cells #[.int .u8 (bt a0 0),.int .i64 af,.int .u64 ae,.int .i64 (wrap64 (ab)),.bool false,.int .u64 0,.int .u64 0,.int .i64 0,.int .u8 0,.int .i64 0,.int .i64 0,.int .i64 0] 35 (0,0)) (bf0 D.out) ac.out (by simp));replace HB:=Ax (hb);replace A:=Ax (hi)
        (try clear hb)
        (try clear hb2)
        (try clear hk)
        (try clear hi)
        refine hK.out _ _ trivial (fun ag=>?_);clear hK K;refine norm_ (a':=?_) ?_ ?_;rotate_left
        ·show Act.put _ (some 50) _=_
         simp only[sP];rfl
        refine pz 8 55 #[Z,Z,Z,Z,Z,Z,Z,Y,Z,Y,Y,Y] I.out ?_
        refine one_ (i:=7) (N:=some 54) #[Z,Z,Z,Z,Z,Z,Z,Z,Z,Y,Y,Y] rfl rfl (one_of I.out (by kernel_rfl)) (by decide) (fun K hK=>?_);refine goes_ Try.func33 (by kernel_rfl) rfl #[.pointer (some ⟨E,0,none⟩),.int .i64 1048576] (by rfl) rfl rfl gS ?_;with_reducible refine (num_Reader_Many.calls85 k E dN dO 1048576 dQ dR dS w _ ?side1 ?side2 eL.out).mono ?_
        (case side1=>repeat (first|(with_reducible first|exact A.out|apply IsS85.alloc|apply IsS85.drewN|apply IsS85.drew|apply IsS85.set_0|apply IsS85.set_1|refine IsS85.far ?_ L.out _|refine IsS85.far ?_ O.out _)|exact A.out))
        (case side2=>repeat (first|(with_reducible first|exact HB.out|apply below_alloc|apply pw_below_drewN|apply below_drew1|refine below_set ?_ (IsS85.ge A.out)|refine below_set ?_ F.out|refine below_set ?_ M.out)|exact HB.out))
        rintro e dV ⟨rfl,hi,hb,hk⟩
        refine⟨_,rfl,?_⟩;replace C:=Ax (KeepBut.blk hk (g':=T) (o:=.cells #[.int .u8 0,.int .i64 0,.int .u64 0,.int .i64 0,.bool false,.int .u64 0,.int .u64 0,.int .i64 0,.int .u8 0,.int .i64 0,.int .i64 0,.int .i64 0] 35 (0,0)) (bf0 C.out) am.out (by simp));replace D:=Ax (KeepBut.blk hk (g':=B) (o:=.cells #[.int .u8 (bt a0 0),.int .i64 af,.int .u64 ae,.int .i64 (wrap64 (ab)),.bool false,.int .u64 0,.int .u64 0,.int .i64 0,.int .u8 0,.int .i64 0,.int .i64 0,.int .i64 0] 35 (0,0)) (bf0 D.out) ac.out (by simp));replace HB:=Ax (hb);replace A:=Ax (hi)
        (try clear hb)
        (try clear hb2)
        (try clear hk)
        (try clear hi)
        refine hK.out _ _ trivial (fun ag=>?_);clear hK K;refine norm_ (a':=?_) ?_ ?_;rotate_left
        ·show Act.put _ (some 54) _=_
         simp only[sP];rfl
        refine one_ (i:=9) (N:=none) #[Z,Z,Z,Z,Z,Z,Z,Z,Z,Z,Y,Y] rfl rfl (one_of I.out (by kernel_rfl)) (by decide) (fun K hK=>?_);have iH:dV.cell? ⟨B,10,none⟩=some (.int .i64 0):=(blk_cell D.out 10).trans rfl;have iI:=blk_frozen D.out 10;have iJ:=G.out;have iK:=R.out;refine skip_ (w1:=?_) (by rfl) rfl ?_ ?_;rotate_left;·go_simp;rfl
        refine hK.out _ _ trivial (fun ag=>?_);clear hK K;refine pz 10 56 #[Z,Z,Z,Z,Z,Z,Z,Z,Z,Z,Z,Y] I.out ?_
        refine one_ (i:=11) (N:=none) #[Z,Z,Z,Z,Z,Z,Z,Z,Z,Z,Z,Z] rfl rfl (one_of I.out (by kernel_rfl)) (by decide) (fun K hK=>?_);have iL:dV.cell? ⟨B,11,none⟩=some (.int .i64 0):=(blk_cell D.out 11).trans rfl;have iM:=blk_frozen D.out 11;have iN:=G.out;have iO:=R.out;refine skip_ (w1:=?_) (by rfl) rfl ?_ ?_;rotate_left;·go_simp;rfl
        refine hK.out _ _ trivial (fun ag=>?_);clear hK K;refine done_ (done_of I.out (by kernel_rfl)) ?_;try go_wp2
        go_meet
        case rel=>exact⟨_,(dR),(dS),(false),(0),(0),(0),(0),(0),(dM),(dQ),H',⟨by first|omega|exact Nat.le_refl _⟩,⟨bf2 C.out G.out G.out⟩,⟨gB D.out⟩,⟨by repeat (first|(with_reducible first|exact A.out|apply IsS85.alloc|apply IsS85.drewN|apply IsS85.drew|apply IsS85.set_0|apply IsS85.set_1|refine IsS85.far ?_ L.out _|refine IsS85.far ?_ O.out _)|exact A.out)⟩,⟨bw3 HB.out (IsS85.ge A.out) F.out M.out⟩⟩
       ·rw [if_neg aE]at H;have bB:((bt a0 0)==5)=false:=beq_eq_false_iff_ne.mpr aE;have bC:((bt a0 0) !=5)=true:=bne_iff_ne.mpr aE;by_cases aG:(bt a0 0)=6
        ·rw [if_pos aG]at H;have bD:((bt a0 0)==6)=true:=beq_iff_eq.mpr aG;have bE:((bt a0 0) !=6)=false:=bne_eq_false_iff_eq.mpr aG;clear aG;replace H:=bI H;obtain⟨⟨dW,dX,dY⟩,dZ,H⟩:=H;dsimp only at H;have eM:=Ax dZ;clear dZ;have H':=Ax H;clear H;go_wp2_with (first|((with_reducible refine gate_callee (f:=33) rfl ?_);refine goesL_ (some 62) rfl rfl Try.func33 (by kernel_rfl) rfl #[.pointer (some ⟨E,0,none⟩),.int .i64 65536] rfl gS ?_;(with_reducible refine (num_Reader_Many.calls85 k E ap aq 65536 dW dX dY w _ ?side1 ?side2 eM.out).mono ?_);(case side1=>repeat (first|(with_reducible first|exact A.out|apply IsS85.alloc|apply IsS85.drewN|apply IsS85.drew|apply IsS85.set_0|apply IsS85.set_1|refine IsS85.far ?_ L.out _|refine IsS85.far ?_ O.out _)|exact A.out));(case side2=>repeat (first|(with_reducible first|exact HB.out|apply below_alloc|apply pw_below_drewN|apply below_drew1|refine below_set ?_ (IsS85.ge A.out)|refine below_set ?_ F.out|refine below_set ?_ M.out)|exact HB.out));rintro e iP ⟨rfl,hi,hb,hk⟩;refine⟨_,rfl,?_⟩;have U:=Ax (KeepBut.blk hk (g':=T) (o:=.cells #[.int .u8 0,.int .i64 0,.int .u64 0,.int .i64 0,.bool false,.int .u64 0,.int .u64 0,.int .i64 0,.int .u8 0,.int .i64 0,.int .i64 0,.int .i64 0] 35 (0,0)) (by (repeat (first|(with_reducible first|refine blk_drewN ?_ _|refine blk_drew ?_|refine blk_alloc ?_ _)|refine blk_far ?_ G.out _));exact C.out) am.out (by simp));have V:=Ax (KeepBut.blk hk (g':=B) (o:=.cells #[.int .u8 (bt a0 0),.int .i64 af,.int .u64 ae,.int .i64 (wrap64 (ab)),.bool false,.int .u64 0,.int .u64 0,.int .i64 0,.int .u8 0,.int .i64 0,.int .i64 0,.int .i64 0] 35 (0,0)) (gB D.out) ac.out (by simp));have X:=Ax (hb);have aa:=Ax (hi);clear C;clear D;clear HB;clear A;have C:=U;have D:=V;have HB:=X;have A:=aa;clear U V X aa;(try clear hb);(try clear hb2);(try clear hk);(try clear hi);have iQ:=R.out;have iR:=G.out;have iS:=ac.out;have iT:=O.out;obtain⟨e7,e8,e9,ea,eb,ec,ed,ee,ef,eg,eh,ei,ej,ek,el,en,eo,ep,eq,er,es,et,eu,ev⟩:=cl12 D));go_meet
         case rel=>exact⟨_,(dX),(dY),(false),(0),(0),(0),(0),(0),(dW),(0),H',⟨by first|omega|exact Nat.le_refl _⟩,⟨bf1 C.out G.out⟩,⟨gB D.out⟩,⟨by repeat (first|(with_reducible first|exact A.out|apply IsS85.alloc|apply IsS85.drewN|apply IsS85.drew|apply IsS85.set_0|apply IsS85.set_1|refine IsS85.far ?_ L.out _|refine IsS85.far ?_ O.out _)|exact A.out)⟩,⟨bw3 HB.out (IsS85.ge A.out) F.out M.out⟩⟩
        ·rw [if_neg aG]at H;have bD:((bt a0 0)==6)=false:=beq_eq_false_iff_ne.mpr aG;have bE:((bt a0 0) !=6)=true:=bne_iff_ne.mpr aG;have H':=Ax H;clear H;go_wp2;go_meet
         case rel=>exact⟨_,(ap),(aq),(false),(0),(0),(0),(0),(0),(0),(0),H',⟨by first|omega|exact Nat.le_refl _⟩,⟨by (repeat (first|(with_reducible first|refine blk_drewN ?_ _|refine blk_drew ?_|refine blk_alloc ?_ _)|refine blk_far ?_ G.out _));exact C.out⟩,⟨gB D.out⟩,⟨by repeat (first|(with_reducible first|exact A.out|apply IsS85.alloc|apply IsS85.drewN|apply IsS85.drew|apply IsS85.set_0|apply IsS85.set_1|refine IsS85.far ?_ L.out _|refine IsS85.far ?_ O.out _)|exact A.out)⟩,⟨bw3 HB.out (IsS85.ge A.out) F.out M.out⟩⟩
    case rest=>
     clear bq;(try clear p2);(try clear c3);(try clear c4);(try clear c5);(try clear c6);(try clear p6);(try clear c32);(try clear c33);(try clear c34);(try clear aC);(try clear b9);(try clear bx);(try clear c37);(try clear c40);(try clear c41);(try clear aD);(try clear bz);(try clear bA);(try clear c46);(try clear c47);(try clear aE);(try clear bB);(try clear bC);(try clear aG);(try clear bD);(try clear bE);(try clear c61);(try clear c62);(try clear bZ cd cm cn ce cf cg ch ci cj ck cl);(try clear cO cP cY cZ cQ cR cS cT cU cV cW cX);(try clear dl dm dx dy dn dp dq dr dt du dv dw);(try clear e7 e8 eh ei e9 ea eb ec ed ee ef eg);(try clear co cq cA cB cr ct cu cv cw cx cy cz);(try clear d2 d3 dc dd d4 d5 d6 d7 d8 d9 da db);(try clear dz dA dK dL dB dC dD dE dG dH dI dJ);(try clear ej ek eu ev el en eo ep eq er es et);obtain⟨kq,aI,aJ,aK,aM,aN,aQ,aR,aT,aU,aV,HA,bF,C,D,A,HB⟩:=hcut;cases kq with
     |zero=>exact absurd HA.out (by simp [msg_Get.j0])
     |succ kj10=>
      have H:=HA.out;clear HA;simp only[msg_Get.j0]at H;have bG:=Ax H;clear H;go_upto_region 14 with (fail)
      go_cut [82] (fun eN wc=> ∃ (kq:Nat) (bk:Bool),eN= .bool bk∧Aside0 (msg_Get.j1 kq bk (bt a0 0) af ae (wrap64 (ab)) aK aM aN aQ aR aT aU aV=some (r1,r2,r3,r4,r5,r6,r7,r8,r9,aZ,b2,b3,b4))∧Aside0 (kq≤kj10)∧Aside0 (wc.heap[T]? =some (.cells #[.int .u8 0,.int .i64 0,.int .u64 0,.int .i64 0,.bool false,.int .u64 0,.int .u64 0,.int .i64 0,.int .u8 0,.int .i64 0,.int .i64 0,.int .i64 0] 35 (0,0)))∧Aside0 (wc.heap[B]? =some (.cells #[.int .u8 (bt a0 0),.int .i64 af,.int .u64 ae,.int .i64 (wrap64 (ab)),.bool aK,.int .u64 aM,.int .u64 aN,.int .i64 aQ,.int .u8 aR,.int .i64 aT,.int .i64 aU,.int .i64 aV] 35 (0,0)))∧Aside0 (Below w.heap.size w wc))
      case first=>
       have H:=bG.out;clear bG;by_cases aW:aJ=0
       ·rw [if_pos aW]at H;have bc:(aJ==0)=true:=beq_iff_eq.mpr aW;have ex:(aJ !=0)=false:=bne_eq_false_iff_eq.mpr aW;clear aW
        (first|rw [bc]|(simp only[i64_w,i32_w];rw [bc])|skip)
        by_cases aY:aI.toList=([]:List UInt8)
        ·rw [if_pos aY]at H;have ey:(aI.toList==([]:List UInt8))=true:=beq_iff_eq.mpr aY;have ez:(aI.toList !=([]:List UInt8))=false:=bne_eq_false_iff_eq.mpr aY;clear aY;replace H:=bI H;obtain⟨eA,eB,H⟩:=H;(try dsimp only at H);have eO:=Ax eB;clear eB;have H':=Ax H;clear H;obtain⟨bd,eP⟩:=A.out;have eQ:=cellS85_0 bd;have eR:=cellS85_1 bd;have eT:=blk_frozen bd 0;have eU:=blk_frozen bd 1;clear bd eP;have iU:=R.out;have iV:=G.out;have iW:=ac.out;have iX:=O.out;obtain⟨eV,eW,eX,eY,eZ,fb,fc,fd,fe,fg,fh,fi,fj,fk,fl,fm,fo,fp,fq,ft,fu,fv,fw,fx⟩:=cl12 D;go_wp2_with (first|(go_at_call 39;(with_reducible refine (msg_Check.calls kj10 (bt a0 0) af ae (wrap64 (ab)) aK aM aN aQ aR aT aU aV eA _ eO.out).mono ?_);rintro e iY ⟨rfl,hb⟩;replace C:=Bx0 C hb;replace D:=Bx0 D hb;replace HB:=Bs3 HB hb (IsS85.ge A.out) F.out M.out;replace A:=Ax (IsS85.below (by repeat (first|(with_reducible first|exact A.out|apply IsS85.alloc|apply IsS85.drewN|apply IsS85.drew|apply IsS85.set_0|apply IsS85.set_1|refine IsS85.far ?_ L.out _|refine IsS85.far ?_ O.out _)|exact A.out)) hb);(try clear hb);(try clear hb2);(try clear hk);(try clear hi)));go_meet
         case rel=>exact⟨_,((eA !=0)),rS,H',⟨by have:=bF.out;first|omega|exact Nat.le_refl _⟩,⟨bf0 C.out⟩,⟨bf0 D.out⟩,⟨bw3 HB.out (IsS85.ge A.out) F.out M.out⟩⟩
        ·rw [if_neg aY]at H;have ey:(aI.toList==([]:List UInt8))=false:=beq_eq_false_iff_ne.mpr aY;have ez:(aI.toList !=([]:List UInt8))=true:=bne_iff_ne.mpr aY;have H':=Ax H;clear H;obtain⟨bf,fy⟩:=A.out;have fz:=cellS85_0 bf;have fA:=cellS85_1 bf;have fB:=blk_frozen bf 0;have fC:=blk_frozen bf 1;clear bf fy;go_wp2;go_meet
         case rel=>exact⟨_,(true),rS,H',⟨by have:=bF.out;first|omega|exact Nat.le_refl _⟩,⟨bf0 C.out⟩,⟨bf0 D.out⟩,⟨bw3 HB.out (IsS85.ge A.out) F.out M.out⟩⟩
       ·rw [if_neg aW]at H;have bc:(aJ==0)=false:=beq_eq_false_iff_ne.mpr aW;have ex:(aJ !=0)=true:=bne_iff_ne.mpr aW
        (first|rw [bc]|(simp only[i64_w,i32_w];rw [bc])|skip)
        have H':=Ax H;clear H;obtain⟨bg,fD⟩:=A.out;have fE:=cellS85_0 bg;have fF:=cellS85_1 bg;have fG:=blk_frozen bg 0;have fH:=blk_frozen bg 1;clear bg fD;go_wp2;go_meet
        case rel=>exact⟨_,(true),rS,H',⟨by have:=bF.out;first|omega|exact Nat.le_refl _⟩,⟨bf0 C.out⟩,⟨bf0 D.out⟩,⟨bw3 HB.out (IsS85.ge A.out) F.out M.out⟩⟩
      case rest=>
       clear bG;(try clear p2 p2);(try clear c3);(try clear c4);(try clear c5);(try clear c6);(try clear p6 p6);(try clear c7);(try clear c32);(try clear c33);(try clear c34);(try clear aC);(try clear b9);(try clear bx);(try clear c37);(try clear c40);(try clear c41);(try clear aD);(try clear bz);(try clear bA);(try clear c46);(try clear c47);(try clear aE);(try clear bB);(try clear bC);(try clear aG);(try clear bD);(try clear bE);(try clear c61);(try clear c62);(try clear p64);(try clear aW);(try clear bc);(try clear ex);(try clear aY);(try clear ey);(try clear ez);(try clear c69);(try clear c70);(try clear bZ cd cm cn ce cf cg ch ci cj ck cl);(try clear cO cP cY cZ cQ cR cS cT cU cV cW cX);(try clear dl dm dx dy dn dp dq dr dt du dv dw);(try clear e7 e8 eh ei e9 ea eb ec ed ee ef eg);(try clear eQ eR);(try clear eV eW fh fi eX eY eZ fb fc fd fe fg);(try clear fz fA);(try clear fE fF);(try clear co cq cA cB cr ct cu cv cw cx cy cz);(try clear d2 d3 dc dd d4 d5 d6 d7 d8 d9 da db);(try clear dz dA dK dL dB dC dD dE dG dH dI dJ);(try clear ej ek eu ev el en eo ep eq er es et);(try clear eT eU);(try clear fj fk fw fx fl fm fo fp fq ft fu fv);(try clear fB fC);(try clear fG fH);obtain⟨kq,bk,rfl,HA,iZ,C,D,HB⟩:=hcut;cases kq with
       |zero=>exact absurd HA.out (by simp [msg_Get.j1])
       |succ kj63=>
        have H:=HA.out;clear HA;simp only[msg_Get.j1]at H;by_cases bl:bk=true
        ·subst bl;have H1:(some (0,0,0,0,false,0,0,0,0,0,0,0,7))=some (r1,r2,r3,r4,r5,r6,r7,r8,r9,aZ,b2,b3,b4):=by rw [if_pos rfl]at H;exact H
         clear H;have H:=H1;clear H1;simp only[Option.some.injEq,Prod.mk.injEq]at H;obtain⟨rfl,rfl,rfl,rfl,rfl,rfl,rfl,rfl,rfl,rfl,rfl,rfl,rfl⟩:=H;have j7:=G.out;have j8:=R.out;obtain⟨j9,ja,jb,jc,jd,je,jf,jg,jh,ji,jj,jk,jl,jm,jn,jo,jp,jq,jr,js,jt,ju,jv,jw⟩:=cl12 C;go_wp2;refine bodyPost_ret (results_ct rfl _ _ T 35 #[.int .u8 0,.int .i64 0,.int .u64 0,.int .i64 0,.bool false,.int .u64 0,.int .u64 0,.int .i64 0,.int .u8 0,.int .i64 0,.int .i64 0,.int .i64 0] (0,0) _ rfl (gB C.out) Try.underlying35 rfl (by kernel_rfl)) rfl ?_;exact⟨eS,bw2 HB.out F.out M.out⟩
        ·replace bl:=Bool.eq_false_iff.mpr bl;subst bl;have H1:(some ((bt a0 0),af,ae,(wrap64 (ab)),aK,aM,aN,aQ,aR,aT,aU,aV,0))=some (r1,r2,r3,r4,r5,r6,r7,r8,r9,aZ,b2,b3,b4):=by rw [if_neg (show ¬ (false=true) by decide)]at H;exact H
         clear H;have H:=H1;clear H1;simp only[Option.some.injEq,Prod.mk.injEq]at H;obtain⟨rfl,rfl,rfl,rfl,rfl,rfl,rfl,rfl,rfl,rfl,rfl,rfl,rfl⟩:=H;have jx:=R.out;have jy:=G.out;obtain⟨jz,jA,jB,jC,jD,jE,jF,jG,jH,jI,jJ,jK,jL,jM,jN,jO,jP,jQ,jR,jS,jT,jU,jV,jW⟩:=cl12 D;obtain⟨jX,jY,jZ,k3,k4,k5,k6,k7,k8,k9,ka,kb,kc,ke,kf,kg,kh,ki,kj,kk,kl,km,kn,ko⟩:=cl12 C;go_wp2;refine bodyPost_ret (results_ct rfl _ _ T 35 #[.int .u8 (bt a0 0),.int .i64 af,.int .u64 ae,.int .i64 (wrap64 (ab)),.bool aK,.int .u64 aM,.int .u64 aN,.int .i64 aQ,.int .u8 aR,.int .i64 aT,.int .i64 aU,.int .i64 aV] (0,0) _ rfl (gB C.out) Try.underlying35 rfl (by kernel_rfl)) rfl ?_;exact⟨eS,bw2 HB.out F.out M.out⟩
   ·rw [if_neg c6]at H;exact absurd H (by simp)
  ·rw [if_neg c5]at H;exact absurd H (by simp)
def gram_Of.j0 : Nat → Bool → Int → ByteArray → Option (Int × Int × Int × Int × Bool × Int × Int × Int × Int × Int × Int × Int × Int × Int)
 | 0, _, _, _ => none
 | k + 1, x21, x187000, x187001 => if x21 = true then (some (0, 0, 0, 0, false, 0, 0, 0, 0, 0, 0, 0, 7, 0)) else (if x187000 = 3 then (if x187001.toList = ([] : List UInt8) then (some (0, 0, 0, 0, false, 0, 0, 0, 0, 0, 0, 0, 11, 0)) else (some (0, 0, 0, 0, false, 0, 0, 0, 0, 0, 0, 0, 0, 2))) else (some (0, 0, 0, 0, false, 0, 0, 0, 0, 0, 0, 0, 0, 2)))
def gram_Of.f (k:Nat) (B:Int) (C:ByteArray):Option (Int × Int × Int × Int × Bool × Int × Int × Int × Int × Int × Int × Int × Int × Int):=if B=1 then ((msg_Get.f k C).bind fun A=>(if A.2.2.2.2.2.2.2.2.2.2.2.2=0 then (some (A.1,A.2.1,A.2.2.1,A.2.2.2.1,A.2.2.2.2.1,A.2.2.2.2.2.1,A.2.2.2.2.2.2.1,A.2.2.2.2.2.2.2.1,A.2.2.2.2.2.2.2.2.1,A.2.2.2.2.2.2.2.2.2.1,A.2.2.2.2.2.2.2.2.2.2.1,A.2.2.2.2.2.2.2.2.2.2.2.1,0,0)) else (some (0,0,0,0,false,0,0,0,0,0,0,0,2,0)))) else (if B=2 then (gram_Of.j0 k (C.toList==([]:List UInt8)) B C) else (gram_Of.j0 k false B C))
theorem gram_Of.mono_l: ∀ k,(∀ y0 y1 y2,LeO (gram_Of.j0 k y0 y1 y2) (gram_Of.j0 (k+1) y0 y1 y2))
 |0=>fun _ _ _ r h=>by simp [gram_Of.j0]at h
 |k+1=>by
  have A:=gram_Of.mono_l k
  ·intro y0 y1 y2;unfold gram_Of.j0
   repeat' first
   |(with_reducible exact A _ _ _)
   |(with_reducible exact msg_Get.mono _ _)
   |(with_reducible exact LeO.refl _)
   |(with_reducible exact LeO.none _)
   |(with_reducible refine LeO.ite ?_ ?_)
   |(with_reducible refine LeO.bind ?_ (fun _=>?_))
   |exact A _ _ _
   |exact msg_Get.mono _ _
   |exact LeO.none _
   |refine LeO.ite ?_ ?_
   |refine LeO.bind ?_ (fun _=>?_)
theorem gram_Of.mono: ∀ a0 a1 k,LeO (gram_Of.f k a0 a1) (gram_Of.f (k+1) a0 a1):=by
 intro a0 a1 k;have A:=gram_Of.mono_l k;unfold gram_Of.f
 repeat' first
   | (with_reducible exact A _ _ _)
   | (with_reducible exact msg_Get.mono _ _)
   | (with_reducible exact LeO.refl _)
   | (with_reducible exact LeO.none _)
   | (with_reducible refine LeO.ite ?_ ?_)
   | (with_reducible refine LeO.bind ?_ (fun _ => ?_))
   | exact A _ _ _
   | exact msg_Get.mono _ _
   | exact LeO.none _
   | refine LeO.ite ?_ ?_
   | refine LeO.bind ?_ (fun _ => ?_)
end Go.Proofs.Ythkdfojmhloofaa.Q
end
section
namespace Go.Proofs.Ythkdfojmhloofaa.Q
open Go.RowKit Go.Proofs.YthkdfojmhloofaaW.PrintWords Go.Proofs.YthkdfojmhloofaaW.PrintLast Go.Proofs.YthkdfojmhloofaaW.PrintMore
attribute [local go_sem] max2_int min2_int max_two min_two max_three min_three max_four min_four   -- for this text's walks alone
set_option linter.unusedVariables false
set_option linter.unusedSimpArgs false
theorem eqA24 (d:Nat) (w:World) (x0 y0:Int) (x1 y1:ByteArray):
    (Op.equalIn (d+2) 24 (.agg #[.int .u8 x0,.string x1]) (.agg #[.int .u8 y0,.string y1])).run Try.prog w= .ok (x0==y0&&(x1.toList==y1.toList)) w:=by
  refine eqA_of Try.underlying24 (by kernel_rfl) ?_;refine eqf_cons (by rfl) (by go_simp;rfl) (by go_simp;rfl) (by go_simp) ?_;exact eqf_last (by rfl) (by go_simp;rfl) (by go_simp;rfl) (by go_simp)
end Go.Proofs.Ythkdfojmhloofaa.Q
end
section
namespace Go.Proofs.Ythkdfojmhloofaa.Q
open Go.RowKit Go.Proofs.YthkdfojmhloofaaW.PrintWords Go.Proofs.YthkdfojmhloofaaW.PrintLast Go.Proofs.YthkdfojmhloofaaW.PrintMore
attribute [local go_sem] max2_int min2_int max_two min_two max_three min_three max_four min_four   -- for this text's walks alone
set_option linter.unusedVariables false
set_option linter.unusedSimpArgs false
attribute [local go_sem high] eqA24 eqA38
set_option maxHeartbeats 8000000 in
set_option maxRecDepth 100000 in
theorem gram_Of.calls (k:Nat) (C:Int) (F:ByteArray) (r1:Int) (r2:Int) (r3:Int) (r4:Int) (r5:Bool) (r6:Int) (r7:Int) (r8:Int) (r9:Int) (al:Int) (am:Int) (ap:Int) (aq:Int) (ar:Int) (w:World) (h:gram_Of.f k C F=some (r1,r2,r3,r4,r5,r6,r7,r8,r9,al,am,ap,aq,ar)):
  Calls Try.prog 8 #[.agg #[.int .u8 C,.string F]] w fun e w'=>e= .returned (.tuple #[.agg #[.int .u8 r1,.int .i64 r2,.int .u64 r3,.int .i64 r4,.bool r5,.int .u64 r6,.int .u64 r7,.int .i64 r8,.int .u8 r9,.int .i64 al,.int .i64 am,.int .i64 ap,.int .i64 aq],.int .i64 ar])∧Below w.heap.size w w':=by
 have dt:=Try.underlying24;have du:=Try.underlying38;have dv:=Try.underlying35;have HB:=Ax (Below.refl w.heap.size w);have H:(if C=1 then ((msg_Get.f k F).bind fun M=>(if M.2.2.2.2.2.2.2.2.2.2.2.2=0 then (some (M.1,M.2.1,M.2.2.1,M.2.2.2.1,M.2.2.2.2.1,M.2.2.2.2.2.1,M.2.2.2.2.2.2.1,M.2.2.2.2.2.2.2.1,M.2.2.2.2.2.2.2.2.1,M.2.2.2.2.2.2.2.2.2.1,M.2.2.2.2.2.2.2.2.2.2.1,M.2.2.2.2.2.2.2.2.2.2.2.1,0,0)) else (some (0,0,0,0,false,0,0,0,0,0,0,0,2,0)))) else (if C=2 then (gram_Of.j0 k (F.toList==([]:List UInt8)) C F) else (gram_Of.j0 k false C F)))=some (r1,r2,r3,r4,r5,r6,r7,r8,r9,al,am,ap,aq,ar):=h;clear h;by_cases c2:C=1
 ·rw [if_pos c2]at H;have aK:(C==1)=true:=beq_iff_eq.mpr c2;have aM:(C !=1)=false:=bne_eq_false_iff_eq.mpr c2;clear c2;replace H:=bI H;obtain⟨⟨I,L,O,R,T,X,aa,ac,af,au,aw,ay,ag⟩,aN,H⟩:=H;dsimp only at H;have A3:=Ax aN;clear aN;by_cases c4:ag=0;·rw [if_pos c4]at H;have aQ:(ag==0)=true:=beq_iff_eq.mpr c4;have aR:(ag !=0)=false:=bne_eq_false_iff_eq.mpr c4;clear c4;simp only[Option.some.injEq,Prod.mk.injEq]at H;obtain⟨rfl,rfl,rfl,rfl,rfl,rfl,rfl,rfl,rfl,rfl,rfl,rfl,rfl,rfl⟩:=H;go_enter Try.func8,Try.ntmps8;go_wp2_with (first|((with_reducible refine gate_dst (N:=1) rfl ?_);refine bX (N:=1) (cs:= #[.int .u8 C,.string F]) (t:=24) ?_;intro aC hg w5 E hb;have A:=Ax (E);have aT:=Gw0 HB hg;have D:=Gw0 HB hg;replace HB:=Bs0 HB hb;clear hb E hg)|((with_reducible refine gate_dst (N:=2) rfl ?_);refine bX (N:=2) (cs:= #[.int .u8 0,.int .i64 0,.int .u64 0,.int .i64 0,.bool false,.int .u64 0,.int .u64 0,.int .i64 0,.int .u8 0,.int .i64 0,.int .i64 0,.int .i64 0,.int .i64 0]) (t:=38) ?_;intro ab hg w6 E hb;have B:=Ax (E);have aU:=Gw1 HB hg D.out;have G:=Gw1 HB hg D.out;replace HB:=Bs1 HB hb D.out;have U:=Nl0 A hg;have V:=Nr0 A hg;replace A:=Bx0 A hb;clear hb E hg;have dw:=U.out;have dx:=V.out;obtain⟨aW,aY,aZ,b2⟩:=cl2 A)|((with_reducible refine gate_callee (f:=20) rfl ?_);refine goesL_ (some 13) rfl rfl Try.func20 (by kernel_rfl) rfl #[.string F] rfl gS ?_;(with_reducible refine (msg_Get.calls k F I L O R T X aa ac af au aw ay ag _ A3.out).mono ?_);rintro e w9 ⟨rfl,hb⟩;refine⟨_,rfl,?_⟩;replace A:=Bx0 A hb;replace B:=Bx0 B hb;replace HB:=Bs2 HB hb D.out G.out;(try clear hb))|((with_reducible refine gate_dst (N:=4) rfl ?_);refine bX (N:=4) (cs:= #[.int .u8 0,.int .i64 0,.int .u64 0,.int .i64 0,.bool false,.int .u64 0,.int .u64 0,.int .i64 0,.int .u8 0,.int .i64 0,.int .i64 0,.int .i64 0]) (t:=35) ?_;intro b3 hg dy E hb;have aD:=Ax (E);have b4:=Gw2 HB hg D.out G.out;have aE:=Gw2 HB hg D.out G.out;replace HB:=Bs2 HB hb D.out G.out;have aG:=Nl0 A hg;have aH:=Nr0 A hg;replace A:=Bx0 A hb;have ax:=Nl0 B hg;have aI:=Nr0 B hg;replace B:=Bx0 B hb;clear hb E hg;have dz:=aH.out;have dA:=aG.out;have dB:=aI.out;have dC:=ax.out;obtain⟨b5,b6,b7,b8,b9,ba,bb,bc,bd,bf,bg,bh,bi,bj,bk,bl,bm,bn,bo,bq,br,bu,bv,bx⟩:=cl12 aD;obtain⟨bz,bA,bB,bC,bD,bE,bF,bG,bH,bJ,bK,bL,bM,bN,bO,bP,bQ,bR,bS,bT,bU,bV,bW,bY,bZ,cd⟩:=cl13 B));refine bodyPost_ret (results_ct rfl _ _ ab 38 #[.int .u8 I,.int .i64 L,.int .u64 O,.int .i64 R,.bool T,.int .u64 X,.int .u64 aa,.int .i64 ac,.int .u8 af,.int .i64 au,.int .i64 aw,.int .i64 ay,.int .i64 0] (0,0) _ rfl (by (with_reducible repeat (first|refine blk_drewN ?_ _|refine blk_drew ?_|refine blk_alloc ?_ _));refine blk_put (cs:= #[.int .u8 I,.int .i64 L,.int .u64 O,.int .i64 R,.bool T,.int .u64 X,.int .u64 aa,.int .i64 ac,.int .u8 af,.int .i64 au,.int .i64 aw,.int .i64 ay,.int .i64 0]) ?_ 12 _ rfl;(with_reducible repeat (first|refine blk_drewN ?_ _|refine blk_drew ?_|refine blk_alloc ?_ _));refine blk_put (cs:= #[.int .u8 I,.int .i64 L,.int .u64 O,.int .i64 R,.bool T,.int .u64 X,.int .u64 aa,.int .i64 ac,.int .u8 af,.int .i64 au,.int .i64 aw,.int .i64 0,.int .i64 0]) ?_ 11 _ rfl;(with_reducible repeat (first|refine blk_drewN ?_ _|refine blk_drew ?_|refine blk_alloc ?_ _));refine blk_put (cs:= #[.int .u8 I,.int .i64 L,.int .u64 O,.int .i64 R,.bool T,.int .u64 X,.int .u64 aa,.int .i64 ac,.int .u8 af,.int .i64 au,.int .i64 0,.int .i64 0,.int .i64 0]) ?_ 10 _ rfl;(with_reducible repeat (first|refine blk_drewN ?_ _|refine blk_drew ?_|refine blk_alloc ?_ _));refine blk_put (cs:= #[.int .u8 I,.int .i64 L,.int .u64 O,.int .i64 R,.bool T,.int .u64 X,.int .u64 aa,.int .i64 ac,.int .u8 af,.int .i64 0,.int .i64 0,.int .i64 0,.int .i64 0]) ?_ 9 _ rfl;(with_reducible repeat (first|refine blk_drewN ?_ _|refine blk_drew ?_|refine blk_alloc ?_ _));refine blk_put (cs:= #[.int .u8 I,.int .i64 L,.int .u64 O,.int .i64 R,.bool T,.int .u64 X,.int .u64 aa,.int .i64 ac,.int .u8 0,.int .i64 0,.int .i64 0,.int .i64 0,.int .i64 0]) ?_ 8 _ rfl;(with_reducible repeat (first|refine blk_drewN ?_ _|refine blk_drew ?_|refine blk_alloc ?_ _));refine blk_put (cs:= #[.int .u8 I,.int .i64 L,.int .u64 O,.int .i64 R,.bool T,.int .u64 X,.int .u64 aa,.int .i64 0,.int .u8 0,.int .i64 0,.int .i64 0,.int .i64 0,.int .i64 0]) ?_ 7 _ rfl;(with_reducible repeat (first|refine blk_drewN ?_ _|refine blk_drew ?_|refine blk_alloc ?_ _));refine blk_put (cs:= #[.int .u8 I,.int .i64 L,.int .u64 O,.int .i64 R,.bool T,.int .u64 X,.int .u64 0,.int .i64 0,.int .u8 0,.int .i64 0,.int .i64 0,.int .i64 0,.int .i64 0]) ?_ 6 _ rfl;(with_reducible repeat (first|refine blk_drewN ?_ _|refine blk_drew ?_|refine blk_alloc ?_ _));refine blk_put (cs:= #[.int .u8 I,.int .i64 L,.int .u64 O,.int .i64 R,.bool T,.int .u64 0,.int .u64 0,.int .i64 0,.int .u8 0,.int .i64 0,.int .i64 0,.int .i64 0,.int .i64 0]) ?_ 5 _ rfl;(with_reducible repeat (first|refine blk_drewN ?_ _|refine blk_drew ?_|refine blk_alloc ?_ _));refine blk_put (cs:= #[.int .u8 I,.int .i64 L,.int .u64 O,.int .i64 R,.bool false,.int .u64 0,.int .u64 0,.int .i64 0,.int .u8 0,.int .i64 0,.int .i64 0,.int .i64 0,.int .i64 0]) ?_ 4 _ rfl;(with_reducible repeat (first|refine blk_drewN ?_ _|refine blk_drew ?_|refine blk_alloc ?_ _));refine blk_put (cs:= #[.int .u8 I,.int .i64 L,.int .u64 O,.int .i64 0,.bool false,.int .u64 0,.int .u64 0,.int .i64 0,.int .u8 0,.int .i64 0,.int .i64 0,.int .i64 0,.int .i64 0]) ?_ 3 _ rfl;(with_reducible repeat (first|refine blk_drewN ?_ _|refine blk_drew ?_|refine blk_alloc ?_ _));refine blk_put (cs:= #[.int .u8 I,.int .i64 L,.int .u64 0,.int .i64 0,.bool false,.int .u64 0,.int .u64 0,.int .i64 0,.int .u8 0,.int .i64 0,.int .i64 0,.int .i64 0,.int .i64 0]) ?_ 2 _ rfl;(with_reducible repeat (first|refine blk_drewN ?_ _|refine blk_drew ?_|refine blk_alloc ?_ _));refine blk_put (cs:= #[.int .u8 I,.int .i64 0,.int .u64 0,.int .i64 0,.bool false,.int .u64 0,.int .u64 0,.int .i64 0,.int .u8 0,.int .i64 0,.int .i64 0,.int .i64 0,.int .i64 0]) ?_ 1 _ rfl;(with_reducible repeat (first|refine blk_drewN ?_ _|refine blk_drew ?_|refine blk_alloc ?_ _));refine blk_put (cs:= #[.int .u8 0,.int .i64 0,.int .u64 0,.int .i64 0,.bool false,.int .u64 0,.int .u64 0,.int .i64 0,.int .u8 0,.int .i64 0,.int .i64 0,.int .i64 0,.int .i64 0]) ?_ 0 _ rfl;(repeat (first|(with_reducible first|refine blk_drewN ?_ _|refine blk_drew ?_|refine blk_alloc ?_ _)|refine blk_far ?_ ax.out _));exact B.out) Try.underlying38 rfl (by kernel_rfl)) rfl ?_;exact⟨eS,bw3 HB.out D.out G.out aE.out⟩
  ·rw [if_neg c4]at H;have aQ:(ag==0)=false:=beq_eq_false_iff_ne.mpr c4;have aR:(ag !=0)=true:=bne_iff_ne.mpr c4;simp only[Option.some.injEq,Prod.mk.injEq]at H;obtain⟨rfl,rfl,rfl,rfl,rfl,rfl,rfl,rfl,rfl,rfl,rfl,rfl,rfl,rfl⟩:=H;go_enter Try.func8,Try.ntmps8;go_wp2_with (first|((with_reducible refine gate_dst (N:=1) rfl ?_);refine bX (N:=1) (cs:= #[.int .u8 C,.string F]) (t:=24) ?_;intro aC hg dD E hb;have A:=Ax (E);have aT:=Gw0 HB hg;have D:=Gw0 HB hg;replace HB:=Bs0 HB hb;clear hb E hg)|((with_reducible refine gate_dst (N:=2) rfl ?_);refine bX (N:=2) (cs:= #[.int .u8 0,.int .i64 0,.int .u64 0,.int .i64 0,.bool false,.int .u64 0,.int .u64 0,.int .i64 0,.int .u8 0,.int .i64 0,.int .i64 0,.int .i64 0,.int .i64 0]) (t:=38) ?_;intro ab hg dE E hb;have B:=Ax (E);have aU:=Gw1 HB hg D.out;have G:=Gw1 HB hg D.out;replace HB:=Bs1 HB hb D.out;have U:=Nl0 A hg;have V:=Nr0 A hg;replace A:=Bx0 A hb;clear hb E hg;have dG:=U.out;have dH:=V.out;obtain⟨ce,cf,cg,ch⟩:=cl2 A)|((with_reducible refine gate_callee (f:=20) rfl ?_);refine goesL_ (some 13) rfl rfl Try.func20 (by kernel_rfl) rfl #[.string F] rfl gS ?_;(with_reducible refine (msg_Get.calls k F I L O R T X aa ac af au aw ay ag _ A3.out).mono ?_);rintro e dI ⟨rfl,hb⟩;refine⟨_,rfl,?_⟩;replace A:=Bx0 A hb;replace B:=Bx0 B hb;replace HB:=Bs2 HB hb D.out G.out;(try clear hb))|((with_reducible refine gate_dst (N:=4) rfl ?_);refine bX (N:=4) (cs:= #[.int .u8 0,.int .i64 0,.int .u64 0,.int .i64 0,.bool false,.int .u64 0,.int .u64 0,.int .i64 0,.int .u8 0,.int .i64 0,.int .i64 0,.int .i64 0]) (t:=35) ?_;intro b3 hg dJ E hb;have aD:=Ax (E);have b4:=Gw2 HB hg D.out G.out;have aE:=Gw2 HB hg D.out G.out;replace HB:=Bs2 HB hb D.out G.out;have aG:=Nl0 A hg;have aH:=Nr0 A hg;replace A:=Bx0 A hb;have ax:=Nl0 B hg;have aI:=Nr0 B hg;replace B:=Bx0 B hb;clear hb E hg;have dK:=aH.out;have dL:=aG.out;have dM:=aI.out;have dN:=ax.out;obtain⟨ci,cj,ck,cl,cm,cn,co,cq,cr,ct,cu,cv,cw,cx,cy,cz,cA,cB,cC,cD,cE,cF,cG,cH⟩:=cl12 aD;obtain⟨cI,cJ,cK,cL,cM,cN,cO,cP,cQ,cR,cS,cT,cU,cV,cW,cX,cY,cZ,d2,d3,d4,d5,d6,d7,d8,d9⟩:=cl13 B));refine bodyPost_ret (results_ct rfl _ _ ab 38 #[.int .u8 0,.int .i64 0,.int .u64 0,.int .i64 0,.bool false,.int .u64 0,.int .u64 0,.int .i64 0,.int .u8 0,.int .i64 0,.int .i64 0,.int .i64 0,.int .i64 2] (0,0) _ rfl (by (with_reducible repeat (first|refine blk_drewN ?_ _|refine blk_drew ?_|refine blk_alloc ?_ _));refine blk_put (cs:= #[.int .u8 0,.int .i64 0,.int .u64 0,.int .i64 0,.bool false,.int .u64 0,.int .u64 0,.int .i64 0,.int .u8 0,.int .i64 0,.int .i64 0,.int .i64 0,.int .i64 0]) ?_ 12 _ rfl;(with_reducible repeat (first|refine blk_drewN ?_ _|refine blk_drew ?_|refine blk_alloc ?_ _));refine blk_put (cs:= #[.int .u8 0,.int .i64 0,.int .u64 0,.int .i64 0,.bool false,.int .u64 0,.int .u64 0,.int .i64 0,.int .u8 0,.int .i64 0,.int .i64 0,.int .i64 0,.int .i64 0]) ?_ 11 _ rfl;(with_reducible repeat (first|refine blk_drewN ?_ _|refine blk_drew ?_|refine blk_alloc ?_ _));refine blk_put (cs:= #[.int .u8 0,.int .i64 0,.int .u64 0,.int .i64 0,.bool false,.int .u64 0,.int .u64 0,.int .i64 0,.int .u8 0,.int .i64 0,.int .i64 0,.int .i64 0,.int .i64 0]) ?_ 10 _ rfl;(with_reducible repeat (first|refine blk_drewN ?_ _|refine blk_drew ?_|refine blk_alloc ?_ _));refine blk_put (cs:= #[.int .u8 0,.int .i64 0,.int .u64 0,.int .i64 0,.bool false,.int .u64 0,.int .u64 0,.int .i64 0,.int .u8 0,.int .i64 0,.int .i64 0,.int .i64 0,.int .i64 0]) ?_ 9 _ rfl;(with_reducible repeat (first|refine blk_drewN ?_ _|refine blk_drew ?_|refine blk_alloc ?_ _));refine blk_put (cs:= #[.int .u8 0,.int .i64 0,.int .u64 0,.int .i64 0,.bool false,.int .u64 0,.int .u64 0,.int .i64 0,.int .u8 0,.int .i64 0,.int .i64 0,.int .i64 0,.int .i64 0]) ?_ 8 _ rfl;(with_reducible repeat (first|refine blk_drewN ?_ _|refine blk_drew ?_|refine blk_alloc ?_ _));refine blk_put (cs:= #[.int .u8 0,.int .i64 0,.int .u64 0,.int .i64 0,.bool false,.int .u64 0,.int .u64 0,.int .i64 0,.int .u8 0,.int .i64 0,.int .i64 0,.int .i64 0,.int .i64 0]) ?_ 7 _ rfl;(with_reducible repeat (first|refine blk_drewN ?_ _|refine blk_drew ?_|refine blk_alloc ?_ _));refine blk_put (cs:= #[.int .u8 0,.int .i64 0,.int .u64 0,.int .i64 0,.bool false,.int .u64 0,.int .u64 0,.int .i64 0,.int .u8 0,.int .i64 0,.int .i64 0,.int .i64 0,.int .i64 0]) ?_ 6 _ rfl;(with_reducible repeat (first|refine blk_drewN ?_ _|refine blk_drew ?_|refine blk_alloc ?_ _));refine blk_put (cs:= #[.int .u8 0,.int .i64 0,.int .u64 0,.int .i64 0,.bool false,.int .u64 0,.int .u64 0,.int .i64 0,.int .u8 0,.int .i64 0,.int .i64 0,.int .i64 0,.int .i64 0]) ?_ 5 _ rfl;(with_reducible repeat (first|refine blk_drewN ?_ _|refine blk_drew ?_|refine blk_alloc ?_ _));refine blk_put (cs:= #[.int .u8 0,.int .i64 0,.int .u64 0,.int .i64 0,.bool false,.int .u64 0,.int .u64 0,.int .i64 0,.int .u8 0,.int .i64 0,.int .i64 0,.int .i64 0,.int .i64 0]) ?_ 4 _ rfl;(with_reducible repeat (first|refine blk_drewN ?_ _|refine blk_drew ?_|refine blk_alloc ?_ _));refine blk_put (cs:= #[.int .u8 0,.int .i64 0,.int .u64 0,.int .i64 0,.bool false,.int .u64 0,.int .u64 0,.int .i64 0,.int .u8 0,.int .i64 0,.int .i64 0,.int .i64 0,.int .i64 0]) ?_ 3 _ rfl;(with_reducible repeat (first|refine blk_drewN ?_ _|refine blk_drew ?_|refine blk_alloc ?_ _));refine blk_put (cs:= #[.int .u8 0,.int .i64 0,.int .u64 0,.int .i64 0,.bool false,.int .u64 0,.int .u64 0,.int .i64 0,.int .u8 0,.int .i64 0,.int .i64 0,.int .i64 0,.int .i64 0]) ?_ 2 _ rfl;(with_reducible repeat (first|refine blk_drewN ?_ _|refine blk_drew ?_|refine blk_alloc ?_ _));refine blk_put (cs:= #[.int .u8 0,.int .i64 0,.int .u64 0,.int .i64 0,.bool false,.int .u64 0,.int .u64 0,.int .i64 0,.int .u8 0,.int .i64 0,.int .i64 0,.int .i64 0,.int .i64 0]) ?_ 1 _ rfl;(with_reducible repeat (first|refine blk_drewN ?_ _|refine blk_drew ?_|refine blk_alloc ?_ _));refine blk_put (cs:= #[.int .u8 0,.int .i64 0,.int .u64 0,.int .i64 0,.bool false,.int .u64 0,.int .u64 0,.int .i64 0,.int .u8 0,.int .i64 0,.int .i64 0,.int .i64 0,.int .i64 0]) ?_ 0 _ rfl;(repeat (first|(with_reducible first|refine blk_drewN ?_ _|refine blk_drew ?_|refine blk_alloc ?_ _)|refine blk_far ?_ ax.out _));exact B.out) Try.underlying38 rfl (by kernel_rfl)) rfl ?_;exact⟨eS,bw3 HB.out D.out G.out aE.out⟩
 ·rw [if_neg c2]at H;have aK:(C==1)=false:=beq_eq_false_iff_ne.mpr c2;have aM:(C !=1)=true:=bne_iff_ne.mpr c2;have aJ:=Ax H;clear H;go_enter Try.func8,Try.ntmps8;go_upto_region 6 with (first|((with_reducible refine gate_dst (N:=1) rfl ?_);refine bX (N:=1) (cs:= #[.int .u8 C,.string F]) (t:=24) ?_;intro aC hg dO E hb;have A:=Ax (E);have aT:=Gw0 HB hg;have D:=Gw0 HB hg;replace HB:=Bs0 HB hb;clear hb E hg)|((with_reducible refine gate_dst (N:=2) rfl ?_);refine bX (N:=2) (cs:= #[.int .u8 0,.int .i64 0,.int .u64 0,.int .i64 0,.bool false,.int .u64 0,.int .u64 0,.int .i64 0,.int .u8 0,.int .i64 0,.int .i64 0,.int .i64 0,.int .i64 0]) (t:=38) ?_;intro ab hg dP E hb;have B:=Ax (E);have aU:=Gw1 HB hg D.out;have G:=Gw1 HB hg D.out;replace HB:=Bs1 HB hb D.out;have U:=Nl0 A hg;have V:=Nr0 A hg;replace A:=Bx0 A hb;clear hb E hg;have dQ:=U.out;have dR:=V.out;obtain⟨da,db,dc,dd⟩:=cl2 A))
  (try simp only[Act.put,List.setIfInBounds_toArray,List.set_cons_zero,List.set_cons_succ])
  go_cut [21] (fun de wc=> ∃ (kq:Nat) (az:Bool),de= .bool az∧Aside0 (gram_Of.j0 kq az C F=some (r1,r2,r3,r4,r5,r6,r7,r8,r9,al,am,ap,aq,ar))∧Aside0 (kq≤k)∧Aside0 (wc.heap[aC]? =some (.cells #[.int .u8 C,.string F] 24 (0,0)))∧Aside0 (wc.heap[ab]? =some (.cells #[.int .u8 0,.int .i64 0,.int .u64 0,.int .i64 0,.bool false,.int .u64 0,.int .u64 0,.int .i64 0,.int .u8 0,.int .i64 0,.int .i64 0,.int .i64 0,.int .i64 0] 38 (0,0)))∧Aside0 (Below w.heap.size w wc))
  case first=>
   have H:=aJ.out;clear aJ;by_cases ae:C=2
   ·rw [if_pos ae]at H;have av:(C==2)=true:=beq_iff_eq.mpr ae;have aV:(C !=2)=false:=bne_eq_false_iff_eq.mpr ae;clear ae
    (first|rw [av]|(simp only[i64_w,i32_w];rw [av])|skip)
    have H':=Ax H;clear H;have dS:=U.out;have dU:=V.out;obtain⟨df,dg,dh,di⟩:=cl2 A;go_wp2;go_meet
    case rel=>exact⟨_,((F.toList==([]:List UInt8))),rS,H',⟨by first|omega|exact Nat.le_refl _⟩,⟨bf0 A.out⟩,⟨bf0 B.out⟩,⟨bw2 HB.out D.out G.out⟩⟩
   ·rw [if_neg ae]at H;have av:(C==2)=false:=beq_eq_false_iff_ne.mpr ae;have aV:(C !=2)=true:=bne_iff_ne.mpr ae
    (first|rw [av]|(simp only[i64_w,i32_w];rw [av])|skip)
    have H':=Ax H;clear H;have dV:=U.out;have dW:=V.out;obtain⟨dj,dk,dl,dm⟩:=cl2 A;go_wp2;go_meet
    case rel=>exact⟨_,(false),rS,H',⟨by first|omega|exact Nat.le_refl _⟩,⟨bf0 A.out⟩,⟨bf0 B.out⟩,⟨bw2 HB.out D.out G.out⟩⟩
  case rest=>
   clear aJ;(try clear c1);(try clear c2);(try clear aK);(try clear aM);(try clear p2);(try clear c3);(try clear c4);(try clear aQ);(try clear aR);(try clear c7);(try clear c8);(try clear c11);(try clear c12);(try clear c17);(try clear c20);(try clear c21);(try clear c22);(try clear c28);(try clear ae);(try clear av);(try clear aV);(try clear c31);(try clear c33);(try clear b5 b6 bg bh b7 b8 b9 ba bb bc bd bf);(try clear bz bA bK bL bM bB bC bD bE bF bG bH bJ);(try clear ce cf);(try clear ci cj cu cv ck cl cm cn co cq cr ct);(try clear cI cJ cS cT cU cK cL cM cN cO cP cQ cR);(try clear da db);(try clear df dg);(try clear dj dk);(try clear aW aY);(try clear bi bj bv bx bk bl bm bn bo bq br bu);(try clear bN bO bY bZ cd bP bQ bR bS bT bU bV bW);(try clear cg ch);(try clear cw cx cG cH cy cz cA cB cC cD cE cF);(try clear cV cW d7 d8 d9 cX cY cZ d2 d3 d4 d5 d6);(try clear dc dd);(try clear dh di);(try clear dl dm);(try clear aZ b2);obtain⟨kq,az,rfl,HA,dX,A,B,HB⟩:=hcut;cases kq with
   |zero=>exact absurd HA.out (by simp [gram_Of.j0])
   |succ kj24=>
    have H:=HA.out;clear HA;simp only[gram_Of.j0]at H;by_cases aA:az=true
    ·subst aA;have H1:(some (0,0,0,0,false,0,0,0,0,0,0,0,7,0))=some (r1,r2,r3,r4,r5,r6,r7,r8,r9,al,am,ap,aq,ar):=by rw [if_pos rfl]at H;exact H
     clear H;have H:=H1;clear H1;simp only[Option.some.injEq,Prod.mk.injEq]at H;obtain⟨rfl,rfl,rfl,rfl,rfl,rfl,rfl,rfl,rfl,rfl,rfl,rfl,rfl,rfl⟩:=H;have dY:=V.out;have dZ:=U.out;obtain⟨e7,e8,e9,ea,eb,ec,ed,ee,ef,eg,eh,ei,ej,ek,el,en,eo,ep,eq,er,es,et,eu,ev,ex,ey⟩:=cl13 B;go_wp2;refine bodyPost_ret (results_ct rfl _ _ ab 38 #[.int .u8 0,.int .i64 0,.int .u64 0,.int .i64 0,.bool false,.int .u64 0,.int .u64 0,.int .i64 0,.int .u8 0,.int .i64 0,.int .i64 0,.int .i64 0,.int .i64 7] (0,0) _ rfl (gB B.out) Try.underlying38 rfl (by kernel_rfl)) rfl ?_;exact⟨eS,bw2 HB.out D.out G.out⟩
    ·replace aA:=Bool.eq_false_iff.mpr aA;subst aA;have H1:(if C=3 then (if F.toList=([]:List UInt8) then (some (0,0,0,0,false,0,0,0,0,0,0,0,11,0)) else (some (0,0,0,0,false,0,0,0,0,0,0,0,0,2))) else (some (0,0,0,0,false,0,0,0,0,0,0,0,0,2)))=some (r1,r2,r3,r4,r5,r6,r7,r8,r9,al,am,ap,aq,ar):=by rw [if_neg (show ¬ (false=true) by decide)]at H;exact H
     clear H;have H:=H1;clear H1;by_cases ah:C=3
     ·rw [if_pos ah]at H;have dn:(C==3)=true:=beq_iff_eq.mpr ah;have dp:(C !=3)=false:=bne_eq_false_iff_eq.mpr ah;clear ah;by_cases aj:F.toList=([]:List UInt8);·rw [if_pos aj]at H;have dq:(F.toList==([]:List UInt8))=true:=beq_iff_eq.mpr aj;have dr:(F.toList !=([]:List UInt8))=false:=bne_eq_false_iff_eq.mpr aj;clear aj;simp only[Option.some.injEq,Prod.mk.injEq]at H;obtain⟨rfl,rfl,rfl,rfl,rfl,rfl,rfl,rfl,rfl,rfl,rfl,rfl,rfl,rfl⟩:=H;have ez:=U.out;have eA:=V.out;obtain⟨eB,eC,eD,eE⟩:=cl2 A;obtain⟨eF,eG,eH,eI,eJ,eK,eL,eM,eN,eO,eP,eQ,eR,eT,eU,eV,eW,eX,eY,eZ,fb,fc,fd,fe,fg,fh⟩:=cl13 B;go_wp2;refine bodyPost_ret (results_ct rfl _ _ ab 38 #[.int .u8 0,.int .i64 0,.int .u64 0,.int .i64 0,.bool false,.int .u64 0,.int .u64 0,.int .i64 0,.int .u8 0,.int .i64 0,.int .i64 0,.int .i64 0,.int .i64 11] (0,0) _ rfl (gB B.out) Try.underlying38 rfl (by kernel_rfl)) rfl ?_;exact⟨eS,bw2 HB.out D.out G.out⟩
      ·rw [if_neg aj]at H;have dq:(F.toList==([]:List UInt8))=false:=beq_eq_false_iff_ne.mpr aj;have dr:(F.toList !=([]:List UInt8))=true:=bne_iff_ne.mpr aj;simp only[Option.some.injEq,Prod.mk.injEq]at H;obtain⟨rfl,rfl,rfl,rfl,rfl,rfl,rfl,rfl,rfl,rfl,rfl,rfl,rfl,rfl⟩:=H;have fi:=U.out;have fj:=V.out;obtain⟨fk,fl,fm,fo⟩:=cl2 A;obtain⟨fp,fq,ft,fu,fv,fw,fx,fy,fz,fA,fB,fC,fD,fE,fF,fG,fH,fI,fJ,fK,fL,fM,fN,fO,fP,fQ⟩:=cl13 B;go_wp2;refine bodyPost_ret (results_ct rfl _ _ ab 38 #[.int .u8 0,.int .i64 0,.int .u64 0,.int .i64 0,.bool false,.int .u64 0,.int .u64 0,.int .i64 0,.int .u8 0,.int .i64 0,.int .i64 0,.int .i64 0,.int .i64 0] (0,0) _ rfl (gB B.out) Try.underlying38 rfl (by kernel_rfl)) rfl ?_;exact⟨eS,bw2 HB.out D.out G.out⟩
     ·rw [if_neg ah]at H;have dn:(C==3)=false:=beq_eq_false_iff_ne.mpr ah;have dp:(C !=3)=true:=bne_iff_ne.mpr ah;simp only[Option.some.injEq,Prod.mk.injEq]at H;obtain⟨rfl,rfl,rfl,rfl,rfl,rfl,rfl,rfl,rfl,rfl,rfl,rfl,rfl,rfl⟩:=H;have fR:=U.out;have fS:=V.out;obtain⟨fT,fU,fV,fW⟩:=cl2 A;obtain⟨fX,fY,fZ,g6,g7,g8,g9,ga,gb,gc,gh,gi,gj,gl,gn,gq,gt,gu,gv,gx,gy,gz,gA,gC,gD,gE⟩:=cl13 B;go_wp2;refine bodyPost_ret (results_ct rfl _ _ ab 38 #[.int .u8 0,.int .i64 0,.int .u64 0,.int .i64 0,.bool false,.int .u64 0,.int .u64 0,.int .i64 0,.int .u8 0,.int .i64 0,.int .i64 0,.int .i64 0,.int .i64 0] (0,0) _ rfl (gB B.out) Try.underlying38 rfl (by kernel_rfl)) rfl ?_;exact⟨eS,bw2 HB.out D.out G.out⟩
def spoorref12_Same.l0 : Nat → List (S24) → List (S24) → Int → Int → Option (Bool)
 | 0, _, _, _, _ => none
 | k + 1, x0, x1, x12, x13 => if x13 < x12 then (if 0 ≤ x13 then (if x13 < (x0.length : Int) then (if x13 < (x1.length : Int) then (if (!(((rd_T24 x0 x13).f0) == ((rd_T24 x1 x13).f0)) || (!((((rd_T24 x0 x13).f1).toList) == (((rd_T24 x1 x13).f1).toList)))) = true then (some false) else (spoorref12_Same.l0 k x0 x1 x12 (wrap64 (x13 + 1)))) else (none)) else (none)) else (none)) else (some true)
def spoorref12_Same.f (k:Nat) (l0:List (S24)) (l1:List (S24)):Option (Bool):=if (l0.length:Int)=(l1.length:Int) then (spoorref12_Same.l0 k l0 l1 (l0.length:Int) 0) else (some false)
theorem spoorref12_Same.mono_l: ∀ k,(∀ y0 y1 y2 y3,LeO (spoorref12_Same.l0 k y0 y1 y2 y3) (spoorref12_Same.l0 (k+1) y0 y1 y2 y3))
 |0=>fun _ _ _ _ r h=>by simp [spoorref12_Same.l0]at h
 |k+1=>by
  have A:=spoorref12_Same.mono_l k
  ·intro y0 y1 y2 y3;unfold spoorref12_Same.l0
   repeat' first
   |(with_reducible exact A _ _ _ _)
   |(with_reducible exact LeO.refl _)
   |(with_reducible exact LeO.none _)
   |(with_reducible refine LeO.ite ?_ ?_)
   |(with_reducible refine LeO.bind ?_ (fun _=>?_))
   |exact A _ _ _ _
   |exact LeO.none _
   |refine LeO.ite ?_ ?_
   |refine LeO.bind ?_ (fun _=>?_)
theorem spoorref12_Same.mono: ∀ a0 a1 k,LeO (spoorref12_Same.f k a0 a1) (spoorref12_Same.f (k+1) a0 a1):=by
 intro a0 a1 k;have A:=spoorref12_Same.mono_l k;unfold spoorref12_Same.f
 repeat' first
   | (with_reducible exact A _ _ _ _)
   | (with_reducible exact LeO.refl _)
   | (with_reducible exact LeO.none _)
   | (with_reducible refine LeO.ite ?_ ?_)
   | (with_reducible refine LeO.bind ?_ (fun _ => ?_))
   | exact A _ _ _ _
   | exact LeO.none _
   | refine LeO.ite ?_ ?_
   | refine LeO.bind ?_ (fun _ => ?_)
set_option maxHeartbeats 8000000 in
set_option maxRecDepth 100000 in
theorem spoorref12_Same.calls (k:Nat) (A0:Option Addr) (c0:Nat) (l0:List (S24)) (A1:Option Addr) (c1:Nat) (l1:List (S24)) (r:Bool) (w:World) (L:Kd.C k24 w A0 l0.length l0) (M:l0.length≤c0) (N:Kd.C k24 w A1 l1.length l1) (O:l1.length≤c1) (h:spoorref12_Same.f k l0 l1=some r):
  Calls Try.prog 11 #[.slice A0 l0.length c0,.slice A1 l1.length c1] w fun e w'=>e= .returned (.bool r)∧Drawn0 w w':=by
 have ap:=Try.underlying24;have R:=Ax L;have aq:=Ax M;clear L M;have T:=Ax N;have ar:=Ax O;clear N O;have H:(if (l0.length:Int)=(l1.length:Int) then (spoorref12_Same.l0 k l0 l1 (l0.length:Int) 0) else (some false))=some r:=h;clear h;by_cases c3:(l0.length:Int)=(l1.length:Int)
 ·rw [if_pos c3]at H;have U:((l0.length:Int)==(l1.length:Int))=true:=beq_iff_eq.mpr c3;have V:((l0.length:Int) !=(l1.length:Int))=false:=bne_eq_false_iff_eq.mpr c3;have X:(l0.length==l1.length)=true:=by first|simpa using c3|(simp at c3 ⊢;omega)
  clear c3;have H':=Ax H;clear H;go_enter Try.func11,Try.ntmps11;go_wp2
  repeat (go_quiet (fail);try go_wp2)
  go_loopg [13] k (fun kq ab w'=> ∃ (A:Int),ab= .int .i64 A∧Aside0 (spoorref12_Same.l0 kq l0 l1 (l0.length:Int) A=some r)∧Aside0 (kq≤k)∧Drawn0 w w')
  case atStart=>exact⟨(0),rS,H',⟨Nat.le_refl _⟩,by repeat (first|exact Drawn0.refl _|apply Drawn0.step)⟩
  case round=>
   clear H';(try clear c1);(try clear p2);(try clear c3);(try clear U);(try clear V);(try clear X);obtain⟨A,rfl,HA,aa,⟨m1,rfl⟩⟩:=hrel;cases gk with
   |zero=>exact absurd HA.out (by simp [spoorref12_Same.l0])
   |succ k1=>
    have H:=HA.out;clear HA;simp only[spoorref12_Same.l0]at H;by_cases c4:A<(l0.length:Int)
    ·rw [if_pos c4]at H;have ac:decide (A<(l0.length:Int))=true:=dT c4;clear c4;by_cases c5:0≤A
     ·rw [if_pos c5]at H;have au:decide (0≤A)=true:=dT c5;clear c5;by_cases c6:A<(l0.length:Int)
      ·rw [if_pos c6]at H;have av:decide (A<(l0.length:Int))=true:=dT c6;clear c6;by_cases c7:A<(l1.length:Int)
       ·rw [if_pos c7]at H;have aw:decide (A<(l1.length:Int))=true:=dT c7;clear c7;by_cases c8:(!(((rd_T24 l0 A).f0)==((rd_T24 l1 A).f0))||(!((((rd_T24 l0 A).f1).toList)==(((rd_T24 l1 A).f1).toList))))=true
        ·rw [if_pos c8]at H;have ae:(!(((rd_T24 l0 A).f0)==((rd_T24 l1 A).f0))||(!((((rd_T24 l0 A).f1).toList)==(((rd_T24 l1 A).f1).toList))))=true:=c8;clear c8;obtain rfl:=Option.some.inj H;have B:0≤(A:Int):=of_decide_eq_true (by first|(with_reducible assumption)|assumption);have D:A<(l0.length:Int):=of_decide_eq_true (by first|(with_reducible assumption)|assumption);obtain⟨af,G,ag,ah⟩:=at_T24 R.out A B D;cases G;replace B:=eq_true B;replace D:=eq_true D;have E:0≤(A:Int):=of_decide_eq_true (by first|(with_reducible assumption)|assumption);have F:A<(l1.length:Int):=of_decide_eq_true (by first|(with_reducible assumption)|assumption);obtain⟨aj,I,al,am⟩:=at_T24 T.out A E F;cases I;replace E:=eq_true E;replace F:=eq_true F;go_wp2
         repeat (go_quiet (fail);try go_wp2)
         go_ret;exact⟨by first|rfl|(simp;done)|(simp [*];done),by repeat (first|exact Drawn0.refl _|apply Drawn0.step)⟩
        ·rw [if_neg c8]at H;have ae:(!(((rd_T24 l0 A).f0)==((rd_T24 l1 A).f0))||(!((((rd_T24 l0 A).f1).toList)==(((rd_T24 l1 A).f1).toList))))=false:=by simpa using c8
         clear c8;have H':=Ax H;clear H;have B:0≤(A:Int):=of_decide_eq_true (by first|(with_reducible assumption)|assumption);have D:A<(l0.length:Int):=of_decide_eq_true (by first|(with_reducible assumption)|assumption);obtain⟨af,G,ag,ah⟩:=at_T24 R.out A B D;cases G;replace B:=eq_true B;replace D:=eq_true D;have E:0≤(A:Int):=of_decide_eq_true (by first|(with_reducible assumption)|assumption);have F:A<(l1.length:Int):=of_decide_eq_true (by first|(with_reducible assumption)|assumption);obtain⟨aj,I,al,am⟩:=at_T24 T.out A E F;cases I;replace E:=eq_true E;replace F:=eq_true F;go_wp2
         repeat (go_quiet (fail);try go_wp2)
         go_roundg k1
         case measure=>have:=aa.out;omega
         case rel=>exact⟨(wrap64 (A+1)),rS,H',⟨by have:=aa.out;omega⟩,by repeat (first|exact Drawn0.refl _|apply Drawn0.step)⟩
       ·rw [if_neg c7]at H;exact absurd H (by simp)
      ·rw [if_neg c6]at H;exact absurd H (by simp)
     ·rw [if_neg c5]at H;exact absurd H (by simp)
    ·rw [if_neg c4]at H;have ac:decide (A<(l0.length:Int))=false:=dF c4;clear c4;obtain rfl:=Option.some.inj H;go_wp2
     repeat (go_quiet (fail);try go_wp2)
     go_ret;exact⟨by first|rfl|(simp;done)|(simp [*];done),by repeat (first|exact Drawn0.refl _|apply Drawn0.step)⟩
 ·rw [if_neg c3]at H;have U:((l0.length:Int)==(l1.length:Int))=false:=beq_eq_false_iff_ne.mpr c3;have V:((l0.length:Int) !=(l1.length:Int))=true:=bne_iff_ne.mpr c3;have X:(l0.length==l1.length)=false:=by first|simpa using c3|(simp at c3 ⊢;omega)
  obtain rfl:=Option.some.inj H;go_enter Try.func11,Try.ntmps11;go_wp2
  repeat (go_quiet (fail);try go_wp2)
  go_ret;exact⟨by first|rfl|(simp;done)|(simp [*];done),by repeat (first|exact Drawn0.refl _|apply Drawn0.step)⟩
def stringslite_IndexByte.f (a0:ByteArray) (a1:Int):Option (Int):=some (idxByte a0 a1)
set_option maxHeartbeats 8000000 in
set_option maxRecDepth 100000 in
theorem stringslite_IndexByte.calls (a0:ByteArray) (a1:Int) (r:Int) (w:World) (h:stringslite_IndexByte.f a0 a1=some r):
  Calls Try.prog 71 #[.string a0,.int .u8 a1] w fun e w'=>e= .returned (.int .i64 r)∧Drawn0 w w':=by
 have aa:=nat77;have H:(some (idxByte a0 a1))=some r:=h;clear h;obtain rfl:=Option.some.inj H;go_enter Try.func71,Try.ntmps71;go_wp2;go_ret;exact⟨by first|rfl|(simp;done)|(simp [*];done),by repeat (first|exact Drawn0.refl _|apply Drawn0.step)⟩
def strings_IndexByte.f (a0:ByteArray) (a1:Int):Option (Int):=(stringslite_IndexByte.f a0 a1).bind fun aa=>(some aa)
set_option maxHeartbeats 8000000 in
set_option maxRecDepth 100000 in
theorem strings_IndexByte.calls (a0:ByteArray) (a1:Int) (r:Int) (w:World) (h:strings_IndexByte.f a0 a1=some r):
  Calls Try.prog 55 #[.string a0,.int .u8 a1] w fun e w'=>e= .returned (.int .i64 r)∧Drawn0 w w':=by
 have H:((stringslite_IndexByte.f a0 a1).bind fun A=>(some A))=some r:=h;clear h;replace H:=bI H;obtain⟨A,B,H⟩:=H;(try dsimp only at H);have A3:=Ax B;clear B;obtain rfl:=Option.some.inj H;go_enter Try.func55,Try.ntmps55;go_wp2_with (first|((with_reducible refine gate_callee (f:=71) rfl ?_);refine goesL_ (some 7) rfl rfl Try.func71 (by kernel_rfl) rfl #[.string a0,.int .u8 a1] rfl gS ?_;(with_reducible refine (stringslite_IndexByte.calls a0 a1 A _ A3.out).mono ?_);rintro e w' ⟨rfl,⟨nd,rfl⟩⟩;refine⟨_,rfl,?_⟩));go_ret;exact⟨by first|rfl|(simp;done)|(simp [*];done),by repeat (first|exact Drawn0.refl _|apply Drawn0.step)⟩
attribute [local go_sem] Oper.semAt_some
def gbad (s:ByteArray):Int:=if 0≤idxByte s 245 then idxByte s 245 else s.size
theorem bad_is (s:ByteArray) (n:Int) (w:World) (hn:gbad s=n):Calls Try.prog 44 #[.string s] w fun e w'=>e= .returned (.int .i64 n)∧Drawn0 w w':=by
  have HN:=Aside0.mk hn;have A3:Aside0 (strings_IndexByte.f s 245=some (idxByte s 245)):=⟨rfl⟩;unfold gbad at hn;generalize hm:idxByte s 245=m at *;by_cases h:0≤m;·rw [if_pos h]at hn;subst hn;have hd:decide (0≤m)=true:=dT h;clear hm HN;go_enter Try.func44,Try.ntmps44;go_wp2_with (go_at_call 55;refine (strings_IndexByte.calls _ _ _ _ A3.out).mono ?_;rintro e w' ⟨rfl,⟨q,rfl⟩⟩);go_ret;exact⟨rfl,⟨q,rfl⟩⟩
  ·rw [if_neg h]at hn;subst hn;have hd:decide (0≤m)=false:=dF h;clear hm HN;go_enter Try.func44,Try.ntmps44;go_wp2_with (go_at_call 55;refine (strings_IndexByte.calls _ _ _ _ A3.out).mono ?_;rintro e w' ⟨rfl,⟨q,rfl⟩⟩);go_ret;exact⟨rfl,⟨q,rfl⟩⟩
def gm (s:ByteArray):Int:=Go.bits .or .i64 (wrap64 ((wrap64 (bt s 1)) * 256)) (wrap64 (bt s 2))
def each_u (A : ByteArray → Option (List S24)) (m : Int) (s2 : ByteArray) : Option (List S24) :=
  if ¬ 0 ≤ m then none
  else if m = 0 ∨ 64 < m then (if (s2.size : Int) < m then some [⟨3, ⟨#[]⟩⟩] else (A (s2.extract m.toNat s2.size)).bind fun r => some (⟨3, ⟨#[]⟩⟩ :: r))
  else if m ≤ (s2.size : Int) then (A (s2.extract m.toNat s2.size)).bind fun r => some (⟨1, s2.extract 0 m.toNat⟩ :: r) else some []
def each_t (aa : ByteArray → Option (List S24)) (s1 : ByteArray) : Option (List S24) :=
  if (s1.size : Int) < 3 then some [] else each_u aa (gm s1) (s1.extract 3 s1.size)
def gram_each.l : Nat → ByteArray → Option (List S24)
  | 0, _ => none
  | k + 1, s => if ¬ (s.size ≤ 4611686018427387904 ∧ gbad s ≤ s.size) then none
    else if 0 < gbad s then (each_t (gram_each.l k) (s.extract (gbad s).toNat s.size)).bind fun r => some (⟨2, ⟨#[]⟩⟩ :: r) else each_t (gram_each.l k) s
def strSz : Value → Nat
  | .string s => s.size
  | _ => 0
def encP (x:S24):Array Value:= #[.agg #[.int .u8 x.f0,.string x.f1]]
set_option maxRecDepth 100000 in
set_option maxHeartbeats 2000000 in
theorem each1_in (n:Nat) (hn:1≤n) (l Bs k:Nat) (s0:ByteArray) (ps:List S24) (ag:gram_each.l k s0=some ps) (J Jx:List S24→World→Prop)
    (hY: ∀ A x W,J A W→A++ [x]<+:ps→YieldAt Fence.wide (n - 1) Try.prog l (encP x) W fun e W'=>
      (e= .returned (.bool true)∧J (A++ [x]) W'∧True)∨(e= .returned (.bool false)∧Jx (A++ [x]) W'))
    (I: ∀ A W W',J A W→W.grownBy W' none→J A W')
    (W:World) (ah:W.heap[Bs]? =some (.cells #[.string s0] 9 (0,0))) (h0:J [] W):
    CallsIn Fence.wide n Try.prog 43 #[.func (.yield l) #[] #[],.pointer (some ⟨Bs,0,none⟩)] W fun e W'=>(∃ v,e= .returned v)∧
      ((∃ ys,ys=ps∧J ys W')∨(∃ A,A<+:ps∧Jx A W')):=by
  refine callsIn_of_wp Try.func43 rfl trivial ?_ rfl;simp only[Try.ntmps43,List.size_toArray,List.length_cons,List.length_nil,Nat.reduceAdd,Nat.reduceSub,Array.replicate_succ,Array.replicate_zero,List.push_toArray,List.append_toArray,List.nil_append,List.cons_append];have aj:W.cell? ⟨Bs,0,none⟩=some (.string s0):=(blk_cell ah 0).trans rfl
  gi_wp2
  clear aj
  gi_loopw [3] (fun v wr => ∃ (ds : List S24) (s : ByteArray) (kq : Nat) (C : List S24), v = .string s ∧ Aside0 (gram_each.l kq s = some C) ∧ Aside0 (ps = ds ++ C) ∧ J ds wr)
    (fun v _ => strSz v)
  case atStart=>exact⟨[],s0,k,ps,rfl,⟨ag⟩,⟨rfl⟩,h0⟩
  case round=>
    obtain⟨ds,s,kq,C,rfl,HL,HP,hJ⟩:=hrel;cases kq with
    |zero=>exact absurd HL.out (by simp [gram_each.l])
    |succ kq=>
      have hl:=HL.out;unfold gram_each.l at hl;by_cases hc:s.size≤4611686018427387904∧gbad s≤s.size
      · rw [if_neg (not_not_intro hc)]at hl;obtain⟨av,R⟩:=hc;obtain⟨m,hm⟩: ∃ m,gbad s=m:=⟨_,rfl⟩;have HM:=Aside0.mk hm;rw [hm]at hl R;clear hm;by_cases hn:0<m
        case' pos=>
          rw [if_pos hn]at hl;obtain⟨C,hu,he⟩:=Option.bind_eq_some_iff.mp hl;obtain rfl:=Option.some.inj he;clear hl he;have hd:decide (0<m)=true:=dT hn
          gi_wp2
          refine⟨trivial,?_⟩;refine (callsIn_wide.2 (bad_is _ m _ HM.out)).mono ?_
          rintro e w' ⟨rfl,⟨q,rfl⟩⟩
          obtain⟨fn,tmps,T,U,hy,hR⟩:=hY ds ⟨2,⟨#[]⟩⟩ (wr.drewN q) (I _ _ _ hJ ⟨rfl,rfl,rfl,Nat.le_refl _,fun _ _ _=>rfl⟩) ⟨_,by rw [HP.out,List.append_assoc];rfl⟩;dsimp only[encP]at hy
          gi_wp2
          refine hR.mono ?_
          rintro e W3 (⟨rfl,D,_⟩|⟨rfl,al⟩)
          rotate_left
          ·
            gi_wp2
            refine bodyPost_ret (results_none rfl _ _ _) rfl ?_
            exact ⟨⟨_, rfl⟩, .inr ⟨ds ++ [⟨2, ⟨#[]⟩⟩], ⟨C, by rw [HP.out]; simp⟩, al⟩⟩
          clear hy hR hJ;replace HP:=Aside0.mk (show ps=(ds++ [⟨2,⟨#[]⟩⟩])++C by rw [HP.out];simp);have aw:=eq_true R;have h0m':=eq_true (show 0≤m by omega);have V:(s.extract m.toNat s.size).size≤s.size:=by simp
          obtain⟨s,he⟩: ∃ s1,s.extract m.toNat s.size=s1:=⟨_,rfl⟩;rw [he]at hu V;have HU:=Aside0.mk hu;obtain⟨ds,X⟩: ∃ am,ds++ [⟨2,⟨#[]⟩⟩]=am:=⟨_,rfl⟩;rw [X]at HP D;clear X hu
        case' neg=>
          rw [if_neg hn]at hl;have HU:=Aside0.mk hl;clear hl;have hd:decide (0<m)=false:=dF hn
          gi_wp2
          refine⟨trivial,?_⟩;refine (callsIn_wide.2 (bad_is _ m _ HM.out)).mono ?_
          rintro e w' ⟨rfl,⟨q,rfl⟩⟩
          have D:J ds (wr.drewN q):=I _ _ _ hJ ⟨rfl,rfl,rfl,Nat.le_refl _,fun _ _ _=>rfl⟩;generalize wr.drewN q=W3 at D ⊢;clear hJ;have he:True:=trivial;have V:s.size≤s.size:=Nat.le_refl _
        all_goals
          have hu := HU.out
          unfold each_t at hu
          by_cases h3 : (s.size : Int) < 3
          · rw [if_pos h3] at hu
            obtain rfl := Option.some.inj hu
            have ap : decide ((s.size : Int) < 3) = true := dT h3
            clear hu
            gi_wp2
            refine bodyPost_ret (results_none rfl _ _ _) rfl ?_
            exact ⟨⟨_, rfl⟩, .inl ⟨_, by rw [HP.out]; simp, D⟩⟩
          · rw [if_neg h3] at hu
            have ap : decide ((s.size : Int) < 3) = false := dF h3
            have q1 : 1 < s.size := by omega
            have q2 : 2 < s.size := by omega
            have ax : (1 < (s.size : Int)) = True := eq_true (by omega)
            have ay : (2 < (s.size : Int)) = True := eq_true (by omega)
            have az : ∀ h : 1 < s.size, ((s[1]'h).toNat : Int) = bt s 1 := bt_at s 1
            have aA : ∀ h : 2 < s.size, ((s[2]'h).toNat : Int) = bt s 2 := bt_at s 2
            have aC : ((3 : Int) ≤ (s.size : Int)) = True := eq_true (by omega)
            replace q1 := eq_true q1
            replace q2 := eq_true q2
            have aa := Aside0.mk hu
            clear hu HU
            gi_wp2
            gi_quiet (fail)
            have ab : J ds (W3.drewN nq) := I _ _ _ D ⟨rfl, rfl, rfl, Nat.le_refl _, fun _ _ _ => rfl⟩
            clear D
            generalize W3.drewN nq = W4 at ab ⊢
            obtain ⟨s2, E⟩ : ∃ s2, s.extract 3 s.size = s2 := ⟨_, rfl⟩
            obtain ⟨g, hg⟩ : ∃ g, gm s = g := ⟨_, rfl⟩
            have hg' : Go.bits .or .i64 (wrap64 ((wrap64 (bt s 1)) * 256)) (wrap64 (bt s 2)) = g := hg
            have hu := aa.out
            rw [hg, E] at hu
            unfold each_u at hu
            have B := Aside0.mk hu
            clear aa hu hg
            have L : ∀ x : S24, J ds (W4.alloc (.cells #[.int .u8 x.f0, .string x.f1] 24)) := fun x => I _ _ _ ab (World.grownBy_alloc _ _ _)
            have aD : s2.size ≤ s.size := by rw [← E]; simp
            by_cases g0 : 0 ≤ g
            case' neg => have hu := B.out; rw [if_pos g0] at hu; cases hu
            have hu := B.out
            rw [if_neg (not_not_intro g0)] at hu
            clear B
            by_cases c1 : g = 0 ∨ 64 < g
            · rw [if_pos c1] at hu
              have ac : Aside0 (∃ r, C = ⟨3, ⟨#[]⟩⟩ :: r) := ⟨by
                split at hu
                · exact ⟨_, (Option.some.inj hu).symm⟩
                · obtain ⟨r, _, he⟩ := Option.bind_eq_some_iff.mp hu
                  exact ⟨r, (Option.some.inj he).symm⟩⟩
              have B := Aside0.mk hu
              clear hu
              obtain ⟨fn, tmps, T, U, hy, hR⟩ := hY ds ⟨3, ⟨#[]⟩⟩ _ (L ⟨3, ⟨#[]⟩⟩) (by obtain ⟨r, hr⟩ := ac.out; exact ⟨r, by rw [HP.out, hr, List.append_assoc]; rfl⟩)
              dsimp only [encP] at hy
              have aE : decide ((s2.size : Int) < g) = decide ((s2.size : Int) < g) := rfl
              by_cases c2 : (s2.size : Int) < g
              · have ae : decide ((s2.size : Int) < g) = true := dT c2
                have hu := B.out
                rw [if_pos c2] at hu
                obtain rfl := (Option.some.inj hu).symm
                clear hu B
                have aG : True := trivial
                by_cases c3 : g = 0
                · exact absurd c2 (by omega)
                · have M : (g == 0) = false := beq_eq_false_iff_ne.mpr c3
                  have af : decide (64 < g) = true := dT (by omega)
                  gi_wp2
                  refine hR.mono ?_
                  rintro e W5 (⟨rfl, F, _⟩ | ⟨rfl, G⟩)
                  · gi_wp2
                    refine bodyPost_ret (results_none rfl _ _ _) rfl ?_
                    exact ⟨⟨_, rfl⟩, .inl ⟨_, HP.out.symm, F⟩⟩
                  · gi_wp2
                    refine bodyPost_ret (results_none rfl _ _ _) rfl ?_
                    exact ⟨⟨_, rfl⟩, .inr ⟨_, ⟨[], by rw [HP.out]; simp⟩, G⟩⟩
              · have ae : decide ((s2.size : Int) < g) = false := dF c2
                have hu := B.out
                rw [if_neg c2] at hu
                obtain ⟨r, H, he⟩ := Option.bind_eq_some_iff.mp hu
                obtain rfl := (Option.some.inj he).symm
                have N := Aside0.mk H
                clear hu H B ac he
                have aq := eq_true g0
                have ar : (g ≤ (s2.size : Int)) = True := eq_true (by omega)
                have H5 : Aside0 (g = 0 ∨ 64 < g) := ⟨c1⟩
                have hG : Aside0 (0 ≤ g ∧ g ≤ s2.size) := ⟨g0, by omega⟩
                have aH := Aside0.mk E
                have O : Aside0 (s2.size + 3 ≤ s.size ∨ s2.size + 3 = s.size) := ⟨.inl (by rw [← E]; simp; omega)⟩
                skip
                by_cases c3 : g = 0
                case' pos =>
                  have M : (g == 0) = true := beq_iff_eq.mpr c3
                  have aI := Aside0.mk c3
                  clear c3 c1
                case' neg =>
                  have M : (g == 0) = false := beq_eq_false_iff_ne.mpr c3
                  have af : decide (64 < g) = true := dT (by omega)
                  clear c3 c1
                all_goals
                  gi_wp2
                  refine hR.mono ?_
                  rintro e W5 (⟨rfl, F, _⟩ | ⟨rfl, G⟩)
                  · gi_wp2
                    go_roundw
                    case rel => exact ⟨_, _, kq, r, rfl, N, ⟨by rw [HP.out]; simp⟩, F⟩
                    case measure => have := O.out; simp [strSz]; omega
                  · gi_wp2
                    refine bodyPost_ret (results_none rfl _ _ _) rfl ?_
                    exact ⟨⟨_, rfl⟩, .inr ⟨_, ⟨r, by rw [HP.out]; simp⟩, G⟩⟩
            · rw [if_neg c1] at hu
              have M : (g == 0) = false := beq_eq_false_iff_ne.mpr (by omega)
              have af : decide (64 < g) = false := dF (by omega)
              by_cases c2 : g ≤ (s2.size : Int)
              · rw [if_pos c2] at hu
                obtain ⟨r, H, he⟩ := Option.bind_eq_some_iff.mp hu
                obtain rfl := (Option.some.inj he).symm
                have N := Aside0.mk H
                clear hu H he
                have ae : decide ((s2.size : Int) < g) = false := dF (by omega)
                have au : decide (g ≤ (s2.size : Int)) = true := dT c2
                have O : Aside0 (s2.size + 3 ≤ s.size) := ⟨by rw [← E]; simp; omega⟩
                have hG : Aside0 (0 < g ∧ g ≤ s2.size) := ⟨by omega⟩
                obtain ⟨fn, tmps, T, U, hy, hR⟩ := hY ds ⟨1, s2.extract 0 g.toNat⟩ _ (L ⟨1, s2.extract 0 g.toNat⟩) ⟨_, by rw [HP.out, List.append_assoc]; rfl⟩
                dsimp only [encP] at hy
                have aq := eq_true g0
                have ar := eq_true c2
                clear c1 c2 g0
                gi_wp2
                refine hR.mono ?_
                rintro e W5 (⟨rfl, F, _⟩ | ⟨rfl, G⟩)
                · gi_wp2
                  go_roundw
                  case rel => exact ⟨_, _, kq, r, rfl, N, ⟨by rw [HP.out]; simp⟩, F⟩
                  case measure => have := O.out; have := hG.out; simp [strSz]; omega
                · gi_wp2
                  refine bodyPost_ret (results_none rfl _ _ _) rfl ?_
                  exact ⟨⟨_, rfl⟩, .inr ⟨_, ⟨r, by rw [HP.out]; simp⟩, G⟩⟩
              · rw [if_neg c2] at hu
                obtain rfl := (Option.some.inj hu).symm
                clear hu
                have au : decide (g ≤ (s2.size : Int)) = false := dF c2
                clear c1 c2
                gi_wp2
                refine bodyPost_ret (results_none rfl _ _ _) rfl ?_
                exact ⟨⟨_, rfl⟩, .inl ⟨_, by rw [HP.out]; simp, L ⟨1, ⟨#[]⟩⟩⟩⟩
      ·rw [if_pos hc]at hl;cases hl
theorem each_u_mono {f g:ByteArray→Option (List S24)} (h: ∀ s,LeO (f s) (g s)) (m:Int) (s:ByteArray):LeO (each_u f m s) (each_u g m s):=by
  unfold each_u
  repeat' first
    | (with_reducible exact h _)
    | (with_reducible exact LeO.refl _)
    | (with_reducible exact LeO.none _)
    | (with_reducible refine LeO.ite ?_ ?_)
    | (with_reducible refine LeO.bind ?_ (fun _ => ?_))
theorem each_t_mono {f g:ByteArray→Option (List S24)} (h: ∀ s,LeO (f s) (g s)) (s:ByteArray):LeO (each_t f s) (each_t g s):=by
  unfold each_t
  repeat' first
    | (with_reducible exact each_u_mono h _ _)
    | (with_reducible exact LeO.refl _)
    | (with_reducible refine LeO.ite ?_ ?_)
theorem gram_each.l_mono: ∀ k s,LeO (gram_each.l k s) (gram_each.l (k+1) s)
  |0,_=>fun r h=>by simp [gram_each.l]at h
  |k+1,s=>by
    have ih:=gram_each.l_mono k;unfold gram_each.l
    repeat' first
      | (with_reducible exact each_t_mono ih _)
      | (with_reducible exact LeO.refl _)
      | (with_reducible exact LeO.none _)
      | (with_reducible refine LeO.ite ?_ ?_)
      | (with_reducible refine LeO.bind ?_ (fun _ => ?_))
theorem R_append_in {F:Fence}{n:Nat}{P:Program}{B:Array Oper}{C:List Oper}{o:Oper}{a:Act}{Q:Exit→Act→World→Prop}{α:Type} (d:Kd α) {w0 W:World} (base:Nat) (aa:o.guard=none) (s x:Operand) (t e:TypeId) (z:Value) (A:Nat)
    (ho:o.op= .call {callee:=.builtin .append,args:= #[s,x],argTypes:= #[t,t]})
    (ht:P.underlying t=some (.slice e)) (ab:(P.info? e).map (fun i=>(i.zero,i.size,i.bytes))=some (some z,d.sz,A)) (hz:z.cells.size=d.sz) (ac:0<d.sz) (ae:0<A)
    (v:Value) (xs:List α) (p:α) (cs:List Value) (ok okp:Nat→Prop) (hs:a.eval s=v) (hx:a.eval x= .slice (some ⟨W.heap.size,0,none⟩) 1 1) (hp:d.M W base okp p cs) (af: ∀ k,okp k→ok k∧some k≠v.ownBlock) (ag: ∀ k,W.heap.size≤k→ok k)
    (HO:d.R e W base ok v xs) (HB:Below base w0 W) (ah:base≤W.heap.size) (hl:(xs.length+1) * A≤140737488355328)
    (h: ∀ v1 w1,d.R e w1 base ok v1 (xs++ [p])→Below base w0 w1→W.grownBy w1 v.ownBlock→(v1.ownBlock=v.ownBlock∨ ∃ b,v1.ownBlock=some b∧W.heap.size≤b)→wpListIn F n P B Q C (a.put o.dst v1) w1):
    wpListIn F n P B Q (o :: C) a (W.alloc (.cells cs.toArray e)):=by
  obtain⟨h0,inner,D,hr⟩:=HO;obtain⟨i0,hi,E⟩:=Option.map_eq_some_iff.1 ab;simp only[Prod.mk.injEq]at E;obtain⟨aj,al,am⟩:=E;have ap:cs.length=d.sz:=d.K_len (d.K_of_M hp);have aw:xs.length+1≤140737488355328:=Nat.le_trans (Nat.le_mul_of_pos_right _ ae) hl;refine wpListIn_plain aa fun K aq=>?_
  obtain ⟨v', w', ar, r1, r2, _, r4⟩ := run_append_own_at (P := P) (w := W.alloc (.cells cs.toArray e)) base t o.type e i0 z d.sz A ht hi aj al am hz ac v xs.length inner (D.alloc _) ⟨W.heap.size, 0, none⟩ 1 1 cs (by rw [ap]; simp)
    (by simpa using World.news_of_block (cs := cs.toArray) (t := e) (fr := (0, 0)) (heap_alloc_new W (.cells cs.toArray e))) (d.K_one (d.K_of_M hp)) (by simp only [maxLen]; omega) hl (by simp; omega)
  have G:W.grownBy w' v.ownBlock:=World.grownBy.trans (World.grownBy_alloc W _ _) r2
  have H:v'.ownBlock=v.ownBlock∨ ∃ b,v'.ownBlock=some b∧W.heap.size≤b:=by
    rcases r4 with r4|r4
    · exact .inl r4
    · exact .inr ⟨_,r4,by simp⟩
  have au:=h v' w' (Kd.R_appended h0 hr hp af ag r1 G H) ((HB.alloc ah _).grown r2 (by simp;omega) (own_base D)) G H;unfold Oper.wpIn;refine⟨?_,?_⟩
  · simp [Oper.about,ho,resolve,Target.leads,Sem.run_pure]
  ·rw [Oper.semAt_plain F _ _ (by rw [ho];intro c av;cases av)];simp [execOp,ho,resolve,invoke,builtin,hs,hx,ar,Result.andThen];exact aq _ _ au
theorem each_in (n:Nat) (s:ByteArray) (w:World):
    CallsIn Fence.wide n Try.prog 22 #[.string s] w fun e w'=>e= .returned (.func (.func 43) #[] #[.pointer (some ⟨w.heap.size,0,none⟩)])∧w'=w.alloc (.cells #[.string s] 9):=by
  refine callsIn_of_wp Try.func22 rfl trivial ?_ rfl;simp only[Try.ntmps22,List.size_toArray,List.length_cons,List.length_nil,Nat.reduceAdd,Nat.reduceSub,Array.replicate_succ,Array.replicate_zero,List.push_toArray,List.append_toArray,List.nil_append,List.cons_append]
  gi_wp2
  go_ret;exact⟨rfl,rfl⟩
theorem each_stops (n : Nat) (hn : 1 ≤ n) (Bs k : Nat) (s : ByteArray) (ps : List S24) (aa : gram_each.l k s = some ps) (w : World) (ab : w.heap[Bs]? = some (.cells #[.string s] 9 (0, 0))) :
    SeqStopsK Fence.wide n Try.prog 43 #[.pointer (some ⟨Bs, 0, none⟩)] encP (fun _ _ => True) (fun ys => ys = ps) (fun A => A <+: ps) ps.length w :=
  fun l J Jx W hW hJ _ hY h0 => each1_in n hn l Bs k s ps aa J Jx (fun A x W hj hp => hY A x W hj (by have := hp.length_le; simp at this; omega)) (fun _ _ _ h hg => hJ _ _ _ none h hg (fun _ e => by cases e)) W (blk_below ab hW) h0
theorem own_grown {α:Type}{d:Kd α}{e N base:Nat}{ok:Nat→Prop}{W W':World}{v:Value}{xs:List α}{row:Option Nat} (h:Kd.R d e W base ok v xs) (hg:W.grownBy W' row) (hr: ∀ r,row=some r→N≤r∧ ∃ o:Obj,W.heap[r]? =some o∧o.isCells=false):Kd.R d e W' base ok v xs:=by
  refine Kd.R_mono (Kd.R_grown (Kd.R_bound h) hg (fun k hk e=>?_)) (fun k hk=>hk.1);obtain⟨_,_,_,q,_,cells,hc⟩:=hk;obtain⟨_,o,ho,hf⟩:=hr k e.symm;rw [hc]at ho;cases ho;cases hf
theorem blk_grown_ {W W':World}{row:Option Nat}{N B t:Nat}{cs:Array Value}{fr:Nat × Nat} (h:W.heap[B]? =some (.cells cs t fr)) (hg:W.grownBy W' row) (hr: ∀ r,row=some r→N≤r∧ ∃ o:Obj,W.heap[r]? =some o∧o.isCells=false):W'.heap[B]? =some (.cells cs t fr):=
  (hg.block B (blk_lt h) (fun e=>by
    obtain⟨_,o,ho,hc⟩:=hr B e.symm;rw [h]at ho;cases ho
    cases hc)).trans h
def gram_Pieces.f (k:Nat) (a0:ByteArray):Option ((List (S24))):=(gram_each.l k a0).bind fun ps=>if ps.length * 24≤140737488355328 then some ps else none
theorem gram_Pieces.mono: ∀ a0 k,LeO (gram_Pieces.f k a0) (gram_Pieces.f (k+1) a0):=by
  intro a0 k;unfold gram_Pieces.f
  repeat' first
    | (with_reducible exact gram_each.l_mono _ _)
    | (with_reducible exact LeO.refl _)
    | (with_reducible refine LeO.bind ?_ (fun _ => ?_))
set_option maxRecDepth 100000 in
set_option maxHeartbeats 2000000 in
theorem gram_Pieces.walk (k:Nat) (a0:ByteArray) (w:World) (r:List S24) (h:gram_Pieces.f k a0=some r):
    Calls Try.prog 12 #[.string a0] w fun e w'=> ∃ I:Value,e= .returned I∧Kd.R k24 24 w' w.heap.size (fun _=>True) I r∧Below w.heap.size w w':=by
  refine (callsIn_wide (n:=4)).1 ?_;obtain⟨ps,L,h⟩:=Option.bind_eq_some_iff.mp h;by_cases F:ps.length * 24≤140737488355328
  case neg=>rw [if_neg F]at h;cases h
  rw [if_pos F]at h;obtain rfl:=Option.some.inj h;have aa:=Aside0.mk L;have ab:=Aside0.mk F;clear h L F;refine callsIn_of_wp_marks Try.func12 rfl trivial ?_ rfl;simp only[Try.ntmps12,List.size_toArray,List.length_cons,List.length_nil,Nat.reduceAdd,Nat.reduceSub,Array.replicate_succ,Array.replicate_zero,List.push_toArray,List.append_toArray,List.nil_append,List.cons_append]
  gi_wp2
  refine⟨trivial,?_⟩;refine (each_in _ _ _).mono ?_
  rintro e w' ⟨rfl,rfl⟩
  gi_wp2
  have oB:Boxed ((w.alloc (.cells #[.slice none 0 0] 43)).alloc (.cells #[.string a0] 9)) w.heap.size 43 (.slice none 0 0):=(Boxed.new w 43 (.slice none 0 0)).alloc _
  have sB:((w.alloc (.cells #[.slice none 0 0] 43)).alloc (.cells #[.string a0] 9)).heap[w.heap.size+1]? =some (.cells #[.string a0] 9 (0,0)):=by
    have:=heap_alloc_new (w.alloc (.cells #[.slice none 0 0] 43)) (.cells #[.string a0] 9)
    rwa [World.size_alloc]at this
  have M:Below w.heap.size w ((w.alloc (.cells #[.slice none 0 0] 43)).alloc (.cells #[.string a0] 9)):=below_alloc (below_alloc (Below.refl _ w) _) _;have ac:((w.alloc (.cells #[.slice none 0 0] 43)).alloc (.cells #[.string a0] 9)).heap.size=w.heap.size+1+1:=by simp
  generalize ((w.alloc (.cells #[.slice none 0 0] 43)).alloc (.cells #[.string a0] 9))=W2 at oB sB M ac ⊢
  refine wpIn_rangeFunc_ownH rfl (by omega) (gf := 43) (lb := #[.pointer (some ⟨w.heap.size + 1, 0, none⟩)]) rfl trivial (enters_of Try.func43 (by kernel_rfl) rfl)
    (each_stops 3 (by omega) (w.heap.size + 1) k a0 ps aa.out W2 sB) (fun _ _ => trivial) (fun _ _ _ _ _ _ _ _ => trivial) (Below.refl _ _) (fun _ => rfl)
    (fun C W => (∃ v, Boxed W w.heap.size 43 v ∧ Kd.R k24 24 W w.heap.size (fun k => k ≠ w.heap.size) v C) ∧ Below w.heap.size w W ∧ W2.heap.size ≤ W.heap.size)
    (fun _ _ _ => False)
    (fun s A B row ⟨⟨v, h1, h2⟩, h3, h4⟩ hg hr => ⟨⟨v, blk_grown_ h1 hg hr, own_grown h2 hg hr⟩, h3.grown hg h3.size (fun k e => by have := (hr k e).1; omega), Nat.le_trans h4 hg.size⟩)
    (fun _ _ _ _ _ hs _ _ => hs)
    ⟨⟨_, oB, Kd.R_nil _ _ _ _ _⟩, M, Nat.le_refl _⟩
    (fun x a' W => ∃ Bx, W2.heap.size ≤ Bx ∧ W.heap[Bx]? = some (.cells #[.int .u8 x.f0, .string x.f1] 24 (0, 0)) ∧ a' = { tmps := #[.string a0, undef, .slice none 0 0, .pointer (some ⟨w.heap.size, 0, none⟩), .pointer (some ⟨Bx, 0, none⟩), .string a0, .func (.func 43) #[] #[.pointer (some ⟨w.heap.size + 1, 0, none⟩)], .agg #[.int .u8 x.f0, .string x.f1], undef, undef, undef, undef, undef], defers := [] })
    (fun x a' _ A B row ⟨Bx, h1, h2, h3⟩ hg hr => ⟨Bx, h1, blk_grown_ h2 hg hr, h3⟩) ?assign ?body ?done ?stop
  case assign=>
    rintro l C x W K ⟨⟨v,h1,h2⟩,h3,h4⟩ hK
    dsimp only[encP]
    gi_wp2
    refine hK _ _ ((KeepsOthers.alloc _ _).from _) trivial ⟨⟨v,h1.alloc _,Kd.R_alloc h2 _⟩,below_alloc h3 _,by rw [World.size_alloc];omega⟩ ⟨W.heap.size,h4,heap_alloc_new _ _,rfl⟩
  case body=>
    rintro l C x a' W hl hr ⟨⟨v,hv,E⟩,hb,N⟩ ⟨Bx,al,hx,rfl⟩ am
    have hc:=hv.cell;have ap:W.cell? ⟨Bx,0,none⟩=some (.int .u8 x.f0):=(blk_cell hx 0).trans rfl;have aq:W.cell? ⟨Bx,1,none⟩=some (.string x.f1):=(blk_cell hx 1).trans rfl;have HL:Aside0 ((C.length+1) * 24≤140737488355328):=⟨by have:=ab.out;omega⟩
    gi_wp2_with (gi_at_builtin;refine R_append_in k24 (w0:=w) w.heap.size rfl (.tmp 8) (.tmp 10) 43 24 (.agg #[(.int .u8 0),(.string ⟨#[]⟩)]) 24 rfl Try.underlying43 info24 rfl (by decide) (by omega) v C x [.int .u8 x.f0,.string x.f1] (fun k_=>k_≠w.heap.size) (fun _=>False) rfl rfl (k24_mkM _ _ _ _) (fun _ hk=>hk.elim) ?aF E hb hb.size HL.out ?_;(case aF=>intro k_ ae af;subst af;exact absurd (blk_lt hv) (Nat.not_lt.2 ae));intro v1 w1 O ag G ar;obtain⟨A1,c1,rfl⟩:=Kd.R_slice O;have H:Boxed w1 w.heap.size 43 v:=blk_grown hv G (Kd.R_away E (fun _ hk=>hk));have au:=H.cell;have av:=H.frozen)
    refine⟨((KeepsOthers.of_grownBy G (fun j o hj ho=>?_)).trans (KeepsOthers.setCell _ _ _)).from _,trivial,⟨_,Boxed.set _ H,by simpa using Kd.R_far O (p:=⟨w.heap.size,0,none⟩) (fun _ hk=>hk) (.slice A1 (C.length+1) c1)⟩,ag.setCell (p:=⟨w.heap.size,0,none⟩) (Nat.le_refl _) _,Nat.le_trans N (Nat.le_trans G.size (Nat.le_of_eq (World.size_setCell _ _ _).symm))⟩;obtain⟨inner,ah⟩:=Kd.R_own E;obtain⟨cells,aj⟩:=own_typed ah j hj;rw [aj]at ho;cases ho;rfl
  case done=>
    rintro D xs W hD rfl ⟨⟨v,hv,E⟩,hb,N⟩ T
    obtain⟨A,c,rfl⟩:=Kd.R_slice E;have hc:=hv.cell
    gi_wp2
    refine⟨by simp,.inl ⟨_,_,rfl,run_takeDeferred T,?_⟩⟩;have U:=grownBy_putObj' W D (.deferred none);have V: ∀ r,some D=some r→w.heap.size≤r∧ ∃ o:Obj,W.heap[r]? =some o∧o.isCells=false:=fun r e=>by cases e;exact⟨by omega,_,T,rfl⟩
    exact⟨_,results_tmp rfl _ _ _,_,rfl,Kd.R_mono (own_grown E U V) (fun _ _=>trivial),hb.grown U hb.size (fun k e=>(V k e).1)⟩
  case stop=>
    rintro D c C W _ _ h _
    exact h.elim
theorem gram_Pieces.calls (k:Nat) (a0:ByteArray) (r:List (S24)) (w:World) (h:gram_Pieces.f k a0=some r):
    Calls Try.prog 12 #[.string a0] w fun e w'=> ∃ A:Value,e= .returned (A)∧Kd.R k24 24 w' w.heap.size (fun _=>True) A r∧Below w.heap.size w w':=by
  refine (gram_Pieces.walk k a0 w r h).mono ?_
  rintro e w' ⟨v,he,ho,hb⟩
  exact⟨v,he,ho,hb⟩
def spoorref13_Same.l0 : Nat → List (S38) → List (S38) → Int → Int → Option (Bool)
 | 0, _, _, _, _ => none
 | k + 1, x0, x1, x12, x13 => if x13 < x12 then (if 0 ≤ x13 then (if x13 < (x0.length : Int) then (if x13 < (x1.length : Int) then (if ((!(((rd_T38 x0 x13).f0.f0) == ((rd_T38 x1 x13).f0.f0)) || (!(((rd_T38 x0 x13).f0.f1) == ((rd_T38 x1 x13).f0.f1)) || (!(((rd_T38 x0 x13).f0.f2) == ((rd_T38 x1 x13).f0.f2)) || (!(((rd_T38 x0 x13).f0.f3) == ((rd_T38 x1 x13).f0.f3)) || ((!(((rd_T38 x0 x13).f0.f4.f0) == ((rd_T38 x1 x13).f0.f4.f0)) || ((!(((rd_T38 x0 x13).f0.f4.f1.f0) == ((rd_T38 x1 x13).f0.f4.f1.f0)) || (!(((rd_T38 x0 x13).f0.f4.f1.f1) == ((rd_T38 x1 x13).f0.f4.f1.f1)))) || (!(((rd_T38 x0 x13).f0.f4.f2) == ((rd_T38 x1 x13).f0.f4.f2))))) || ((!(((rd_T38 x0 x13).f0.f5.f0) == ((rd_T38 x1 x13).f0.f5.f0)) || (!(((rd_T38 x0 x13).f0.f5.f1) == ((rd_T38 x1 x13).f0.f5.f1)))) || (!(((rd_T38 x0 x13).f0.f6) == ((rd_T38 x1 x13).f0.f6)) || (!(((rd_T38 x0 x13).f0.f7) == ((rd_T38 x1 x13).f0.f7)))))))))) || (!(((rd_T38 x0 x13).f1) == ((rd_T38 x1 x13).f1)))) = true then (some false) else (spoorref13_Same.l0 k x0 x1 x12 (wrap64 (x13 + 1)))) else (none)) else (none)) else (none)) else (some true)
def spoorref13_Same.f (k:Nat) (l0:List (S38)) (l1:List (S38)):Option (Bool):=if (l0.length:Int)=(l1.length:Int) then (spoorref13_Same.l0 k l0 l1 (l0.length:Int) 0) else (some false)
theorem spoorref13_Same.mono_l: ∀ k,(∀ y0 y1 y2 y3,LeO (spoorref13_Same.l0 k y0 y1 y2 y3) (spoorref13_Same.l0 (k+1) y0 y1 y2 y3))
 |0=>fun _ _ _ _ r h=>by simp [spoorref13_Same.l0]at h
 |k+1=>by
  have A:=spoorref13_Same.mono_l k
  ·intro y0 y1 y2 y3;unfold spoorref13_Same.l0
   repeat' first
   |(with_reducible exact A _ _ _ _)
   |(with_reducible exact LeO.refl _)
   |(with_reducible exact LeO.none _)
   |(with_reducible refine LeO.ite ?_ ?_)
   |(with_reducible refine LeO.bind ?_ (fun _=>?_))
   |exact A _ _ _ _
   |exact LeO.none _
   |refine LeO.ite ?_ ?_
   |refine LeO.bind ?_ (fun _=>?_)
theorem spoorref13_Same.mono: ∀ a0 a1 k,LeO (spoorref13_Same.f k a0 a1) (spoorref13_Same.f (k+1) a0 a1):=by
 intro a0 a1 k;have A:=spoorref13_Same.mono_l k;unfold spoorref13_Same.f
 repeat' first
   | (with_reducible exact A _ _ _ _)
   | (with_reducible exact LeO.refl _)
   | (with_reducible exact LeO.none _)
   | (with_reducible refine LeO.ite ?_ ?_)
   | (with_reducible refine LeO.bind ?_ (fun _ => ?_))
   | exact A _ _ _ _
   | exact LeO.none _
   | refine LeO.ite ?_ ?_
   | refine LeO.bind ?_ (fun _ => ?_)
set_option maxHeartbeats 8000000 in
set_option maxRecDepth 100000 in
theorem spoorref13_Same.calls (k:Nat) (A0:Option Addr) (c0:Nat) (l0:List (S38)) (A1:Option Addr) (c1:Nat) (l1:List (S38)) (r:Bool) (w:World) (L:Kd.C k38 w A0 l0.length l0) (M:l0.length≤c0) (N:Kd.C k38 w A1 l1.length l1) (O:l1.length≤c1) (h:spoorref13_Same.f k l0 l1=some r):
  Calls Try.prog 14 #[.slice A0 l0.length c0,.slice A1 l1.length c1] w fun e w'=>e= .returned (.bool r)∧Drawn0 w w':=by
 have aT:=Try.underlying38;have R:=Ax L;have aU:=Ax M;clear L M;have T:=Ax N;have aV:=Ax O;clear N O;have H:(if (l0.length:Int)=(l1.length:Int) then (spoorref13_Same.l0 k l0 l1 (l0.length:Int) 0) else (some false))=some r:=h;clear h;by_cases c3:(l0.length:Int)=(l1.length:Int)
 ·rw [if_pos c3]at H;have U:((l0.length:Int)==(l1.length:Int))=true:=beq_iff_eq.mpr c3;have V:((l0.length:Int) !=(l1.length:Int))=false:=bne_eq_false_iff_eq.mpr c3;have X:(l0.length==l1.length)=true:=by first|simpa using c3|(simp at c3 ⊢;omega)
  clear c3;have H':=Ax H;clear H;go_enter Try.func14,Try.ntmps14;go_wp2
  repeat (go_quiet (fail);try go_wp2)
  go_loopg [13] k (fun kq ab w'=> ∃ (A:Int),ab= .int .i64 A∧Aside0 (spoorref13_Same.l0 kq l0 l1 (l0.length:Int) A=some r)∧Aside0 (kq≤k)∧Drawn0 w w')
  case atStart=>exact⟨(0),rS,H',⟨Nat.le_refl _⟩,by repeat (first|exact Drawn0.refl _|apply Drawn0.step)⟩
  case round=>
   clear H';(try clear c1);(try clear p2);(try clear c3);(try clear U);(try clear V);(try clear X);obtain⟨A,rfl,HA,aa,⟨m1,rfl⟩⟩:=hrel;cases gk with
   |zero=>exact absurd HA.out (by simp [spoorref13_Same.l0])
   |succ k1=>
    have H:=HA.out;clear HA;simp only[spoorref13_Same.l0]at H;by_cases c4:A<(l0.length:Int)
    ·rw [if_pos c4]at H;have ac:decide (A<(l0.length:Int))=true:=dT c4;clear c4;by_cases c5:0≤A
     ·rw [if_pos c5]at H;have aW:decide (0≤A)=true:=dT c5;clear c5;by_cases c6:A<(l0.length:Int)
      ·rw [if_pos c6]at H;have aY:decide (A<(l0.length:Int))=true:=dT c6;clear c6;by_cases c7:A<(l1.length:Int)
       ·rw [if_pos c7]at H;have aZ:decide (A<(l1.length:Int))=true:=dT c7;clear c7;by_cases c8:((!(((rd_T38 l0 A).f0.f0)==((rd_T38 l1 A).f0.f0))||(!(((rd_T38 l0 A).f0.f1)==((rd_T38 l1 A).f0.f1))||(!(((rd_T38 l0 A).f0.f2)==((rd_T38 l1 A).f0.f2))||(!(((rd_T38 l0 A).f0.f3)==((rd_T38 l1 A).f0.f3))||((!(((rd_T38 l0 A).f0.f4.f0)==((rd_T38 l1 A).f0.f4.f0))||((!(((rd_T38 l0 A).f0.f4.f1.f0)==((rd_T38 l1 A).f0.f4.f1.f0))||(!(((rd_T38 l0 A).f0.f4.f1.f1)==((rd_T38 l1 A).f0.f4.f1.f1))))||(!(((rd_T38 l0 A).f0.f4.f2)==((rd_T38 l1 A).f0.f4.f2)))))||((!(((rd_T38 l0 A).f0.f5.f0)==((rd_T38 l1 A).f0.f5.f0))||(!(((rd_T38 l0 A).f0.f5.f1)==((rd_T38 l1 A).f0.f5.f1))))||(!(((rd_T38 l0 A).f0.f6)==((rd_T38 l1 A).f0.f6))||(!(((rd_T38 l0 A).f0.f7)==((rd_T38 l1 A).f0.f7))))))))))||(!(((rd_T38 l0 A).f1)==((rd_T38 l1 A).f1))))=true
        ·rw [if_pos c8]at H;have ae:((!(((rd_T38 l0 A).f0.f0)==((rd_T38 l1 A).f0.f0))||(!(((rd_T38 l0 A).f0.f1)==((rd_T38 l1 A).f0.f1))||(!(((rd_T38 l0 A).f0.f2)==((rd_T38 l1 A).f0.f2))||(!(((rd_T38 l0 A).f0.f3)==((rd_T38 l1 A).f0.f3))||((!(((rd_T38 l0 A).f0.f4.f0)==((rd_T38 l1 A).f0.f4.f0))||((!(((rd_T38 l0 A).f0.f4.f1.f0)==((rd_T38 l1 A).f0.f4.f1.f0))||(!(((rd_T38 l0 A).f0.f4.f1.f1)==((rd_T38 l1 A).f0.f4.f1.f1))))||(!(((rd_T38 l0 A).f0.f4.f2)==((rd_T38 l1 A).f0.f4.f2)))))||((!(((rd_T38 l0 A).f0.f5.f0)==((rd_T38 l1 A).f0.f5.f0))||(!(((rd_T38 l0 A).f0.f5.f1)==((rd_T38 l1 A).f0.f5.f1))))||(!(((rd_T38 l0 A).f0.f6)==((rd_T38 l1 A).f0.f6))||(!(((rd_T38 l0 A).f0.f7)==((rd_T38 l1 A).f0.f7))))))))))||(!(((rd_T38 l0 A).f1)==((rd_T38 l1 A).f1))))=true:=c8;clear c8;obtain rfl:=Option.some.inj H;have B:0≤(A:Int):=of_decide_eq_true (by first|(with_reducible assumption)|assumption);have D:A<(l0.length:Int):=of_decide_eq_true (by first|(with_reducible assumption)|assumption);obtain⟨af,G,ag,ah,aj,al,am,ap,aq,ar,au,av,aw,ax,ay⟩:=at_T38 R.out A B D;cases G;replace B:=eq_true B;replace D:=eq_true D;have E:0≤(A:Int):=of_decide_eq_true (by first|(with_reducible assumption)|assumption);have F:A<(l1.length:Int):=of_decide_eq_true (by first|(with_reducible assumption)|assumption);obtain⟨az,I,aA,aC,aD,aE,aG,aH,aI,aJ,aK,aM,aN,aQ,aR⟩:=at_T38 T.out A E F;cases I;replace E:=eq_true E;replace F:=eq_true F;go_wp2
         repeat (go_quiet (fail);try go_wp2)
         go_ret;exact⟨by first|rfl|(simp;done)|(simp [*];done),by repeat (first|exact Drawn0.refl _|apply Drawn0.step)⟩
        ·rw [if_neg c8]at H;have ae:((!(((rd_T38 l0 A).f0.f0)==((rd_T38 l1 A).f0.f0))||(!(((rd_T38 l0 A).f0.f1)==((rd_T38 l1 A).f0.f1))||(!(((rd_T38 l0 A).f0.f2)==((rd_T38 l1 A).f0.f2))||(!(((rd_T38 l0 A).f0.f3)==((rd_T38 l1 A).f0.f3))||((!(((rd_T38 l0 A).f0.f4.f0)==((rd_T38 l1 A).f0.f4.f0))||((!(((rd_T38 l0 A).f0.f4.f1.f0)==((rd_T38 l1 A).f0.f4.f1.f0))||(!(((rd_T38 l0 A).f0.f4.f1.f1)==((rd_T38 l1 A).f0.f4.f1.f1))))||(!(((rd_T38 l0 A).f0.f4.f2)==((rd_T38 l1 A).f0.f4.f2)))))||((!(((rd_T38 l0 A).f0.f5.f0)==((rd_T38 l1 A).f0.f5.f0))||(!(((rd_T38 l0 A).f0.f5.f1)==((rd_T38 l1 A).f0.f5.f1))))||(!(((rd_T38 l0 A).f0.f6)==((rd_T38 l1 A).f0.f6))||(!(((rd_T38 l0 A).f0.f7)==((rd_T38 l1 A).f0.f7))))))))))||(!(((rd_T38 l0 A).f1)==((rd_T38 l1 A).f1))))=false:=by simpa using c8
         clear c8;have H':=Ax H;clear H;have B:0≤(A:Int):=of_decide_eq_true (by first|(with_reducible assumption)|assumption);have D:A<(l0.length:Int):=of_decide_eq_true (by first|(with_reducible assumption)|assumption);obtain⟨af,G,ag,ah,aj,al,am,ap,aq,ar,au,av,aw,ax,ay⟩:=at_T38 R.out A B D;cases G;replace B:=eq_true B;replace D:=eq_true D;have E:0≤(A:Int):=of_decide_eq_true (by first|(with_reducible assumption)|assumption);have F:A<(l1.length:Int):=of_decide_eq_true (by first|(with_reducible assumption)|assumption);obtain⟨az,I,aA,aC,aD,aE,aG,aH,aI,aJ,aK,aM,aN,aQ,aR⟩:=at_T38 T.out A E F;cases I;replace E:=eq_true E;replace F:=eq_true F;go_wp2
         repeat (go_quiet (fail);try go_wp2)
         go_roundg k1
         case measure=>have:=aa.out;omega
         case rel=>exact⟨(wrap64 (A+1)),rS,H',⟨by have:=aa.out;omega⟩,by repeat (first|exact Drawn0.refl _|apply Drawn0.step)⟩
       ·rw [if_neg c7]at H;exact absurd H (by simp)
      ·rw [if_neg c6]at H;exact absurd H (by simp)
     ·rw [if_neg c5]at H;exact absurd H (by simp)
    ·rw [if_neg c4]at H;have ac:decide (A<(l0.length:Int))=false:=dF c4;clear c4;obtain rfl:=Option.some.inj H;go_wp2
     repeat (go_quiet (fail);try go_wp2)
     go_ret;exact⟨by first|rfl|(simp;done)|(simp [*];done),by repeat (first|exact Drawn0.refl _|apply Drawn0.step)⟩
 ·rw [if_neg c3]at H;have U:((l0.length:Int)==(l1.length:Int))=false:=beq_eq_false_iff_ne.mpr c3;have V:((l0.length:Int) !=(l1.length:Int))=true:=bne_iff_ne.mpr c3;have X:(l0.length==l1.length)=false:=by first|simpa using c3|(simp at c3 ⊢;omega)
  obtain rfl:=Option.some.inj H;go_enter Try.func14,Try.ntmps14;go_wp2
  repeat (go_quiet (fail);try go_wp2)
  go_ret;exact⟨by first|rfl|(simp;done)|(simp [*];done),by repeat (first|exact Drawn0.refl _|apply Drawn0.step)⟩
attribute [local go_sem] Oper.semAt_some
theorem seq_sub {α:Type}{F:Fence}{n:Nat}{P:Program}{g:Nat}{lb:Array Value}{encs:α→Array Value}{Kp:World→World→Prop}{ps:List α}{w:World}
    (C: ∀ (l:Nat) (J Jx:List α→World→Prop) (W:World),Below w.heap.size w W→(∀ D W W',J D W→W.grownBy W' none→J D W')→
      (∀ D x W1,J D W1→D++ [x]<+:ps→YieldAt F (n - 1) P l (encs x) W1 fun e W'=>(e= .returned (.bool true)∧J (D++ [x]) W'∧Kp W1 W')∨(e= .returned (.bool false)∧Jx (D++ [x]) W'))→
      J [] W→CallsIn F n P g (#[.func (.yield l) #[] #[]]++lb) W fun e W'=>(∃ v,e= .returned v)∧((∃ ys,ys=ps∧J ys W')∨(∃ D,D<+:ps∧Jx D W'))):
    SeqStopsK F n P g lb (fun x: {x // x∈ps}=>encs x.1) Kp (fun ys=>ys.map (·.1)=ps) (fun _=>True) ps.length w:=by
  intro l J Jx W hW hJ _ hY h0;refine (C l (fun D W=> ∃ ys:List {x // x∈ps},ys.map (·.1)=D∧J ys W) (fun D W=> ∃ ys:List {x // x∈ps},ys.map (·.1)=D∧Jx ys W) W hW ?_ ?_ ⟨[],rfl,h0⟩).mono ?_
  · rintro D A B ⟨ys,E,hj⟩ hg
    exact⟨ys,E,hJ _ _ _ none hj hg (fun _ e=>by cases e)⟩
  · rintro D x W1 ⟨ys,rfl,hj⟩ hp
    have hx:x∈ps:=hp.subset (by simp);have aa:ys.length<ps.length:=by have:=hp.length_le;simp at this;omega
    refine YieldAt.mono (hY ys ⟨x,hx⟩ W1 hj aa) ?_
    rintro e W' (⟨rfl,h1,h2⟩|⟨rfl,h1⟩)
    · exact .inl ⟨rfl,⟨_,by simp,h1⟩,h2⟩
    · exact .inr ⟨rfl,⟨_,by simp,h1⟩⟩
  · rintro e W' ⟨hv,(⟨_,rfl,ys,E,hj⟩|⟨D,hp,ys,E,hj⟩)⟩
    · exact⟨hv,.inl ⟨ys,E,hj⟩⟩
    · exact⟨hv,.inr ⟨ys,trivial,hj⟩⟩
def gram_got (k : Nat) (x : S24) : Option (List S38) := (gram_Of.f k x.f0 x.f1).bind fun (r1, r2, r3, r4, r5, r6, r7, r8, r9, r10, r11, r12, r13, r14) =>
  some (if r14 = 0 then [⟨⟨r1, r2, r3, r4, ⟨r5, ⟨r6, r7⟩, r8⟩, ⟨r9, r10⟩, r11, r12⟩, r13⟩] else [])
def gram_gots (k : Nat) : List S24 → Option (List S38)
  | [] => some []
  | x :: xs => (gram_got k x).bind fun g => (gram_gots k xs).bind fun r => some (g ++ r)
theorem gots_got {k:Nat}{x:S24}: ∀ {ps:List S24}{gs:List S38},gram_gots k ps=some gs→x∈ps→ ∃ g,gram_got k x=some g
  | [],_,_,h=>by cases h
  |y :: ys,gs,h,hm=>by
    obtain⟨g,h1,h2⟩:=Option.bind_eq_some_iff.mp h;obtain⟨r,h3,_⟩:=Option.bind_eq_some_iff.mp h2;rcases List.mem_cons.mp hm with rfl|hm
    · exact⟨g,h1⟩
    · exact gots_got h3 hm
theorem gots_snoc {k:Nat}{x:S24}{g:List S38}: ∀ {ps:List S24}{gs:List S38},gram_gots k ps=some gs→gram_got k x=some g→gram_gots k (ps++ [x])=some (gs++g)
  | [],gs,h,hx=>by
    obtain rfl:=Option.some.inj h;simp [gram_gots,hx]
  |y :: ys,gs,h,hx=>by
    obtain⟨a,h1,h2⟩:=Option.bind_eq_some_iff.mp h;obtain⟨r,h3,h4⟩:=Option.bind_eq_some_iff.mp h2;obtain rfl:=Option.some.inj h4;simp [gram_gots,h1,gots_snoc h3 hx]
theorem gots_len {k:Nat}: ∀ {ps:List S24}{gs:List S38},gram_gots k ps=some gs→gs.length≤ps.length
  | [],gs,h=>by
    obtain rfl:=Option.some.inj h;simp
  |y :: ys,gs,h=>by
    obtain⟨a,h1,h2⟩:=Option.bind_eq_some_iff.mp h;obtain⟨r,h3,h4⟩:=Option.bind_eq_some_iff.mp h2;obtain rfl:=Option.some.inj h4;obtain⟨t,_,h5⟩:=Option.bind_eq_some_iff.mp h1;obtain⟨r1,r2,r3,r4,r5,r6,r7,r8,r9,aa,ab,ac,ae,af⟩:=t;have:=gots_len h3;dsimp only at h5
    split at h5 <;> (obtain rfl:=Option.some.inj h5;simp;omega)
theorem gram_got_mono (k:Nat) (x:S24):LeO (gram_got k x) (gram_got (k+1) x):=by
  unfold gram_got;exact LeO.bind (gram_Of.mono _ _ _) (fun _=>LeO.refl _)
theorem gram_gots_mono (k : Nat) : ∀ ps, LeO (gram_gots k ps) (gram_gots (k + 1) ps)
  | [] => LeO.refl _
  | x :: xs => LeO.bind (gram_got_mono k x) (fun _ => LeO.bind (gram_gots_mono k xs) (fun _ => LeO.refl _))
def gram_Gots.f (k:Nat) (a0:ByteArray):Option ((List (S38))):=(gram_each.l k a0).bind fun ps=>if ps.length * 104≤140737488355328 then gram_gots k ps else none
theorem gram_Gots.mono: ∀ a0 k,LeO (gram_Gots.f k a0) (gram_Gots.f (k+1) a0):=by
  intro a0 k;unfold gram_Gots.f;exact LeO.bind (gram_each.l_mono _ _) (fun _=>LeO.ite (gram_gots_mono _ _) (LeO.refl _))
set_option maxRecDepth 100000 in
set_option maxHeartbeats 4000000 in
theorem gram_Gots.walk (k:Nat) (a0:ByteArray) (w:World) (r:List S38) (h:gram_Gots.f k a0=some r):
    Calls Try.prog 15 #[.string a0] w fun e w'=> ∃ ab:Value,e= .returned ab∧Kd.R k38 38 w' w.heap.size (fun _=>True) ab r∧Below w.heap.size w w':=by
  refine (callsIn_wide (n:=4)).1 ?_;obtain⟨ps,ac,h⟩:=Option.bind_eq_some_iff.mp h;by_cases M:ps.length * 104≤140737488355328
  case neg=>rw [if_neg M]at h;cases h
  rw [if_pos M]at h;have ax:=Aside0.mk ac;have ay:=Aside0.mk M;have HG:=Aside0.mk h;clear h ac M;refine callsIn_of_wp_marks Try.func15 rfl trivial ?_ rfl;simp only[Try.ntmps15,List.size_toArray,List.length_cons,List.length_nil,Nat.reduceAdd,Nat.reduceSub,Array.replicate_succ,Array.replicate_zero,List.push_toArray,List.append_toArray,List.nil_append,List.cons_append]
  gi_wp2
  refine⟨trivial,?_⟩;refine (each_in _ _ _).mono ?_
  rintro e w' ⟨rfl,rfl⟩
  gi_wp2
  have oB:Boxed ((w.alloc (.cells #[.slice none 0 0] 46)).alloc (.cells #[.string a0] 9)) w.heap.size 46 (.slice none 0 0):=(Boxed.new w 46 (.slice none 0 0)).alloc _
  have sB:((w.alloc (.cells #[.slice none 0 0] 46)).alloc (.cells #[.string a0] 9)).heap[w.heap.size+1]? =some (.cells #[.string a0] 9 (0,0)):=by
    have:=heap_alloc_new (w.alloc (.cells #[.slice none 0 0] 46)) (.cells #[.string a0] 9)
    rwa [World.size_alloc]at this
  have ae:Below w.heap.size w ((w.alloc (.cells #[.slice none 0 0] 46)).alloc (.cells #[.string a0] 9)):=below_alloc (below_alloc (Below.refl _ w) _) _;have az:((w.alloc (.cells #[.slice none 0 0] 46)).alloc (.cells #[.string a0] 9)).heap.size=w.heap.size+1+1:=by simp
  generalize ((w.alloc (.cells #[.slice none 0 0] 46)).alloc (.cells #[.string a0] 9))=W2 at oB sB ae az ⊢;have aA:=seq_sub (encs:=encP) (Kp:=fun _ _=>True) (n:=3) (w:=W2) (lb:= #[.pointer (some ⟨w.heap.size+1,0,none⟩)]) (fun l J Jx W hW hJ hY h0=>each1_in 3 (by omega) l (w.heap.size+1) k a0 ps ax.out J Jx hY hJ W (blk_below sB hW) h0)
  refine wpIn_rangeFunc_ownH rfl (by omega) (gf := 43) (lb := #[.pointer (some ⟨w.heap.size + 1, 0, none⟩)]) rfl trivial (enters_of Try.func43 (by kernel_rfl) rfl)
    aA (fun _ _ => trivial) (fun _ _ _ _ _ _ _ _ => trivial) (Below.refl _ _) (fun _ => rfl)
    (fun N W => (∃ v gs, Boxed W w.heap.size 46 v ∧ Kd.R k38 38 W w.heap.size (fun k => k ≠ w.heap.size) v gs ∧ gram_gots k (N.map (·.1)) = some gs) ∧ Below w.heap.size w W ∧ W2.heap.size ≤ W.heap.size)
    (fun _ _ _ => False)
    (fun s A B row ⟨⟨v, gs, h1, h2, h5⟩, h3, h4⟩ hg hr => ⟨⟨v, gs, blk_grown_ h1 hg hr, own_grown h2 hg hr, h5⟩, h3.grown hg h3.size (fun k e => by have := (hr k e).1; omega), Nat.le_trans h4 hg.size⟩)
    (fun _ _ _ _ _ hs _ _ => hs)
    ⟨⟨_, [], oB, Kd.R_nil _ _ _ _ _, rfl⟩, ae, Nat.le_refl _⟩
    (fun x a' W => ∃ Bx, W2.heap.size ≤ Bx ∧ W.heap[Bx]? = some (.cells #[.int .u8 x.1.f0, .string x.1.f1] 24 (0, 0)) ∧ a' = { tmps := #[.string a0, undef, .slice none 0 0, .pointer (some ⟨w.heap.size, 0, none⟩), .pointer (some ⟨Bx, 0, none⟩), undef, undef, .string a0, .func (.func 43) #[] #[.pointer (some ⟨w.heap.size + 1, 0, none⟩)], .agg #[.int .u8 x.1.f0, .string x.1.f1], undef, undef, undef, undef, undef, undef, undef, undef, undef, undef, undef, undef], defers := [] })
    (fun x a' _ A B row ⟨Bx, h1, h2, h3⟩ hg hr => ⟨Bx, h1, blk_grown_ h2 hg hr, h3⟩) ?assign ?body ?done ?stop
  case assign=>
    rintro l N x W K ⟨⟨v,gs,h1,h2,h5⟩,h3,h4⟩ hK
    dsimp only[encP]
    gi_wp2
    exact hK _ _ ((KeepsOthers.alloc _ _).from _) trivial ⟨⟨v,gs,h1.alloc _,Kd.R_alloc h2 _,h5⟩,below_alloc h3 _,by rw [World.size_alloc];omega⟩ ⟨W.heap.size,h4,heap_alloc_new _ _,rfl⟩
  case body=>
    rintro l N x a' W hl hr ⟨⟨v,gs,hv,L,I⟩,hb,af⟩ ⟨Bx,aN,hx,rfl⟩ aQ
    obtain⟨g,hg⟩:=gots_got HG.out x.2;have hg':=hg;obtain⟨⟨r1,r2,r3,r4,r5,r6,r7,r8,r9,E,F,G,H,U⟩,ag,he⟩:=Option.bind_eq_some_iff.mp hg';dsimp only at he;have ah:=Aside0.mk (gots_snoc I hg);have HL:Aside0 ((gs.length+1) * 104≤140737488355328):=⟨by have h1:=ay.out;have h2:=gots_len I;rw [List.length_map]at h2;omega⟩;have HE:=Aside0.mk (Option.some.inj he);clear he hg hg' I;have aC:W.cell? ⟨Bx,0,none⟩=some (.int .u8 x.1.f0):=(blk_cell hx 0).trans rfl;have aD:W.cell? ⟨Bx,1,none⟩=some (.string x.1.f1):=(blk_cell hx 1).trans rfl
    gi_wp2
    refine⟨trivial,?_⟩;refine (CallsIn.inRound l (callsIn_wide.2 (gram_Of.calls k x.1.f0 x.1.f1 r1 r2 r3 r4 r5 r6 r7 r8 r9 E F G H U _ ag))).mono ?_
    rintro e W7 ⟨rfl,C⟩
    have aE:Boxed W7 w.heap.size 46 v:=blk_below hv C;have aj:=Kd.R_below L C;have al:=below_step hb C;have am:KeepsOthers W W7:=KeepsOthers.of_grownBy (row:=none) ⟨C.os,C.tape,C.output,C.size,fun k hk _=>C.block k hk⟩ (fun j o e _=>by cases e);have aR:W2.heap.size≤W7.heap.size:=Nat.le_trans af C.size;have O:Boxed (W7.alloc (.cells #[.int .u8 r1,.int .i64 r2,.int .u64 r3,.int .i64 r4,.bool r5,.int .u64 r6,.int .u64 r7,.int .i64 r8,.int .u8 r9,.int .i64 E,.int .i64 F,.int .i64 G,.int .i64 H] 38)) w.heap.size 46 v:=aE.alloc _;have V:=below_alloc al (.cells #[.int .u8 r1,.int .i64 r2,.int .u64 r3,.int .i64 r4,.bool r5,.int .u64 r6,.int .u64 r7,.int .i64 r8,.int .u8 r9,.int .i64 E,.int .i64 F,.int .i64 G,.int .i64 H] 38);have T:=Kd.R_alloc aj (.cells #[.int .u8 r1,.int .i64 r2,.int .u64 r3,.int .i64 r4,.bool r5,.int .u64 r6,.int .u64 r7,.int .i64 r8,.int .u8 r9,.int .i64 E,.int .i64 F,.int .i64 G,.int .i64 H] 38);have ap:KeepsOthers W (W7.alloc (.cells #[.int .u8 r1,.int .i64 r2,.int .u64 r3,.int .i64 r4,.bool r5,.int .u64 r6,.int .u64 r7,.int .i64 r8,.int .u8 r9,.int .i64 E,.int .i64 F,.int .i64 G,.int .i64 H] 38)):=am.trans (KeepsOthers.alloc _ _);have hc:=O.cell;have aq:W2.heap.size≤(W7.alloc (.cells #[.int .u8 r1,.int .i64 r2,.int .u64 r3,.int .i64 r4,.bool r5,.int .u64 r6,.int .u64 r7,.int .i64 r8,.int .u8 r9,.int .i64 E,.int .i64 F,.int .i64 G,.int .i64 H] 38)).heap.size:=by rw [World.size_alloc];omega
    have aT:=Aside0.mk C;clear aC aD hx hv L hb C ag al aj am;by_cases c:U=0
    · subst c;have he:=HE.out;rw [if_pos rfl]at he;subst he;clear HE
      gi_wp2_with (gi_at_builtin;refine R_append_in k38 (w0:=w) w.heap.size rfl (.tmp 17) (.tmp 19) 46 38 (.agg #[(.int .u8 0),(.int .i64 0),(.int .u64 0),(.int .i64 0),(.bool false),(.int .u64 0),(.int .u64 0),(.int .i64 0),(.int .u8 0),(.int .i64 0),(.int .i64 0),(.int .i64 0),(.int .i64 0)]) 104 rfl Try.underlying46 info38 rfl (by decide) (by omega) v gs ⟨⟨r1,r2,r3,r4,⟨r5,⟨r6,r7⟩,r8⟩,⟨r9,E⟩,F,G⟩,H⟩ [.int .u8 r1,.int .i64 r2,.int .u64 r3,.int .i64 r4,.bool r5,.int .u64 r6,.int .u64 r7,.int .i64 r8,.int .u8 r9,.int .i64 E,.int .i64 F,.int .i64 G,.int .i64 H] (fun k_=>k_≠w.heap.size) (fun _=>False) rfl ?aX (k38_mkM _ _ _ _) (fun _ hk=>hk.elim) ?aF T V V.size HL.out ?_;(case aX=>first|rfl|(go_simp;done)|(go_simp;rfl));(case aF=>intro k_ aG aH;subst aH;exact absurd (blk_lt O) (Nat.not_lt.2 aG));intro v1 w1 ar aI X aU;obtain⟨A1,c1,rfl⟩:=Kd.R_slice ar;have aa:Boxed w1 w.heap.size 46 v:=blk_grown O X (Kd.R_away T (fun _ hk=>hk));have aV:=aa.cell;have aW:=aa.frozen)
      refine⟨((ap.trans (KeepsOthers.of_grownBy X (fun j o hj ho=>?_))).trans (KeepsOthers.setCell _ _ _)).from _,trivial,⟨_,_,Boxed.set _ aa,by simpa using Kd.R_far ar (p:=⟨w.heap.size,0,none⟩) (fun _ hk=>hk) (.slice A1 (gs.length+1) c1),by simpa using ah.out⟩,aI.setCell (p:=⟨w.heap.size,0,none⟩) (Nat.le_refl _) _,Nat.le_trans aq (Nat.le_trans X.size (Nat.le_of_eq (World.size_setCell _ _ _).symm))⟩;obtain⟨inner,aJ⟩:=Kd.R_own T;obtain⟨cells,aK⟩:=own_typed aJ j hj;rw [aK]at ho;cases ho;rfl
    · have he:=HE.out;rw [if_neg c]at he;subst he;clear HE;have aY:(U==0)=false:=beq_eq_false_iff_ne.mpr c
      gi_wp2
      exact⟨ap.from _,trivial,⟨_,_,O,T,by simpa using ah.out⟩,V,aq⟩
  case done=>
    rintro D xs W hD aM ⟨⟨v,gs,hv,L,I⟩,hb,af⟩ au
    rw [aM]at I;obtain rfl:=Option.some.inj (I.symm.trans HG.out);obtain⟨A,c,rfl⟩:=Kd.R_slice L;have hc:=hv.cell;clear I
    gi_wp2
    refine⟨by simp,.inl ⟨_,_,rfl,run_takeDeferred au,?_⟩⟩;have av:=grownBy_putObj' W D (.deferred none);have aw: ∀ r,some D=some r→w.heap.size≤r∧ ∃ o:Obj,W.heap[r]? =some o∧o.isCells=false:=fun r e=>by cases e;exact⟨by omega,_,au,rfl⟩
    exact⟨_,results_tmp rfl _ _ _,_,rfl,Kd.R_mono (own_grown L av aw) (fun _ _=>trivial),hb.grown av hb.size (fun k e=>(aw k e).1)⟩
  case stop=>
    rintro D c N W _ _ h _
    exact h.elim
theorem gram_Gots.calls (k:Nat) (a0:ByteArray) (r:List (S38)) (w:World) (h:gram_Gots.f k a0=some r):
    Calls Try.prog 15 #[.string a0] w fun e w'=> ∃ A:Value,e= .returned (A)∧Kd.R k38 38 w' w.heap.size (fun _=>True) A r∧Below w.heap.size w w':=by
  refine (gram_Gots.walk k a0 w r h).mono ?_
  rintro e w' ⟨v,he,ho,hb⟩
  exact⟨v,he,ho,hb⟩
def num_Add.l0 : Nat → List Int → Int → Option (List Int)
 | 0, _, _ => none
 | k + 1, x0, x1 => if x1 ≥ 128 then (if x0.length < 140737488355328 then (num_Add.l0 k (x0 ++ [Go.bits .or .u8 ((x1) % 256) 128]) (x1 / 128)) else (none)) else (if x0.length < 140737488355328 then (some (x0 ++ [(x1) % 256])) else (none))
def num_Add.f (k:Nat) (l0:List Int) (a1:Int):Option (List Int):=num_Add.l0 k l0 a1
theorem num_Add.mono_l: ∀ k,(∀ y0 y1,LeO (num_Add.l0 k y0 y1) (num_Add.l0 (k+1) y0 y1))
 |0=>fun _ _ r h=>by simp [num_Add.l0]at h
 |k+1=>by
  have A:=num_Add.mono_l k
  ·intro y0 y1;unfold num_Add.l0
   repeat' first
   |(with_reducible exact A _ _)
   |(with_reducible exact LeO.refl _)
   |(with_reducible exact LeO.none _)
   |(with_reducible refine LeO.ite ?_ ?_)
   |(with_reducible refine LeO.bind ?_ (fun _=>?_))
   |exact A _ _
   |exact LeO.none _
   |refine LeO.ite ?_ ?_
   |refine LeO.bind ?_ (fun _=>?_)
theorem num_Add.mono: ∀ a0 a1 k,LeO (num_Add.f k a0 a1) (num_Add.f (k+1) a0 a1):=by
 intro a0 a1 k;have A:=num_Add.mono_l k;unfold num_Add.f
 repeat' first
   | (with_reducible exact A _ _)
   | (with_reducible exact LeO.refl _)
   | (with_reducible exact LeO.none _)
   | (with_reducible refine LeO.ite ?_ ?_)
   | (with_reducible refine LeO.bind ?_ (fun _ => ?_))
   | exact A _ _
   | exact LeO.none _
   | refine LeO.ite ?_ ?_
   | refine LeO.bind ?_ (fun _ => ?_)
set_option maxHeartbeats 8000000 in
set_option maxRecDepth 100000 in
theorem num_Add.calls (k:Nat) (B:Nat→Prop) (N:Value) (l0:List Int) (a1:Int) (r:List Int) (w0 w:World) (hB:Below w0.heap.size w0 w) (aa:Kd.R (Kd.int .u8) 5 w w0.heap.size B N l0) (h:num_Add.f k l0 a1=some r):
  Calls Try.prog 45 #[N,.int .u64 a1] w fun e w'=> ∃ T:Value,e= .returned (T)∧Kd.R (Kd.int .u8) 5 w' w0.heap.size (fun k_=>(B k_∨w.heap.size≤k_)) T r∧Below w0.heap.size w0 w'∧Kept w w' (fun k_=>B k_):=by
 have ab:=Ax (show Kd.R (Kd.int .u8) 5 w w0.heap.size (fun k_=>(B k_∨w.heap.size≤k_)) N l0 from Kd.R_mono aa (fun k_ hk=>(.inl hk)));have HK:=Ax (Kept.refl w (fun k_=>B k_));have ap:=Ax hB.size;have HB:=Ax hB;clear hB;have H:(num_Add.l0 k l0 a1)=some r:=h;clear h;have H':=Ax H;clear H;go_enter Try.func45,Try.ntmps45;go_wp2;go_loopg [0,1] k (fun kq v0 v1 w'=> ∃ (C:List Int) (A:Int),v1= .int .u64 A∧Aside0 (num_Add.l0 kq C A=some r)∧Aside0 (kq≤k)∧Aside0 (Kd.R (Kd.int .u8) 5 w' w0.heap.size (fun k_=>(B k_∨w.heap.size≤k_)) v0 C)∧Aside0 (Kept w w' (fun k_=>B k_))∧Aside0 (Below w0.heap.size w0 w'))
 case atStart=>exact⟨(l0),(a1),rS,H',⟨Nat.le_refl _⟩,⟨by (with_reducible repeat (first|apply Kd.R_alloc|apply Kd.R_drewN|apply Kd.R_drew));exact ab.out⟩,⟨by repeat (first|(with_reducible first|exact HK.out|apply Kept.alloc|apply Kept.drewN|apply Kept.drew)|exact HK.out)⟩,⟨bw0 HB.out⟩⟩
 case round=>
  clear H';try clear p2
  obtain⟨C,A,rfl,HA,U,E,HK,HB⟩:=hrel;cases gk with
  |zero=>exact absurd HA.out (by simp [num_Add.l0])
  |succ k1=>
   have H:=HA.out;clear HA;simp only[num_Add.l0]at H;by_cases c3:A ≥ 128
   ·rw [if_pos c3]at H;have ac:decide (128≤A)=true:=dT c3;clear c3;by_cases c4:C.length<140737488355328
    ·rw [if_pos c4]at H;have ae:=Ax c4;clear c4;obtain⟨V,F⟩: ∃ y_:List Int,y_=(C++ [Go.bits .or .u8 ((A) % 256) 128]):=⟨_,rfl⟩;replace H:(num_Add.l0 k1 V (A / 128))=some r:=by first|(rw [F];with_reducible exact H)|(have D:=(Option.bind_some _ _).symm.trans H;rw [F];with_reducible exact D)|(have D:=(Option.bind_some _ _).symm.trans H;with_reducible exact D)|with_reducible exact H|(rw [F];exact H)|exact H
     have af:=Ax F;clear F;have H':=Ax H;clear H;go_wp2_with (first|((with_reducible refine gate_builtin (b:=.append) (xs:= #[.tmp 7,.tmp 11]) rfl ?_);at_builtin;refine Kd.R_append (Kd.int .u8) (w0:=w0) w0.heap.size rfl (.tmp 7) (.tmp 11) 67 5 (.int .u8 0) 1 rfl Try.underlying67 info5 rfl (by decide) (by omega) u0 C (Go.bits .or .u8 ((A) % 256) 128) [.int .u8 (Go.bits .or .u8 ((A) % 256) 128)] (fun k_=>(B k_∨w.heap.size≤k_)) (fun _=>False) rfl rfl ?aP (fun _ hk=>hk.elim) ?aF ?aO ?aB ?aS ?aL ?_;(case aP=>exact rfl);(case aB=>exact (bw0 HB.out));(case aF=>exact (fun k_ hk=>(.inr (Nat.le_trans (by first|exact HK.out.1|exact (show Kept w _ (fun k_=>B k_) from by repeat (first|(with_reducible first|exact HK.out|apply Kept.alloc|apply Kept.drewN|apply Kept.drew)|exact HK.out)).1) hk))));(case aO=>exact (by (with_reducible repeat (first|apply Kd.R_alloc|apply Kd.R_drewN|apply Kd.R_drew));exact E.out));(case aS=>exact (below_size (bw0 HB.out)));(case aL=>have:=ae.out;omega);intro aq w5 ho hb hg O;rw [← af.out]at ho;have G:=Ax (hb);have I:=Ax (Kept.of_grown (S:=(fun k_=>B k_)) hg (by repeat (first|(with_reducible first|exact HK.out|apply Kept.alloc|apply Kept.drewN|apply Kept.drew)|exact HK.out)) (fun k_ e_=>(E.out.1 k_ e_)));have L:=Ax (ho);clear HB;clear HK;clear E;have HB:=G;have HK:=I;have ag:=L;clear G I L;clear ho hb hg O));go_roundg k1
     case measure=>have:=U.out;omega
     case rel=>exact⟨(V),(A / 128),rS,H',⟨by have:=U.out;omega⟩,⟨by (with_reducible repeat (first|apply Kd.R_alloc|apply Kd.R_drewN|apply Kd.R_drew));exact ag.out⟩,⟨by repeat (first|(with_reducible first|exact HK.out|apply Kept.alloc|apply Kept.drewN|apply Kept.drew)|exact HK.out)⟩,⟨bw0 HB.out⟩⟩
    ·rw [if_neg c4]at H;exact absurd H (by simp)
   ·rw [if_neg c3]at H;have ac:decide (128≤A)=false:=dF c3;clear c3;by_cases c6:C.length<140737488355328
    ·rw [if_pos c6]at H;have ah:=Ax c6;clear c6;obtain⟨aj,M⟩: ∃ y_:List Int,y_=(C++ [(A) % 256]):=⟨_,rfl⟩;replace H:(some aj)=some r:=by first|(rw [M];with_reducible exact H)|(have D:=(Option.bind_some _ _).symm.trans H;rw [M];with_reducible exact D)|(have D:=(Option.bind_some _ _).symm.trans H;with_reducible exact D)|with_reducible exact H|(rw [M];exact H)|exact H
     have al:=Ax M;clear M;obtain rfl:=Option.some.inj H;go_wp2_with (first|((with_reducible refine gate_builtin (b:=.append) (xs:= #[.tmp 15,.tmp 18]) rfl ?_);at_builtin;refine Kd.R_append (Kd.int .u8) (w0:=w0) w0.heap.size rfl (.tmp 15) (.tmp 18) 67 5 (.int .u8 0) 1 rfl Try.underlying67 info5 rfl (by decide) (by omega) u0 C ((A) % 256) [.int .u8 ((A) % 256)] (fun k_=>(B k_∨w.heap.size≤k_)) (fun _=>False) rfl rfl ?aP (fun _ hk=>hk.elim) ?aF ?aO ?aB ?aS ?aL ?_;(case aP=>exact rfl);(case aB=>exact (bw0 HB.out));(case aF=>exact (fun k_ hk=>(.inr (Nat.le_trans (by first|exact HK.out.1|exact (show Kept w _ (fun k_=>B k_) from by repeat (first|(with_reducible first|exact HK.out|apply Kept.alloc|apply Kept.drewN|apply Kept.drew)|exact HK.out)).1) hk))));(case aO=>exact (by (with_reducible repeat (first|apply Kd.R_alloc|apply Kd.R_drewN|apply Kd.R_drew));exact E.out));(case aS=>exact (below_size (bw0 HB.out)));(case aL=>have:=ah.out;omega);intro ar w7 ho hb hg O;rw [← al.out]at ho;have G:=Ax (hb);have I:=Ax (Kept.of_grown (S:=(fun k_=>B k_)) hg (by repeat (first|(with_reducible first|exact HK.out|apply Kept.alloc|apply Kept.drewN|apply Kept.drew)|exact HK.out)) (fun k_ e_=>(E.out.1 k_ e_)));have L:=Ax (ho);clear HB;clear HK;clear E;have HB:=G;have HK:=I;have am:=L;clear G I L;clear ho hb hg O));go_ret;exact⟨_,eS,by (with_reducible repeat (first|apply Kd.R_alloc|apply Kd.R_drewN|apply Kd.R_drew));exact am.out,bw0 HB.out,by repeat (first|(with_reducible first|exact HK.out|apply Kept.alloc|apply Kept.drewN|apply Kept.drew)|exact HK.out)⟩
    ·rw [if_neg c6]at H;exact absurd H (by simp)
def msg_action.f (k:Nat) (l0:List Int) (A:Int) (aa:Int):Option (List Int):=if l0.length<140737488355328 then ((some (l0++ [A]:List Int)).bind fun B=>(if A=1 then ((num_Add.f k B (IntKind.u64.wrap (aa))).bind fun ab=>(some ab)) else (some B))) else (none)
theorem msg_action.mono: ∀ a0 a1 a2 k,LeO (msg_action.f k a0 a1 a2) (msg_action.f (k+1) a0 a1 a2):=by
 intro a0 a1 a2 k;unfold msg_action.f
 repeat' first
   | (with_reducible exact num_Add.mono _ _ _)
   | (with_reducible exact LeO.refl _)
   | (with_reducible exact LeO.none _)
   | (with_reducible refine LeO.ite ?_ ?_)
   | (with_reducible refine LeO.bind ?_ (fun _ => ?_))
   | exact num_Add.mono _ _ _
   | exact LeO.none _
   | refine LeO.ite ?_ ?_
   | refine LeO.bind ?_ (fun _ => ?_)
set_option maxHeartbeats 8000000 in
set_option maxRecDepth 100000 in
theorem msg_action.calls (k:Nat) (B:Nat→Prop) (X:Value) (l0:List Int) (A:Int) (L:Int) (r:List Int) (w0 w:World) (hB:Below w0.heap.size w0 w) (ah:Kd.R (Kd.int .u8) 5 w w0.heap.size B X l0) (h:msg_action.f k l0 A L=some r):
  Calls Try.prog 46 #[X,.agg #[.int .u8 A,.int .i64 L]] w fun e w'=> ∃ ar:Value,e= .returned (ar)∧Kd.R (Kd.int .u8) 5 w' w0.heap.size (fun k_=>(B k_∨w.heap.size≤k_)) ar r∧Below w0.heap.size w0 w'∧Kept w w' (fun k_=>B k_):=by
 have aG:=Try.underlying33;have D:=Ax (show Kd.R (Kd.int .u8) 5 w w0.heap.size (fun k_=>(B k_∨w.heap.size≤k_)) X l0 from Kd.R_mono ah (fun k_ hk=>(.inl hk)));have HK:=Ax (Kept.refl w (fun k_=>B k_));have aH:=Ax hB.size;have HB:=Ax hB;clear hB;have H:(if l0.length<140737488355328 then ((some (l0++ [A]:List Int)).bind fun M=>(if A=1 then ((num_Add.f k M (IntKind.u64.wrap (L))).bind fun aa=>(some aa)) else (some M))) else (none))=some r:=h;clear h;by_cases c3:l0.length<140737488355328
 ·rw [if_pos c3]at H;have au:=Ax c3;clear c3;obtain⟨M,ab⟩: ∃ y_:List Int,y_=(l0++ [A]):=⟨_,rfl⟩;replace H:(if A=1 then ((num_Add.f k M (IntKind.u64.wrap (L))).bind fun aa=>(some aa)) else (some M))=some r:=by first|(rw [ab];with_reducible exact H)|(have aj:=(Option.bind_some _ _).symm.trans H;rw [ab];with_reducible exact aj)|(have aj:=(Option.bind_some _ _).symm.trans H;with_reducible exact aj)|with_reducible exact H|(rw [ab];exact H)|exact H
  have av:=Ax ab;clear ab;by_cases c4:A=1;·rw [if_pos c4]at H;have ax:(A==1)=true:=beq_iff_eq.mpr c4;have ay:(A !=1)=false:=bne_eq_false_iff_eq.mpr c4;clear c4;replace H:=bI H;obtain⟨aa,aw,H⟩:=H;(try dsimp only at H);have A5:=Ax aw;clear aw;obtain rfl:=Option.some.inj H;go_enter Try.func46,Try.ntmps46;go_wp2_with (first|((with_reducible refine gate_dst (N:=3) rfl ?_);refine bX (N:=3) (cs:= #[.int .u8 A,.int .i64 L]) (t:=33) ?_;intro V hg w6 ac hb;have E:=Ax (Kd.R_below (by (with_reducible repeat (first|apply Kd.R_alloc|apply Kd.R_drewN|apply Kd.R_drew));exact D.out) hb);have F:=Ax (Kept.below (S:=(fun k_=>B k_)) (by repeat (first|(with_reducible first|exact HK.out|apply Kept.alloc|apply Kept.drewN|apply Kept.drew)|exact HK.out)) hb);have G:=Bs0 HB hb;have I:=Ax (ac);have ae:=Ax ((by rw [hg];exact (by first|exact HK.out.1|exact (show Kept w _ (fun k_=>B k_) from by repeat (first|(with_reducible first|exact HK.out|apply Kept.alloc|apply Kept.drewN|apply Kept.drew)|exact HK.out)).1):w.heap.size≤V));have af:=Ax ((by rw [hg];exact (below_size (bw0 HB.out)):w0.heap.size≤V));clear D;clear HK;clear HB;have D:=E;have HK:=F;have HB:=G;have C:=I;have O:=ae;have T:=af;clear E F G I ae af;clear hb ac hg;obtain⟨aI,aJ,aK,aM⟩:=cl2 C)|((with_reducible refine gate_builtin (b:=.append) (xs:= #[.tmp 5,.tmp 8]) rfl ?_);at_builtin;refine Kd.R_append (Kd.int .u8) (w0:=w0) w0.heap.size rfl (.tmp 5) (.tmp 8) 67 5 (.int .u8 0) 1 rfl Try.underlying67 info5 rfl (by decide) (by omega) X l0 A [.int .u8 A] (fun k_=>(B k_∨w.heap.size≤k_)) (fun _=>False) rfl rfl ?aP (fun _ hk=>hk.elim) ?aF ?aO ?aB ?aS ?aL ?_;(case aP=>exact rfl);(case aB=>exact (bw1 HB.out T.out));(case aF=>exact (fun k_ hk=>(.inr (Nat.le_trans (by first|exact HK.out.1|exact (show Kept w _ (fun k_=>B k_) from by repeat (first|(with_reducible first|exact HK.out|apply Kept.alloc|apply Kept.drewN|apply Kept.drew|refine Kept.setCell ?_ (.inr O.out) _)|exact HK.out)).1) hk))));(case aO=>exact (by (with_reducible repeat (first|apply Kd.R_alloc|apply Kd.R_drewN|apply Kd.R_drew));exact D.out));(case aS=>exact (below_size (bw1 HB.out T.out)));(case aL=>have:=au.out;omega);intro az w8 ho hb hg al;rw [← av.out]at ho;have E:=Ax (blk_grown (g:=V) (o:=.cells #[.int .u8 A,.int .i64 L] 33 (0,0)) (bf0 C.out) hg (Kd.R_ne D.out C.out (by decide)));have F:=Ax (hb);have G:=Ax (Kept.of_grown (S:=(fun k_=>B k_)) hg (by repeat (first|(with_reducible first|exact HK.out|apply Kept.alloc|apply Kept.drewN|apply Kept.drew|refine Kept.setCell ?_ (.inr O.out) _)|exact HK.out)) (fun k_ e_=>(D.out.1 k_ e_)));have I:=Ax (ho);clear C;clear HB;clear HK;clear D;have C:=E;have HB:=F;have HK:=G;have U:=I;clear E F G I;clear ho hb hg al;obtain⟨aN,aQ,aR,aT⟩:=cl2 C;obtain⟨am,ap,aA⟩:=Kd.R_slice U.out;subst aA)|((with_reducible refine gate_callee (f:=45) rfl ?_);refine goesL_ (some 17) rfl rfl Try.func45 (by kernel_rfl) rfl #[.slice am M.length ap,.int .u64 (IntKind.u64.wrap (L))] rfl gS ?_;(with_reducible refine (num_Add.calls k (fun k_=>some k_=(.slice am M.length ap:Value).ownBlock) (.slice am M.length ap) M (IntKind.u64.wrap (L)) aa w0 _ ?side1 ?side2 A5.out).mono ?_);(case side1=>repeat (first|(with_reducible first|exact HB.out|apply below_alloc|apply pw_below_drewN|apply below_drew1|refine below_set ?_ T.out)|exact HB.out));(case side2=>exact Kd.R_tight rfl U.out);rintro e aU ⟨aV,rfl,ah,hb,aq⟩;refine⟨_,rfl,?_⟩;have E:=Ax (blk_kept (bf0 C.out) aq (fun ag=>(fun e_=>(Kd.R_ne U.out C.out (by decide)) e_) ag));have F:=Ax (Kd.R_mono (ok':=fun k_=>(B k_∨w.heap.size≤k_)) ah (fun k_ aC=>Or.elim aC (fun ag=>(U.out.1 k_ (ag).symm)) (fun aD=>(.inr (Nat.le_trans (by first|exact HK.out.1|exact (show Kept w _ (fun k_=>B k_) from by repeat (first|(with_reducible first|exact HK.out|apply Kept.alloc|apply Kept.drewN|apply Kept.drew|refine Kept.setCell ?_ (.inr O.out) _)|exact HK.out)).1) aD)))));have G:=Ax (Kept.then_ (S:=(fun k_=>B k_)) (by repeat (first|(with_reducible first|exact HK.out|apply Kept.alloc|apply Kept.drewN|apply Kept.drew|refine Kept.setCell ?_ (.inr O.out) _)|exact HK.out)) aq (fun k_ ag=>(fun e_=>(U.out.1 k_ e_.symm)) ag));have I:=Ax (hb);clear C;clear HK;clear HB;clear U;have C:=E;have aE:=F;have HK:=G;have HB:=I;clear E F G I;(try clear hb);(try clear aq);(try clear ah)));go_ret;exact⟨_,eS,by (with_reducible repeat (first|apply Kd.R_alloc|apply Kd.R_drewN|apply Kd.R_drew));exact aE.out,bw1 HB.out T.out,by repeat (first|(with_reducible first|exact HK.out|apply Kept.alloc|apply Kept.drewN|apply Kept.drew|refine Kept.setCell ?_ (.inr O.out) _)|exact HK.out)⟩
  ·rw [if_neg c4]at H;have ax:(A==1)=false:=beq_eq_false_iff_ne.mpr c4;have ay:(A !=1)=true:=bne_iff_ne.mpr c4;obtain rfl:=Option.some.inj H;go_enter Try.func46,Try.ntmps46;go_wp2_with (first|((with_reducible refine gate_dst (N:=3) rfl ?_);refine bX (N:=3) (cs:= #[.int .u8 A,.int .i64 L]) (t:=33) ?_;intro V hg aW ac hb;have E:=Ax (Kd.R_below (by (with_reducible repeat (first|apply Kd.R_alloc|apply Kd.R_drewN|apply Kd.R_drew));exact D.out) hb);have F:=Ax (Kept.below (S:=(fun k_=>B k_)) (by repeat (first|(with_reducible first|exact HK.out|apply Kept.alloc|apply Kept.drewN|apply Kept.drew)|exact HK.out)) hb);have G:=Bs0 HB hb;have I:=Ax (ac);have ae:=Ax ((by rw [hg];exact (by first|exact HK.out.1|exact (show Kept w _ (fun k_=>B k_) from by repeat (first|(with_reducible first|exact HK.out|apply Kept.alloc|apply Kept.drewN|apply Kept.drew)|exact HK.out)).1):w.heap.size≤V));have af:=Ax ((by rw [hg];exact (below_size (bw0 HB.out)):w0.heap.size≤V));clear D;clear HK;clear HB;have D:=E;have HK:=F;have HB:=G;have C:=I;have O:=ae;have T:=af;clear E F G I ae af;clear hb ac hg;obtain⟨aY,aZ,b2,b3⟩:=cl2 C)|((with_reducible refine gate_builtin (b:=.append) (xs:= #[.tmp 5,.tmp 8]) rfl ?_);at_builtin;refine Kd.R_append (Kd.int .u8) (w0:=w0) w0.heap.size rfl (.tmp 5) (.tmp 8) 67 5 (.int .u8 0) 1 rfl Try.underlying67 info5 rfl (by decide) (by omega) X l0 A [.int .u8 A] (fun k_=>(B k_∨w.heap.size≤k_)) (fun _=>False) rfl rfl ?aP (fun _ hk=>hk.elim) ?aF ?aO ?aB ?aS ?aL ?_;(case aP=>exact rfl);(case aB=>exact (bw1 HB.out T.out));(case aF=>exact (fun k_ hk=>(.inr (Nat.le_trans (by first|exact HK.out.1|exact (show Kept w _ (fun k_=>B k_) from by repeat (first|(with_reducible first|exact HK.out|apply Kept.alloc|apply Kept.drewN|apply Kept.drew|refine Kept.setCell ?_ (.inr O.out) _)|exact HK.out)).1) hk))));(case aO=>exact (by (with_reducible repeat (first|apply Kd.R_alloc|apply Kd.R_drewN|apply Kd.R_drew));exact D.out));(case aS=>exact (below_size (bw1 HB.out T.out)));(case aL=>have:=au.out;omega);intro az b4 ho hb hg al;rw [← av.out]at ho;have E:=Ax (blk_grown (g:=V) (o:=.cells #[.int .u8 A,.int .i64 L] 33 (0,0)) (bf0 C.out) hg (Kd.R_ne D.out C.out (by decide)));have F:=Ax (hb);have G:=Ax (Kept.of_grown (S:=(fun k_=>B k_)) hg (by repeat (first|(with_reducible first|exact HK.out|apply Kept.alloc|apply Kept.drewN|apply Kept.drew|refine Kept.setCell ?_ (.inr O.out) _)|exact HK.out)) (fun k_ e_=>(D.out.1 k_ e_)));have I:=Ax (ho);clear C;clear HB;clear HK;clear D;have C:=E;have HB:=F;have HK:=G;have U:=I;clear E F G I;clear ho hb hg al;obtain⟨b5,b6,b7,b8⟩:=cl2 C));go_ret;exact⟨_,eS,by (with_reducible repeat (first|apply Kd.R_alloc|apply Kd.R_drewN|apply Kd.R_drew));exact U.out,bw1 HB.out T.out,by repeat (first|(with_reducible first|exact HK.out|apply Kept.alloc|apply Kept.drewN|apply Kept.drew|refine Kept.setCell ?_ (.inr O.out) _)|exact HK.out)⟩
 ·rw [if_neg c3]at H;exact absurd H (by simp)
end Go.Proofs.Ythkdfojmhloofaa.Q
end
