-- Merged and trimmed by this session's program wip/tools/trim.py.
import Derived.Shelf.Abstract
import Derived.RangeFuncNested
import Derived.RangeFuncBox
import Derived.RangeFuncLeaves
import Derived.RangeFuncFrom
import Derived.RangeFuncCalls
import Derived.RangeFuncBound
import Derived.OwnWalkIn
import Derived.TacticsInMore
import Derived.LoopNIn
import Derived.LoopIn
import Derived.Sort.QuietIn
import Derived.Maps.AppendAt
import Derived.Deep.RegionLaw
import Derived.BigQuiet
import Derived.Deep.RegionWith
import Derived.Test.YthkdfojmhloofaaTGramStreams2
section
namespace Go.Proofs.Ythkdfojmhloofaa.Q
open Go.RowKit Go.Proofs.YthkdfojmhloofaaW.PrintWords Go.Proofs.YthkdfojmhloofaaW.PrintLast Go.Proofs.YthkdfojmhloofaaW.PrintMore
attribute [local go_sem] max2_int min2_int max_two min_two max_three min_three max_four min_four   -- for this text's walks alone
set_option linter.unusedVariables false
set_option linter.unusedSimpArgs false
set_option maxHeartbeats 8000000 in
set_option maxRecDepth 100000 in
theorem msg_Get.calls (k:Nat) (a0:ByteArray) (r1:Int) (r2:Int) (r3:Int) (r4:Int) (r5:Bool) (r6:Int) (r7:Int) (r8:Int) (r9:Int) (r10:Int) (r11:Int) (r12:Int) (r13:Int) (w:World) (h:msg_Get.f k a0=some (r1,r2,r3,r4,r5,r6,r7,r8,r9,r10,r11,r12,r13)):
  Calls Try.prog 20 #[.string a0] w fun e w'=>e= .returned (.tuple #[.agg #[.int .u8 r1,.int .i64 r2,.int .u64 r3,.int .i64 r4,.bool r5,.int .u64 r6,.int .u64 r7,.int .i64 r8,.int .u8 r9,.int .i64 r10,.int .i64 r11,.int .i64 r12],.int .i64 r13])∧Below w.heap.size w w':=by
 have hu35:=Try.underlying35;have hu83:=Try.underlying83;have hu85:=Try.underlying85;have hu30:=Try.underlying30;have hu33:=Try.underlying33;have HB:=Ax (Below.refl w.heap.size w);have H:(if a0.toList=([]:List UInt8) then (some (0,0,0,0,false,0,0,0,0,0,0,0,7)) else (if 1≤(a0.size:Int) then (if 0<(a0.size:Int) then ((num_Reader_Many.f k (a0.extract 1 a0.size) 0 1048576).bind fun bt150=>((num_Reader_Num.f k bt150.2.1 bt150.2.2).bind fun bt153=>((num_Reader_Num.f k bt153.2.1 bt153.2.2).bind fun bt156=>(if (bt a0 0)=3 then ((api_Prefix.f k bt156.2.1 bt156.2.2).bind fun bt160=>((api_Action.f k bt160.2.2.2.2.1 bt160.2.2.2.2.2).bind fun bt166=>(msg_Get.j0 k bt166.2.2.1 bt166.2.2.2 (bt a0 0) bt150.1 bt153.1 (wrap64 (bt156.1)) bt160.1 bt160.2.1 bt160.2.2.1 bt160.2.2.2.1 bt166.1 bt166.2.1 0 0))) else (if (bt a0 0)=4 then ((api_Prefix.f k bt156.2.1 bt156.2.2).bind fun bt170=>(msg_Get.j0 k bt170.2.2.2.2.1 bt170.2.2.2.2.2 (bt a0 0) bt150.1 bt153.1 (wrap64 (bt156.1)) bt170.1 bt170.2.1 bt170.2.2.1 bt170.2.2.2.1 0 0 0 0)) else (if (bt a0 0)=5 then ((num_Reader_Many.f k bt156.2.1 bt156.2.2 65536).bind fun bt176=>((num_Reader_Many.f k bt176.2.1 bt176.2.2 1048576).bind fun bt179=>(msg_Get.j0 k bt179.2.1 bt179.2.2 (bt a0 0) bt150.1 bt153.1 (wrap64 (bt156.1)) false 0 0 0 0 0 bt176.1 bt179.1))) else (if (bt a0 0)=6 then ((num_Reader_Many.f k bt156.2.1 bt156.2.2 65536).bind fun bt182=>(msg_Get.j0 k bt182.2.1 bt182.2.2 (bt a0 0) bt150.1 bt153.1 (wrap64 (bt156.1)) false 0 0 0 0 0 bt182.1 0)) else (msg_Get.j0 k bt156.2.1 bt156.2.2 (bt a0 0) bt150.1 bt153.1 (wrap64 (bt156.1)) false 0 0 0 0 0 0 0)))))))) else (none)) else (none)))=some (r1,r2,r3,r4,r5,r6,r7,r8,r9,r10,r11,r12,r13):=h;clear h;by_cases c2:a0.toList=([]:List UInt8);·rw [if_pos c2]at H;have c2b0:(a0.toList==([]:List UInt8))=true:=beq_iff_eq.mpr c2;have c2b1:(a0.toList !=([]:List UInt8))=false:=bne_eq_false_iff_eq.mpr c2;clear c2;simp only[Option.some.injEq,Prod.mk.injEq]at H;obtain⟨rfl,rfl,rfl,rfl,rfl,rfl,rfl,rfl,rfl,rfl,rfl,rfl,rfl⟩:=H;go_enter Try.func20,Try.ntmps20;go_wp2_with (first|((with_reducible refine gate_dst (N:=2) rfl ?_);refine box_event ?hg (N:=2) ?hd (cs:= #[.int .u8 0,.int .i64 0,.int .u64 0,.int .i64 0,.bool false,.int .u64 0,.int .u64 0,.int .i64 0,.int .u8 0,.int .i64 0,.int .i64 0,.int .i64 0]) (t:=35) ?hr ?_;(case hd=>rfl);(case hg=>rfl);(case hr=>first|(go_simp;done)|(go_simp;rfl));intro gb148 hg w3 hbox hb;have n0_:=Bs0 HB hb;have n1_:=Ax (hbox);have n2_:=Gw0 HB hg;have n3_:=Gw0 HB hg;clear HB;have HB:=n0_;have BK148:=n1_;have GW148:=n2_;have GE148:=n3_;clear n0_ n1_ n2_ n3_;clear hb hbox hg;obtain⟨hcz4_0,hcz4_1,hcz4_2,hcz4_3,hcz4_4,hcz4_5,hcz4_6,hcz4_7,hcz4_8,hcz4_9,hcz4_10,hcz4_11,hfz4_0,hfz4_1,hfz4_2,hfz4_3,hfz4_4,hfz4_5,hfz4_6,hfz4_7,hfz4_8,hfz4_9,hfz4_10,hfz4_11⟩:=cl12 BK148));refine bodyPost_ret (results_ct rfl _ _ gb148 35 #[.int .u8 0,.int .i64 0,.int .u64 0,.int .i64 0,.bool false,.int .u64 0,.int .u64 0,.int .i64 0,.int .u8 0,.int .i64 0,.int .i64 0,.int .i64 0] (0,0) _ rfl (gB BK148.out) Try.underlying35 rfl (by kernel_rfl)) rfl ?_;exact⟨eS,bw1 HB.out GE148.out⟩
 ·rw [if_neg c2]at H;have c2b0:(a0.toList==([]:List UInt8))=false:=beq_eq_false_iff_ne.mpr c2;have c2b1:(a0.toList !=([]:List UInt8))=true:=bne_iff_ne.mpr c2;by_cases c5:1≤(a0.size:Int)
  ·rw [if_pos c5]at H;have c5b0:=eq_true c5;have c5b1:decide (1≤(a0.size:Int))=true:=decide_eq_true c5;clear c5;by_cases c6:0<(a0.size:Int)
   ·rw [if_pos c6]at H;have c6b0:decide (0<(a0.size:Int))=true:=decide_eq_true c6;have c6b1:decide (0<a0.size)=true:=decide_eq_true (by omega);clear c6;replace H:=Option.bind_eq_some_iff.mp H;obtain⟨⟨t150,t151,t152⟩,A80,H⟩:=H;replace H:((num_Reader_Num.f k t151 t152).bind fun bt153=>((num_Reader_Num.f k bt153.2.1 bt153.2.2).bind fun bt156=>(if (bt a0 0)=3 then ((api_Prefix.f k bt156.2.1 bt156.2.2).bind fun bt160=>((api_Action.f k bt160.2.2.2.2.1 bt160.2.2.2.2.2).bind fun bt166=>(msg_Get.j0 k bt166.2.2.1 bt166.2.2.2 (bt a0 0) t150 bt153.1 (wrap64 (bt156.1)) bt160.1 bt160.2.1 bt160.2.2.1 bt160.2.2.2.1 bt166.1 bt166.2.1 0 0))) else (if (bt a0 0)=4 then ((api_Prefix.f k bt156.2.1 bt156.2.2).bind fun bt170=>(msg_Get.j0 k bt170.2.2.2.2.1 bt170.2.2.2.2.2 (bt a0 0) t150 bt153.1 (wrap64 (bt156.1)) bt170.1 bt170.2.1 bt170.2.2.1 bt170.2.2.2.1 0 0 0 0)) else (if (bt a0 0)=5 then ((num_Reader_Many.f k bt156.2.1 bt156.2.2 65536).bind fun bt176=>((num_Reader_Many.f k bt176.2.1 bt176.2.2 1048576).bind fun bt179=>(msg_Get.j0 k bt179.2.1 bt179.2.2 (bt a0 0) t150 bt153.1 (wrap64 (bt156.1)) false 0 0 0 0 0 bt176.1 bt179.1))) else (if (bt a0 0)=6 then ((num_Reader_Many.f k bt156.2.1 bt156.2.2 65536).bind fun bt182=>(msg_Get.j0 k bt182.2.1 bt182.2.2 (bt a0 0) t150 bt153.1 (wrap64 (bt156.1)) false 0 0 0 0 0 bt182.1 0)) else (msg_Get.j0 k bt156.2.1 bt156.2.2 (bt a0 0) t150 bt153.1 (wrap64 (bt156.1)) false 0 0 0 0 0 0 0)))))))=some (r1,r2,r3,r4,r5,r6,r7,r8,r9,r10,r11,r12,r13):=H;have A8:=Ax A80;clear A80;replace H:=Option.bind_eq_some_iff.mp H;obtain⟨⟨t153,t154,t155⟩,A90,H⟩:=H;replace H:((num_Reader_Num.f k t154 t155).bind fun bt156=>(if (bt a0 0)=3 then ((api_Prefix.f k bt156.2.1 bt156.2.2).bind fun bt160=>((api_Action.f k bt160.2.2.2.2.1 bt160.2.2.2.2.2).bind fun bt166=>(msg_Get.j0 k bt166.2.2.1 bt166.2.2.2 (bt a0 0) t150 t153 (wrap64 (bt156.1)) bt160.1 bt160.2.1 bt160.2.2.1 bt160.2.2.2.1 bt166.1 bt166.2.1 0 0))) else (if (bt a0 0)=4 then ((api_Prefix.f k bt156.2.1 bt156.2.2).bind fun bt170=>(msg_Get.j0 k bt170.2.2.2.2.1 bt170.2.2.2.2.2 (bt a0 0) t150 t153 (wrap64 (bt156.1)) bt170.1 bt170.2.1 bt170.2.2.1 bt170.2.2.2.1 0 0 0 0)) else (if (bt a0 0)=5 then ((num_Reader_Many.f k bt156.2.1 bt156.2.2 65536).bind fun bt176=>((num_Reader_Many.f k bt176.2.1 bt176.2.2 1048576).bind fun bt179=>(msg_Get.j0 k bt179.2.1 bt179.2.2 (bt a0 0) t150 t153 (wrap64 (bt156.1)) false 0 0 0 0 0 bt176.1 bt179.1))) else (if (bt a0 0)=6 then ((num_Reader_Many.f k bt156.2.1 bt156.2.2 65536).bind fun bt182=>(msg_Get.j0 k bt182.2.1 bt182.2.2 (bt a0 0) t150 t153 (wrap64 (bt156.1)) false 0 0 0 0 0 bt182.1 0)) else (msg_Get.j0 k bt156.2.1 bt156.2.2 (bt a0 0) t150 t153 (wrap64 (bt156.1)) false 0 0 0 0 0 0 0))))))=some (r1,r2,r3,r4,r5,r6,r7,r8,r9,r10,r11,r12,r13):=H;have A9:=Ax A90;clear A90;replace H:=Option.bind_eq_some_iff.mp H;obtain⟨⟨t156,t157,t158⟩,A100,H⟩:=H;replace H:(if (bt a0 0)=3 then ((api_Prefix.f k t157 t158).bind fun bt160=>((api_Action.f k bt160.2.2.2.2.1 bt160.2.2.2.2.2).bind fun bt166=>(msg_Get.j0 k bt166.2.2.1 bt166.2.2.2 (bt a0 0) t150 t153 (wrap64 (t156)) bt160.1 bt160.2.1 bt160.2.2.1 bt160.2.2.2.1 bt166.1 bt166.2.1 0 0))) else (if (bt a0 0)=4 then ((api_Prefix.f k t157 t158).bind fun bt170=>(msg_Get.j0 k bt170.2.2.2.2.1 bt170.2.2.2.2.2 (bt a0 0) t150 t153 (wrap64 (t156)) bt170.1 bt170.2.1 bt170.2.2.1 bt170.2.2.2.1 0 0 0 0)) else (if (bt a0 0)=5 then ((num_Reader_Many.f k t157 t158 65536).bind fun bt176=>((num_Reader_Many.f k bt176.2.1 bt176.2.2 1048576).bind fun bt179=>(msg_Get.j0 k bt179.2.1 bt179.2.2 (bt a0 0) t150 t153 (wrap64 (t156)) false 0 0 0 0 0 bt176.1 bt179.1))) else (if (bt a0 0)=6 then ((num_Reader_Many.f k t157 t158 65536).bind fun bt182=>(msg_Get.j0 k bt182.2.1 bt182.2.2 (bt a0 0) t150 t153 (wrap64 (t156)) false 0 0 0 0 0 bt182.1 0)) else (msg_Get.j0 k t157 t158 (bt a0 0) t150 t153 (wrap64 (t156)) false 0 0 0 0 0 0 0)))))=some (r1,r2,r3,r4,r5,r6,r7,r8,r9,r10,r11,r12,r13):=H;have A10:=Ax A100;clear A100;have HC11:=Ax H;clear H;go_enter Try.func20,Try.ntmps20;try go_wp2_with (first|((with_reducible refine gate_dst (N:=2) rfl ?_);refine box_event ?hg (N:=2) ?hd (cs:= #[.int .u8 0,.int .i64 0,.int .u64 0,.int .i64 0,.bool false,.int .u64 0,.int .u64 0,.int .i64 0,.int .u8 0,.int .i64 0,.int .i64 0,.int .i64 0]) (t:=35) ?hr ?_;(case hd=>rfl);(case hg=>rfl);(case hr=>first|(go_simp;done)|(go_simp;rfl));intro gb148 hg w12 hbox hb;have n0_:=Bs0 HB hb;have n1_:=Ax (hbox);have n2_:=Gw0 HB hg;have n3_:=Gw0 HB hg;clear HB;have HB:=n0_;have BK148:=n1_;have GW148:=n2_;have GE148:=n3_;clear n0_ n1_ n2_ n3_;clear hb hbox hg)|((with_reducible refine gate_dst (N:=13) rfl ?_);refine box_event ?hg (N:=13) ?hd (cs:= #[.string (a0.extract 1 a0.size),.int .i64 0]) (t:=85) ?hr ?_;(case hd=>rfl);(case hg=>rfl);(case hr=>first|(go_simp;done)|(go_simp;rfl));intro gb149 hg w13 hbox hb;have n0_:=Bx0 BK148 hb;have n1_:=Bs1 HB hb GE148.out;have n2_:=Ax (hbox);have n3_:=Gw1 HB hg GE148.out;have n4_:=Gw1 HB hg GE148.out;have n5_:=Nl0 BK148 hg;have n6_:=Nr0 BK148 hg;clear BK148;clear HB;have BK148:=n0_;have HB:=n1_;have BK149:=n2_;have GW149:=n3_;have GE149:=n4_;have NB148_149:=n5_;have NB149_148:=n6_;clear n0_ n1_ n2_ n3_ n4_ n5_ n6_;clear hb hbox hg))
    have HIB149:=Ax (show IsS85 w w13 gb149 (a0.extract 1 a0.size) 0 from ⟨by first|exact BK149.out|simpa using BK149.out,GE149.out⟩);clear BK149;replace BK148:=Ax (blk_drew BK148.out);replace HIB149:=Ax (IsS85.drew HIB149.out);replace HB:=Ax (below_drew1 HB.out);have p7:0≤(0:Int):=(by omega);have q7:0<a0.size:=(by have:(0:Int)<(a0.size:Int):=of_decide_eq_true (by first|(with_reducible assumption)|assumption);first|omega|(simp only[ByteArray.size_append];omega));have hx7: ∀ h:0<a0.size,((a0[0]'h).toNat:Int)=bt a0 0:=bt_at a0 0;clear p7;have qi7:(0<(a0.size:Int))=True:=eq_true (of_decide_eq_true (by first|(with_reducible assumption)|assumption));replace q7:=eq_true q7;refine start_ (n:=18) (S:=fun w'=>True) (ds:= []) #[fa,fa,fa,fa,fa,fa,fa,fa,fa,fa,fa,fa,fa,fa,fa,fa,fa,fa] (by kernel_rfl) rfl rfl trivial (fun hHeld=>?_);refine with_tabW msg_Get.tab4 msg_Get.bits4 (fun HT_ HW_=>?_);generalize w13.drew=w14 at BK148 HIB149 HB hHeld ⊢;refine pz 0 14 #[tr,fa,fa,fa,fa,fa,fa,fa,fa,fa,fa,fa,fa,fa,fa,fa,fa,fa] HT_.out ?_
    refine pz 2 16 #[tr,fa,tr,fa,fa,fa,fa,fa,fa,fa,fa,fa,fa,fa,fa,fa,fa,fa] HT_.out ?_
    refine pz 3 17 #[tr,fa,tr,tr,fa,fa,fa,fa,fa,fa,fa,fa,fa,fa,fa,fa,fa,fa] HT_.out ?_
    refine pz 4 18 #[tr,fa,tr,tr,tr,fa,fa,fa,fa,fa,fa,fa,fa,fa,fa,fa,fa,fa] HT_.out ?_
    refine pz 6 20 #[tr,fa,tr,tr,tr,fa,tr,fa,fa,fa,fa,fa,fa,fa,fa,fa,fa,fa] HT_.out ?_
    refine pz 7 21 #[tr,fa,tr,tr,tr,fa,tr,tr,fa,fa,fa,fa,fa,fa,fa,fa,fa,fa] HT_.out ?_
    refine pz 8 22 #[tr,fa,tr,tr,tr,fa,tr,tr,tr,fa,fa,fa,fa,fa,fa,fa,fa,fa] HT_.out ?_
    refine pz 10 24 #[tr,fa,tr,tr,tr,fa,tr,tr,tr,fa,tr,fa,fa,fa,fa,fa,fa,fa] HT_.out ?_
    refine pz 11 25 #[tr,fa,tr,tr,tr,fa,tr,tr,tr,fa,tr,tr,fa,fa,fa,fa,fa,fa] HT_.out ?_
    refine pz 12 26 #[tr,fa,tr,tr,tr,fa,tr,tr,tr,fa,tr,tr,tr,fa,fa,fa,fa,fa] HT_.out ?_
    refine take_ (i:=1) (N:=some 15) (v:=?_) (a':=?_) #[tr,tr,tr,tr,tr,fa,tr,tr,tr,fa,tr,tr,tr,fa,fa,fa,fa,fa] rfl rfl (take_ofW HT_.out HW_.out (by kernel_rfl)) (fun _ _ _ h=>h) (Or.inl ⟨by rfl,?_⟩) hHeld ?_ ?_;rotate_left;·intro w' _;go_simp;with_reducible rfl
    rotate_left;·simp only[sP];rfl
    refine join_ (σ:=Nat) 1 #[tr,tr,tr,tr,tr,tr,tr,tr,tr,tr,tr,tr,tr,tr,tr,tr,tr,fa] (fun s_=> [(19,.int .i64 t150),(23,.int .u64 t153),(27,.int .u64 t156),(5,.pointer (some ⟨s_,0,none⟩)),(28,.int .i64 (wrap64 (t156))),(29,.agg #[.int .u8 (bt a0 0),.int .i64 t150,.int .u64 t153,.int .i64 (wrap64 (t156)),.bool false,.int .u64 0,.int .u64 0,.int .i64 0,.int .u8 0,.int .i64 0,.int .i64 0,.int .i64 0])]) (fun s_ w'=>(w'.heap[gb148]? =some (.cells #[.int .u8 0,.int .i64 0,.int .u64 0,.int .i64 0,.bool false,.int .u64 0,.int .u64 0,.int .i64 0,.int .u8 0,.int .i64 0,.int .i64 0,.int .i64 0] 35 (0,0)))∧(w'.heap[s_]? =some (.cells #[.int .u8 0,.int .i64 0,.int .u64 0,.int .i64 0,.bool false,.int .u64 0,.int .u64 0,.int .i64 0,.int .u8 0,.int .i64 0,.int .i64 0,.int .i64 0] 35 (0,0)))∧(w.heap.size≤s_)∧(w.heap.size≤s_)∧(gb149≠s_)∧(s_≠gb149)∧(gb148≠s_)∧(s_≠gb148)∧(IsS85 w w' gb149 t157 t158)∧(Below w.heap.size w w')) ?_ ?_;rotate_left
    ·intro hCont;refine two_ (i:=5) (j:=16) (Ni:=some 19) (Nj:=some 5) #[tr,tr,tr,tr,tr,tr,tr,tr,tr,fa,tr,tr,tr,fa,fa,fa,fa,fa] #[tr,tr,tr,tr,tr,fa,tr,tr,tr,fa,tr,tr,tr,fa,fa,fa,tr,fa] rfl rfl rfl rfl (two_of HT_.out (by kernel_rfl)) (by decide) (by decide) (fun K hK=>?_) (fun K hK=>?_)
     ·skip
      refine goes_ Try.func33 (by kernel_rfl) rfl #[.pointer (some ⟨gb149,0,none⟩),.int .i64 1048576] (by rfl) rfl rfl gS ?_;with_reducible refine (num_Reader_Many.calls85 k gb149 (a0.extract 1 a0.size) 0 1048576 t150 t151 t152 w _ ?side1 ?side2 A8.out).mono ?_
      (case side1=>repeat (first|(with_reducible first|exact HIB149.out|apply IsS85.alloc|apply IsS85.drewN|apply IsS85.drew|apply IsS85.set_0|apply IsS85.set_1|refine IsS85.far ?_ NB149_148.out _)|exact HIB149.out))
      (case side2=>repeat (first|(with_reducible first|exact HB.out|apply below_alloc|apply pw_below_drewN|apply below_drew1|refine below_set ?_ (IsS85.ge HIB149.out)|refine below_set ?_ GE148.out)|exact HB.out))
      rintro e w15 ⟨rfl,hi,hb,hk⟩
      refine⟨_,rfl,?_⟩;replace BK148:=Ax (KeepBut.blk hk (g':=gb148) (o:=.cells #[.int .u8 0,.int .i64 0,.int .u64 0,.int .i64 0,.bool false,.int .u64 0,.int .u64 0,.int .i64 0,.int .u8 0,.int .i64 0,.int .i64 0,.int .i64 0] 35 (0,0)) (bf0 BK148.out) NB148_149.out (by simp));replace HB:=Ax (hb);replace HIB149:=Ax (hi)
      (try clear hb)
      (try clear hb2)
      (try clear hk)
      (try clear hi)
      refine hK.out _ _ trivial (fun hHeld=>?_);clear hK K;refine norm_ (a':=?_) ?_ ?_;rotate_left
      ·show Act.put _ (some 19) _=_
       simp only[sP];rfl
      refine two_ (i:=9) (j:=16) (Ni:=some 23) (Nj:=some 5) #[tr,tr,tr,tr,tr,tr,tr,tr,tr,tr,tr,tr,tr,fa,fa,fa,fa,fa] #[tr,tr,tr,tr,tr,tr,tr,tr,tr,fa,tr,tr,tr,fa,fa,fa,tr,fa] rfl rfl rfl rfl (two_of HT_.out (by kernel_rfl)) (by decide) (by decide) (fun K hK=>?_) (fun K hK=>?_)
      ·skip
       refine goes_ Try.func34 (by kernel_rfl) rfl #[.pointer (some ⟨gb149,0,none⟩)] (by rfl) rfl rfl gS ?_;with_reducible refine (num_Reader_Num.calls85 k gb149 t151 t152 t153 t154 t155 w _ ?side1 ?side2 A9.out).mono ?_
       (case side1=>repeat (first|(with_reducible first|exact HIB149.out|apply IsS85.alloc|apply IsS85.drewN|apply IsS85.drew|apply IsS85.set_0|apply IsS85.set_1|refine IsS85.far ?_ NB149_148.out _)|exact HIB149.out))
       (case side2=>repeat (first|(with_reducible first|exact HB.out|apply below_alloc|apply pw_below_drewN|apply below_drew1|refine below_set ?_ (IsS85.ge HIB149.out)|refine below_set ?_ GE148.out)|exact HB.out))
       rintro e w16 ⟨rfl,hi,hb,hk⟩
       refine⟨_,rfl,?_⟩;replace BK148:=Ax (KeepBut.blk hk (g':=gb148) (o:=.cells #[.int .u8 0,.int .i64 0,.int .u64 0,.int .i64 0,.bool false,.int .u64 0,.int .u64 0,.int .i64 0,.int .u8 0,.int .i64 0,.int .i64 0,.int .i64 0] 35 (0,0)) (bf0 BK148.out) NB148_149.out (by simp));replace HB:=Ax (hb);replace HIB149:=Ax (hi)
       (try clear hb)
       (try clear hb2)
       (try clear hk)
       (try clear hi)
       refine hK.out _ _ trivial (fun hHeld=>?_);clear hK K;refine norm_ (a':=?_) ?_ ?_;rotate_left
       ·show Act.put _ (some 23) _=_
        simp only[sP];rfl
       refine two_ (i:=13) (j:=16) (Ni:=some 27) (Nj:=some 5) #[tr,tr,tr,tr,tr,tr,tr,tr,tr,tr,tr,tr,tr,tr,fa,fa,fa,fa] #[tr,tr,tr,tr,tr,tr,tr,tr,tr,tr,tr,tr,tr,fa,fa,fa,tr,fa] rfl rfl rfl rfl (two_of HT_.out (by kernel_rfl)) (by decide) (by decide) (fun K hK=>?_) (fun K hK=>?_)
       ·skip
        refine goes_ Try.func34 (by kernel_rfl) rfl #[.pointer (some ⟨gb149,0,none⟩)] (by rfl) rfl rfl gS ?_;with_reducible refine (num_Reader_Num.calls85 k gb149 t154 t155 t156 t157 t158 w _ ?side1 ?side2 A10.out).mono ?_
        (case side1=>repeat (first|(with_reducible first|exact HIB149.out|apply IsS85.alloc|apply IsS85.drewN|apply IsS85.drew|apply IsS85.set_0|apply IsS85.set_1|refine IsS85.far ?_ NB149_148.out _)|exact HIB149.out))
        (case side2=>repeat (first|(with_reducible first|exact HB.out|apply below_alloc|apply pw_below_drewN|apply below_drew1|refine below_set ?_ (IsS85.ge HIB149.out)|refine below_set ?_ GE148.out)|exact HB.out))
        rintro e w17 ⟨rfl,hi,hb,hk⟩
        refine⟨_,rfl,?_⟩;replace BK148:=Ax (KeepBut.blk hk (g':=gb148) (o:=.cells #[.int .u8 0,.int .i64 0,.int .u64 0,.int .i64 0,.bool false,.int .u64 0,.int .u64 0,.int .i64 0,.int .u8 0,.int .i64 0,.int .i64 0,.int .i64 0] 35 (0,0)) (bf0 BK148.out) NB148_149.out (by simp));replace HB:=Ax (hb);replace HIB149:=Ax (hi)
        (try clear hb)
        (try clear hb2)
        (try clear hk)
        (try clear hi)
        refine hK.out _ _ trivial (fun hHeld=>?_);clear hK K;refine norm_ (a':=?_) ?_ ?_;rotate_left
        ·show Act.put _ (some 27) _=_
         simp only[sP];rfl
        refine pz 14 28 #[tr,tr,tr,tr,tr,tr,tr,tr,tr,tr,tr,tr,tr,tr,tr,fa,fa,fa] HT_.out ?_
        refine pz 15 29 #[tr,tr,tr,tr,tr,tr,tr,tr,tr,tr,tr,tr,tr,tr,tr,tr,fa,fa] HT_.out ?_
        refine one_ (i:=16) (N:=some 5) #[tr,tr,tr,tr,tr,tr,tr,tr,tr,tr,tr,tr,tr,tr,tr,tr,tr,fa] rfl rfl (one_of HT_.out (by kernel_rfl)) (by decide) (fun K hK=>?_);refine box_step ?hg (N:=5) ?hd (cs:= #[.int .u8 0,.int .i64 0,.int .u64 0,.int .i64 0,.bool false,.int .u64 0,.int .u64 0,.int .i64 0,.int .u8 0,.int .i64 0,.int .i64 0,.int .i64 0]) (t:=35) ?hr ?_;(case hd=>rfl);(case hg=>rfl);(case hr=>first|(go_simp;done)|(go_simp;rfl));intro gb159 hg w18 hbox hb;have n0_:=Bx0 BK148 hb;have n1_:=Ax (IsS85.below (by repeat (first|(with_reducible first|exact HIB149.out|apply IsS85.alloc|apply IsS85.drewN|apply IsS85.drew|apply IsS85.set_0|apply IsS85.set_1|refine IsS85.far ?_ NB149_148.out _)|exact HIB149.out)) hb);have n2_:=Bs2 HB hb (IsS85.ge HIB149.out) GE148.out;have n3_:=Ax (hbox);have n4_:=Gw2 HB hg (IsS85.ge HIB149.out) GE148.out;have n5_:=Gw2 HB hg (IsS85.ge HIB149.out) GE148.out;have n6_:=Nl0 BK148 hg;have n7_:=Nr0 BK148 hg;have n8_:=Ax ((by rw [hg];exact Nat.ne_of_lt (IsS85.lt (show IsS85 w _ gb149 t157 t158 from by repeat (first|(with_reducible first|exact HIB149.out|apply IsS85.alloc|apply IsS85.drewN|apply IsS85.drew|apply IsS85.set_0|apply IsS85.set_1|refine IsS85.far ?_ NB149_148.out _)|exact HIB149.out))):gb149≠gb159));have n9_:=Ax ((by rw [hg];exact Nat.ne_of_gt (IsS85.lt (show IsS85 w _ gb149 t157 t158 from by repeat (first|(with_reducible first|exact HIB149.out|apply IsS85.alloc|apply IsS85.drewN|apply IsS85.drew|apply IsS85.set_0|apply IsS85.set_1|refine IsS85.far ?_ NB149_148.out _)|exact HIB149.out))):gb159≠gb149));clear BK148;clear HIB149;clear HB;have BK148:=n0_;have HIB149:=n1_;have HB:=n2_;have BK159:=n3_;have GW159:=n4_;have GE159:=n5_;have NB148_159:=n6_;have NB159_148:=n7_;have NB149_159:=n8_;have NB159_149:=n9_;clear n0_ n1_ n2_ n3_ n4_ n5_ n6_ n7_ n8_ n9_;clear hb hbox hg;refine hK.out _ _ trivial (fun hHeld=>?_);clear hK K;refine norm_ (a':=?_) ?_ ?_;rotate_left
        ·show Act.put _ (some 5) _=_
         simp only[sP];rfl
        exact norm_ (by simp only[putAll,Act.put,List.setIfInBounds_toArray,List.set_cons_zero,List.set_cons_succ]) (hCont (gb159) _ ⟨(bf0 BK148.out),(bf0 BK159.out),GW159.out,GE159.out,NB149_159.out,NB159_149.out,NB148_159.out,NB159_148.out,(by repeat (first|(with_reducible first|exact HIB149.out|apply IsS85.alloc|apply IsS85.drewN|apply IsS85.drew|apply IsS85.set_0|apply IsS85.set_1|refine IsS85.far ?_ NB149_148.out _|refine IsS85.far ?_ NB149_159.out _)|exact HIB149.out)),(bw3 HB.out (IsS85.ge HIB149.out) GE148.out GE159.out)⟩)
       ·skip
        refine box_step ?hg (N:=5) ?hd (cs:= #[.int .u8 0,.int .i64 0,.int .u64 0,.int .i64 0,.bool false,.int .u64 0,.int .u64 0,.int .i64 0,.int .u8 0,.int .i64 0,.int .i64 0,.int .i64 0]) (t:=35) ?hr ?_;(case hd=>rfl);(case hg=>rfl);(case hr=>first|(go_simp;done)|(go_simp;rfl));intro gb159 hg w17 hbox hb;have n0_:=Bx0 BK148 hb;have n1_:=Ax (IsS85.below (by repeat (first|(with_reducible first|exact HIB149.out|apply IsS85.alloc|apply IsS85.drewN|apply IsS85.drew|apply IsS85.set_0|apply IsS85.set_1|refine IsS85.far ?_ NB149_148.out _)|exact HIB149.out)) hb);have n2_:=Bs2 HB hb (IsS85.ge HIB149.out) GE148.out;have n3_:=Ax (hbox);have n4_:=Gw2 HB hg (IsS85.ge HIB149.out) GE148.out;have n5_:=Gw2 HB hg (IsS85.ge HIB149.out) GE148.out;have n6_:=Nl0 BK148 hg;have n7_:=Nr0 BK148 hg;have n8_:=Ax ((by rw [hg];exact Nat.ne_of_lt (IsS85.lt (show IsS85 w _ gb149 t154 t155 from by repeat (first|(with_reducible first|exact HIB149.out|apply IsS85.alloc|apply IsS85.drewN|apply IsS85.drew|apply IsS85.set_0|apply IsS85.set_1|refine IsS85.far ?_ NB149_148.out _)|exact HIB149.out))):gb149≠gb159));have n9_:=Ax ((by rw [hg];exact Nat.ne_of_gt (IsS85.lt (show IsS85 w _ gb149 t154 t155 from by repeat (first|(with_reducible first|exact HIB149.out|apply IsS85.alloc|apply IsS85.drewN|apply IsS85.drew|apply IsS85.set_0|apply IsS85.set_1|refine IsS85.far ?_ NB149_148.out _)|exact HIB149.out))):gb159≠gb149));clear BK148;clear HIB149;clear HB;have BK148:=n0_;have HIB149:=n1_;have HB:=n2_;have BK159:=n3_;have GW159:=n4_;have GE159:=n5_;have NB148_159:=n6_;have NB159_148:=n7_;have NB149_159:=n8_;have NB159_149:=n9_;clear n0_ n1_ n2_ n3_ n4_ n5_ n6_ n7_ n8_ n9_;clear hb hbox hg;refine hK.out _ _ trivial (fun hHeld=>?_);clear hK K;refine norm_ (a':=?_) ?_ ?_;rotate_left
        ·show Act.put _ (some 5) _=_
         simp only[sP];rfl
        refine one_ (i:=13) (N:=some 27) #[tr,tr,tr,tr,tr,tr,tr,tr,tr,tr,tr,tr,tr,tr,fa,fa,tr,fa] rfl rfl (one_of HT_.out (by kernel_rfl)) (by decide) (fun K hK=>?_);refine goes_ Try.func34 (by kernel_rfl) rfl #[.pointer (some ⟨gb149,0,none⟩)] (by rfl) rfl rfl gS ?_;with_reducible refine (num_Reader_Num.calls85 k gb149 t154 t155 t156 t157 t158 w _ ?side1 ?side2 A10.out).mono ?_
        (case side1=>repeat (first|(with_reducible first|exact HIB149.out|apply IsS85.alloc|apply IsS85.drewN|apply IsS85.drew|apply IsS85.set_0|apply IsS85.set_1|refine IsS85.far ?_ NB149_148.out _|refine IsS85.far ?_ NB149_159.out _)|exact HIB149.out))
        (case side2=>repeat (first|(with_reducible first|exact HB.out|apply below_alloc|apply pw_below_drewN|apply below_drew1|refine below_set ?_ (IsS85.ge HIB149.out)|refine below_set ?_ GE148.out|refine below_set ?_ GE159.out)|exact HB.out))
        rintro e w18 ⟨rfl,hi,hb,hk⟩
        refine⟨_,rfl,?_⟩;replace BK148:=Ax (KeepBut.blk hk (g':=gb148) (o:=.cells #[.int .u8 0,.int .i64 0,.int .u64 0,.int .i64 0,.bool false,.int .u64 0,.int .u64 0,.int .i64 0,.int .u8 0,.int .i64 0,.int .i64 0,.int .i64 0] 35 (0,0)) (bf0 BK148.out) NB148_149.out (by simp));replace BK159:=Ax (KeepBut.blk hk (g':=gb159) (o:=.cells #[.int .u8 0,.int .i64 0,.int .u64 0,.int .i64 0,.bool false,.int .u64 0,.int .u64 0,.int .i64 0,.int .u8 0,.int .i64 0,.int .i64 0,.int .i64 0] 35 (0,0)) (bf0 BK159.out) NB159_149.out (by simp));replace HB:=Ax (hb);replace HIB149:=Ax (hi)
        (try clear hb)
        (try clear hb2)
        (try clear hk)
        (try clear hi)
        refine hK.out _ _ trivial (fun hHeld=>?_);clear hK K;refine norm_ (a':=?_) ?_ ?_;rotate_left
        ·show Act.put _ (some 27) _=_
         simp only[sP];rfl
        refine pz 14 28 #[tr,tr,tr,tr,tr,tr,tr,tr,tr,tr,tr,tr,tr,tr,tr,fa,tr,fa] HT_.out ?_
        refine pz 15 29 #[tr,tr,tr,tr,tr,tr,tr,tr,tr,tr,tr,tr,tr,tr,tr,tr,tr,fa] HT_.out ?_
        exact norm_ (by simp only[putAll,Act.put,List.setIfInBounds_toArray,List.set_cons_zero,List.set_cons_succ]) (hCont (gb159) _ ⟨(bf0 BK148.out),(bf0 BK159.out),GW159.out,GE159.out,NB149_159.out,NB159_149.out,NB148_159.out,NB159_148.out,(by repeat (first|(with_reducible first|exact HIB149.out|apply IsS85.alloc|apply IsS85.drewN|apply IsS85.drew|apply IsS85.set_0|apply IsS85.set_1|refine IsS85.far ?_ NB149_148.out _|refine IsS85.far ?_ NB149_159.out _)|exact HIB149.out)),(bw3 HB.out (IsS85.ge HIB149.out) GE148.out GE159.out)⟩)
      ·skip
       refine box_step ?hg (N:=5) ?hd (cs:= #[.int .u8 0,.int .i64 0,.int .u64 0,.int .i64 0,.bool false,.int .u64 0,.int .u64 0,.int .i64 0,.int .u8 0,.int .i64 0,.int .i64 0,.int .i64 0]) (t:=35) ?hr ?_;(case hd=>rfl);(case hg=>rfl);(case hr=>first|(go_simp;done)|(go_simp;rfl));intro gb159 hg w16 hbox hb;have n0_:=Bx0 BK148 hb;have n1_:=Ax (IsS85.below (by repeat (first|(with_reducible first|exact HIB149.out|apply IsS85.alloc|apply IsS85.drewN|apply IsS85.drew|apply IsS85.set_0|apply IsS85.set_1|refine IsS85.far ?_ NB149_148.out _)|exact HIB149.out)) hb);have n2_:=Bs2 HB hb (IsS85.ge HIB149.out) GE148.out;have n3_:=Ax (hbox);have n4_:=Gw2 HB hg (IsS85.ge HIB149.out) GE148.out;have n5_:=Gw2 HB hg (IsS85.ge HIB149.out) GE148.out;have n6_:=Nl0 BK148 hg;have n7_:=Nr0 BK148 hg;have n8_:=Ax ((by rw [hg];exact Nat.ne_of_lt (IsS85.lt (show IsS85 w _ gb149 t151 t152 from by repeat (first|(with_reducible first|exact HIB149.out|apply IsS85.alloc|apply IsS85.drewN|apply IsS85.drew|apply IsS85.set_0|apply IsS85.set_1|refine IsS85.far ?_ NB149_148.out _)|exact HIB149.out))):gb149≠gb159));have n9_:=Ax ((by rw [hg];exact Nat.ne_of_gt (IsS85.lt (show IsS85 w _ gb149 t151 t152 from by repeat (first|(with_reducible first|exact HIB149.out|apply IsS85.alloc|apply IsS85.drewN|apply IsS85.drew|apply IsS85.set_0|apply IsS85.set_1|refine IsS85.far ?_ NB149_148.out _)|exact HIB149.out))):gb159≠gb149));clear BK148;clear HIB149;clear HB;have BK148:=n0_;have HIB149:=n1_;have HB:=n2_;have BK159:=n3_;have GW159:=n4_;have GE159:=n5_;have NB148_159:=n6_;have NB159_148:=n7_;have NB149_159:=n8_;have NB159_149:=n9_;clear n0_ n1_ n2_ n3_ n4_ n5_ n6_ n7_ n8_ n9_;clear hb hbox hg;refine hK.out _ _ trivial (fun hHeld=>?_);clear hK K;refine norm_ (a':=?_) ?_ ?_;rotate_left
       ·show Act.put _ (some 5) _=_
        simp only[sP];rfl
       refine one_ (i:=9) (N:=some 23) #[tr,tr,tr,tr,tr,tr,tr,tr,tr,tr,tr,tr,tr,fa,fa,fa,tr,fa] rfl rfl (one_of HT_.out (by kernel_rfl)) (by decide) (fun K hK=>?_);refine goes_ Try.func34 (by kernel_rfl) rfl #[.pointer (some ⟨gb149,0,none⟩)] (by rfl) rfl rfl gS ?_;with_reducible refine (num_Reader_Num.calls85 k gb149 t151 t152 t153 t154 t155 w _ ?side1 ?side2 A9.out).mono ?_
       (case side1=>repeat (first|(with_reducible first|exact HIB149.out|apply IsS85.alloc|apply IsS85.drewN|apply IsS85.drew|apply IsS85.set_0|apply IsS85.set_1|refine IsS85.far ?_ NB149_148.out _|refine IsS85.far ?_ NB149_159.out _)|exact HIB149.out))
       (case side2=>repeat (first|(with_reducible first|exact HB.out|apply below_alloc|apply pw_below_drewN|apply below_drew1|refine below_set ?_ (IsS85.ge HIB149.out)|refine below_set ?_ GE148.out|refine below_set ?_ GE159.out)|exact HB.out))
       rintro e w17 ⟨rfl,hi,hb,hk⟩
       refine⟨_,rfl,?_⟩;replace BK148:=Ax (KeepBut.blk hk (g':=gb148) (o:=.cells #[.int .u8 0,.int .i64 0,.int .u64 0,.int .i64 0,.bool false,.int .u64 0,.int .u64 0,.int .i64 0,.int .u8 0,.int .i64 0,.int .i64 0,.int .i64 0] 35 (0,0)) (bf0 BK148.out) NB148_149.out (by simp));replace BK159:=Ax (KeepBut.blk hk (g':=gb159) (o:=.cells #[.int .u8 0,.int .i64 0,.int .u64 0,.int .i64 0,.bool false,.int .u64 0,.int .u64 0,.int .i64 0,.int .u8 0,.int .i64 0,.int .i64 0,.int .i64 0] 35 (0,0)) (bf0 BK159.out) NB159_149.out (by simp));replace HB:=Ax (hb);replace HIB149:=Ax (hi)
       (try clear hb)
       (try clear hb2)
       (try clear hk)
       (try clear hi)
       refine hK.out _ _ trivial (fun hHeld=>?_);clear hK K;refine norm_ (a':=?_) ?_ ?_;rotate_left
       ·show Act.put _ (some 23) _=_
        simp only[sP];rfl
       refine one_ (i:=13) (N:=some 27) #[tr,tr,tr,tr,tr,tr,tr,tr,tr,tr,tr,tr,tr,tr,fa,fa,tr,fa] rfl rfl (one_of HT_.out (by kernel_rfl)) (by decide) (fun K hK=>?_);refine goes_ Try.func34 (by kernel_rfl) rfl #[.pointer (some ⟨gb149,0,none⟩)] (by rfl) rfl rfl gS ?_;with_reducible refine (num_Reader_Num.calls85 k gb149 t154 t155 t156 t157 t158 w _ ?side1 ?side2 A10.out).mono ?_
       (case side1=>repeat (first|(with_reducible first|exact HIB149.out|apply IsS85.alloc|apply IsS85.drewN|apply IsS85.drew|apply IsS85.set_0|apply IsS85.set_1|refine IsS85.far ?_ NB149_148.out _|refine IsS85.far ?_ NB149_159.out _)|exact HIB149.out))
       (case side2=>repeat (first|(with_reducible first|exact HB.out|apply below_alloc|apply pw_below_drewN|apply below_drew1|refine below_set ?_ (IsS85.ge HIB149.out)|refine below_set ?_ GE148.out|refine below_set ?_ GE159.out)|exact HB.out))
       rintro e w18 ⟨rfl,hi,hb,hk⟩
       refine⟨_,rfl,?_⟩;replace BK148:=Ax (KeepBut.blk hk (g':=gb148) (o:=.cells #[.int .u8 0,.int .i64 0,.int .u64 0,.int .i64 0,.bool false,.int .u64 0,.int .u64 0,.int .i64 0,.int .u8 0,.int .i64 0,.int .i64 0,.int .i64 0] 35 (0,0)) (bf0 BK148.out) NB148_149.out (by simp));replace BK159:=Ax (KeepBut.blk hk (g':=gb159) (o:=.cells #[.int .u8 0,.int .i64 0,.int .u64 0,.int .i64 0,.bool false,.int .u64 0,.int .u64 0,.int .i64 0,.int .u8 0,.int .i64 0,.int .i64 0,.int .i64 0] 35 (0,0)) (bf0 BK159.out) NB159_149.out (by simp));replace HB:=Ax (hb);replace HIB149:=Ax (hi)
       (try clear hb)
       (try clear hb2)
       (try clear hk)
       (try clear hi)
       refine hK.out _ _ trivial (fun hHeld=>?_);clear hK K;refine norm_ (a':=?_) ?_ ?_;rotate_left
       ·show Act.put _ (some 27) _=_
        simp only[sP];rfl
       refine pz 14 28 #[tr,tr,tr,tr,tr,tr,tr,tr,tr,tr,tr,tr,tr,tr,tr,fa,tr,fa] HT_.out ?_
       refine pz 15 29 #[tr,tr,tr,tr,tr,tr,tr,tr,tr,tr,tr,tr,tr,tr,tr,tr,tr,fa] HT_.out ?_
       exact norm_ (by simp only[putAll,Act.put,List.setIfInBounds_toArray,List.set_cons_zero,List.set_cons_succ]) (hCont (gb159) _ ⟨(bf0 BK148.out),(bf0 BK159.out),GW159.out,GE159.out,NB149_159.out,NB159_149.out,NB148_159.out,NB159_148.out,(by repeat (first|(with_reducible first|exact HIB149.out|apply IsS85.alloc|apply IsS85.drewN|apply IsS85.drew|apply IsS85.set_0|apply IsS85.set_1|refine IsS85.far ?_ NB149_148.out _|refine IsS85.far ?_ NB149_159.out _)|exact HIB149.out)),(bw3 HB.out (IsS85.ge HIB149.out) GE148.out GE159.out)⟩)
     ·skip
      refine box_step ?hg (N:=5) ?hd (cs:= #[.int .u8 0,.int .i64 0,.int .u64 0,.int .i64 0,.bool false,.int .u64 0,.int .u64 0,.int .i64 0,.int .u8 0,.int .i64 0,.int .i64 0,.int .i64 0]) (t:=35) ?hr ?_;(case hd=>rfl);(case hg=>rfl);(case hr=>first|(go_simp;done)|(go_simp;rfl));intro gb159 hg w15 hbox hb;have n0_:=Bx0 BK148 hb;have n1_:=Ax (IsS85.below (by repeat (first|(with_reducible first|exact HIB149.out|apply IsS85.alloc|apply IsS85.drewN|apply IsS85.drew|apply IsS85.set_0|apply IsS85.set_1|refine IsS85.far ?_ NB149_148.out _)|exact HIB149.out)) hb);have n2_:=Bs2 HB hb (IsS85.ge HIB149.out) GE148.out;have n3_:=Ax (hbox);have n4_:=Gw2 HB hg (IsS85.ge HIB149.out) GE148.out;have n5_:=Gw2 HB hg (IsS85.ge HIB149.out) GE148.out;have n6_:=Nl0 BK148 hg;have n7_:=Nr0 BK148 hg;have n8_:=Ax ((by rw [hg];exact Nat.ne_of_lt (IsS85.lt (show IsS85 w _ gb149 (a0.extract 1 a0.size) 0 from by repeat (first|(with_reducible first|exact HIB149.out|apply IsS85.alloc|apply IsS85.drewN|apply IsS85.drew|apply IsS85.set_0|apply IsS85.set_1|refine IsS85.far ?_ NB149_148.out _)|exact HIB149.out))):gb149≠gb159));have n9_:=Ax ((by rw [hg];exact Nat.ne_of_gt (IsS85.lt (show IsS85 w _ gb149 (a0.extract 1 a0.size) 0 from by repeat (first|(with_reducible first|exact HIB149.out|apply IsS85.alloc|apply IsS85.drewN|apply IsS85.drew|apply IsS85.set_0|apply IsS85.set_1|refine IsS85.far ?_ NB149_148.out _)|exact HIB149.out))):gb159≠gb149));clear BK148;clear HIB149;clear HB;have BK148:=n0_;have HIB149:=n1_;have HB:=n2_;have BK159:=n3_;have GW159:=n4_;have GE159:=n5_;have NB148_159:=n6_;have NB159_148:=n7_;have NB149_159:=n8_;have NB159_149:=n9_;clear n0_ n1_ n2_ n3_ n4_ n5_ n6_ n7_ n8_ n9_;clear hb hbox hg;refine hK.out _ _ trivial (fun hHeld=>?_);clear hK K;refine norm_ (a':=?_) ?_ ?_;rotate_left
      ·show Act.put _ (some 5) _=_
       simp only[sP];rfl
      refine one_ (i:=5) (N:=some 19) #[tr,tr,tr,tr,tr,tr,tr,tr,tr,fa,tr,tr,tr,fa,fa,fa,tr,fa] rfl rfl (one_of HT_.out (by kernel_rfl)) (by decide) (fun K hK=>?_);refine goes_ Try.func33 (by kernel_rfl) rfl #[.pointer (some ⟨gb149,0,none⟩),.int .i64 1048576] (by rfl) rfl rfl gS ?_;with_reducible refine (num_Reader_Many.calls85 k gb149 (a0.extract 1 a0.size) 0 1048576 t150 t151 t152 w _ ?side1 ?side2 A8.out).mono ?_
      (case side1=>repeat (first|(with_reducible first|exact HIB149.out|apply IsS85.alloc|apply IsS85.drewN|apply IsS85.drew|apply IsS85.set_0|apply IsS85.set_1|refine IsS85.far ?_ NB149_148.out _|refine IsS85.far ?_ NB149_159.out _)|exact HIB149.out))
      (case side2=>repeat (first|(with_reducible first|exact HB.out|apply below_alloc|apply pw_below_drewN|apply below_drew1|refine below_set ?_ (IsS85.ge HIB149.out)|refine below_set ?_ GE148.out|refine below_set ?_ GE159.out)|exact HB.out))
      rintro e w16 ⟨rfl,hi,hb,hk⟩
      refine⟨_,rfl,?_⟩;replace BK148:=Ax (KeepBut.blk hk (g':=gb148) (o:=.cells #[.int .u8 0,.int .i64 0,.int .u64 0,.int .i64 0,.bool false,.int .u64 0,.int .u64 0,.int .i64 0,.int .u8 0,.int .i64 0,.int .i64 0,.int .i64 0] 35 (0,0)) (bf0 BK148.out) NB148_149.out (by simp));replace BK159:=Ax (KeepBut.blk hk (g':=gb159) (o:=.cells #[.int .u8 0,.int .i64 0,.int .u64 0,.int .i64 0,.bool false,.int .u64 0,.int .u64 0,.int .i64 0,.int .u8 0,.int .i64 0,.int .i64 0,.int .i64 0] 35 (0,0)) (bf0 BK159.out) NB159_149.out (by simp));replace HB:=Ax (hb);replace HIB149:=Ax (hi)
      (try clear hb)
      (try clear hb2)
      (try clear hk)
      (try clear hi)
      refine hK.out _ _ trivial (fun hHeld=>?_);clear hK K;refine norm_ (a':=?_) ?_ ?_;rotate_left
      ·show Act.put _ (some 19) _=_
       simp only[sP];rfl
      refine one_ (i:=9) (N:=some 23) #[tr,tr,tr,tr,tr,tr,tr,tr,tr,tr,tr,tr,tr,fa,fa,fa,tr,fa] rfl rfl (one_of HT_.out (by kernel_rfl)) (by decide) (fun K hK=>?_);refine goes_ Try.func34 (by kernel_rfl) rfl #[.pointer (some ⟨gb149,0,none⟩)] (by rfl) rfl rfl gS ?_;with_reducible refine (num_Reader_Num.calls85 k gb149 t151 t152 t153 t154 t155 w _ ?side1 ?side2 A9.out).mono ?_
      (case side1=>repeat (first|(with_reducible first|exact HIB149.out|apply IsS85.alloc|apply IsS85.drewN|apply IsS85.drew|apply IsS85.set_0|apply IsS85.set_1|refine IsS85.far ?_ NB149_148.out _|refine IsS85.far ?_ NB149_159.out _)|exact HIB149.out))
      (case side2=>repeat (first|(with_reducible first|exact HB.out|apply below_alloc|apply pw_below_drewN|apply below_drew1|refine below_set ?_ (IsS85.ge HIB149.out)|refine below_set ?_ GE148.out|refine below_set ?_ GE159.out)|exact HB.out))
      rintro e w17 ⟨rfl,hi,hb,hk⟩
      refine⟨_,rfl,?_⟩;replace BK148:=Ax (KeepBut.blk hk (g':=gb148) (o:=.cells #[.int .u8 0,.int .i64 0,.int .u64 0,.int .i64 0,.bool false,.int .u64 0,.int .u64 0,.int .i64 0,.int .u8 0,.int .i64 0,.int .i64 0,.int .i64 0] 35 (0,0)) (bf0 BK148.out) NB148_149.out (by simp));replace BK159:=Ax (KeepBut.blk hk (g':=gb159) (o:=.cells #[.int .u8 0,.int .i64 0,.int .u64 0,.int .i64 0,.bool false,.int .u64 0,.int .u64 0,.int .i64 0,.int .u8 0,.int .i64 0,.int .i64 0,.int .i64 0] 35 (0,0)) (bf0 BK159.out) NB159_149.out (by simp));replace HB:=Ax (hb);replace HIB149:=Ax (hi)
      (try clear hb)
      (try clear hb2)
      (try clear hk)
      (try clear hi)
      refine hK.out _ _ trivial (fun hHeld=>?_);clear hK K;refine norm_ (a':=?_) ?_ ?_;rotate_left
      ·show Act.put _ (some 23) _=_
       simp only[sP];rfl
      refine one_ (i:=13) (N:=some 27) #[tr,tr,tr,tr,tr,tr,tr,tr,tr,tr,tr,tr,tr,tr,fa,fa,tr,fa] rfl rfl (one_of HT_.out (by kernel_rfl)) (by decide) (fun K hK=>?_);refine goes_ Try.func34 (by kernel_rfl) rfl #[.pointer (some ⟨gb149,0,none⟩)] (by rfl) rfl rfl gS ?_;with_reducible refine (num_Reader_Num.calls85 k gb149 t154 t155 t156 t157 t158 w _ ?side1 ?side2 A10.out).mono ?_
      (case side1=>repeat (first|(with_reducible first|exact HIB149.out|apply IsS85.alloc|apply IsS85.drewN|apply IsS85.drew|apply IsS85.set_0|apply IsS85.set_1|refine IsS85.far ?_ NB149_148.out _|refine IsS85.far ?_ NB149_159.out _)|exact HIB149.out))
      (case side2=>repeat (first|(with_reducible first|exact HB.out|apply below_alloc|apply pw_below_drewN|apply below_drew1|refine below_set ?_ (IsS85.ge HIB149.out)|refine below_set ?_ GE148.out|refine below_set ?_ GE159.out)|exact HB.out))
      rintro e w18 ⟨rfl,hi,hb,hk⟩
      refine⟨_,rfl,?_⟩;replace BK148:=Ax (KeepBut.blk hk (g':=gb148) (o:=.cells #[.int .u8 0,.int .i64 0,.int .u64 0,.int .i64 0,.bool false,.int .u64 0,.int .u64 0,.int .i64 0,.int .u8 0,.int .i64 0,.int .i64 0,.int .i64 0] 35 (0,0)) (bf0 BK148.out) NB148_149.out (by simp));replace BK159:=Ax (KeepBut.blk hk (g':=gb159) (o:=.cells #[.int .u8 0,.int .i64 0,.int .u64 0,.int .i64 0,.bool false,.int .u64 0,.int .u64 0,.int .i64 0,.int .u8 0,.int .i64 0,.int .i64 0,.int .i64 0] 35 (0,0)) (bf0 BK159.out) NB159_149.out (by simp));replace HB:=Ax (hb);replace HIB149:=Ax (hi)
      (try clear hb)
      (try clear hb2)
      (try clear hk)
      (try clear hi)
      refine hK.out _ _ trivial (fun hHeld=>?_);clear hK K;refine norm_ (a':=?_) ?_ ?_;rotate_left
      ·show Act.put _ (some 27) _=_
       simp only[sP];rfl
      refine pz 14 28 #[tr,tr,tr,tr,tr,tr,tr,tr,tr,tr,tr,tr,tr,tr,tr,fa,tr,fa] HT_.out ?_
      refine pz 15 29 #[tr,tr,tr,tr,tr,tr,tr,tr,tr,tr,tr,tr,tr,tr,tr,tr,tr,fa] HT_.out ?_
      exact norm_ (by simp only[putAll,Act.put,List.setIfInBounds_toArray,List.set_cons_zero,List.set_cons_succ]) (hCont (gb159) _ ⟨(bf0 BK148.out),(bf0 BK159.out),GW159.out,GE159.out,NB149_159.out,NB159_149.out,NB148_159.out,NB159_148.out,(by repeat (first|(with_reducible first|exact HIB149.out|apply IsS85.alloc|apply IsS85.drewN|apply IsS85.drew|apply IsS85.set_0|apply IsS85.set_1|refine IsS85.far ?_ NB149_148.out _|refine IsS85.far ?_ NB149_159.out _)|exact HIB149.out)),(bw3 HB.out (IsS85.ge HIB149.out) GE148.out GE159.out)⟩)
    rintro gb159 w19 ⟨h0_,h1_,h2_,h3_,h4_,h5_,h6_,h7_,h8_,h9_⟩
    have n0_:Aside0 (w19.heap[gb148]? =some (.cells #[.int .u8 0,.int .i64 0,.int .u64 0,.int .i64 0,.bool false,.int .u64 0,.int .u64 0,.int .i64 0,.int .u8 0,.int .i64 0,.int .i64 0,.int .i64 0] 35 (0,0))):=⟨h0_⟩;have n1_:Aside0 (w19.heap[gb159]? =some (.cells #[.int .u8 0,.int .i64 0,.int .u64 0,.int .i64 0,.bool false,.int .u64 0,.int .u64 0,.int .i64 0,.int .u8 0,.int .i64 0,.int .i64 0,.int .i64 0] 35 (0,0))):=⟨h1_⟩;have n2_:Aside0 (w.heap.size≤gb159):=⟨h2_⟩;have n3_:Aside0 (w.heap.size≤gb159):=⟨h3_⟩;have n4_:Aside0 (gb149≠gb159):=⟨h4_⟩;have n5_:Aside0 (gb159≠gb149):=⟨h5_⟩;have n6_:Aside0 (gb148≠gb159):=⟨h6_⟩;have n7_:Aside0 (gb159≠gb148):=⟨h7_⟩;have n8_:Aside0 (IsS85 w w19 gb149 t157 t158):=⟨h8_⟩;have n9_:Aside0 (Below w.heap.size w w19):=⟨h9_⟩;clear BK148;clear HIB149;clear HB;clear h0_ h1_ h2_ h3_ h4_ h5_ h6_ h7_ h8_ h9_;have BK148:=n0_;have BK159:=n1_;have GW159:=n2_;have GE159:=n3_;have NB149_159:=n4_;have NB159_149:=n5_;have NB148_159:=n6_;have NB159_148:=n7_;have HIB149:=n8_;have HB:=n9_;clear n0_ n1_ n2_ n3_ n4_ n5_ n6_ n7_ n8_ n9_;have hHeld:=trivial;refine norm_ (a':=?_) ?_ ?_;rotate_left;·simp only[putAll,Act.put,List.setIfInBounds_toArray,List.set_cons_zero,List.set_cons_succ];rfl
    refine one_ (i:=17) (N:=none) #[tr,tr,tr,tr,tr,tr,tr,tr,tr,tr,tr,tr,tr,tr,tr,tr,tr,tr] rfl rfl (one_of HT_.out (by kernel_rfl)) (by decide) (fun K hK=>?_);have hs20:w19.cell? ⟨gb159,0,none⟩=some (.int .u8 0):=(blk_cell BK159.out 0).trans rfl;have hfs20:=blk_frozen BK159.out 0;have hns20_0:=NB148_159.out;have hms20_0:=NB159_148.out;have hs21:w19.cell? ⟨gb159,1,none⟩=some (.int .i64 0):=(blk_cell BK159.out 1).trans rfl;have hfs21:=blk_frozen BK159.out 1;have hns21_0:=NB148_159.out;have hms21_0:=NB159_148.out;have hs22:w19.cell? ⟨gb159,2,none⟩=some (.int .u64 0):=(blk_cell BK159.out 2).trans rfl;have hfs22:=blk_frozen BK159.out 2;have hns22_0:=NB148_159.out;have hms22_0:=NB159_148.out;have hs23:w19.cell? ⟨gb159,3,none⟩=some (.int .i64 0):=(blk_cell BK159.out 3).trans rfl;have hfs23:=blk_frozen BK159.out 3;have hns23_0:=NB148_159.out;have hms23_0:=NB159_148.out;have hs24:w19.cell? ⟨gb159,4,none⟩=some (.bool false):=(blk_cell BK159.out 4).trans rfl;have hfs24:=blk_frozen BK159.out 4;have hns24_0:=NB148_159.out;have hms24_0:=NB159_148.out;have hs25:w19.cell? ⟨gb159,5,none⟩=some (.int .u64 0):=(blk_cell BK159.out 5).trans rfl;have hfs25:=blk_frozen BK159.out 5;have hns25_0:=NB148_159.out;have hms25_0:=NB159_148.out;have hs26:w19.cell? ⟨gb159,6,none⟩=some (.int .u64 0):=(blk_cell BK159.out 6).trans rfl;have hfs26:=blk_frozen BK159.out 6;have hns26_0:=NB148_159.out;have hms26_0:=NB159_148.out;have hs27:w19.cell? ⟨gb159,7,none⟩=some (.int .i64 0):=(blk_cell BK159.out 7).trans rfl;have hfs27:=blk_frozen BK159.out 7;have hns27_0:=NB148_159.out;have hms27_0:=NB159_148.out;have hs28:w19.cell? ⟨gb159,8,none⟩=some (.int .u8 0):=(blk_cell BK159.out 8).trans rfl;have hfs28:=blk_frozen BK159.out 8;have hns28_0:=NB148_159.out;have hms28_0:=NB159_148.out;have hs29:w19.cell? ⟨gb159,9,none⟩=some (.int .i64 0):=(blk_cell BK159.out 9).trans rfl;have hfs29:=blk_frozen BK159.out 9;have hns29_0:=NB148_159.out;have hms29_0:=NB159_148.out;have hs30:w19.cell? ⟨gb159,10,none⟩=some (.int .i64 0):=(blk_cell BK159.out 10).trans rfl;have hfs30:=blk_frozen BK159.out 10;have hns30_0:=NB148_159.out;have hms30_0:=NB159_148.out;have hs31:w19.cell? ⟨gb159,11,none⟩=some (.int .i64 0):=(blk_cell BK159.out 11).trans rfl;have hfs31:=blk_frozen BK159.out 11;have hns31_0:=NB148_159.out;have hms31_0:=NB159_148.out;refine skip_ (w1:=?_) (by rfl) rfl ?_ ?_;rotate_left;·go_simp;rfl
    refine hK.out _ _ trivial (fun hHeld=>?_);clear hK K;refine done_ (done_of HT_.out (by kernel_rfl)) ?_;have hnb32:=NB159_148.out;have hnc32:=NB148_159.out;have hnb33:=NB159_149.out;have hnc33:=NB149_159.out;obtain⟨hcz34_0,hcz34_1,hcz34_2,hcz34_3,hcz34_4,hcz34_5,hcz34_6,hcz34_7,hcz34_8,hcz34_9,hcz34_10,hcz34_11,hfz34_0,hfz34_1,hfz34_2,hfz34_3,hfz34_4,hfz34_5,hfz34_6,hfz34_7,hfz34_8,hfz34_9,hfz34_10,hfz34_11⟩:=cl12 BK159;go_upto_block 0 with (fail)
    go_cut [] (fun wc=> ∃ (kq:Nat) (x150000_10:ByteArray) (x150001_10:Int) (x160004_10:Bool) (x160005_10:Int) (x160006_10:Int) (x160007_10:Int) (x160008_10:Int) (x160009_10:Int) (x160010_10:Int) (x160011_10:Int),Aside0 (msg_Get.j0 kq x150000_10 x150001_10 (bt a0 0) t150 t153 (wrap64 (t156)) x160004_10 x160005_10 x160006_10 x160007_10 x160008_10 x160009_10 x160010_10 x160011_10=some (r1,r2,r3,r4,r5,r6,r7,r8,r9,r10,r11,r12,r13))∧Aside0 (kq≤k)∧Aside0 (wc.heap[gb148]? =some (.cells #[.int .u8 0,.int .i64 0,.int .u64 0,.int .i64 0,.bool false,.int .u64 0,.int .u64 0,.int .i64 0,.int .u8 0,.int .i64 0,.int .i64 0,.int .i64 0] 35 (0,0)))∧Aside0 (wc.heap[gb159]? =some (.cells #[.int .u8 (bt a0 0),.int .i64 t150,.int .u64 t153,.int .i64 (wrap64 (t156)),.bool x160004_10,.int .u64 x160005_10,.int .u64 x160006_10,.int .i64 x160007_10,.int .u8 x160008_10,.int .i64 x160009_10,.int .i64 x160010_10,.int .i64 x160011_10] 35 (0,0)))∧Aside0 (IsS85 w wc gb149 x150000_10 x150001_10)∧Aside0 (Below w.heap.size w wc))
    case first=>
     have H:=HC11.out;clear HC11;by_cases c35:(bt a0 0)=3
     ·rw [if_pos c35]at H;have c35b0:((bt a0 0)==3)=true:=beq_iff_eq.mpr c35;have c35b1:((bt a0 0) !=3)=false:=bne_eq_false_iff_eq.mpr c35;clear c35
      (first|rw [c35b0]|(simp only[i64_w,i32_w];rw [c35b0])|skip)
      replace H:=Option.bind_eq_some_iff.mp H;obtain⟨⟨t160,t161,t162,t163,t164,t165⟩,A360,H⟩:=H;replace H:((api_Action.f k t164 t165).bind fun bt166=>(msg_Get.j0 k bt166.2.2.1 bt166.2.2.2 (bt a0 0) t150 t153 (wrap64 (t156)) t160 t161 t162 t163 bt166.1 bt166.2.1 0 0))=some (r1,r2,r3,r4,r5,r6,r7,r8,r9,r10,r11,r12,r13):=H;have A36:=Ax A360;clear A360;replace H:=Option.bind_eq_some_iff.mp H;obtain⟨⟨t166,t167,t168,t169⟩,A370,H⟩:=H;replace H:(msg_Get.j0 k t168 t169 (bt a0 0) t150 t153 (wrap64 (t156)) t160 t161 t162 t163 t166 t167 0 0)=some (r1,r2,r3,r4,r5,r6,r7,r8,r9,r10,r11,r12,r13):=H;have A37:=Ax A370;clear A370;have H':=Ax H;clear H;go_wp2_with (first|((with_reducible refine gate_callee (f:=35) rfl ?_);refine goesL_ (some 35) rfl rfl Try.func35 (by kernel_rfl) rfl #[.pointer (some ⟨gb149,0,none⟩),.func (.func 36) #[] #[]] rfl gS ?_;(with_reducible refine (api_Prefix.calls k gb149 t157 t158 t160 t161 t162 t163 t164 t165 w _ ?side1 ?side2 A36.out).mono ?_);(case side1=>repeat (first|(with_reducible first|exact HIB149.out|apply IsS85.alloc|apply IsS85.drewN|apply IsS85.drew|apply IsS85.set_0|apply IsS85.set_1|refine IsS85.far ?_ NB149_148.out _|refine IsS85.far ?_ NB149_159.out _)|exact HIB149.out));(case side2=>repeat (first|(with_reducible first|exact HB.out|apply below_alloc|apply pw_below_drewN|apply below_drew1|refine below_set ?_ (IsS85.ge HIB149.out)|refine below_set ?_ GE148.out|refine below_set ?_ GE159.out)|exact HB.out));rintro e w38 ⟨rfl,hi,hb,hk⟩;refine⟨_,rfl,?_⟩;have n0_:=Ax (KeepBut.blk hk (g':=gb148) (o:=.cells #[.int .u8 0,.int .i64 0,.int .u64 0,.int .i64 0,.bool false,.int .u64 0,.int .u64 0,.int .i64 0,.int .u8 0,.int .i64 0,.int .i64 0,.int .i64 0] 35 (0,0)) (by (with_reducible repeat (first|refine blk_drewN ?_ _|refine blk_drew ?_|refine blk_alloc ?_ _));refine blk_far ?_ NB148_159.out _;(with_reducible repeat (first|refine blk_drewN ?_ _|refine blk_drew ?_|refine blk_alloc ?_ _));refine blk_far ?_ NB148_159.out _;(with_reducible repeat (first|refine blk_drewN ?_ _|refine blk_drew ?_|refine blk_alloc ?_ _));refine blk_far ?_ NB148_159.out _;(with_reducible repeat (first|refine blk_drewN ?_ _|refine blk_drew ?_|refine blk_alloc ?_ _));refine blk_far ?_ NB148_159.out _;(with_reducible repeat (first|refine blk_drewN ?_ _|refine blk_drew ?_|refine blk_alloc ?_ _));refine blk_far ?_ NB148_159.out _;(with_reducible repeat (first|refine blk_drewN ?_ _|refine blk_drew ?_|refine blk_alloc ?_ _));refine blk_far ?_ NB148_159.out _;(with_reducible repeat (first|refine blk_drewN ?_ _|refine blk_drew ?_|refine blk_alloc ?_ _));refine blk_far ?_ NB148_159.out _;(with_reducible repeat (first|refine blk_drewN ?_ _|refine blk_drew ?_|refine blk_alloc ?_ _));refine blk_far ?_ NB148_159.out _;(with_reducible repeat (first|refine blk_drewN ?_ _|refine blk_drew ?_|refine blk_alloc ?_ _));refine blk_far ?_ NB148_159.out _;(with_reducible repeat (first|refine blk_drewN ?_ _|refine blk_drew ?_|refine blk_alloc ?_ _));refine blk_far ?_ NB148_159.out _;(with_reducible repeat (first|refine blk_drewN ?_ _|refine blk_drew ?_|refine blk_alloc ?_ _));refine blk_far ?_ NB148_159.out _;(with_reducible repeat (first|refine blk_drewN ?_ _|refine blk_drew ?_|refine blk_alloc ?_ _));refine blk_far ?_ NB148_159.out _;(with_reducible repeat (first|refine blk_drewN ?_ _|refine blk_drew ?_|refine blk_alloc ?_ _));exact BK148.out) NB148_149.out (by simp));have n1_:=Ax (KeepBut.blk hk (g':=gb159) (o:=.cells #[.int .u8 (bt a0 0),.int .i64 t150,.int .u64 t153,.int .i64 (wrap64 (t156)),.bool false,.int .u64 0,.int .u64 0,.int .i64 0,.int .u8 0,.int .i64 0,.int .i64 0,.int .i64 0] 35 (0,0)) (gB BK159.out) NB159_149.out (by simp));have n2_:=Ax (hb);have n3_:=Ax (hi);clear BK148;clear BK159;clear HB;clear HIB149;have BK148:=n0_;have BK159:=n1_;have HB:=n2_;have HIB149:=n3_;clear n0_ n1_ n2_ n3_;(try clear hb);(try clear hb2);(try clear hk);(try clear hi))|((with_reducible refine gate_callee (f:=37) rfl ?_);refine goesL_ (some 37) rfl rfl Try.func37 (by kernel_rfl) rfl #[.pointer (some ⟨gb149,0,none⟩),.func (.func 38) #[] #[]] rfl gS ?_;(with_reducible refine (api_Action.calls k gb149 t164 t165 t166 t167 t168 t169 w _ ?side1 ?side2 A37.out).mono ?_);(case side1=>repeat (first|(with_reducible first|exact HIB149.out|apply IsS85.alloc|apply IsS85.drewN|apply IsS85.drew|apply IsS85.set_0|apply IsS85.set_1|refine IsS85.far ?_ NB149_148.out _|refine IsS85.far ?_ NB149_159.out _)|exact HIB149.out));(case side2=>repeat (first|(with_reducible first|exact HB.out|apply below_alloc|apply pw_below_drewN|apply below_drew1|refine below_set ?_ (IsS85.ge HIB149.out)|refine below_set ?_ GE148.out|refine below_set ?_ GE159.out)|exact HB.out));rintro e w39 ⟨rfl,hi,hb,hk⟩;refine⟨_,rfl,?_⟩;replace BK148:=Ax (KeepBut.blk hk (g':=gb148) (o:=.cells #[.int .u8 0,.int .i64 0,.int .u64 0,.int .i64 0,.bool false,.int .u64 0,.int .u64 0,.int .i64 0,.int .u8 0,.int .i64 0,.int .i64 0,.int .i64 0] 35 (0,0)) (bf0 BK148.out) NB148_149.out (by simp));replace BK159:=Ax (KeepBut.blk hk (g':=gb159) (o:=.cells #[.int .u8 (bt a0 0),.int .i64 t150,.int .u64 t153,.int .i64 (wrap64 (t156)),.bool false,.int .u64 0,.int .u64 0,.int .i64 0,.int .u8 0,.int .i64 0,.int .i64 0,.int .i64 0] 35 (0,0)) (bf0 BK159.out) NB159_149.out (by simp));replace HB:=Ax (hb);replace HIB149:=Ax (hi);(try clear hb);(try clear hb2);(try clear hk);(try clear hi);have hnb40:=NB159_148.out;have hnc40:=NB148_159.out;have hnb41:=NB159_149.out;have hnc41:=NB149_159.out;obtain⟨hcz42_0,hcz42_1,hcz42_2,hcz42_3,hcz42_4,hcz42_5,hcz42_6,hcz42_7,hcz42_8,hcz42_9,hcz42_10,hcz42_11,hfz42_0,hfz42_1,hfz42_2,hfz42_3,hfz42_4,hfz42_5,hfz42_6,hfz42_7,hfz42_8,hfz42_9,hfz42_10,hfz42_11⟩:=cl12 BK159));go_meet
      case rel=>exact⟨_,(t168),(t169),(t160),(t161),(t162),(t163),(t166),(t167),(0),(0),H',⟨by first|omega|exact Nat.le_refl _⟩,⟨bf6 BK148.out NB148_159.out NB148_159.out NB148_159.out NB148_159.out NB148_159.out NB148_159.out⟩,⟨gB BK159.out⟩,⟨by repeat (first|(with_reducible first|exact HIB149.out|apply IsS85.alloc|apply IsS85.drewN|apply IsS85.drew|apply IsS85.set_0|apply IsS85.set_1|refine IsS85.far ?_ NB149_148.out _|refine IsS85.far ?_ NB149_159.out _)|exact HIB149.out)⟩,⟨bw3 HB.out (IsS85.ge HIB149.out) GE148.out GE159.out⟩⟩
     ·rw [if_neg c35]at H;have c35b0:((bt a0 0)==3)=false:=beq_eq_false_iff_ne.mpr c35;have c35b1:((bt a0 0) !=3)=true:=bne_iff_ne.mpr c35
      (first|rw [c35b0]|(simp only[i64_w,i32_w];rw [c35b0])|skip)
      by_cases c43:(bt a0 0)=4
      ·rw [if_pos c43]at H;have c43b0:((bt a0 0)==4)=true:=beq_iff_eq.mpr c43;have c43b1:((bt a0 0) !=4)=false:=bne_eq_false_iff_eq.mpr c43;clear c43;replace H:=Option.bind_eq_some_iff.mp H;obtain⟨⟨t170,t171,t172,t173,t174,t175⟩,A440,H⟩:=H;replace H:(msg_Get.j0 k t174 t175 (bt a0 0) t150 t153 (wrap64 (t156)) t170 t171 t172 t173 0 0 0 0)=some (r1,r2,r3,r4,r5,r6,r7,r8,r9,r10,r11,r12,r13):=H;have A44:=Ax A440;clear A440;have H':=Ax H;clear H;go_wp2_with (first|((with_reducible refine gate_callee (f:=35) rfl ?_);refine goesL_ (some 43) rfl rfl Try.func35 (by kernel_rfl) rfl #[.pointer (some ⟨gb149,0,none⟩),.func (.func 36) #[] #[]] rfl gS ?_;(with_reducible refine (api_Prefix.calls k gb149 t157 t158 t170 t171 t172 t173 t174 t175 w _ ?side1 ?side2 A44.out).mono ?_);(case side1=>repeat (first|(with_reducible first|exact HIB149.out|apply IsS85.alloc|apply IsS85.drewN|apply IsS85.drew|apply IsS85.set_0|apply IsS85.set_1|refine IsS85.far ?_ NB149_148.out _|refine IsS85.far ?_ NB149_159.out _)|exact HIB149.out));(case side2=>repeat (first|(with_reducible first|exact HB.out|apply below_alloc|apply pw_below_drewN|apply below_drew1|refine below_set ?_ (IsS85.ge HIB149.out)|refine below_set ?_ GE148.out|refine below_set ?_ GE159.out)|exact HB.out));rintro e w45 ⟨rfl,hi,hb,hk⟩;refine⟨_,rfl,?_⟩;have n0_:=Ax (KeepBut.blk hk (g':=gb148) (o:=.cells #[.int .u8 0,.int .i64 0,.int .u64 0,.int .i64 0,.bool false,.int .u64 0,.int .u64 0,.int .i64 0,.int .u8 0,.int .i64 0,.int .i64 0,.int .i64 0] 35 (0,0)) (by (with_reducible repeat (first|refine blk_drewN ?_ _|refine blk_drew ?_|refine blk_alloc ?_ _));refine blk_far ?_ NB148_159.out _;(with_reducible repeat (first|refine blk_drewN ?_ _|refine blk_drew ?_|refine blk_alloc ?_ _));refine blk_far ?_ NB148_159.out _;(with_reducible repeat (first|refine blk_drewN ?_ _|refine blk_drew ?_|refine blk_alloc ?_ _));refine blk_far ?_ NB148_159.out _;(with_reducible repeat (first|refine blk_drewN ?_ _|refine blk_drew ?_|refine blk_alloc ?_ _));refine blk_far ?_ NB148_159.out _;(with_reducible repeat (first|refine blk_drewN ?_ _|refine blk_drew ?_|refine blk_alloc ?_ _));refine blk_far ?_ NB148_159.out _;(with_reducible repeat (first|refine blk_drewN ?_ _|refine blk_drew ?_|refine blk_alloc ?_ _));refine blk_far ?_ NB148_159.out _;(with_reducible repeat (first|refine blk_drewN ?_ _|refine blk_drew ?_|refine blk_alloc ?_ _));refine blk_far ?_ NB148_159.out _;(with_reducible repeat (first|refine blk_drewN ?_ _|refine blk_drew ?_|refine blk_alloc ?_ _));refine blk_far ?_ NB148_159.out _;(with_reducible repeat (first|refine blk_drewN ?_ _|refine blk_drew ?_|refine blk_alloc ?_ _));refine blk_far ?_ NB148_159.out _;(with_reducible repeat (first|refine blk_drewN ?_ _|refine blk_drew ?_|refine blk_alloc ?_ _));refine blk_far ?_ NB148_159.out _;(with_reducible repeat (first|refine blk_drewN ?_ _|refine blk_drew ?_|refine blk_alloc ?_ _));refine blk_far ?_ NB148_159.out _;(with_reducible repeat (first|refine blk_drewN ?_ _|refine blk_drew ?_|refine blk_alloc ?_ _));refine blk_far ?_ NB148_159.out _;(with_reducible repeat (first|refine blk_drewN ?_ _|refine blk_drew ?_|refine blk_alloc ?_ _));exact BK148.out) NB148_149.out (by simp));have n1_:=Ax (KeepBut.blk hk (g':=gb159) (o:=.cells #[.int .u8 (bt a0 0),.int .i64 t150,.int .u64 t153,.int .i64 (wrap64 (t156)),.bool false,.int .u64 0,.int .u64 0,.int .i64 0,.int .u8 0,.int .i64 0,.int .i64 0,.int .i64 0] 35 (0,0)) (gB BK159.out) NB159_149.out (by simp));have n2_:=Ax (hb);have n3_:=Ax (hi);clear BK148;clear BK159;clear HB;clear HIB149;have BK148:=n0_;have BK159:=n1_;have HB:=n2_;have HIB149:=n3_;clear n0_ n1_ n2_ n3_;(try clear hb);(try clear hb2);(try clear hk);(try clear hi);have hnb46:=NB159_148.out;have hnc46:=NB148_159.out;have hnb47:=NB159_149.out;have hnc47:=NB149_159.out;obtain⟨hcz48_0,hcz48_1,hcz48_2,hcz48_3,hcz48_4,hcz48_5,hcz48_6,hcz48_7,hcz48_8,hcz48_9,hcz48_10,hcz48_11,hfz48_0,hfz48_1,hfz48_2,hfz48_3,hfz48_4,hfz48_5,hfz48_6,hfz48_7,hfz48_8,hfz48_9,hfz48_10,hfz48_11⟩:=cl12 BK159));go_meet
       case rel=>exact⟨_,(t174),(t175),(t170),(t171),(t172),(t173),(0),(0),(0),(0),H',⟨by first|omega|exact Nat.le_refl _⟩,⟨bf4 BK148.out NB148_159.out NB148_159.out NB148_159.out NB148_159.out⟩,⟨gB BK159.out⟩,⟨by repeat (first|(with_reducible first|exact HIB149.out|apply IsS85.alloc|apply IsS85.drewN|apply IsS85.drew|apply IsS85.set_0|apply IsS85.set_1|refine IsS85.far ?_ NB149_148.out _|refine IsS85.far ?_ NB149_159.out _)|exact HIB149.out)⟩,⟨bw3 HB.out (IsS85.ge HIB149.out) GE148.out GE159.out⟩⟩
      ·rw [if_neg c43]at H;have c43b0:((bt a0 0)==4)=false:=beq_eq_false_iff_ne.mpr c43;have c43b1:((bt a0 0) !=4)=true:=bne_iff_ne.mpr c43;by_cases c49:(bt a0 0)=5
       ·rw [if_pos c49]at H;have c49b0:((bt a0 0)==5)=true:=beq_iff_eq.mpr c49;have c49b1:((bt a0 0) !=5)=false:=bne_eq_false_iff_eq.mpr c49;clear c49;replace H:=Option.bind_eq_some_iff.mp H;obtain⟨⟨t176,t177,t178⟩,A500,H⟩:=H;replace H:((num_Reader_Many.f k t177 t178 1048576).bind fun bt179=>(msg_Get.j0 k bt179.2.1 bt179.2.2 (bt a0 0) t150 t153 (wrap64 (t156)) false 0 0 0 0 0 t176 bt179.1))=some (r1,r2,r3,r4,r5,r6,r7,r8,r9,r10,r11,r12,r13):=H;have A50:=Ax A500;clear A500;replace H:=Option.bind_eq_some_iff.mp H;obtain⟨⟨t179,t180,t181⟩,A510,H⟩:=H;replace H:(msg_Get.j0 k t180 t181 (bt a0 0) t150 t153 (wrap64 (t156)) false 0 0 0 0 0 t176 t179)=some (r1,r2,r3,r4,r5,r6,r7,r8,r9,r10,r11,r12,r13):=H;have A51:=Ax A510;clear A510;have H':=Ax H;clear H;try go_wp2
        have n0_:Aside0 (((((((((((((w19.setCell ⟨gb159,0,none⟩ (.int .u8 (bt a0 0))).setCell ⟨gb159,1,none⟩ (.int .i64 t150)).setCell ⟨gb159,2,none⟩ (.int .u64 t153)).setCell ⟨gb159,3,none⟩ (.int .i64 (wrap64 (t156)))).setCell ⟨gb159,4,none⟩ (.bool false)).setCell ⟨gb159,5,none⟩ (.int .u64 0)).setCell ⟨gb159,6,none⟩ (.int .u64 0)).setCell ⟨gb159,7,none⟩ (.int .i64 0)).setCell ⟨gb159,8,none⟩ (.int .u8 0)).setCell ⟨gb159,9,none⟩ (.int .i64 0)).setCell ⟨gb159,10,none⟩ (.int .i64 0)).setCell ⟨gb159,11,none⟩ (.int .i64 0)).heap[gb148]? =some (.cells #[.int .u8 0,.int .i64 0,.int .u64 0,.int .i64 0,.bool false,.int .u64 0,.int .u64 0,.int .i64 0,.int .u8 0,.int .i64 0,.int .i64 0,.int .i64 0] 35 (0,0))):=⟨by (with_reducible repeat (first|refine blk_drewN ?_ _|refine blk_drew ?_|refine blk_alloc ?_ _));refine blk_far ?_ NB148_159.out _;(with_reducible repeat (first|refine blk_drewN ?_ _|refine blk_drew ?_|refine blk_alloc ?_ _));refine blk_far ?_ NB148_159.out _;(with_reducible repeat (first|refine blk_drewN ?_ _|refine blk_drew ?_|refine blk_alloc ?_ _));refine blk_far ?_ NB148_159.out _;(with_reducible repeat (first|refine blk_drewN ?_ _|refine blk_drew ?_|refine blk_alloc ?_ _));refine blk_far ?_ NB148_159.out _;(with_reducible repeat (first|refine blk_drewN ?_ _|refine blk_drew ?_|refine blk_alloc ?_ _));refine blk_far ?_ NB148_159.out _;(with_reducible repeat (first|refine blk_drewN ?_ _|refine blk_drew ?_|refine blk_alloc ?_ _));refine blk_far ?_ NB148_159.out _;(with_reducible repeat (first|refine blk_drewN ?_ _|refine blk_drew ?_|refine blk_alloc ?_ _));refine blk_far ?_ NB148_159.out _;(with_reducible repeat (first|refine blk_drewN ?_ _|refine blk_drew ?_|refine blk_alloc ?_ _));refine blk_far ?_ NB148_159.out _;(with_reducible repeat (first|refine blk_drewN ?_ _|refine blk_drew ?_|refine blk_alloc ?_ _));refine blk_far ?_ NB148_159.out _;(with_reducible repeat (first|refine blk_drewN ?_ _|refine blk_drew ?_|refine blk_alloc ?_ _));refine blk_far ?_ NB148_159.out _;(with_reducible repeat (first|refine blk_drewN ?_ _|refine blk_drew ?_|refine blk_alloc ?_ _));refine blk_far ?_ NB148_159.out _;(with_reducible repeat (first|refine blk_drewN ?_ _|refine blk_drew ?_|refine blk_alloc ?_ _));refine blk_far ?_ NB148_159.out _;(with_reducible repeat (first|refine blk_drewN ?_ _|refine blk_drew ?_|refine blk_alloc ?_ _));exact BK148.out⟩;have n1_:Aside0 (((((((((((((w19.setCell ⟨gb159,0,none⟩ (.int .u8 (bt a0 0))).setCell ⟨gb159,1,none⟩ (.int .i64 t150)).setCell ⟨gb159,2,none⟩ (.int .u64 t153)).setCell ⟨gb159,3,none⟩ (.int .i64 (wrap64 (t156)))).setCell ⟨gb159,4,none⟩ (.bool false)).setCell ⟨gb159,5,none⟩ (.int .u64 0)).setCell ⟨gb159,6,none⟩ (.int .u64 0)).setCell ⟨gb159,7,none⟩ (.int .i64 0)).setCell ⟨gb159,8,none⟩ (.int .u8 0)).setCell ⟨gb159,9,none⟩ (.int .i64 0)).setCell ⟨gb159,10,none⟩ (.int .i64 0)).setCell ⟨gb159,11,none⟩ (.int .i64 0)).heap[gb159]? =some (.cells #[.int .u8 (bt a0 0),.int .i64 t150,.int .u64 t153,.int .i64 (wrap64 (t156)),.bool false,.int .u64 0,.int .u64 0,.int .i64 0,.int .u8 0,.int .i64 0,.int .i64 0,.int .i64 0] 35 (0,0))):=⟨gB BK159.out⟩;have n2_:Aside0 (IsS85 w ((((((((((((w19.setCell ⟨gb159,0,none⟩ (.int .u8 (bt a0 0))).setCell ⟨gb159,1,none⟩ (.int .i64 t150)).setCell ⟨gb159,2,none⟩ (.int .u64 t153)).setCell ⟨gb159,3,none⟩ (.int .i64 (wrap64 (t156)))).setCell ⟨gb159,4,none⟩ (.bool false)).setCell ⟨gb159,5,none⟩ (.int .u64 0)).setCell ⟨gb159,6,none⟩ (.int .u64 0)).setCell ⟨gb159,7,none⟩ (.int .i64 0)).setCell ⟨gb159,8,none⟩ (.int .u8 0)).setCell ⟨gb159,9,none⟩ (.int .i64 0)).setCell ⟨gb159,10,none⟩ (.int .i64 0)).setCell ⟨gb159,11,none⟩ (.int .i64 0)) gb149 t157 t158):=⟨by repeat (first|(with_reducible first|exact HIB149.out|apply IsS85.alloc|apply IsS85.drewN|apply IsS85.drew|apply IsS85.set_0|apply IsS85.set_1|refine IsS85.far ?_ NB149_148.out _|refine IsS85.far ?_ NB149_159.out _)|exact HIB149.out)⟩;have n3_:Aside0 (Below w.heap.size w ((((((((((((w19.setCell ⟨gb159,0,none⟩ (.int .u8 (bt a0 0))).setCell ⟨gb159,1,none⟩ (.int .i64 t150)).setCell ⟨gb159,2,none⟩ (.int .u64 t153)).setCell ⟨gb159,3,none⟩ (.int .i64 (wrap64 (t156)))).setCell ⟨gb159,4,none⟩ (.bool false)).setCell ⟨gb159,5,none⟩ (.int .u64 0)).setCell ⟨gb159,6,none⟩ (.int .u64 0)).setCell ⟨gb159,7,none⟩ (.int .i64 0)).setCell ⟨gb159,8,none⟩ (.int .u8 0)).setCell ⟨gb159,9,none⟩ (.int .i64 0)).setCell ⟨gb159,10,none⟩ (.int .i64 0)).setCell ⟨gb159,11,none⟩ (.int .i64 0))):=⟨bw3 HB.out (IsS85.ge HIB149.out) GE148.out GE159.out⟩
        (try clear BK148)
        (try clear BK159)
        (try clear HIB149)
        (try clear HB)
        generalize ((((((((((((w19.setCell ⟨gb159,0,none⟩ (.int .u8 (bt a0 0))).setCell ⟨gb159,1,none⟩ (.int .i64 t150)).setCell ⟨gb159,2,none⟩ (.int .u64 t153)).setCell ⟨gb159,3,none⟩ (.int .i64 (wrap64 (t156)))).setCell ⟨gb159,4,none⟩ (.bool false)).setCell ⟨gb159,5,none⟩ (.int .u64 0)).setCell ⟨gb159,6,none⟩ (.int .u64 0)).setCell ⟨gb159,7,none⟩ (.int .i64 0)).setCell ⟨gb159,8,none⟩ (.int .u8 0)).setCell ⟨gb159,9,none⟩ (.int .i64 0)).setCell ⟨gb159,10,none⟩ (.int .i64 0)).setCell ⟨gb159,11,none⟩ (.int .i64 0))=w52 at n0_ n1_ n2_ n3_ ⊢;have BK148:=n0_;have BK159:=n1_;have HIB149:=n2_;have HB:=n3_;clear n0_ n1_ n2_ n3_;replace BK148:=Ax (blk_drew BK148.out);replace BK159:=Ax (blk_drew BK159.out);replace HIB149:=Ax (IsS85.drew HIB149.out);replace HB:=Ax (below_drew1 HB.out);refine start_ (n:=12) (S:=fun w'=>True) (ds:= []) #[fa,fa,fa,fa,fa,fa,fa,fa,fa,fa,fa,fa] (by kernel_rfl) rfl rfl trivial (fun hHeld=>?_);refine with_tabW msg_Get.tab11 msg_Get.bits11 (fun HT_ HW_=>?_);generalize w52.drew=w53 at BK148 BK159 HIB149 HB hHeld ⊢;refine pz 0 47 #[tr,fa,fa,fa,fa,fa,fa,fa,fa,fa,fa,fa] HT_.out ?_
        refine pz 1 48 #[tr,tr,fa,fa,fa,fa,fa,fa,fa,fa,fa,fa] HT_.out ?_
        refine pz 2 49 #[tr,tr,tr,fa,fa,fa,fa,fa,fa,fa,fa,fa] HT_.out ?_
        refine pz 4 51 #[tr,tr,tr,fa,tr,fa,fa,fa,fa,fa,fa,fa] HT_.out ?_
        refine pz 5 52 #[tr,tr,tr,fa,tr,tr,fa,fa,fa,fa,fa,fa] HT_.out ?_
        refine pz 6 53 #[tr,tr,tr,fa,tr,tr,tr,fa,fa,fa,fa,fa] HT_.out ?_
        refine one_ (i:=3) (N:=some 50) #[tr,tr,tr,tr,tr,tr,tr,fa,fa,fa,fa,fa] rfl rfl (one_of HT_.out (by kernel_rfl)) (by decide) (fun K hK=>?_);refine goes_ Try.func33 (by kernel_rfl) rfl #[.pointer (some ⟨gb149,0,none⟩),.int .i64 65536] (by rfl) rfl rfl gS ?_;with_reducible refine (num_Reader_Many.calls85 k gb149 t157 t158 65536 t176 t177 t178 w _ ?side1 ?side2 A50.out).mono ?_
        (case side1=>repeat (first|(with_reducible first|exact HIB149.out|apply IsS85.alloc|apply IsS85.drewN|apply IsS85.drew|apply IsS85.set_0|apply IsS85.set_1|refine IsS85.far ?_ NB149_148.out _|refine IsS85.far ?_ NB149_159.out _)|exact HIB149.out))
        (case side2=>repeat (first|(with_reducible first|exact HB.out|apply below_alloc|apply pw_below_drewN|apply below_drew1|refine below_set ?_ (IsS85.ge HIB149.out)|refine below_set ?_ GE148.out|refine below_set ?_ GE159.out)|exact HB.out))
        rintro e w54 ⟨rfl,hi,hb,hk⟩
        refine⟨_,rfl,?_⟩;replace BK148:=Ax (KeepBut.blk hk (g':=gb148) (o:=.cells #[.int .u8 0,.int .i64 0,.int .u64 0,.int .i64 0,.bool false,.int .u64 0,.int .u64 0,.int .i64 0,.int .u8 0,.int .i64 0,.int .i64 0,.int .i64 0] 35 (0,0)) (bf0 BK148.out) NB148_149.out (by simp));replace BK159:=Ax (KeepBut.blk hk (g':=gb159) (o:=.cells #[.int .u8 (bt a0 0),.int .i64 t150,.int .u64 t153,.int .i64 (wrap64 (t156)),.bool false,.int .u64 0,.int .u64 0,.int .i64 0,.int .u8 0,.int .i64 0,.int .i64 0,.int .i64 0] 35 (0,0)) (bf0 BK159.out) NB159_149.out (by simp));replace HB:=Ax (hb);replace HIB149:=Ax (hi)
        (try clear hb)
        (try clear hb2)
        (try clear hk)
        (try clear hi)
        refine hK.out _ _ trivial (fun hHeld=>?_);clear hK K;refine norm_ (a':=?_) ?_ ?_;rotate_left
        ·show Act.put _ (some 50) _=_
         simp only[sP];rfl
        refine pz 8 55 #[tr,tr,tr,tr,tr,tr,tr,fa,tr,fa,fa,fa] HT_.out ?_
        refine one_ (i:=7) (N:=some 54) #[tr,tr,tr,tr,tr,tr,tr,tr,tr,fa,fa,fa] rfl rfl (one_of HT_.out (by kernel_rfl)) (by decide) (fun K hK=>?_);refine goes_ Try.func33 (by kernel_rfl) rfl #[.pointer (some ⟨gb149,0,none⟩),.int .i64 1048576] (by rfl) rfl rfl gS ?_;with_reducible refine (num_Reader_Many.calls85 k gb149 t177 t178 1048576 t179 t180 t181 w _ ?side1 ?side2 A51.out).mono ?_
        (case side1=>repeat (first|(with_reducible first|exact HIB149.out|apply IsS85.alloc|apply IsS85.drewN|apply IsS85.drew|apply IsS85.set_0|apply IsS85.set_1|refine IsS85.far ?_ NB149_148.out _|refine IsS85.far ?_ NB149_159.out _)|exact HIB149.out))
        (case side2=>repeat (first|(with_reducible first|exact HB.out|apply below_alloc|apply pw_below_drewN|apply below_drew1|refine below_set ?_ (IsS85.ge HIB149.out)|refine below_set ?_ GE148.out|refine below_set ?_ GE159.out)|exact HB.out))
        rintro e w55 ⟨rfl,hi,hb,hk⟩
        refine⟨_,rfl,?_⟩;replace BK148:=Ax (KeepBut.blk hk (g':=gb148) (o:=.cells #[.int .u8 0,.int .i64 0,.int .u64 0,.int .i64 0,.bool false,.int .u64 0,.int .u64 0,.int .i64 0,.int .u8 0,.int .i64 0,.int .i64 0,.int .i64 0] 35 (0,0)) (bf0 BK148.out) NB148_149.out (by simp));replace BK159:=Ax (KeepBut.blk hk (g':=gb159) (o:=.cells #[.int .u8 (bt a0 0),.int .i64 t150,.int .u64 t153,.int .i64 (wrap64 (t156)),.bool false,.int .u64 0,.int .u64 0,.int .i64 0,.int .u8 0,.int .i64 0,.int .i64 0,.int .i64 0] 35 (0,0)) (bf0 BK159.out) NB159_149.out (by simp));replace HB:=Ax (hb);replace HIB149:=Ax (hi)
        (try clear hb)
        (try clear hb2)
        (try clear hk)
        (try clear hi)
        refine hK.out _ _ trivial (fun hHeld=>?_);clear hK K;refine norm_ (a':=?_) ?_ ?_;rotate_left
        ·show Act.put _ (some 54) _=_
         simp only[sP];rfl
        refine one_ (i:=9) (N:=none) #[tr,tr,tr,tr,tr,tr,tr,tr,tr,tr,fa,fa] rfl rfl (one_of HT_.out (by kernel_rfl)) (by decide) (fun K hK=>?_);have hs56:w55.cell? ⟨gb159,10,none⟩=some (.int .i64 0):=(blk_cell BK159.out 10).trans rfl;have hfs56:=blk_frozen BK159.out 10;have hns56_0:=NB148_159.out;have hms56_0:=NB159_148.out;refine skip_ (w1:=?_) (by rfl) rfl ?_ ?_;rotate_left;·go_simp;rfl
        refine hK.out _ _ trivial (fun hHeld=>?_);clear hK K;refine pz 10 56 #[tr,tr,tr,tr,tr,tr,tr,tr,tr,tr,tr,fa] HT_.out ?_
        refine one_ (i:=11) (N:=none) #[tr,tr,tr,tr,tr,tr,tr,tr,tr,tr,tr,tr] rfl rfl (one_of HT_.out (by kernel_rfl)) (by decide) (fun K hK=>?_);have hs57:w55.cell? ⟨gb159,11,none⟩=some (.int .i64 0):=(blk_cell BK159.out 11).trans rfl;have hfs57:=blk_frozen BK159.out 11;have hns57_0:=NB148_159.out;have hms57_0:=NB159_148.out;refine skip_ (w1:=?_) (by rfl) rfl ?_ ?_;rotate_left;·go_simp;rfl
        refine hK.out _ _ trivial (fun hHeld=>?_);clear hK K;refine done_ (done_of HT_.out (by kernel_rfl)) ?_;try go_wp2
        go_meet
        case rel=>exact⟨_,(t180),(t181),(false),(0),(0),(0),(0),(0),(t176),(t179),H',⟨by first|omega|exact Nat.le_refl _⟩,⟨bf2 BK148.out NB148_159.out NB148_159.out⟩,⟨gB BK159.out⟩,⟨by repeat (first|(with_reducible first|exact HIB149.out|apply IsS85.alloc|apply IsS85.drewN|apply IsS85.drew|apply IsS85.set_0|apply IsS85.set_1|refine IsS85.far ?_ NB149_148.out _|refine IsS85.far ?_ NB149_159.out _)|exact HIB149.out)⟩,⟨bw3 HB.out (IsS85.ge HIB149.out) GE148.out GE159.out⟩⟩
       ·rw [if_neg c49]at H;have c49b0:((bt a0 0)==5)=false:=beq_eq_false_iff_ne.mpr c49;have c49b1:((bt a0 0) !=5)=true:=bne_iff_ne.mpr c49;by_cases c58:(bt a0 0)=6
        ·rw [if_pos c58]at H;have c58b0:((bt a0 0)==6)=true:=beq_iff_eq.mpr c58;have c58b1:((bt a0 0) !=6)=false:=bne_eq_false_iff_eq.mpr c58;clear c58;replace H:=Option.bind_eq_some_iff.mp H;obtain⟨⟨t182,t183,t184⟩,A590,H⟩:=H;replace H:(msg_Get.j0 k t183 t184 (bt a0 0) t150 t153 (wrap64 (t156)) false 0 0 0 0 0 t182 0)=some (r1,r2,r3,r4,r5,r6,r7,r8,r9,r10,r11,r12,r13):=H;have A59:=Ax A590;clear A590;have H':=Ax H;clear H;go_wp2_with (first|((with_reducible refine gate_callee (f:=33) rfl ?_);refine goesL_ (some 62) rfl rfl Try.func33 (by kernel_rfl) rfl #[.pointer (some ⟨gb149,0,none⟩),.int .i64 65536] rfl gS ?_;(with_reducible refine (num_Reader_Many.calls85 k gb149 t157 t158 65536 t182 t183 t184 w _ ?side1 ?side2 A59.out).mono ?_);(case side1=>repeat (first|(with_reducible first|exact HIB149.out|apply IsS85.alloc|apply IsS85.drewN|apply IsS85.drew|apply IsS85.set_0|apply IsS85.set_1|refine IsS85.far ?_ NB149_148.out _|refine IsS85.far ?_ NB149_159.out _)|exact HIB149.out));(case side2=>repeat (first|(with_reducible first|exact HB.out|apply below_alloc|apply pw_below_drewN|apply below_drew1|refine below_set ?_ (IsS85.ge HIB149.out)|refine below_set ?_ GE148.out|refine below_set ?_ GE159.out)|exact HB.out));rintro e w60 ⟨rfl,hi,hb,hk⟩;refine⟨_,rfl,?_⟩;have n0_:=Ax (KeepBut.blk hk (g':=gb148) (o:=.cells #[.int .u8 0,.int .i64 0,.int .u64 0,.int .i64 0,.bool false,.int .u64 0,.int .u64 0,.int .i64 0,.int .u8 0,.int .i64 0,.int .i64 0,.int .i64 0] 35 (0,0)) (by (with_reducible repeat (first|refine blk_drewN ?_ _|refine blk_drew ?_|refine blk_alloc ?_ _));refine blk_far ?_ NB148_159.out _;(with_reducible repeat (first|refine blk_drewN ?_ _|refine blk_drew ?_|refine blk_alloc ?_ _));refine blk_far ?_ NB148_159.out _;(with_reducible repeat (first|refine blk_drewN ?_ _|refine blk_drew ?_|refine blk_alloc ?_ _));refine blk_far ?_ NB148_159.out _;(with_reducible repeat (first|refine blk_drewN ?_ _|refine blk_drew ?_|refine blk_alloc ?_ _));refine blk_far ?_ NB148_159.out _;(with_reducible repeat (first|refine blk_drewN ?_ _|refine blk_drew ?_|refine blk_alloc ?_ _));refine blk_far ?_ NB148_159.out _;(with_reducible repeat (first|refine blk_drewN ?_ _|refine blk_drew ?_|refine blk_alloc ?_ _));refine blk_far ?_ NB148_159.out _;(with_reducible repeat (first|refine blk_drewN ?_ _|refine blk_drew ?_|refine blk_alloc ?_ _));refine blk_far ?_ NB148_159.out _;(with_reducible repeat (first|refine blk_drewN ?_ _|refine blk_drew ?_|refine blk_alloc ?_ _));refine blk_far ?_ NB148_159.out _;(with_reducible repeat (first|refine blk_drewN ?_ _|refine blk_drew ?_|refine blk_alloc ?_ _));refine blk_far ?_ NB148_159.out _;(with_reducible repeat (first|refine blk_drewN ?_ _|refine blk_drew ?_|refine blk_alloc ?_ _));refine blk_far ?_ NB148_159.out _;(with_reducible repeat (first|refine blk_drewN ?_ _|refine blk_drew ?_|refine blk_alloc ?_ _));refine blk_far ?_ NB148_159.out _;(with_reducible repeat (first|refine blk_drewN ?_ _|refine blk_drew ?_|refine blk_alloc ?_ _));refine blk_far ?_ NB148_159.out _;(with_reducible repeat (first|refine blk_drewN ?_ _|refine blk_drew ?_|refine blk_alloc ?_ _));exact BK148.out) NB148_149.out (by simp));have n1_:=Ax (KeepBut.blk hk (g':=gb159) (o:=.cells #[.int .u8 (bt a0 0),.int .i64 t150,.int .u64 t153,.int .i64 (wrap64 (t156)),.bool false,.int .u64 0,.int .u64 0,.int .i64 0,.int .u8 0,.int .i64 0,.int .i64 0,.int .i64 0] 35 (0,0)) (gB BK159.out) NB159_149.out (by simp));have n2_:=Ax (hb);have n3_:=Ax (hi);clear BK148;clear BK159;clear HB;clear HIB149;have BK148:=n0_;have BK159:=n1_;have HB:=n2_;have HIB149:=n3_;clear n0_ n1_ n2_ n3_;(try clear hb);(try clear hb2);(try clear hk);(try clear hi);have hnb61:=NB159_148.out;have hnc61:=NB148_159.out;have hnb62:=NB159_149.out;have hnc62:=NB149_159.out;obtain⟨hcz63_0,hcz63_1,hcz63_2,hcz63_3,hcz63_4,hcz63_5,hcz63_6,hcz63_7,hcz63_8,hcz63_9,hcz63_10,hcz63_11,hfz63_0,hfz63_1,hfz63_2,hfz63_3,hfz63_4,hfz63_5,hfz63_6,hfz63_7,hfz63_8,hfz63_9,hfz63_10,hfz63_11⟩:=cl12 BK159));go_meet
         case rel=>exact⟨_,(t183),(t184),(false),(0),(0),(0),(0),(0),(t182),(0),H',⟨by first|omega|exact Nat.le_refl _⟩,⟨bf1 BK148.out NB148_159.out⟩,⟨gB BK159.out⟩,⟨by repeat (first|(with_reducible first|exact HIB149.out|apply IsS85.alloc|apply IsS85.drewN|apply IsS85.drew|apply IsS85.set_0|apply IsS85.set_1|refine IsS85.far ?_ NB149_148.out _|refine IsS85.far ?_ NB149_159.out _)|exact HIB149.out)⟩,⟨bw3 HB.out (IsS85.ge HIB149.out) GE148.out GE159.out⟩⟩
        ·rw [if_neg c58]at H;have c58b0:((bt a0 0)==6)=false:=beq_eq_false_iff_ne.mpr c58;have c58b1:((bt a0 0) !=6)=true:=bne_iff_ne.mpr c58;have H':=Ax H;clear H;go_wp2;go_meet
         case rel=>exact⟨_,(t157),(t158),(false),(0),(0),(0),(0),(0),(0),(0),H',⟨by first|omega|exact Nat.le_refl _⟩,⟨by (with_reducible repeat (first|refine blk_drewN ?_ _|refine blk_drew ?_|refine blk_alloc ?_ _));refine blk_far ?_ NB148_159.out _;(with_reducible repeat (first|refine blk_drewN ?_ _|refine blk_drew ?_|refine blk_alloc ?_ _));refine blk_far ?_ NB148_159.out _;(with_reducible repeat (first|refine blk_drewN ?_ _|refine blk_drew ?_|refine blk_alloc ?_ _));refine blk_far ?_ NB148_159.out _;(with_reducible repeat (first|refine blk_drewN ?_ _|refine blk_drew ?_|refine blk_alloc ?_ _));refine blk_far ?_ NB148_159.out _;(with_reducible repeat (first|refine blk_drewN ?_ _|refine blk_drew ?_|refine blk_alloc ?_ _));refine blk_far ?_ NB148_159.out _;(with_reducible repeat (first|refine blk_drewN ?_ _|refine blk_drew ?_|refine blk_alloc ?_ _));refine blk_far ?_ NB148_159.out _;(with_reducible repeat (first|refine blk_drewN ?_ _|refine blk_drew ?_|refine blk_alloc ?_ _));refine blk_far ?_ NB148_159.out _;(with_reducible repeat (first|refine blk_drewN ?_ _|refine blk_drew ?_|refine blk_alloc ?_ _));refine blk_far ?_ NB148_159.out _;(with_reducible repeat (first|refine blk_drewN ?_ _|refine blk_drew ?_|refine blk_alloc ?_ _));refine blk_far ?_ NB148_159.out _;(with_reducible repeat (first|refine blk_drewN ?_ _|refine blk_drew ?_|refine blk_alloc ?_ _));refine blk_far ?_ NB148_159.out _;(with_reducible repeat (first|refine blk_drewN ?_ _|refine blk_drew ?_|refine blk_alloc ?_ _));refine blk_far ?_ NB148_159.out _;(with_reducible repeat (first|refine blk_drewN ?_ _|refine blk_drew ?_|refine blk_alloc ?_ _));refine blk_far ?_ NB148_159.out _;(with_reducible repeat (first|refine blk_drewN ?_ _|refine blk_drew ?_|refine blk_alloc ?_ _));exact BK148.out⟩,⟨gB BK159.out⟩,⟨by repeat (first|(with_reducible first|exact HIB149.out|apply IsS85.alloc|apply IsS85.drewN|apply IsS85.drew|apply IsS85.set_0|apply IsS85.set_1|refine IsS85.far ?_ NB149_148.out _|refine IsS85.far ?_ NB149_159.out _)|exact HIB149.out)⟩,⟨bw3 HB.out (IsS85.ge HIB149.out) GE148.out GE159.out⟩⟩
    case rest=>
     clear HC11;(try clear p2);(try clear c3);(try clear c4);(try clear c5);(try clear c6);(try clear p6);(try clear c32);(try clear c33);(try clear c34);(try clear c35);(try clear c35b0);(try clear c35b1);(try clear c37);(try clear c40);(try clear c41);(try clear c43);(try clear c43b0);(try clear c43b1);(try clear c46);(try clear c47);(try clear c49);(try clear c49b0);(try clear c49b1);(try clear c58);(try clear c58b0);(try clear c58b1);(try clear c61);(try clear c62);(try clear hcz34_0);(try clear hcz34_1);(try clear hcz34_10);(try clear hcz34_11);(try clear hcz34_2);(try clear hcz34_3);(try clear hcz34_4);(try clear hcz34_5);(try clear hcz34_6);(try clear hcz34_7);(try clear hcz34_8);(try clear hcz34_9);(try clear hcz42_0);(try clear hcz42_1);(try clear hcz42_10);(try clear hcz42_11);(try clear hcz42_2);(try clear hcz42_3);(try clear hcz42_4);(try clear hcz42_5);(try clear hcz42_6);(try clear hcz42_7);(try clear hcz42_8);(try clear hcz42_9);(try clear hcz48_0);(try clear hcz48_1);(try clear hcz48_10);(try clear hcz48_11);(try clear hcz48_2);(try clear hcz48_3);(try clear hcz48_4);(try clear hcz48_5);(try clear hcz48_6);(try clear hcz48_7);(try clear hcz48_8);(try clear hcz48_9);(try clear hcz63_0);(try clear hcz63_1);(try clear hcz63_10);(try clear hcz63_11);(try clear hcz63_2);(try clear hcz63_3);(try clear hcz63_4);(try clear hcz63_5);(try clear hcz63_6);(try clear hcz63_7);(try clear hcz63_8);(try clear hcz63_9);(try clear hfz34_0);(try clear hfz34_1);(try clear hfz34_10);(try clear hfz34_11);(try clear hfz34_2);(try clear hfz34_3);(try clear hfz34_4);(try clear hfz34_5);(try clear hfz34_6);(try clear hfz34_7);(try clear hfz34_8);(try clear hfz34_9);(try clear hfz42_0);(try clear hfz42_1);(try clear hfz42_10);(try clear hfz42_11);(try clear hfz42_2);(try clear hfz42_3);(try clear hfz42_4);(try clear hfz42_5);(try clear hfz42_6);(try clear hfz42_7);(try clear hfz42_8);(try clear hfz42_9);(try clear hfz48_0);(try clear hfz48_1);(try clear hfz48_10);(try clear hfz48_11);(try clear hfz48_2);(try clear hfz48_3);(try clear hfz48_4);(try clear hfz48_5);(try clear hfz48_6);(try clear hfz48_7);(try clear hfz48_8);(try clear hfz48_9);(try clear hfz63_0);(try clear hfz63_1);(try clear hfz63_10);(try clear hfz63_11);(try clear hfz63_2);(try clear hfz63_3);(try clear hfz63_4);(try clear hfz63_5);(try clear hfz63_6);(try clear hfz63_7);(try clear hfz63_8);(try clear hfz63_9);obtain⟨kq,x150000_10,x150001_10,x160004_10,x160005_10,x160006_10,x160007_10,x160008_10,x160009_10,x160010_10,x160011_10,HA,HJ10,BK148,BK159,HIB149,HB⟩:=hcut;cases kq with
     |zero=>exact absurd HA.out (by simp [msg_Get.j0])
     |succ kj10=>
      have H:=HA.out;clear HA;simp only[msg_Get.j0]at H;have HC64:=Ax H;clear H;go_upto_region 14 with (fail)
      go_cut [82] (fun v82 wc=> ∃ (kq:Nat) (x82_63:Bool),v82= .bool x82_63∧Aside0 (msg_Get.j1 kq x82_63 (bt a0 0) t150 t153 (wrap64 (t156)) x160004_10 x160005_10 x160006_10 x160007_10 x160008_10 x160009_10 x160010_10 x160011_10=some (r1,r2,r3,r4,r5,r6,r7,r8,r9,r10,r11,r12,r13))∧Aside0 (kq≤kj10)∧Aside0 (wc.heap[gb148]? =some (.cells #[.int .u8 0,.int .i64 0,.int .u64 0,.int .i64 0,.bool false,.int .u64 0,.int .u64 0,.int .i64 0,.int .u8 0,.int .i64 0,.int .i64 0,.int .i64 0] 35 (0,0)))∧Aside0 (wc.heap[gb159]? =some (.cells #[.int .u8 (bt a0 0),.int .i64 t150,.int .u64 t153,.int .i64 (wrap64 (t156)),.bool x160004_10,.int .u64 x160005_10,.int .u64 x160006_10,.int .i64 x160007_10,.int .u8 x160008_10,.int .i64 x160009_10,.int .i64 x160010_10,.int .i64 x160011_10] 35 (0,0)))∧Aside0 (Below w.heap.size w wc))
      case first=>
       have H:=HC64.out;clear HC64;by_cases c65:x150001_10=0
       ·rw [if_pos c65]at H;have c65b0:(x150001_10==0)=true:=beq_iff_eq.mpr c65;have c65b1:(x150001_10 !=0)=false:=bne_eq_false_iff_eq.mpr c65;clear c65
        (first|rw [c65b0]|(simp only[i64_w,i32_w];rw [c65b0])|skip)
        by_cases c66:x150000_10.toList=([]:List UInt8)
        ·rw [if_pos c66]at H;have c66b0:(x150000_10.toList==([]:List UInt8))=true:=beq_iff_eq.mpr c66;have c66b1:(x150000_10.toList !=([]:List UInt8))=false:=bne_eq_false_iff_eq.mpr c66;clear c66;replace H:=Option.bind_eq_some_iff.mp H;obtain⟨t185,A670,H⟩:=H;replace H:(msg_Get.j1 kj10 (t185 !=0) (bt a0 0) t150 t153 (wrap64 (t156)) x160004_10 x160005_10 x160006_10 x160007_10 x160008_10 x160009_10 x160010_10 x160011_10)=some (r1,r2,r3,r4,r5,r6,r7,r8,r9,r10,r11,r12,r13):=H;have A67:=Ax A670;clear A670;have H':=Ax H;clear H;obtain⟨HGz68,hgz68⟩:=HIB149.out;have hcz68_0:=cellS85_0 HGz68;have hcz68_1:=cellS85_1 HGz68;have hfz68_0:=blk_frozen HGz68 0;have hfz68_1:=blk_frozen HGz68 1;clear HGz68 hgz68;have hnb69:=NB159_148.out;have hnc69:=NB148_159.out;have hnb70:=NB159_149.out;have hnc70:=NB149_159.out;obtain⟨hcz71_0,hcz71_1,hcz71_2,hcz71_3,hcz71_4,hcz71_5,hcz71_6,hcz71_7,hcz71_8,hcz71_9,hcz71_10,hcz71_11,hfz71_0,hfz71_1,hfz71_2,hfz71_3,hfz71_4,hfz71_5,hfz71_6,hfz71_7,hfz71_8,hfz71_9,hfz71_10,hfz71_11⟩:=cl12 BK159;go_wp2_with (first|(go_at_call 39;(with_reducible refine (msg_Check.calls kj10 (bt a0 0) t150 t153 (wrap64 (t156)) x160004_10 x160005_10 x160006_10 x160007_10 x160008_10 x160009_10 x160010_10 x160011_10 t185 _ A67.out).mono ?_);rintro e w72 ⟨rfl,hb⟩;have n0_:=Bx0 BK148 hb;have n1_:=Bx0 BK159 hb;have n2_:=Ax (IsS85.below (by repeat (first|(with_reducible first|exact HIB149.out|apply IsS85.alloc|apply IsS85.drewN|apply IsS85.drew|apply IsS85.set_0|apply IsS85.set_1|refine IsS85.far ?_ NB149_148.out _|refine IsS85.far ?_ NB149_159.out _)|exact HIB149.out)) hb);have n3_:=Bs3 HB hb (IsS85.ge HIB149.out) GE148.out GE159.out;clear BK148;clear BK159;clear HIB149;clear HB;have BK148:=n0_;have BK159:=n1_;have HIB149:=n2_;have HB:=n3_;clear n0_ n1_ n2_ n3_;(try clear hb);(try clear hb2);(try clear hk);(try clear hi)));go_meet
         case rel=>exact⟨_,((t185 !=0)),rS,H',⟨by have:=HJ10.out;first|omega|exact Nat.le_refl _⟩,⟨bf0 BK148.out⟩,⟨bf0 BK159.out⟩,⟨bw3 HB.out (IsS85.ge HIB149.out) GE148.out GE159.out⟩⟩
        ·rw [if_neg c66]at H;have c66b0:(x150000_10.toList==([]:List UInt8))=false:=beq_eq_false_iff_ne.mpr c66;have c66b1:(x150000_10.toList !=([]:List UInt8))=true:=bne_iff_ne.mpr c66;have H':=Ax H;clear H;obtain⟨HGz73,hgz73⟩:=HIB149.out;have hcz73_0:=cellS85_0 HGz73;have hcz73_1:=cellS85_1 HGz73;have hfz73_0:=blk_frozen HGz73 0;have hfz73_1:=blk_frozen HGz73 1;clear HGz73 hgz73;go_wp2;go_meet
         case rel=>exact⟨_,(true),rS,H',⟨by have:=HJ10.out;first|omega|exact Nat.le_refl _⟩,⟨bf0 BK148.out⟩,⟨bf0 BK159.out⟩,⟨bw3 HB.out (IsS85.ge HIB149.out) GE148.out GE159.out⟩⟩
       ·rw [if_neg c65]at H;have c65b0:(x150001_10==0)=false:=beq_eq_false_iff_ne.mpr c65;have c65b1:(x150001_10 !=0)=true:=bne_iff_ne.mpr c65
        (first|rw [c65b0]|(simp only[i64_w,i32_w];rw [c65b0])|skip)
        have H':=Ax H;clear H;obtain⟨HGz74,hgz74⟩:=HIB149.out;have hcz74_0:=cellS85_0 HGz74;have hcz74_1:=cellS85_1 HGz74;have hfz74_0:=blk_frozen HGz74 0;have hfz74_1:=blk_frozen HGz74 1;clear HGz74 hgz74;go_wp2;go_meet
        case rel=>exact⟨_,(true),rS,H',⟨by have:=HJ10.out;first|omega|exact Nat.le_refl _⟩,⟨bf0 BK148.out⟩,⟨bf0 BK159.out⟩,⟨bw3 HB.out (IsS85.ge HIB149.out) GE148.out GE159.out⟩⟩
      case rest=>
       clear HC64;(try clear p2);(try clear c3);(try clear c4);(try clear c5);(try clear c6);(try clear p6);(try clear c7);(try clear c32);(try clear c33);(try clear c34);(try clear c35);(try clear c35b0);(try clear c35b1);(try clear c37);(try clear c40);(try clear c41);(try clear c43);(try clear c43b0);(try clear c43b1);(try clear c46);(try clear c47);(try clear c49);(try clear c49b0);(try clear c49b1);(try clear c58);(try clear c58b0);(try clear c58b1);(try clear c61);(try clear c62);(try clear p64);(try clear c65);(try clear c65b0);(try clear c65b1);(try clear c66);(try clear c66b0);(try clear c66b1);(try clear c69);(try clear c70);(try clear hcz34_0);(try clear hcz34_1);(try clear hcz34_10);(try clear hcz34_11);(try clear hcz34_2);(try clear hcz34_3);(try clear hcz34_4);(try clear hcz34_5);(try clear hcz34_6);(try clear hcz34_7);(try clear hcz34_8);(try clear hcz34_9);(try clear hcz42_0);(try clear hcz42_1);(try clear hcz42_10);(try clear hcz42_11);(try clear hcz42_2);(try clear hcz42_3);(try clear hcz42_4);(try clear hcz42_5);(try clear hcz42_6);(try clear hcz42_7);(try clear hcz42_8);(try clear hcz42_9);(try clear hcz48_0);(try clear hcz48_1);(try clear hcz48_10);(try clear hcz48_11);(try clear hcz48_2);(try clear hcz48_3);(try clear hcz48_4);(try clear hcz48_5);(try clear hcz48_6);(try clear hcz48_7);(try clear hcz48_8);(try clear hcz48_9);(try clear hcz63_0);(try clear hcz63_1);(try clear hcz63_10);(try clear hcz63_11);(try clear hcz63_2);(try clear hcz63_3);(try clear hcz63_4);(try clear hcz63_5);(try clear hcz63_6);(try clear hcz63_7);(try clear hcz63_8);(try clear hcz63_9);(try clear hcz68_0);(try clear hcz68_1);(try clear hcz71_0);(try clear hcz71_1);(try clear hcz71_10);(try clear hcz71_11);(try clear hcz71_2);(try clear hcz71_3);(try clear hcz71_4);(try clear hcz71_5);(try clear hcz71_6);(try clear hcz71_7);(try clear hcz71_8);(try clear hcz71_9);(try clear hcz73_0);(try clear hcz73_1);(try clear hcz74_0);(try clear hcz74_1);(try clear hfz34_0);(try clear hfz34_1);(try clear hfz34_10);(try clear hfz34_11);(try clear hfz34_2);(try clear hfz34_3);(try clear hfz34_4);(try clear hfz34_5);(try clear hfz34_6);(try clear hfz34_7);(try clear hfz34_8);(try clear hfz34_9);(try clear hfz42_0);(try clear hfz42_1);(try clear hfz42_10);(try clear hfz42_11);(try clear hfz42_2);(try clear hfz42_3);(try clear hfz42_4);(try clear hfz42_5);(try clear hfz42_6);(try clear hfz42_7);(try clear hfz42_8);(try clear hfz42_9);(try clear hfz48_0);(try clear hfz48_1);(try clear hfz48_10);(try clear hfz48_11);(try clear hfz48_2);(try clear hfz48_3);(try clear hfz48_4);(try clear hfz48_5);(try clear hfz48_6);(try clear hfz48_7);(try clear hfz48_8);(try clear hfz48_9);(try clear hfz63_0);(try clear hfz63_1);(try clear hfz63_10);(try clear hfz63_11);(try clear hfz63_2);(try clear hfz63_3);(try clear hfz63_4);(try clear hfz63_5);(try clear hfz63_6);(try clear hfz63_7);(try clear hfz63_8);(try clear hfz63_9);(try clear hfz68_0);(try clear hfz68_1);(try clear hfz71_0);(try clear hfz71_1);(try clear hfz71_10);(try clear hfz71_11);(try clear hfz71_2);(try clear hfz71_3);(try clear hfz71_4);(try clear hfz71_5);(try clear hfz71_6);(try clear hfz71_7);(try clear hfz71_8);(try clear hfz71_9);(try clear hfz73_0);(try clear hfz73_1);(try clear hfz74_0);(try clear hfz74_1);(try clear p2);(try clear p6);obtain⟨kq,x82_63,rfl,HA,HJ63,BK148,BK159,HB⟩:=hcut;cases kq with
       |zero=>exact absurd HA.out (by simp [msg_Get.j1])
       |succ kj63=>
        have H:=HA.out;clear HA;simp only[msg_Get.j1]at H;by_cases c75:x82_63=true
        ·subst c75;have H1:(some (0,0,0,0,false,0,0,0,0,0,0,0,7))=some (r1,r2,r3,r4,r5,r6,r7,r8,r9,r10,r11,r12,r13):=by rw [if_pos rfl]at H;exact H
         clear H;have H:=H1;clear H1;simp only[Option.some.injEq,Prod.mk.injEq]at H;obtain⟨rfl,rfl,rfl,rfl,rfl,rfl,rfl,rfl,rfl,rfl,rfl,rfl,rfl⟩:=H;have hnb76:=NB148_159.out;have hnc76:=NB159_148.out;obtain⟨hcz77_0,hcz77_1,hcz77_2,hcz77_3,hcz77_4,hcz77_5,hcz77_6,hcz77_7,hcz77_8,hcz77_9,hcz77_10,hcz77_11,hfz77_0,hfz77_1,hfz77_2,hfz77_3,hfz77_4,hfz77_5,hfz77_6,hfz77_7,hfz77_8,hfz77_9,hfz77_10,hfz77_11⟩:=cl12 BK148;go_wp2;refine bodyPost_ret (results_ct rfl _ _ gb148 35 #[.int .u8 0,.int .i64 0,.int .u64 0,.int .i64 0,.bool false,.int .u64 0,.int .u64 0,.int .i64 0,.int .u8 0,.int .i64 0,.int .i64 0,.int .i64 0] (0,0) _ rfl (gB BK148.out) Try.underlying35 rfl (by kernel_rfl)) rfl ?_;exact⟨eS,bw2 HB.out GE148.out GE159.out⟩
        ·replace c75:=Bool.eq_false_iff.mpr c75;subst c75;have H1:(some ((bt a0 0),t150,t153,(wrap64 (t156)),x160004_10,x160005_10,x160006_10,x160007_10,x160008_10,x160009_10,x160010_10,x160011_10,0))=some (r1,r2,r3,r4,r5,r6,r7,r8,r9,r10,r11,r12,r13):=by rw [if_neg (show ¬ (false=true) by decide)]at H;exact H
         clear H;have H:=H1;clear H1;simp only[Option.some.injEq,Prod.mk.injEq]at H;obtain⟨rfl,rfl,rfl,rfl,rfl,rfl,rfl,rfl,rfl,rfl,rfl,rfl,rfl⟩:=H;have hnb78:=NB159_148.out;have hnc78:=NB148_159.out;obtain⟨hcz79_0,hcz79_1,hcz79_2,hcz79_3,hcz79_4,hcz79_5,hcz79_6,hcz79_7,hcz79_8,hcz79_9,hcz79_10,hcz79_11,hfz79_0,hfz79_1,hfz79_2,hfz79_3,hfz79_4,hfz79_5,hfz79_6,hfz79_7,hfz79_8,hfz79_9,hfz79_10,hfz79_11⟩:=cl12 BK159;obtain⟨hcz80_0,hcz80_1,hcz80_2,hcz80_3,hcz80_4,hcz80_5,hcz80_6,hcz80_7,hcz80_8,hcz80_9,hcz80_10,hcz80_11,hfz80_0,hfz80_1,hfz80_2,hfz80_3,hfz80_4,hfz80_5,hfz80_6,hfz80_7,hfz80_8,hfz80_9,hfz80_10,hfz80_11⟩:=cl12 BK148;go_wp2;refine bodyPost_ret (results_ct rfl _ _ gb148 35 #[.int .u8 (bt a0 0),.int .i64 t150,.int .u64 t153,.int .i64 (wrap64 (t156)),.bool x160004_10,.int .u64 x160005_10,.int .u64 x160006_10,.int .i64 x160007_10,.int .u8 x160008_10,.int .i64 x160009_10,.int .i64 x160010_10,.int .i64 x160011_10] (0,0) _ rfl (gB BK148.out) Try.underlying35 rfl (by kernel_rfl)) rfl ?_;exact⟨eS,bw2 HB.out GE148.out GE159.out⟩
   ·rw [if_neg c6]at H;exact absurd H (by simp)
  ·rw [if_neg c5]at H;exact absurd H (by simp)
def gram_Of.j0 : Nat → Bool → Int → ByteArray → Option (Int × Int × Int × Int × Bool × Int × Int × Int × Int × Int × Int × Int × Int × Int)
 | 0, _, _, _ => none
 | k + 1, x21, x187000, x187001 => if x21 = true then (some (0, 0, 0, 0, false, 0, 0, 0, 0, 0, 0, 0, 7, 0)) else (if x187000 = 3 then (if x187001.toList = ([] : List UInt8) then (some (0, 0, 0, 0, false, 0, 0, 0, 0, 0, 0, 0, 11, 0)) else (some (0, 0, 0, 0, false, 0, 0, 0, 0, 0, 0, 0, 0, 2))) else (some (0, 0, 0, 0, false, 0, 0, 0, 0, 0, 0, 0, 0, 2)))
def gram_Of.f (k:Nat) (a0_0:Int) (a0_1:ByteArray):Option (Int × Int × Int × Int × Bool × Int × Int × Int × Int × Int × Int × Int × Int × Int):=if a0_0=1 then ((msg_Get.f k a0_1).bind fun bt188=>(if bt188.2.2.2.2.2.2.2.2.2.2.2.2=0 then (some (bt188.1,bt188.2.1,bt188.2.2.1,bt188.2.2.2.1,bt188.2.2.2.2.1,bt188.2.2.2.2.2.1,bt188.2.2.2.2.2.2.1,bt188.2.2.2.2.2.2.2.1,bt188.2.2.2.2.2.2.2.2.1,bt188.2.2.2.2.2.2.2.2.2.1,bt188.2.2.2.2.2.2.2.2.2.2.1,bt188.2.2.2.2.2.2.2.2.2.2.2.1,0,0)) else (some (0,0,0,0,false,0,0,0,0,0,0,0,2,0)))) else (if a0_0=2 then (gram_Of.j0 k (a0_1.toList==([]:List UInt8)) a0_0 a0_1) else (gram_Of.j0 k false a0_0 a0_1))
theorem gram_Of.mono_l: ∀ k,(∀ y0 y1 y2,LeO (gram_Of.j0 k y0 y1 y2) (gram_Of.j0 (k+1) y0 y1 y2))
 |0=>fun _ _ _ r h=>by simp [gram_Of.j0]at h
 |k+1=>by
  have ih0:=gram_Of.mono_l k
  ·intro y0 y1 y2;unfold gram_Of.j0
   repeat' first
   |(with_reducible exact ih0 _ _ _)
   |(with_reducible exact msg_Get.mono _ _)
   |(with_reducible exact LeO.refl _)
   |(with_reducible exact LeO.none _)
   |(with_reducible refine LeO.ite ?_ ?_)
   |(with_reducible refine LeO.bind ?_ (fun _=>?_))
   |exact ih0 _ _ _
   |exact msg_Get.mono _ _
   |exact LeO.none _
   |refine LeO.ite ?_ ?_
   |refine LeO.bind ?_ (fun _=>?_)
theorem gram_Of.mono: ∀ a0 a1 k,LeO (gram_Of.f k a0 a1) (gram_Of.f (k+1) a0 a1):=by
 intro a0 a1 k;have ih0:=gram_Of.mono_l k;unfold gram_Of.f
 repeat' first
   | (with_reducible exact ih0 _ _ _)
   | (with_reducible exact msg_Get.mono _ _)
   | (with_reducible exact LeO.refl _)
   | (with_reducible exact LeO.none _)
   | (with_reducible refine LeO.ite ?_ ?_)
   | (with_reducible refine LeO.bind ?_ (fun _ => ?_))
   | exact ih0 _ _ _
   | exact msg_Get.mono _ _
   | exact LeO.none _
   | refine LeO.ite ?_ ?_
   | refine LeO.bind ?_ (fun _ => ?_)
end Go.Proofs.Ythkdfojmhloofaa.Q
end
section
namespace Go.Proofs.Ythkdfojmhloofaa.Q
open Go.RowKit Go.Proofs.YthkdfojmhloofaaW.PrintWords Go.Proofs.YthkdfojmhloofaaW.PrintLast Go.Proofs.YthkdfojmhloofaaW.PrintMore
attribute [local go_sem] max2_int min2_int max_two min_two max_three min_three max_four min_four   -- for this text's walks alone
set_option linter.unusedVariables false
set_option linter.unusedSimpArgs false
theorem eqA24 (d:Nat) (w:World) (x0 y0:Int) (x1 y1:ByteArray):
    (Op.equalIn (d+2) 24 (.agg #[.int .u8 x0,.string x1]) (.agg #[.int .u8 y0,.string y1])).run Try.prog w= .ok (x0==y0&&(x1.toList==y1.toList)) w:=by
  refine eqA_of Try.underlying24 (by kernel_rfl) ?_;refine eqf_cons (by rfl) (by go_simp;rfl) (by go_simp;rfl) (by go_simp) ?_;exact eqf_last (by rfl) (by go_simp;rfl) (by go_simp;rfl) (by go_simp)
end Go.Proofs.Ythkdfojmhloofaa.Q
end
section
namespace Go.Proofs.Ythkdfojmhloofaa.Q
open Go.RowKit Go.Proofs.YthkdfojmhloofaaW.PrintWords Go.Proofs.YthkdfojmhloofaaW.PrintLast Go.Proofs.YthkdfojmhloofaaW.PrintMore
attribute [local go_sem] max2_int min2_int max_two min_two max_three min_three max_four min_four   -- for this text's walks alone
set_option linter.unusedVariables false
set_option linter.unusedSimpArgs false
attribute [local go_sem high] eqA24 eqA38
set_option maxHeartbeats 8000000 in
set_option maxRecDepth 100000 in
theorem gram_Of.calls (k:Nat) (a0_0:Int) (a0_1:ByteArray) (r1:Int) (r2:Int) (r3:Int) (r4:Int) (r5:Bool) (r6:Int) (r7:Int) (r8:Int) (r9:Int) (r10:Int) (r11:Int) (r12:Int) (r13:Int) (r14:Int) (w:World) (h:gram_Of.f k a0_0 a0_1=some (r1,r2,r3,r4,r5,r6,r7,r8,r9,r10,r11,r12,r13,r14)):
  Calls Try.prog 8 #[.agg #[.int .u8 a0_0,.string a0_1]] w fun e w'=>e= .returned (.tuple #[.agg #[.int .u8 r1,.int .i64 r2,.int .u64 r3,.int .i64 r4,.bool r5,.int .u64 r6,.int .u64 r7,.int .i64 r8,.int .u8 r9,.int .i64 r10,.int .i64 r11,.int .i64 r12,.int .i64 r13],.int .i64 r14])∧Below w.heap.size w w':=by
 have hu24:=Try.underlying24;have hu38:=Try.underlying38;have hu35:=Try.underlying35;have HB:=Ax (Below.refl w.heap.size w);have H:(if a0_0=1 then ((msg_Get.f k a0_1).bind fun bt188=>(if bt188.2.2.2.2.2.2.2.2.2.2.2.2=0 then (some (bt188.1,bt188.2.1,bt188.2.2.1,bt188.2.2.2.1,bt188.2.2.2.2.1,bt188.2.2.2.2.2.1,bt188.2.2.2.2.2.2.1,bt188.2.2.2.2.2.2.2.1,bt188.2.2.2.2.2.2.2.2.1,bt188.2.2.2.2.2.2.2.2.2.1,bt188.2.2.2.2.2.2.2.2.2.2.1,bt188.2.2.2.2.2.2.2.2.2.2.2.1,0,0)) else (some (0,0,0,0,false,0,0,0,0,0,0,0,2,0)))) else (if a0_0=2 then (gram_Of.j0 k (a0_1.toList==([]:List UInt8)) a0_0 a0_1) else (gram_Of.j0 k false a0_0 a0_1)))=some (r1,r2,r3,r4,r5,r6,r7,r8,r9,r10,r11,r12,r13,r14):=h;clear h;by_cases c2:a0_0=1
 ·rw [if_pos c2]at H;have c2b0:(a0_0==1)=true:=beq_iff_eq.mpr c2;have c2b1:(a0_0 !=1)=false:=bne_eq_false_iff_eq.mpr c2;clear c2;replace H:=Option.bind_eq_some_iff.mp H;obtain⟨⟨t188,t189,t190,t191,t192,t193,t194,t195,t196,t197,t198,t199,t200⟩,A30,H⟩:=H;replace H:(if t200=0 then (some (t188,t189,t190,t191,t192,t193,t194,t195,t196,t197,t198,t199,0,0)) else (some (0,0,0,0,false,0,0,0,0,0,0,0,2,0)))=some (r1,r2,r3,r4,r5,r6,r7,r8,r9,r10,r11,r12,r13,r14):=H;have A3:=Ax A30;clear A30;by_cases c4:t200=0;·rw [if_pos c4]at H;have c4b0:(t200==0)=true:=beq_iff_eq.mpr c4;have c4b1:(t200 !=0)=false:=bne_eq_false_iff_eq.mpr c4;clear c4;simp only[Option.some.injEq,Prod.mk.injEq]at H;obtain⟨rfl,rfl,rfl,rfl,rfl,rfl,rfl,rfl,rfl,rfl,rfl,rfl,rfl,rfl⟩:=H;go_enter Try.func8,Try.ntmps8;go_wp2_with (first|((with_reducible refine gate_dst (N:=1) rfl ?_);refine box_event ?hg (N:=1) ?hd (cs:= #[.int .u8 a0_0,.string a0_1]) (t:=24) ?hr ?_;(case hd=>rfl);(case hg=>rfl);(case hr=>first|(go_simp;done)|(go_simp;rfl));intro gb186 hg w5 hbox hb;have n0_:=Bs0 HB hb;have n1_:=Ax (hbox);have n2_:=Gw0 HB hg;have n3_:=Gw0 HB hg;clear HB;have HB:=n0_;have BK186:=n1_;have GW186:=n2_;have GE186:=n3_;clear n0_ n1_ n2_ n3_;clear hb hbox hg)|((with_reducible refine gate_dst (N:=2) rfl ?_);refine box_event ?hg (N:=2) ?hd (cs:= #[.int .u8 0,.int .i64 0,.int .u64 0,.int .i64 0,.bool false,.int .u64 0,.int .u64 0,.int .i64 0,.int .u8 0,.int .i64 0,.int .i64 0,.int .i64 0,.int .i64 0]) (t:=38) ?hr ?_;(case hd=>rfl);(case hg=>rfl);(case hr=>first|(go_simp;done)|(go_simp;rfl));intro gb187 hg w6 hbox hb;have n0_:=Bx0 BK186 hb;have n1_:=Bs1 HB hb GE186.out;have n2_:=Ax (hbox);have n3_:=Gw1 HB hg GE186.out;have n4_:=Gw1 HB hg GE186.out;have n5_:=Nl0 BK186 hg;have n6_:=Nr0 BK186 hg;clear BK186;clear HB;have BK186:=n0_;have HB:=n1_;have BK187:=n2_;have GW187:=n3_;have GE187:=n4_;have NB186_187:=n5_;have NB187_186:=n6_;clear n0_ n1_ n2_ n3_ n4_ n5_ n6_;clear hb hbox hg;have hnb7:=NB186_187.out;have hnc7:=NB187_186.out;obtain⟨hcz8_0,hcz8_1,hfz8_0,hfz8_1⟩:=cl2 BK186)|((with_reducible refine gate_callee (f:=20) rfl ?_);refine goesL_ (some 13) rfl rfl Try.func20 (by kernel_rfl) rfl #[.string a0_1] rfl gS ?_;(with_reducible refine (msg_Get.calls k a0_1 t188 t189 t190 t191 t192 t193 t194 t195 t196 t197 t198 t199 t200 _ A3.out).mono ?_);rintro e w9 ⟨rfl,hb⟩;refine⟨_,rfl,?_⟩;replace BK186:=Bx0 BK186 hb;replace BK187:=Bx0 BK187 hb;replace HB:=Bs2 HB hb GE186.out GE187.out;(try clear hb))|((with_reducible refine gate_dst (N:=4) rfl ?_);refine box_event ?hg (N:=4) ?hd (cs:= #[.int .u8 0,.int .i64 0,.int .u64 0,.int .i64 0,.bool false,.int .u64 0,.int .u64 0,.int .i64 0,.int .u8 0,.int .i64 0,.int .i64 0,.int .i64 0]) (t:=35) ?hr ?_;(case hd=>rfl);(case hg=>rfl);(case hr=>first|(go_simp;done)|(go_simp;rfl));intro gb201 hg w10 hbox hb;have n0_:=Bx0 BK186 hb;have n1_:=Bx0 BK187 hb;have n2_:=Bs2 HB hb GE186.out GE187.out;have n3_:=Ax (hbox);have n4_:=Gw2 HB hg GE186.out GE187.out;have n5_:=Gw2 HB hg GE186.out GE187.out;have n6_:=Nl0 BK186 hg;have n7_:=Nr0 BK186 hg;have n8_:=Nl0 BK187 hg;have n9_:=Nr0 BK187 hg;clear BK186;clear BK187;clear HB;have BK186:=n0_;have BK187:=n1_;have HB:=n2_;have BK201:=n3_;have GW201:=n4_;have GE201:=n5_;have NB186_201:=n6_;have NB201_186:=n7_;have NB187_201:=n8_;have NB201_187:=n9_;clear n0_ n1_ n2_ n3_ n4_ n5_ n6_ n7_ n8_ n9_;clear hb hbox hg;have hnb11:=NB201_186.out;have hnc11:=NB186_201.out;have hnb12:=NB201_187.out;have hnc12:=NB187_201.out;obtain⟨hcz13_0,hcz13_1,hcz13_2,hcz13_3,hcz13_4,hcz13_5,hcz13_6,hcz13_7,hcz13_8,hcz13_9,hcz13_10,hcz13_11,hfz13_0,hfz13_1,hfz13_2,hfz13_3,hfz13_4,hfz13_5,hfz13_6,hfz13_7,hfz13_8,hfz13_9,hfz13_10,hfz13_11⟩:=cl12 BK201;obtain⟨hcz14_0,hcz14_1,hcz14_2,hcz14_3,hcz14_4,hcz14_5,hcz14_6,hcz14_7,hcz14_8,hcz14_9,hcz14_10,hcz14_11,hcz14_12,hfz14_0,hfz14_1,hfz14_2,hfz14_3,hfz14_4,hfz14_5,hfz14_6,hfz14_7,hfz14_8,hfz14_9,hfz14_10,hfz14_11,hfz14_12⟩:=cl13 BK187));refine bodyPost_ret (results_ct rfl _ _ gb187 38 #[.int .u8 t188,.int .i64 t189,.int .u64 t190,.int .i64 t191,.bool t192,.int .u64 t193,.int .u64 t194,.int .i64 t195,.int .u8 t196,.int .i64 t197,.int .i64 t198,.int .i64 t199,.int .i64 0] (0,0) _ rfl (by (with_reducible repeat (first|refine blk_drewN ?_ _|refine blk_drew ?_|refine blk_alloc ?_ _));refine blk_put (cs:= #[.int .u8 t188,.int .i64 t189,.int .u64 t190,.int .i64 t191,.bool t192,.int .u64 t193,.int .u64 t194,.int .i64 t195,.int .u8 t196,.int .i64 t197,.int .i64 t198,.int .i64 t199,.int .i64 0]) ?_ 12 _ rfl;(with_reducible repeat (first|refine blk_drewN ?_ _|refine blk_drew ?_|refine blk_alloc ?_ _));refine blk_put (cs:= #[.int .u8 t188,.int .i64 t189,.int .u64 t190,.int .i64 t191,.bool t192,.int .u64 t193,.int .u64 t194,.int .i64 t195,.int .u8 t196,.int .i64 t197,.int .i64 t198,.int .i64 0,.int .i64 0]) ?_ 11 _ rfl;(with_reducible repeat (first|refine blk_drewN ?_ _|refine blk_drew ?_|refine blk_alloc ?_ _));refine blk_put (cs:= #[.int .u8 t188,.int .i64 t189,.int .u64 t190,.int .i64 t191,.bool t192,.int .u64 t193,.int .u64 t194,.int .i64 t195,.int .u8 t196,.int .i64 t197,.int .i64 0,.int .i64 0,.int .i64 0]) ?_ 10 _ rfl;(with_reducible repeat (first|refine blk_drewN ?_ _|refine blk_drew ?_|refine blk_alloc ?_ _));refine blk_put (cs:= #[.int .u8 t188,.int .i64 t189,.int .u64 t190,.int .i64 t191,.bool t192,.int .u64 t193,.int .u64 t194,.int .i64 t195,.int .u8 t196,.int .i64 0,.int .i64 0,.int .i64 0,.int .i64 0]) ?_ 9 _ rfl;(with_reducible repeat (first|refine blk_drewN ?_ _|refine blk_drew ?_|refine blk_alloc ?_ _));refine blk_put (cs:= #[.int .u8 t188,.int .i64 t189,.int .u64 t190,.int .i64 t191,.bool t192,.int .u64 t193,.int .u64 t194,.int .i64 t195,.int .u8 0,.int .i64 0,.int .i64 0,.int .i64 0,.int .i64 0]) ?_ 8 _ rfl;(with_reducible repeat (first|refine blk_drewN ?_ _|refine blk_drew ?_|refine blk_alloc ?_ _));refine blk_put (cs:= #[.int .u8 t188,.int .i64 t189,.int .u64 t190,.int .i64 t191,.bool t192,.int .u64 t193,.int .u64 t194,.int .i64 0,.int .u8 0,.int .i64 0,.int .i64 0,.int .i64 0,.int .i64 0]) ?_ 7 _ rfl;(with_reducible repeat (first|refine blk_drewN ?_ _|refine blk_drew ?_|refine blk_alloc ?_ _));refine blk_put (cs:= #[.int .u8 t188,.int .i64 t189,.int .u64 t190,.int .i64 t191,.bool t192,.int .u64 t193,.int .u64 0,.int .i64 0,.int .u8 0,.int .i64 0,.int .i64 0,.int .i64 0,.int .i64 0]) ?_ 6 _ rfl;(with_reducible repeat (first|refine blk_drewN ?_ _|refine blk_drew ?_|refine blk_alloc ?_ _));refine blk_put (cs:= #[.int .u8 t188,.int .i64 t189,.int .u64 t190,.int .i64 t191,.bool t192,.int .u64 0,.int .u64 0,.int .i64 0,.int .u8 0,.int .i64 0,.int .i64 0,.int .i64 0,.int .i64 0]) ?_ 5 _ rfl;(with_reducible repeat (first|refine blk_drewN ?_ _|refine blk_drew ?_|refine blk_alloc ?_ _));refine blk_put (cs:= #[.int .u8 t188,.int .i64 t189,.int .u64 t190,.int .i64 t191,.bool false,.int .u64 0,.int .u64 0,.int .i64 0,.int .u8 0,.int .i64 0,.int .i64 0,.int .i64 0,.int .i64 0]) ?_ 4 _ rfl;(with_reducible repeat (first|refine blk_drewN ?_ _|refine blk_drew ?_|refine blk_alloc ?_ _));refine blk_put (cs:= #[.int .u8 t188,.int .i64 t189,.int .u64 t190,.int .i64 0,.bool false,.int .u64 0,.int .u64 0,.int .i64 0,.int .u8 0,.int .i64 0,.int .i64 0,.int .i64 0,.int .i64 0]) ?_ 3 _ rfl;(with_reducible repeat (first|refine blk_drewN ?_ _|refine blk_drew ?_|refine blk_alloc ?_ _));refine blk_put (cs:= #[.int .u8 t188,.int .i64 t189,.int .u64 0,.int .i64 0,.bool false,.int .u64 0,.int .u64 0,.int .i64 0,.int .u8 0,.int .i64 0,.int .i64 0,.int .i64 0,.int .i64 0]) ?_ 2 _ rfl;(with_reducible repeat (first|refine blk_drewN ?_ _|refine blk_drew ?_|refine blk_alloc ?_ _));refine blk_put (cs:= #[.int .u8 t188,.int .i64 0,.int .u64 0,.int .i64 0,.bool false,.int .u64 0,.int .u64 0,.int .i64 0,.int .u8 0,.int .i64 0,.int .i64 0,.int .i64 0,.int .i64 0]) ?_ 1 _ rfl;(with_reducible repeat (first|refine blk_drewN ?_ _|refine blk_drew ?_|refine blk_alloc ?_ _));refine blk_put (cs:= #[.int .u8 0,.int .i64 0,.int .u64 0,.int .i64 0,.bool false,.int .u64 0,.int .u64 0,.int .i64 0,.int .u8 0,.int .i64 0,.int .i64 0,.int .i64 0,.int .i64 0]) ?_ 0 _ rfl;(with_reducible repeat (first|refine blk_drewN ?_ _|refine blk_drew ?_|refine blk_alloc ?_ _));refine blk_far ?_ NB187_201.out _;(with_reducible repeat (first|refine blk_drewN ?_ _|refine blk_drew ?_|refine blk_alloc ?_ _));refine blk_far ?_ NB187_201.out _;(with_reducible repeat (first|refine blk_drewN ?_ _|refine blk_drew ?_|refine blk_alloc ?_ _));refine blk_far ?_ NB187_201.out _;(with_reducible repeat (first|refine blk_drewN ?_ _|refine blk_drew ?_|refine blk_alloc ?_ _));refine blk_far ?_ NB187_201.out _;(with_reducible repeat (first|refine blk_drewN ?_ _|refine blk_drew ?_|refine blk_alloc ?_ _));refine blk_far ?_ NB187_201.out _;(with_reducible repeat (first|refine blk_drewN ?_ _|refine blk_drew ?_|refine blk_alloc ?_ _));refine blk_far ?_ NB187_201.out _;(with_reducible repeat (first|refine blk_drewN ?_ _|refine blk_drew ?_|refine blk_alloc ?_ _));refine blk_far ?_ NB187_201.out _;(with_reducible repeat (first|refine blk_drewN ?_ _|refine blk_drew ?_|refine blk_alloc ?_ _));refine blk_far ?_ NB187_201.out _;(with_reducible repeat (first|refine blk_drewN ?_ _|refine blk_drew ?_|refine blk_alloc ?_ _));refine blk_far ?_ NB187_201.out _;(with_reducible repeat (first|refine blk_drewN ?_ _|refine blk_drew ?_|refine blk_alloc ?_ _));refine blk_far ?_ NB187_201.out _;(with_reducible repeat (first|refine blk_drewN ?_ _|refine blk_drew ?_|refine blk_alloc ?_ _));refine blk_far ?_ NB187_201.out _;(with_reducible repeat (first|refine blk_drewN ?_ _|refine blk_drew ?_|refine blk_alloc ?_ _));refine blk_far ?_ NB187_201.out _;(with_reducible repeat (first|refine blk_drewN ?_ _|refine blk_drew ?_|refine blk_alloc ?_ _));exact BK187.out) Try.underlying38 rfl (by kernel_rfl)) rfl ?_;exact⟨eS,bw3 HB.out GE186.out GE187.out GE201.out⟩
  ·rw [if_neg c4]at H;have c4b0:(t200==0)=false:=beq_eq_false_iff_ne.mpr c4;have c4b1:(t200 !=0)=true:=bne_iff_ne.mpr c4;simp only[Option.some.injEq,Prod.mk.injEq]at H;obtain⟨rfl,rfl,rfl,rfl,rfl,rfl,rfl,rfl,rfl,rfl,rfl,rfl,rfl,rfl⟩:=H;go_enter Try.func8,Try.ntmps8;go_wp2_with (first|((with_reducible refine gate_dst (N:=1) rfl ?_);refine box_event ?hg (N:=1) ?hd (cs:= #[.int .u8 a0_0,.string a0_1]) (t:=24) ?hr ?_;(case hd=>rfl);(case hg=>rfl);(case hr=>first|(go_simp;done)|(go_simp;rfl));intro gb186 hg w15 hbox hb;have n0_:=Bs0 HB hb;have n1_:=Ax (hbox);have n2_:=Gw0 HB hg;have n3_:=Gw0 HB hg;clear HB;have HB:=n0_;have BK186:=n1_;have GW186:=n2_;have GE186:=n3_;clear n0_ n1_ n2_ n3_;clear hb hbox hg)|((with_reducible refine gate_dst (N:=2) rfl ?_);refine box_event ?hg (N:=2) ?hd (cs:= #[.int .u8 0,.int .i64 0,.int .u64 0,.int .i64 0,.bool false,.int .u64 0,.int .u64 0,.int .i64 0,.int .u8 0,.int .i64 0,.int .i64 0,.int .i64 0,.int .i64 0]) (t:=38) ?hr ?_;(case hd=>rfl);(case hg=>rfl);(case hr=>first|(go_simp;done)|(go_simp;rfl));intro gb187 hg w16 hbox hb;have n0_:=Bx0 BK186 hb;have n1_:=Bs1 HB hb GE186.out;have n2_:=Ax (hbox);have n3_:=Gw1 HB hg GE186.out;have n4_:=Gw1 HB hg GE186.out;have n5_:=Nl0 BK186 hg;have n6_:=Nr0 BK186 hg;clear BK186;clear HB;have BK186:=n0_;have HB:=n1_;have BK187:=n2_;have GW187:=n3_;have GE187:=n4_;have NB186_187:=n5_;have NB187_186:=n6_;clear n0_ n1_ n2_ n3_ n4_ n5_ n6_;clear hb hbox hg;have hnb17:=NB186_187.out;have hnc17:=NB187_186.out;obtain⟨hcz18_0,hcz18_1,hfz18_0,hfz18_1⟩:=cl2 BK186)|((with_reducible refine gate_callee (f:=20) rfl ?_);refine goesL_ (some 13) rfl rfl Try.func20 (by kernel_rfl) rfl #[.string a0_1] rfl gS ?_;(with_reducible refine (msg_Get.calls k a0_1 t188 t189 t190 t191 t192 t193 t194 t195 t196 t197 t198 t199 t200 _ A3.out).mono ?_);rintro e w19 ⟨rfl,hb⟩;refine⟨_,rfl,?_⟩;replace BK186:=Bx0 BK186 hb;replace BK187:=Bx0 BK187 hb;replace HB:=Bs2 HB hb GE186.out GE187.out;(try clear hb))|((with_reducible refine gate_dst (N:=4) rfl ?_);refine box_event ?hg (N:=4) ?hd (cs:= #[.int .u8 0,.int .i64 0,.int .u64 0,.int .i64 0,.bool false,.int .u64 0,.int .u64 0,.int .i64 0,.int .u8 0,.int .i64 0,.int .i64 0,.int .i64 0]) (t:=35) ?hr ?_;(case hd=>rfl);(case hg=>rfl);(case hr=>first|(go_simp;done)|(go_simp;rfl));intro gb201 hg w20 hbox hb;have n0_:=Bx0 BK186 hb;have n1_:=Bx0 BK187 hb;have n2_:=Bs2 HB hb GE186.out GE187.out;have n3_:=Ax (hbox);have n4_:=Gw2 HB hg GE186.out GE187.out;have n5_:=Gw2 HB hg GE186.out GE187.out;have n6_:=Nl0 BK186 hg;have n7_:=Nr0 BK186 hg;have n8_:=Nl0 BK187 hg;have n9_:=Nr0 BK187 hg;clear BK186;clear BK187;clear HB;have BK186:=n0_;have BK187:=n1_;have HB:=n2_;have BK201:=n3_;have GW201:=n4_;have GE201:=n5_;have NB186_201:=n6_;have NB201_186:=n7_;have NB187_201:=n8_;have NB201_187:=n9_;clear n0_ n1_ n2_ n3_ n4_ n5_ n6_ n7_ n8_ n9_;clear hb hbox hg;have hnb21:=NB201_186.out;have hnc21:=NB186_201.out;have hnb22:=NB201_187.out;have hnc22:=NB187_201.out;obtain⟨hcz23_0,hcz23_1,hcz23_2,hcz23_3,hcz23_4,hcz23_5,hcz23_6,hcz23_7,hcz23_8,hcz23_9,hcz23_10,hcz23_11,hfz23_0,hfz23_1,hfz23_2,hfz23_3,hfz23_4,hfz23_5,hfz23_6,hfz23_7,hfz23_8,hfz23_9,hfz23_10,hfz23_11⟩:=cl12 BK201;obtain⟨hcz24_0,hcz24_1,hcz24_2,hcz24_3,hcz24_4,hcz24_5,hcz24_6,hcz24_7,hcz24_8,hcz24_9,hcz24_10,hcz24_11,hcz24_12,hfz24_0,hfz24_1,hfz24_2,hfz24_3,hfz24_4,hfz24_5,hfz24_6,hfz24_7,hfz24_8,hfz24_9,hfz24_10,hfz24_11,hfz24_12⟩:=cl13 BK187));refine bodyPost_ret (results_ct rfl _ _ gb187 38 #[.int .u8 0,.int .i64 0,.int .u64 0,.int .i64 0,.bool false,.int .u64 0,.int .u64 0,.int .i64 0,.int .u8 0,.int .i64 0,.int .i64 0,.int .i64 0,.int .i64 2] (0,0) _ rfl (by (with_reducible repeat (first|refine blk_drewN ?_ _|refine blk_drew ?_|refine blk_alloc ?_ _));refine blk_put (cs:= #[.int .u8 0,.int .i64 0,.int .u64 0,.int .i64 0,.bool false,.int .u64 0,.int .u64 0,.int .i64 0,.int .u8 0,.int .i64 0,.int .i64 0,.int .i64 0,.int .i64 0]) ?_ 12 _ rfl;(with_reducible repeat (first|refine blk_drewN ?_ _|refine blk_drew ?_|refine blk_alloc ?_ _));refine blk_put (cs:= #[.int .u8 0,.int .i64 0,.int .u64 0,.int .i64 0,.bool false,.int .u64 0,.int .u64 0,.int .i64 0,.int .u8 0,.int .i64 0,.int .i64 0,.int .i64 0,.int .i64 0]) ?_ 11 _ rfl;(with_reducible repeat (first|refine blk_drewN ?_ _|refine blk_drew ?_|refine blk_alloc ?_ _));refine blk_put (cs:= #[.int .u8 0,.int .i64 0,.int .u64 0,.int .i64 0,.bool false,.int .u64 0,.int .u64 0,.int .i64 0,.int .u8 0,.int .i64 0,.int .i64 0,.int .i64 0,.int .i64 0]) ?_ 10 _ rfl;(with_reducible repeat (first|refine blk_drewN ?_ _|refine blk_drew ?_|refine blk_alloc ?_ _));refine blk_put (cs:= #[.int .u8 0,.int .i64 0,.int .u64 0,.int .i64 0,.bool false,.int .u64 0,.int .u64 0,.int .i64 0,.int .u8 0,.int .i64 0,.int .i64 0,.int .i64 0,.int .i64 0]) ?_ 9 _ rfl;(with_reducible repeat (first|refine blk_drewN ?_ _|refine blk_drew ?_|refine blk_alloc ?_ _));refine blk_put (cs:= #[.int .u8 0,.int .i64 0,.int .u64 0,.int .i64 0,.bool false,.int .u64 0,.int .u64 0,.int .i64 0,.int .u8 0,.int .i64 0,.int .i64 0,.int .i64 0,.int .i64 0]) ?_ 8 _ rfl;(with_reducible repeat (first|refine blk_drewN ?_ _|refine blk_drew ?_|refine blk_alloc ?_ _));refine blk_put (cs:= #[.int .u8 0,.int .i64 0,.int .u64 0,.int .i64 0,.bool false,.int .u64 0,.int .u64 0,.int .i64 0,.int .u8 0,.int .i64 0,.int .i64 0,.int .i64 0,.int .i64 0]) ?_ 7 _ rfl;(with_reducible repeat (first|refine blk_drewN ?_ _|refine blk_drew ?_|refine blk_alloc ?_ _));refine blk_put (cs:= #[.int .u8 0,.int .i64 0,.int .u64 0,.int .i64 0,.bool false,.int .u64 0,.int .u64 0,.int .i64 0,.int .u8 0,.int .i64 0,.int .i64 0,.int .i64 0,.int .i64 0]) ?_ 6 _ rfl;(with_reducible repeat (first|refine blk_drewN ?_ _|refine blk_drew ?_|refine blk_alloc ?_ _));refine blk_put (cs:= #[.int .u8 0,.int .i64 0,.int .u64 0,.int .i64 0,.bool false,.int .u64 0,.int .u64 0,.int .i64 0,.int .u8 0,.int .i64 0,.int .i64 0,.int .i64 0,.int .i64 0]) ?_ 5 _ rfl;(with_reducible repeat (first|refine blk_drewN ?_ _|refine blk_drew ?_|refine blk_alloc ?_ _));refine blk_put (cs:= #[.int .u8 0,.int .i64 0,.int .u64 0,.int .i64 0,.bool false,.int .u64 0,.int .u64 0,.int .i64 0,.int .u8 0,.int .i64 0,.int .i64 0,.int .i64 0,.int .i64 0]) ?_ 4 _ rfl;(with_reducible repeat (first|refine blk_drewN ?_ _|refine blk_drew ?_|refine blk_alloc ?_ _));refine blk_put (cs:= #[.int .u8 0,.int .i64 0,.int .u64 0,.int .i64 0,.bool false,.int .u64 0,.int .u64 0,.int .i64 0,.int .u8 0,.int .i64 0,.int .i64 0,.int .i64 0,.int .i64 0]) ?_ 3 _ rfl;(with_reducible repeat (first|refine blk_drewN ?_ _|refine blk_drew ?_|refine blk_alloc ?_ _));refine blk_put (cs:= #[.int .u8 0,.int .i64 0,.int .u64 0,.int .i64 0,.bool false,.int .u64 0,.int .u64 0,.int .i64 0,.int .u8 0,.int .i64 0,.int .i64 0,.int .i64 0,.int .i64 0]) ?_ 2 _ rfl;(with_reducible repeat (first|refine blk_drewN ?_ _|refine blk_drew ?_|refine blk_alloc ?_ _));refine blk_put (cs:= #[.int .u8 0,.int .i64 0,.int .u64 0,.int .i64 0,.bool false,.int .u64 0,.int .u64 0,.int .i64 0,.int .u8 0,.int .i64 0,.int .i64 0,.int .i64 0,.int .i64 0]) ?_ 1 _ rfl;(with_reducible repeat (first|refine blk_drewN ?_ _|refine blk_drew ?_|refine blk_alloc ?_ _));refine blk_put (cs:= #[.int .u8 0,.int .i64 0,.int .u64 0,.int .i64 0,.bool false,.int .u64 0,.int .u64 0,.int .i64 0,.int .u8 0,.int .i64 0,.int .i64 0,.int .i64 0,.int .i64 0]) ?_ 0 _ rfl;(with_reducible repeat (first|refine blk_drewN ?_ _|refine blk_drew ?_|refine blk_alloc ?_ _));refine blk_far ?_ NB187_201.out _;(with_reducible repeat (first|refine blk_drewN ?_ _|refine blk_drew ?_|refine blk_alloc ?_ _));refine blk_far ?_ NB187_201.out _;(with_reducible repeat (first|refine blk_drewN ?_ _|refine blk_drew ?_|refine blk_alloc ?_ _));refine blk_far ?_ NB187_201.out _;(with_reducible repeat (first|refine blk_drewN ?_ _|refine blk_drew ?_|refine blk_alloc ?_ _));refine blk_far ?_ NB187_201.out _;(with_reducible repeat (first|refine blk_drewN ?_ _|refine blk_drew ?_|refine blk_alloc ?_ _));refine blk_far ?_ NB187_201.out _;(with_reducible repeat (first|refine blk_drewN ?_ _|refine blk_drew ?_|refine blk_alloc ?_ _));refine blk_far ?_ NB187_201.out _;(with_reducible repeat (first|refine blk_drewN ?_ _|refine blk_drew ?_|refine blk_alloc ?_ _));refine blk_far ?_ NB187_201.out _;(with_reducible repeat (first|refine blk_drewN ?_ _|refine blk_drew ?_|refine blk_alloc ?_ _));refine blk_far ?_ NB187_201.out _;(with_reducible repeat (first|refine blk_drewN ?_ _|refine blk_drew ?_|refine blk_alloc ?_ _));refine blk_far ?_ NB187_201.out _;(with_reducible repeat (first|refine blk_drewN ?_ _|refine blk_drew ?_|refine blk_alloc ?_ _));refine blk_far ?_ NB187_201.out _;(with_reducible repeat (first|refine blk_drewN ?_ _|refine blk_drew ?_|refine blk_alloc ?_ _));refine blk_far ?_ NB187_201.out _;(with_reducible repeat (first|refine blk_drewN ?_ _|refine blk_drew ?_|refine blk_alloc ?_ _));refine blk_far ?_ NB187_201.out _;(with_reducible repeat (first|refine blk_drewN ?_ _|refine blk_drew ?_|refine blk_alloc ?_ _));exact BK187.out) Try.underlying38 rfl (by kernel_rfl)) rfl ?_;exact⟨eS,bw3 HB.out GE186.out GE187.out GE201.out⟩
 ·rw [if_neg c2]at H;have c2b0:(a0_0==1)=false:=beq_eq_false_iff_ne.mpr c2;have c2b1:(a0_0 !=1)=true:=bne_iff_ne.mpr c2;have HC25:=Ax H;clear H;go_enter Try.func8,Try.ntmps8;go_upto_region 6 with (first|((with_reducible refine gate_dst (N:=1) rfl ?_);refine box_event ?hg (N:=1) ?hd (cs:= #[.int .u8 a0_0,.string a0_1]) (t:=24) ?hr ?_;(case hd=>rfl);(case hg=>rfl);(case hr=>first|(go_simp;done)|(go_simp;rfl));intro gb186 hg w26 hbox hb;have n0_:=Bs0 HB hb;have n1_:=Ax (hbox);have n2_:=Gw0 HB hg;have n3_:=Gw0 HB hg;clear HB;have HB:=n0_;have BK186:=n1_;have GW186:=n2_;have GE186:=n3_;clear n0_ n1_ n2_ n3_;clear hb hbox hg)|((with_reducible refine gate_dst (N:=2) rfl ?_);refine box_event ?hg (N:=2) ?hd (cs:= #[.int .u8 0,.int .i64 0,.int .u64 0,.int .i64 0,.bool false,.int .u64 0,.int .u64 0,.int .i64 0,.int .u8 0,.int .i64 0,.int .i64 0,.int .i64 0,.int .i64 0]) (t:=38) ?hr ?_;(case hd=>rfl);(case hg=>rfl);(case hr=>first|(go_simp;done)|(go_simp;rfl));intro gb187 hg w27 hbox hb;have n0_:=Bx0 BK186 hb;have n1_:=Bs1 HB hb GE186.out;have n2_:=Ax (hbox);have n3_:=Gw1 HB hg GE186.out;have n4_:=Gw1 HB hg GE186.out;have n5_:=Nl0 BK186 hg;have n6_:=Nr0 BK186 hg;clear BK186;clear HB;have BK186:=n0_;have HB:=n1_;have BK187:=n2_;have GW187:=n3_;have GE187:=n4_;have NB186_187:=n5_;have NB187_186:=n6_;clear n0_ n1_ n2_ n3_ n4_ n5_ n6_;clear hb hbox hg;have hnb28:=NB186_187.out;have hnc28:=NB187_186.out;obtain⟨hcz29_0,hcz29_1,hfz29_0,hfz29_1⟩:=cl2 BK186))
  (try simp only[Act.put,List.setIfInBounds_toArray,List.set_cons_zero,List.set_cons_succ])
  go_cut [21] (fun v21 wc=> ∃ (kq:Nat) (x21_24:Bool),v21= .bool x21_24∧Aside0 (gram_Of.j0 kq x21_24 a0_0 a0_1=some (r1,r2,r3,r4,r5,r6,r7,r8,r9,r10,r11,r12,r13,r14))∧Aside0 (kq≤k)∧Aside0 (wc.heap[gb186]? =some (.cells #[.int .u8 a0_0,.string a0_1] 24 (0,0)))∧Aside0 (wc.heap[gb187]? =some (.cells #[.int .u8 0,.int .i64 0,.int .u64 0,.int .i64 0,.bool false,.int .u64 0,.int .u64 0,.int .i64 0,.int .u8 0,.int .i64 0,.int .i64 0,.int .i64 0,.int .i64 0] 38 (0,0)))∧Aside0 (Below w.heap.size w wc))
  case first=>
   have H:=HC25.out;clear HC25;by_cases c30:a0_0=2
   ·rw [if_pos c30]at H;have c30b0:(a0_0==2)=true:=beq_iff_eq.mpr c30;have c30b1:(a0_0 !=2)=false:=bne_eq_false_iff_eq.mpr c30;clear c30
    (first|rw [c30b0]|(simp only[i64_w,i32_w];rw [c30b0])|skip)
    have H':=Ax H;clear H;have hnb31:=NB186_187.out;have hnc31:=NB187_186.out;obtain⟨hcz32_0,hcz32_1,hfz32_0,hfz32_1⟩:=cl2 BK186;go_wp2;go_meet
    case rel=>exact⟨_,((a0_1.toList==([]:List UInt8))),rS,H',⟨by first|omega|exact Nat.le_refl _⟩,⟨bf0 BK186.out⟩,⟨bf0 BK187.out⟩,⟨bw2 HB.out GE186.out GE187.out⟩⟩
   ·rw [if_neg c30]at H;have c30b0:(a0_0==2)=false:=beq_eq_false_iff_ne.mpr c30;have c30b1:(a0_0 !=2)=true:=bne_iff_ne.mpr c30
    (first|rw [c30b0]|(simp only[i64_w,i32_w];rw [c30b0])|skip)
    have H':=Ax H;clear H;have hnb33:=NB186_187.out;have hnc33:=NB187_186.out;obtain⟨hcz34_0,hcz34_1,hfz34_0,hfz34_1⟩:=cl2 BK186;go_wp2;go_meet
    case rel=>exact⟨_,(false),rS,H',⟨by first|omega|exact Nat.le_refl _⟩,⟨bf0 BK186.out⟩,⟨bf0 BK187.out⟩,⟨bw2 HB.out GE186.out GE187.out⟩⟩
  case rest=>
   clear HC25;(try clear c1);(try clear c2);(try clear c2b0);(try clear c2b1);(try clear p2);(try clear c3);(try clear c4);(try clear c4b0);(try clear c4b1);(try clear c7);(try clear c8);(try clear c11);(try clear c12);(try clear c17);(try clear c20);(try clear c21);(try clear c22);(try clear c28);(try clear c30);(try clear c30b0);(try clear c30b1);(try clear c31);(try clear c33);(try clear hcz13_0);(try clear hcz13_1);(try clear hcz13_10);(try clear hcz13_11);(try clear hcz13_2);(try clear hcz13_3);(try clear hcz13_4);(try clear hcz13_5);(try clear hcz13_6);(try clear hcz13_7);(try clear hcz13_8);(try clear hcz13_9);(try clear hcz14_0);(try clear hcz14_1);(try clear hcz14_10);(try clear hcz14_11);(try clear hcz14_12);(try clear hcz14_2);(try clear hcz14_3);(try clear hcz14_4);(try clear hcz14_5);(try clear hcz14_6);(try clear hcz14_7);(try clear hcz14_8);(try clear hcz14_9);(try clear hcz18_0);(try clear hcz18_1);(try clear hcz23_0);(try clear hcz23_1);(try clear hcz23_10);(try clear hcz23_11);(try clear hcz23_2);(try clear hcz23_3);(try clear hcz23_4);(try clear hcz23_5);(try clear hcz23_6);(try clear hcz23_7);(try clear hcz23_8);(try clear hcz23_9);(try clear hcz24_0);(try clear hcz24_1);(try clear hcz24_10);(try clear hcz24_11);(try clear hcz24_12);(try clear hcz24_2);(try clear hcz24_3);(try clear hcz24_4);(try clear hcz24_5);(try clear hcz24_6);(try clear hcz24_7);(try clear hcz24_8);(try clear hcz24_9);(try clear hcz29_0);(try clear hcz29_1);(try clear hcz32_0);(try clear hcz32_1);(try clear hcz34_0);(try clear hcz34_1);(try clear hcz8_0);(try clear hcz8_1);(try clear hfz13_0);(try clear hfz13_1);(try clear hfz13_10);(try clear hfz13_11);(try clear hfz13_2);(try clear hfz13_3);(try clear hfz13_4);(try clear hfz13_5);(try clear hfz13_6);(try clear hfz13_7);(try clear hfz13_8);(try clear hfz13_9);(try clear hfz14_0);(try clear hfz14_1);(try clear hfz14_10);(try clear hfz14_11);(try clear hfz14_12);(try clear hfz14_2);(try clear hfz14_3);(try clear hfz14_4);(try clear hfz14_5);(try clear hfz14_6);(try clear hfz14_7);(try clear hfz14_8);(try clear hfz14_9);(try clear hfz18_0);(try clear hfz18_1);(try clear hfz23_0);(try clear hfz23_1);(try clear hfz23_10);(try clear hfz23_11);(try clear hfz23_2);(try clear hfz23_3);(try clear hfz23_4);(try clear hfz23_5);(try clear hfz23_6);(try clear hfz23_7);(try clear hfz23_8);(try clear hfz23_9);(try clear hfz24_0);(try clear hfz24_1);(try clear hfz24_10);(try clear hfz24_11);(try clear hfz24_12);(try clear hfz24_2);(try clear hfz24_3);(try clear hfz24_4);(try clear hfz24_5);(try clear hfz24_6);(try clear hfz24_7);(try clear hfz24_8);(try clear hfz24_9);(try clear hfz29_0);(try clear hfz29_1);(try clear hfz32_0);(try clear hfz32_1);(try clear hfz34_0);(try clear hfz34_1);(try clear hfz8_0);(try clear hfz8_1);obtain⟨kq,x21_24,rfl,HA,HJ24,BK186,BK187,HB⟩:=hcut;cases kq with
   |zero=>exact absurd HA.out (by simp [gram_Of.j0])
   |succ kj24=>
    have H:=HA.out;clear HA;simp only[gram_Of.j0]at H;by_cases c35:x21_24=true
    ·subst c35;have H1:(some (0,0,0,0,false,0,0,0,0,0,0,0,7,0))=some (r1,r2,r3,r4,r5,r6,r7,r8,r9,r10,r11,r12,r13,r14):=by rw [if_pos rfl]at H;exact H
     clear H;have H:=H1;clear H1;simp only[Option.some.injEq,Prod.mk.injEq]at H;obtain⟨rfl,rfl,rfl,rfl,rfl,rfl,rfl,rfl,rfl,rfl,rfl,rfl,rfl,rfl⟩:=H;have hnb36:=NB187_186.out;have hnc36:=NB186_187.out;obtain⟨hcz37_0,hcz37_1,hcz37_2,hcz37_3,hcz37_4,hcz37_5,hcz37_6,hcz37_7,hcz37_8,hcz37_9,hcz37_10,hcz37_11,hcz37_12,hfz37_0,hfz37_1,hfz37_2,hfz37_3,hfz37_4,hfz37_5,hfz37_6,hfz37_7,hfz37_8,hfz37_9,hfz37_10,hfz37_11,hfz37_12⟩:=cl13 BK187;go_wp2;refine bodyPost_ret (results_ct rfl _ _ gb187 38 #[.int .u8 0,.int .i64 0,.int .u64 0,.int .i64 0,.bool false,.int .u64 0,.int .u64 0,.int .i64 0,.int .u8 0,.int .i64 0,.int .i64 0,.int .i64 0,.int .i64 7] (0,0) _ rfl (gB BK187.out) Try.underlying38 rfl (by kernel_rfl)) rfl ?_;exact⟨eS,bw2 HB.out GE186.out GE187.out⟩
    ·replace c35:=Bool.eq_false_iff.mpr c35;subst c35;have H1:(if a0_0=3 then (if a0_1.toList=([]:List UInt8) then (some (0,0,0,0,false,0,0,0,0,0,0,0,11,0)) else (some (0,0,0,0,false,0,0,0,0,0,0,0,0,2))) else (some (0,0,0,0,false,0,0,0,0,0,0,0,0,2)))=some (r1,r2,r3,r4,r5,r6,r7,r8,r9,r10,r11,r12,r13,r14):=by rw [if_neg (show ¬ (false=true) by decide)]at H;exact H
     clear H;have H:=H1;clear H1;by_cases c38:a0_0=3
     ·rw [if_pos c38]at H;have c38b0:(a0_0==3)=true:=beq_iff_eq.mpr c38;have c38b1:(a0_0 !=3)=false:=bne_eq_false_iff_eq.mpr c38;clear c38;by_cases c39:a0_1.toList=([]:List UInt8);·rw [if_pos c39]at H;have c39b0:(a0_1.toList==([]:List UInt8))=true:=beq_iff_eq.mpr c39;have c39b1:(a0_1.toList !=([]:List UInt8))=false:=bne_eq_false_iff_eq.mpr c39;clear c39;simp only[Option.some.injEq,Prod.mk.injEq]at H;obtain⟨rfl,rfl,rfl,rfl,rfl,rfl,rfl,rfl,rfl,rfl,rfl,rfl,rfl,rfl⟩:=H;have hnb40:=NB186_187.out;have hnc40:=NB187_186.out;obtain⟨hcz41_0,hcz41_1,hfz41_0,hfz41_1⟩:=cl2 BK186;obtain⟨hcz42_0,hcz42_1,hcz42_2,hcz42_3,hcz42_4,hcz42_5,hcz42_6,hcz42_7,hcz42_8,hcz42_9,hcz42_10,hcz42_11,hcz42_12,hfz42_0,hfz42_1,hfz42_2,hfz42_3,hfz42_4,hfz42_5,hfz42_6,hfz42_7,hfz42_8,hfz42_9,hfz42_10,hfz42_11,hfz42_12⟩:=cl13 BK187;go_wp2;refine bodyPost_ret (results_ct rfl _ _ gb187 38 #[.int .u8 0,.int .i64 0,.int .u64 0,.int .i64 0,.bool false,.int .u64 0,.int .u64 0,.int .i64 0,.int .u8 0,.int .i64 0,.int .i64 0,.int .i64 0,.int .i64 11] (0,0) _ rfl (gB BK187.out) Try.underlying38 rfl (by kernel_rfl)) rfl ?_;exact⟨eS,bw2 HB.out GE186.out GE187.out⟩
      ·rw [if_neg c39]at H;have c39b0:(a0_1.toList==([]:List UInt8))=false:=beq_eq_false_iff_ne.mpr c39;have c39b1:(a0_1.toList !=([]:List UInt8))=true:=bne_iff_ne.mpr c39;simp only[Option.some.injEq,Prod.mk.injEq]at H;obtain⟨rfl,rfl,rfl,rfl,rfl,rfl,rfl,rfl,rfl,rfl,rfl,rfl,rfl,rfl⟩:=H;have hnb43:=NB186_187.out;have hnc43:=NB187_186.out;obtain⟨hcz44_0,hcz44_1,hfz44_0,hfz44_1⟩:=cl2 BK186;obtain⟨hcz45_0,hcz45_1,hcz45_2,hcz45_3,hcz45_4,hcz45_5,hcz45_6,hcz45_7,hcz45_8,hcz45_9,hcz45_10,hcz45_11,hcz45_12,hfz45_0,hfz45_1,hfz45_2,hfz45_3,hfz45_4,hfz45_5,hfz45_6,hfz45_7,hfz45_8,hfz45_9,hfz45_10,hfz45_11,hfz45_12⟩:=cl13 BK187;go_wp2;refine bodyPost_ret (results_ct rfl _ _ gb187 38 #[.int .u8 0,.int .i64 0,.int .u64 0,.int .i64 0,.bool false,.int .u64 0,.int .u64 0,.int .i64 0,.int .u8 0,.int .i64 0,.int .i64 0,.int .i64 0,.int .i64 0] (0,0) _ rfl (gB BK187.out) Try.underlying38 rfl (by kernel_rfl)) rfl ?_;exact⟨eS,bw2 HB.out GE186.out GE187.out⟩
     ·rw [if_neg c38]at H;have c38b0:(a0_0==3)=false:=beq_eq_false_iff_ne.mpr c38;have c38b1:(a0_0 !=3)=true:=bne_iff_ne.mpr c38;simp only[Option.some.injEq,Prod.mk.injEq]at H;obtain⟨rfl,rfl,rfl,rfl,rfl,rfl,rfl,rfl,rfl,rfl,rfl,rfl,rfl,rfl⟩:=H;have hnb46:=NB186_187.out;have hnc46:=NB187_186.out;obtain⟨hcz47_0,hcz47_1,hfz47_0,hfz47_1⟩:=cl2 BK186;obtain⟨hcz48_0,hcz48_1,hcz48_2,hcz48_3,hcz48_4,hcz48_5,hcz48_6,hcz48_7,hcz48_8,hcz48_9,hcz48_10,hcz48_11,hcz48_12,hfz48_0,hfz48_1,hfz48_2,hfz48_3,hfz48_4,hfz48_5,hfz48_6,hfz48_7,hfz48_8,hfz48_9,hfz48_10,hfz48_11,hfz48_12⟩:=cl13 BK187;go_wp2;refine bodyPost_ret (results_ct rfl _ _ gb187 38 #[.int .u8 0,.int .i64 0,.int .u64 0,.int .i64 0,.bool false,.int .u64 0,.int .u64 0,.int .i64 0,.int .u8 0,.int .i64 0,.int .i64 0,.int .i64 0,.int .i64 0] (0,0) _ rfl (gB BK187.out) Try.underlying38 rfl (by kernel_rfl)) rfl ?_;exact⟨eS,bw2 HB.out GE186.out GE187.out⟩
def spoorref12_Same.l0 : Nat → List (S24) → List (S24) → Int → Int → Option (Bool)
 | 0, _, _, _, _ => none
 | k + 1, x0, x1, x12, x13 => if x13 < x12 then (if 0 ≤ x13 then (if x13 < (x0.length : Int) then (if x13 < (x1.length : Int) then (if (!(((rd_T24 x0 x13).f0) == ((rd_T24 x1 x13).f0)) || (!((((rd_T24 x0 x13).f1).toList) == (((rd_T24 x1 x13).f1).toList)))) = true then (some false) else (spoorref12_Same.l0 k x0 x1 x12 (wrap64 (x13 + 1)))) else (none)) else (none)) else (none)) else (some true)
def spoorref12_Same.f (k:Nat) (l0:List (S24)) (l1:List (S24)):Option (Bool):=if (l0.length:Int)=(l1.length:Int) then (spoorref12_Same.l0 k l0 l1 (l0.length:Int) 0) else (some false)
theorem spoorref12_Same.mono_l: ∀ k,(∀ y0 y1 y2 y3,LeO (spoorref12_Same.l0 k y0 y1 y2 y3) (spoorref12_Same.l0 (k+1) y0 y1 y2 y3))
 |0=>fun _ _ _ _ r h=>by simp [spoorref12_Same.l0]at h
 |k+1=>by
  have ih0:=spoorref12_Same.mono_l k
  ·intro y0 y1 y2 y3;unfold spoorref12_Same.l0
   repeat' first
   |(with_reducible exact ih0 _ _ _ _)
   |(with_reducible exact LeO.refl _)
   |(with_reducible exact LeO.none _)
   |(with_reducible refine LeO.ite ?_ ?_)
   |(with_reducible refine LeO.bind ?_ (fun _=>?_))
   |exact ih0 _ _ _ _
   |exact LeO.none _
   |refine LeO.ite ?_ ?_
   |refine LeO.bind ?_ (fun _=>?_)
theorem spoorref12_Same.mono: ∀ a0 a1 k,LeO (spoorref12_Same.f k a0 a1) (spoorref12_Same.f (k+1) a0 a1):=by
 intro a0 a1 k;have ih0:=spoorref12_Same.mono_l k;unfold spoorref12_Same.f
 repeat' first
   | (with_reducible exact ih0 _ _ _ _)
   | (with_reducible exact LeO.refl _)
   | (with_reducible exact LeO.none _)
   | (with_reducible refine LeO.ite ?_ ?_)
   | (with_reducible refine LeO.bind ?_ (fun _ => ?_))
   | exact ih0 _ _ _ _
   | exact LeO.none _
   | refine LeO.ite ?_ ?_
   | refine LeO.bind ?_ (fun _ => ?_)
set_option maxHeartbeats 8000000 in
set_option maxRecDepth 100000 in
theorem spoorref12_Same.calls (k:Nat) (A0:Option Addr) (c0:Nat) (l0:List (S24)) (A1:Option Addr) (c1:Nat) (l1:List (S24)) (r:Bool) (w:World) (hr0:Kd.C k24 w A0 l0.length l0) (hc0:l0.length≤c0) (hr1:Kd.C k24 w A1 l1.length l1) (hc1:l1.length≤c1) (h:spoorref12_Same.f k l0 l1=some r):
  Calls Try.prog 11 #[.slice A0 l0.length c0,.slice A1 l1.length c1] w fun e w'=>e= .returned (.bool r)∧Drawn0 w w':=by
 have hu24:=Try.underlying24;have HR0:=Ax hr0;have HC0:=Ax hc0;clear hr0 hc0;have HR1:=Ax hr1;have HC1:=Ax hc1;clear hr1 hc1;have H:(if (l0.length:Int)=(l1.length:Int) then (spoorref12_Same.l0 k l0 l1 (l0.length:Int) 0) else (some false))=some r:=h;clear h;by_cases c3:(l0.length:Int)=(l1.length:Int)
 ·rw [if_pos c3]at H;have c3b0:((l0.length:Int)==(l1.length:Int))=true:=beq_iff_eq.mpr c3;have c3b1:((l0.length:Int) !=(l1.length:Int))=false:=bne_eq_false_iff_eq.mpr c3;have c3b2:(l0.length==l1.length)=true:=by first|simpa using c3|(simp at c3 ⊢;omega)
  clear c3;have H':=Ax H;clear H;go_enter Try.func11,Try.ntmps11;go_wp2
  repeat (go_quiet (fail);try go_wp2)
  go_loopg [13] k (fun kq v13 w'=> ∃ (x13_1:Int),v13= .int .i64 x13_1∧Aside0 (spoorref12_Same.l0 kq l0 l1 (l0.length:Int) x13_1=some r)∧Aside0 (kq≤k)∧Drawn0 w w')
  case atStart=>exact⟨(0),rS,H',⟨Nat.le_refl _⟩,by repeat (first|exact Drawn0.refl _|apply Drawn0.step)⟩
  case round=>
   clear H';(try clear c1);(try clear p2);(try clear c3);(try clear c3b0);(try clear c3b1);(try clear c3b2);obtain⟨x13_1,rfl,HA,HK1,⟨m1,rfl⟩⟩:=hrel;cases gk with
   |zero=>exact absurd HA.out (by simp [spoorref12_Same.l0])
   |succ k1=>
    have H:=HA.out;clear HA;simp only[spoorref12_Same.l0]at H;by_cases c4:x13_1<(l0.length:Int)
    ·rw [if_pos c4]at H;have c4b0:decide (x13_1<(l0.length:Int))=true:=decide_eq_true c4;clear c4;by_cases c5:0≤x13_1
     ·rw [if_pos c5]at H;have c5b0:decide (0≤x13_1)=true:=decide_eq_true c5;clear c5;by_cases c6:x13_1<(l0.length:Int)
      ·rw [if_pos c6]at H;have c6b0:decide (x13_1<(l0.length:Int))=true:=decide_eq_true c6;clear c6;by_cases c7:x13_1<(l1.length:Int)
       ·rw [if_pos c7]at H;have c7b0:decide (x13_1<(l1.length:Int))=true:=decide_eq_true c7;clear c7;by_cases c8:(!(((rd_T24 l0 x13_1).f0)==((rd_T24 l1 x13_1).f0))||(!((((rd_T24 l0 x13_1).f1).toList)==(((rd_T24 l1 x13_1).f1).toList))))=true
        ·rw [if_pos c8]at H;have c8b0:(!(((rd_T24 l0 x13_1).f0)==((rd_T24 l1 x13_1).f0))||(!((((rd_T24 l0 x13_1).f1).toList)==(((rd_T24 l1 x13_1).f1).toList))))=true:=c8;clear c8;obtain rfl:=Option.some.inj H;have p202:0≤(x13_1:Int):=of_decide_eq_true (by first|(with_reducible assumption)|assumption);have q202:x13_1<(l0.length:Int):=of_decide_eq_true (by first|(with_reducible assumption)|assumption);obtain⟨ad202,e202,hx202_0,hx202_1⟩:=at_T24 HR0.out x13_1 p202 q202;cases e202;replace p202:=eq_true p202;replace q202:=eq_true q202;have p203:0≤(x13_1:Int):=of_decide_eq_true (by first|(with_reducible assumption)|assumption);have q203:x13_1<(l1.length:Int):=of_decide_eq_true (by first|(with_reducible assumption)|assumption);obtain⟨ad203,e203,hx203_0,hx203_1⟩:=at_T24 HR1.out x13_1 p203 q203;cases e203;replace p203:=eq_true p203;replace q203:=eq_true q203;go_wp2
         repeat (go_quiet (fail);try go_wp2)
         go_ret;exact⟨by first|rfl|(simp;done)|(simp [*];done),by repeat (first|exact Drawn0.refl _|apply Drawn0.step)⟩
        ·rw [if_neg c8]at H;have c8b0:(!(((rd_T24 l0 x13_1).f0)==((rd_T24 l1 x13_1).f0))||(!((((rd_T24 l0 x13_1).f1).toList)==(((rd_T24 l1 x13_1).f1).toList))))=false:=by simpa using c8
         clear c8;have H':=Ax H;clear H;have p202:0≤(x13_1:Int):=of_decide_eq_true (by first|(with_reducible assumption)|assumption);have q202:x13_1<(l0.length:Int):=of_decide_eq_true (by first|(with_reducible assumption)|assumption);obtain⟨ad202,e202,hx202_0,hx202_1⟩:=at_T24 HR0.out x13_1 p202 q202;cases e202;replace p202:=eq_true p202;replace q202:=eq_true q202;have p203:0≤(x13_1:Int):=of_decide_eq_true (by first|(with_reducible assumption)|assumption);have q203:x13_1<(l1.length:Int):=of_decide_eq_true (by first|(with_reducible assumption)|assumption);obtain⟨ad203,e203,hx203_0,hx203_1⟩:=at_T24 HR1.out x13_1 p203 q203;cases e203;replace p203:=eq_true p203;replace q203:=eq_true q203;go_wp2
         repeat (go_quiet (fail);try go_wp2)
         go_roundg k1
         case measure=>have:=HK1.out;omega
         case rel=>exact⟨(wrap64 (x13_1+1)),rS,H',⟨by have:=HK1.out;omega⟩,by repeat (first|exact Drawn0.refl _|apply Drawn0.step)⟩
       ·rw [if_neg c7]at H;exact absurd H (by simp)
      ·rw [if_neg c6]at H;exact absurd H (by simp)
     ·rw [if_neg c5]at H;exact absurd H (by simp)
    ·rw [if_neg c4]at H;have c4b0:decide (x13_1<(l0.length:Int))=false:=decide_eq_false c4;clear c4;obtain rfl:=Option.some.inj H;go_wp2
     repeat (go_quiet (fail);try go_wp2)
     go_ret;exact⟨by first|rfl|(simp;done)|(simp [*];done),by repeat (first|exact Drawn0.refl _|apply Drawn0.step)⟩
 ·rw [if_neg c3]at H;have c3b0:((l0.length:Int)==(l1.length:Int))=false:=beq_eq_false_iff_ne.mpr c3;have c3b1:((l0.length:Int) !=(l1.length:Int))=true:=bne_iff_ne.mpr c3;have c3b2:(l0.length==l1.length)=false:=by first|simpa using c3|(simp at c3 ⊢;omega)
  obtain rfl:=Option.some.inj H;go_enter Try.func11,Try.ntmps11;go_wp2
  repeat (go_quiet (fail);try go_wp2)
  go_ret;exact⟨by first|rfl|(simp;done)|(simp [*];done),by repeat (first|exact Drawn0.refl _|apply Drawn0.step)⟩
def stringslite_IndexByte.f (a0:ByteArray) (a1:Int):Option (Int):=some (idxByte a0 a1)
set_option maxHeartbeats 8000000 in
set_option maxRecDepth 100000 in
theorem stringslite_IndexByte.calls (a0:ByteArray) (a1:Int) (r:Int) (w:World) (h:stringslite_IndexByte.f a0 a1=some r):
  Calls Try.prog 71 #[.string a0,.int .u8 a1] w fun e w'=>e= .returned (.int .i64 r)∧Drawn0 w w':=by
 have hn77:=nat77;have H:(some (idxByte a0 a1))=some r:=h;clear h;obtain rfl:=Option.some.inj H;go_enter Try.func71,Try.ntmps71;go_wp2;go_ret;exact⟨by first|rfl|(simp;done)|(simp [*];done),by repeat (first|exact Drawn0.refl _|apply Drawn0.step)⟩
def strings_IndexByte.f (a0:ByteArray) (a1:Int):Option (Int):=(stringslite_IndexByte.f a0 a1).bind fun t204=>(some t204)
set_option maxHeartbeats 8000000 in
set_option maxRecDepth 100000 in
theorem strings_IndexByte.calls (a0:ByteArray) (a1:Int) (r:Int) (w:World) (h:strings_IndexByte.f a0 a1=some r):
  Calls Try.prog 55 #[.string a0,.int .u8 a1] w fun e w'=>e= .returned (.int .i64 r)∧Drawn0 w w':=by
 have H:((stringslite_IndexByte.f a0 a1).bind fun t204=>(some t204))=some r:=h;clear h;replace H:=Option.bind_eq_some_iff.mp H;obtain⟨t204,A30,H⟩:=H;replace H:(some t204)=some r:=H;have A3:=Ax A30;clear A30;obtain rfl:=Option.some.inj H;go_enter Try.func55,Try.ntmps55;go_wp2_with (first|((with_reducible refine gate_callee (f:=71) rfl ?_);refine goesL_ (some 7) rfl rfl Try.func71 (by kernel_rfl) rfl #[.string a0,.int .u8 a1] rfl gS ?_;(with_reducible refine (stringslite_IndexByte.calls a0 a1 t204 _ A3.out).mono ?_);rintro e w' ⟨rfl,⟨nd,rfl⟩⟩;refine⟨_,rfl,?_⟩));go_ret;exact⟨by first|rfl|(simp;done)|(simp [*];done),by repeat (first|exact Drawn0.refl _|apply Drawn0.step)⟩
attribute [local go_sem] Oper.semAt_some
def gbad (s:ByteArray):Int:=if 0≤idxByte s 245 then idxByte s 245 else s.size
theorem bad_is (s:ByteArray) (n:Int) (w:World) (hn:gbad s=n):Calls Try.prog 44 #[.string s] w fun e w'=>e= .returned (.int .i64 n)∧Drawn0 w w':=by
  have HN:=Aside0.mk hn;have A3:Aside0 (strings_IndexByte.f s 245=some (idxByte s 245)):=⟨rfl⟩;unfold gbad at hn;generalize hm:idxByte s 245=m at *;by_cases h:0≤m;·rw [if_pos h]at hn;subst hn;have hd:decide (0≤m)=true:=decide_eq_true h;clear hm HN;go_enter Try.func44,Try.ntmps44;go_wp2_with (go_at_call 55;refine (strings_IndexByte.calls _ _ _ _ A3.out).mono ?_;rintro e w' ⟨rfl,⟨q,rfl⟩⟩);go_ret;exact⟨rfl,⟨q,rfl⟩⟩
  ·rw [if_neg h]at hn;subst hn;have hd:decide (0≤m)=false:=decide_eq_false h;clear hm HN;go_enter Try.func44,Try.ntmps44;go_wp2_with (go_at_call 55;refine (strings_IndexByte.calls _ _ _ _ A3.out).mono ?_;rintro e w' ⟨rfl,⟨q,rfl⟩⟩);go_ret;exact⟨rfl,⟨q,rfl⟩⟩
def gm (s:ByteArray):Int:=Go.bits .or .i64 (wrap64 ((wrap64 (bt s 1)) * 256)) (wrap64 (bt s 2))
def each_u (next : ByteArray → Option (List S24)) (m : Int) (s2 : ByteArray) : Option (List S24) :=
  if ¬ 0 ≤ m then none
  else if m = 0 ∨ 64 < m then (if (s2.size : Int) < m then some [⟨3, ⟨#[]⟩⟩] else (next (s2.extract m.toNat s2.size)).bind fun r => some (⟨3, ⟨#[]⟩⟩ :: r))
  else if m ≤ (s2.size : Int) then (next (s2.extract m.toNat s2.size)).bind fun r => some (⟨1, s2.extract 0 m.toNat⟩ :: r) else some []
def each_t (next : ByteArray → Option (List S24)) (s1 : ByteArray) : Option (List S24) :=
  if (s1.size : Int) < 3 then some [] else each_u next (gm s1) (s1.extract 3 s1.size)
def gram_each.l : Nat → ByteArray → Option (List S24)
  | 0, _ => none
  | k + 1, s => if ¬ (s.size ≤ 4611686018427387904 ∧ gbad s ≤ s.size) then none
    else if 0 < gbad s then (each_t (gram_each.l k) (s.extract (gbad s).toNat s.size)).bind fun r => some (⟨2, ⟨#[]⟩⟩ :: r) else each_t (gram_each.l k) s
def strSz : Value → Nat
  | .string s => s.size
  | _ => 0
def encP (x:S24):Array Value:= #[.agg #[.int .u8 x.f0,.string x.f1]]
set_option maxRecDepth 100000 in
set_option maxHeartbeats 2000000 in
theorem each1_in (n:Nat) (hn:1≤n) (l Bs k:Nat) (s0:ByteArray) (ps:List S24) (hps:gram_each.l k s0=some ps) (J Jx:List S24→World→Prop)
    (hY: ∀ pre x W,J pre W→pre++ [x]<+:ps→YieldAt Fence.wide (n - 1) Try.prog l (encP x) W fun e W'=>
      (e= .returned (.bool true)∧J (pre++ [x]) W'∧True)∨(e= .returned (.bool false)∧Jx (pre++ [x]) W'))
    (hJg: ∀ pre W W',J pre W→W.grownBy W' none→J pre W')
    (W:World) (hBs:W.heap[Bs]? =some (.cells #[.string s0] 9 (0,0))) (h0:J [] W):
    CallsIn Fence.wide n Try.prog 43 #[.func (.yield l) #[] #[],.pointer (some ⟨Bs,0,none⟩)] W fun e W'=>(∃ v,e= .returned v)∧
      ((∃ ys,ys=ps∧J ys W')∨(∃ pre,pre<+:ps∧Jx pre W')):=by
  refine callsIn_of_wp Try.func43 rfl trivial ?_ rfl;simp only[Try.ntmps43,List.size_toArray,List.length_cons,List.length_nil,Nat.reduceAdd,Nat.reduceSub,Array.replicate_succ,Array.replicate_zero,List.push_toArray,List.append_toArray,List.nil_append,List.cons_append];have hBs0:W.cell? ⟨Bs,0,none⟩=some (.string s0):=(blk_cell hBs 0).trans rfl
  gi_wp2
  clear hBs0
  gi_loopw [3] (fun v wr => ∃ (ds : List S24) (s : ByteArray) (kq : Nat) (rest : List S24), v = .string s ∧ Aside0 (gram_each.l kq s = some rest) ∧ Aside0 (ps = ds ++ rest) ∧ J ds wr)
    (fun v _ => strSz v)
  case atStart=>exact⟨[],s0,k,ps,rfl,⟨hps⟩,⟨rfl⟩,h0⟩
  case round=>
    obtain⟨ds,s,kq,rest,rfl,HL,HP,hJ⟩:=hrel;cases kq with
    |zero=>exact absurd HL.out (by simp [gram_each.l])
    |succ kq=>
      have hl:=HL.out;unfold gram_each.l at hl;by_cases hc:s.size≤4611686018427387904∧gbad s≤s.size
      · rw [if_neg (not_not_intro hc)]at hl;obtain⟨hc1,hc2⟩:=hc;obtain⟨m,hm⟩: ∃ m,gbad s=m:=⟨_,rfl⟩;have HM:=Aside0.mk hm;rw [hm]at hl hc2;clear hm;by_cases hn:0<m
        case' pos=>
          rw [if_pos hn]at hl;obtain⟨rest,hu,he⟩:=Option.bind_eq_some_iff.mp hl;obtain rfl:=Option.some.inj he;clear hl he;have hd:decide (0<m)=true:=decide_eq_true hn
          gi_wp2
          refine⟨trivial,?_⟩;refine (callsIn_wide.2 (bad_is _ m _ HM.out)).mono ?_
          rintro e w' ⟨rfl,⟨q,rfl⟩⟩
          obtain⟨fn,tmps,assign,body,hy,hR⟩:=hY ds ⟨2,⟨#[]⟩⟩ (wr.drewN q) (hJg _ _ _ hJ ⟨rfl,rfl,rfl,Nat.le_refl _,fun _ _ _=>rfl⟩) ⟨_,by rw [HP.out,List.append_assoc];rfl⟩;dsimp only[encP]at hy
          gi_wp2
          refine hR.mono ?_
          rintro e W3 (⟨rfl,hJ3,_⟩|⟨rfl,hJx3⟩)
          rotate_left
          ·
            gi_wp2
            refine bodyPost_ret (results_none rfl _ _ _) rfl ?_
            exact ⟨⟨_, rfl⟩, .inr ⟨ds ++ [⟨2, ⟨#[]⟩⟩], ⟨rest, by rw [HP.out]; simp⟩, hJx3⟩⟩
          clear hy hR hJ;replace HP:=Aside0.mk (show ps=(ds++ [⟨2,⟨#[]⟩⟩])++rest by rw [HP.out];simp);have hcm:=eq_true hc2;have h0m':=eq_true (show 0≤m by omega);have hsz:(s.extract m.toNat s.size).size≤s.size:=by simp
          obtain⟨s,he⟩: ∃ s1,s.extract m.toNat s.size=s1:=⟨_,rfl⟩;rw [he]at hu hsz;have HU:=Aside0.mk hu;obtain⟨ds,hds⟩: ∃ ds1,ds++ [⟨2,⟨#[]⟩⟩]=ds1:=⟨_,rfl⟩;rw [hds]at HP hJ3;clear hds hu
        case' neg=>
          rw [if_neg hn]at hl;have HU:=Aside0.mk hl;clear hl;have hd:decide (0<m)=false:=decide_eq_false hn
          gi_wp2
          refine⟨trivial,?_⟩;refine (callsIn_wide.2 (bad_is _ m _ HM.out)).mono ?_
          rintro e w' ⟨rfl,⟨q,rfl⟩⟩
          have hJ3:J ds (wr.drewN q):=hJg _ _ _ hJ ⟨rfl,rfl,rfl,Nat.le_refl _,fun _ _ _=>rfl⟩;generalize wr.drewN q=W3 at hJ3 ⊢;clear hJ;have he:True:=trivial;have hsz:s.size≤s.size:=Nat.le_refl _
        all_goals
          have hu := HU.out
          unfold each_t at hu
          by_cases h3 : (s.size : Int) < 3
          · rw [if_pos h3] at hu
            obtain rfl := Option.some.inj hu
            have hd3 : decide ((s.size : Int) < 3) = true := decide_eq_true h3
            clear hu
            gi_wp2
            refine bodyPost_ret (results_none rfl _ _ _) rfl ?_
            exact ⟨⟨_, rfl⟩, .inl ⟨_, by rw [HP.out]; simp, hJ3⟩⟩
          · rw [if_neg h3] at hu
            have hd3 : decide ((s.size : Int) < 3) = false := decide_eq_false h3
            have q1 : 1 < s.size := by omega
            have q2 : 2 < s.size := by omega
            have qi1 : (1 < (s.size : Int)) = True := eq_true (by omega)
            have qi2 : (2 < (s.size : Int)) = True := eq_true (by omega)
            have hx1 : ∀ h : 1 < s.size, ((s[1]'h).toNat : Int) = bt s 1 := bt_at s 1
            have hx2 : ∀ h : 2 < s.size, ((s[2]'h).toNat : Int) = bt s 2 := bt_at s 2
            have q3i : ((3 : Int) ≤ (s.size : Int)) = True := eq_true (by omega)
            replace q1 := eq_true q1
            replace q2 := eq_true q2
            have HU3 := Aside0.mk hu
            clear hu HU
            gi_wp2
            gi_quiet (fail)
            have hJ4 : J ds (W3.drewN nq) := hJg _ _ _ hJ3 ⟨rfl, rfl, rfl, Nat.le_refl _, fun _ _ _ => rfl⟩
            clear hJ3
            generalize W3.drewN nq = W4 at hJ4 ⊢
            obtain ⟨s2, he2⟩ : ∃ s2, s.extract 3 s.size = s2 := ⟨_, rfl⟩
            obtain ⟨g, hg⟩ : ∃ g, gm s = g := ⟨_, rfl⟩
            have hg' : Go.bits .or .i64 (wrap64 ((wrap64 (bt s 1)) * 256)) (wrap64 (bt s 2)) = g := hg
            have hu := HU3.out
            rw [hg, he2] at hu
            unfold each_u at hu
            have HU2 := Aside0.mk hu
            clear HU3 hu hg
            have hyw : ∀ x : S24, J ds (W4.alloc (.cells #[.int .u8 x.f0, .string x.f1] 24)) := fun x => hJg _ _ _ hJ4 (World.grownBy_alloc _ _ _)
            have hs2 : s2.size ≤ s.size := by rw [← he2]; simp
            by_cases g0 : 0 ≤ g
            case' neg => have hu := HU2.out; rw [if_pos g0] at hu; cases hu
            have hu := HU2.out
            rw [if_neg (not_not_intro g0)] at hu
            clear HU2
            by_cases c1 : g = 0 ∨ 64 < g
            · rw [if_pos c1] at hu
              have HPx : Aside0 (∃ r, rest = ⟨3, ⟨#[]⟩⟩ :: r) := ⟨by
                split at hu
                · exact ⟨_, (Option.some.inj hu).symm⟩
                · obtain ⟨r, _, he⟩ := Option.bind_eq_some_iff.mp hu
                  exact ⟨r, (Option.some.inj he).symm⟩⟩
              have HU2 := Aside0.mk hu
              clear hu
              obtain ⟨fn, tmps, assign, body, hy, hR⟩ := hY ds ⟨3, ⟨#[]⟩⟩ _ (hyw ⟨3, ⟨#[]⟩⟩) (by obtain ⟨r, hr⟩ := HPx.out; exact ⟨r, by rw [HP.out, hr, List.append_assoc]; rfl⟩)
              dsimp only [encP] at hy
              have hq1 : decide ((s2.size : Int) < g) = decide ((s2.size : Int) < g) := rfl
              by_cases c2 : (s2.size : Int) < g
              · have hd4 : decide ((s2.size : Int) < g) = true := decide_eq_true c2
                have hu := HU2.out
                rw [if_pos c2] at hu
                obtain rfl := (Option.some.inj hu).symm
                clear hu HU2
                have hJx0 : True := trivial
                by_cases c3 : g = 0
                · exact absurd c2 (by omega)
                · have hg1 : (g == 0) = false := beq_eq_false_iff_ne.mpr c3
                  have hg2 : decide (64 < g) = true := decide_eq_true (by omega)
                  gi_wp2
                  refine hR.mono ?_
                  rintro e W5 (⟨rfl, hJ5, _⟩ | ⟨rfl, hJx5⟩)
                  · gi_wp2
                    refine bodyPost_ret (results_none rfl _ _ _) rfl ?_
                    exact ⟨⟨_, rfl⟩, .inl ⟨_, HP.out.symm, hJ5⟩⟩
                  · gi_wp2
                    refine bodyPost_ret (results_none rfl _ _ _) rfl ?_
                    exact ⟨⟨_, rfl⟩, .inr ⟨_, ⟨[], by rw [HP.out]; simp⟩, hJx5⟩⟩
              · have hd4 : decide ((s2.size : Int) < g) = false := decide_eq_false c2
                have hu := HU2.out
                rw [if_neg c2] at hu
                obtain ⟨r, hu', he⟩ := Option.bind_eq_some_iff.mp hu
                obtain rfl := (Option.some.inj he).symm
                have HU4 := Aside0.mk hu'
                clear hu hu' HU2 HPx he
                have hgp := eq_true g0
                have hgl : (g ≤ (s2.size : Int)) = True := eq_true (by omega)
                have H5 : Aside0 (g = 0 ∨ 64 < g) := ⟨c1⟩
                have hG : Aside0 (0 ≤ g ∧ g ≤ s2.size) := ⟨g0, by omega⟩
                have Hs2 := Aside0.mk he2
                have hss : Aside0 (s2.size + 3 ≤ s.size ∨ s2.size + 3 = s.size) := ⟨.inl (by rw [← he2]; simp; omega)⟩
                skip
                by_cases c3 : g = 0
                case' pos =>
                  have hg1 : (g == 0) = true := beq_iff_eq.mpr c3
                  have HC3 := Aside0.mk c3
                  clear c3 c1
                case' neg =>
                  have hg1 : (g == 0) = false := beq_eq_false_iff_ne.mpr c3
                  have hg2 : decide (64 < g) = true := decide_eq_true (by omega)
                  clear c3 c1
                all_goals
                  gi_wp2
                  refine hR.mono ?_
                  rintro e W5 (⟨rfl, hJ5, _⟩ | ⟨rfl, hJx5⟩)
                  · gi_wp2
                    go_roundw
                    case rel => exact ⟨_, _, kq, r, rfl, HU4, ⟨by rw [HP.out]; simp⟩, hJ5⟩
                    case measure => have := hss.out; simp [strSz]; omega
                  · gi_wp2
                    refine bodyPost_ret (results_none rfl _ _ _) rfl ?_
                    exact ⟨⟨_, rfl⟩, .inr ⟨_, ⟨r, by rw [HP.out]; simp⟩, hJx5⟩⟩
            · rw [if_neg c1] at hu
              have hg1 : (g == 0) = false := beq_eq_false_iff_ne.mpr (by omega)
              have hg2 : decide (64 < g) = false := decide_eq_false (by omega)
              by_cases c2 : g ≤ (s2.size : Int)
              · rw [if_pos c2] at hu
                obtain ⟨r, hu', he⟩ := Option.bind_eq_some_iff.mp hu
                obtain rfl := (Option.some.inj he).symm
                have HU4 := Aside0.mk hu'
                clear hu hu' he
                have hd4 : decide ((s2.size : Int) < g) = false := decide_eq_false (by omega)
                have hd5 : decide (g ≤ (s2.size : Int)) = true := decide_eq_true c2
                have hss : Aside0 (s2.size + 3 ≤ s.size) := ⟨by rw [← he2]; simp; omega⟩
                have hG : Aside0 (0 < g ∧ g ≤ s2.size) := ⟨by omega⟩
                obtain ⟨fn, tmps, assign, body, hy, hR⟩ := hY ds ⟨1, s2.extract 0 g.toNat⟩ _ (hyw ⟨1, s2.extract 0 g.toNat⟩) ⟨_, by rw [HP.out, List.append_assoc]; rfl⟩
                dsimp only [encP] at hy
                have hgp := eq_true g0
                have hgl := eq_true c2
                clear c1 c2 g0
                gi_wp2
                refine hR.mono ?_
                rintro e W5 (⟨rfl, hJ5, _⟩ | ⟨rfl, hJx5⟩)
                · gi_wp2
                  go_roundw
                  case rel => exact ⟨_, _, kq, r, rfl, HU4, ⟨by rw [HP.out]; simp⟩, hJ5⟩
                  case measure => have := hss.out; have := hG.out; simp [strSz]; omega
                · gi_wp2
                  refine bodyPost_ret (results_none rfl _ _ _) rfl ?_
                  exact ⟨⟨_, rfl⟩, .inr ⟨_, ⟨r, by rw [HP.out]; simp⟩, hJx5⟩⟩
              · rw [if_neg c2] at hu
                obtain rfl := (Option.some.inj hu).symm
                clear hu
                have hd5 : decide (g ≤ (s2.size : Int)) = false := decide_eq_false c2
                clear c1 c2
                gi_wp2
                refine bodyPost_ret (results_none rfl _ _ _) rfl ?_
                exact ⟨⟨_, rfl⟩, .inl ⟨_, by rw [HP.out]; simp, hyw ⟨1, ⟨#[]⟩⟩⟩⟩
      ·rw [if_pos hc]at hl;cases hl
theorem each_u_mono {f g:ByteArray→Option (List S24)} (h: ∀ s,LeO (f s) (g s)) (m:Int) (s:ByteArray):LeO (each_u f m s) (each_u g m s):=by
  unfold each_u
  repeat' first
    | (with_reducible exact h _)
    | (with_reducible exact LeO.refl _)
    | (with_reducible exact LeO.none _)
    | (with_reducible refine LeO.ite ?_ ?_)
    | (with_reducible refine LeO.bind ?_ (fun _ => ?_))
theorem each_t_mono {f g:ByteArray→Option (List S24)} (h: ∀ s,LeO (f s) (g s)) (s:ByteArray):LeO (each_t f s) (each_t g s):=by
  unfold each_t
  repeat' first
    | (with_reducible exact each_u_mono h _ _)
    | (with_reducible exact LeO.refl _)
    | (with_reducible refine LeO.ite ?_ ?_)
theorem gram_each.l_mono: ∀ k s,LeO (gram_each.l k s) (gram_each.l (k+1) s)
  |0,_=>fun r h=>by simp [gram_each.l]at h
  |k+1,s=>by
    have ih:=gram_each.l_mono k;unfold gram_each.l
    repeat' first
      | (with_reducible exact each_t_mono ih _)
      | (with_reducible exact LeO.refl _)
      | (with_reducible exact LeO.none _)
      | (with_reducible refine LeO.ite ?_ ?_)
      | (with_reducible refine LeO.bind ?_ (fun _ => ?_))
theorem R_append_in {F:Fence}{n:Nat}{P:Program}{ops:Array Oper}{rest:List Oper}{o:Oper}{a:Act}{Q:Exit→Act→World→Prop}{α:Type} (d:Kd α) {w0 W:World} (base:Nat) (hgd:o.guard=none) (s x:Operand) (t e:TypeId) (z:Value) (bytes:Nat)
    (ho:o.op= .call {callee:=.builtin .append,args:= #[s,x],argTypes:= #[t,t]})
    (ht:P.underlying t=some (.slice e)) (hinfo:(P.info? e).map (fun i=>(i.zero,i.size,i.bytes))=some (some z,d.sz,bytes)) (hz:z.cells.size=d.sz) (hs0:0<d.sz) (hb0:0<bytes)
    (v:Value) (xs:List α) (p:α) (cs:List Value) (ok okp:Nat→Prop) (hs:a.eval s=v) (hx:a.eval x= .slice (some ⟨W.heap.size,0,none⟩) 1 1) (hp:d.M W base okp p cs) (hokp: ∀ k,okp k→ok k∧some k≠v.ownBlock) (hfresh: ∀ k,W.heap.size≤k→ok k)
    (HO:d.R e W base ok v xs) (HB:Below base w0 W) (hbase:base≤W.heap.size) (hl:(xs.length+1) * bytes≤140737488355328)
    (h: ∀ v1 w1,d.R e w1 base ok v1 (xs++ [p])→Below base w0 w1→W.grownBy w1 v.ownBlock→(v1.ownBlock=v.ownBlock∨ ∃ b,v1.ownBlock=some b∧W.heap.size≤b)→wpListIn F n P ops Q rest (a.put o.dst v1) w1):
    wpListIn F n P ops Q (o :: rest) a (W.alloc (.cells cs.toArray e)):=by
  obtain⟨h0,inner,hown,hr⟩:=HO;obtain⟨i0,hi,hzz⟩:=Option.map_eq_some_iff.1 hinfo;simp only[Prod.mk.injEq]at hzz;obtain⟨hz0,hz1,hz2⟩:=hzz;have hys:cs.length=d.sz:=d.K_len (d.K_of_M hp);have hlen:xs.length+1≤140737488355328:=Nat.le_trans (Nat.le_mul_of_pos_right _ hb0) hl;refine wpListIn_plain hgd fun K hK'=>?_
  obtain ⟨v', w', hrun, r1, r2, _, r4⟩ := run_append_own_at (P := P) (w := W.alloc (.cells cs.toArray e)) base t o.type e i0 z d.sz bytes ht hi hz0 hz1 hz2 hz hs0 v xs.length inner (hown.alloc _) ⟨W.heap.size, 0, none⟩ 1 1 cs (by rw [hys]; simp)
    (by simpa using World.news_of_block (cs := cs.toArray) (t := e) (fr := (0, 0)) (heap_alloc_new W (.cells cs.toArray e))) (d.K_one (d.K_of_M hp)) (by simp only [maxLen]; omega) hl (by simp; omega)
  have hg1:W.grownBy w' v.ownBlock:=World.grownBy.trans (World.grownBy_alloc W _ _) r2
  have hat:v'.ownBlock=v.ownBlock∨ ∃ b,v'.ownBlock=some b∧W.heap.size≤b:=by
    rcases r4 with r4|r4
    · exact .inl r4
    · exact .inr ⟨_,r4,by simp⟩
  have hfin:=h v' w' (Kd.R_appended h0 hr hp hokp hfresh r1 hg1 hat) ((HB.alloc hbase _).grown r2 (by simp;omega) (own_base hown)) hg1 hat;unfold Oper.wpIn;refine⟨?_,?_⟩
  · simp [Oper.about,ho,resolve,Target.leads,Sem.run_pure]
  ·rw [Oper.semAt_plain F _ _ (by rw [ho];intro c hc';cases hc')];simp [execOp,ho,resolve,invoke,builtin,hs,hx,hrun,Result.andThen];exact hK' _ _ hfin
theorem each_in (n:Nat) (s:ByteArray) (w:World):
    CallsIn Fence.wide n Try.prog 22 #[.string s] w fun e w'=>e= .returned (.func (.func 43) #[] #[.pointer (some ⟨w.heap.size,0,none⟩)])∧w'=w.alloc (.cells #[.string s] 9):=by
  refine callsIn_of_wp Try.func22 rfl trivial ?_ rfl;simp only[Try.ntmps22,List.size_toArray,List.length_cons,List.length_nil,Nat.reduceAdd,Nat.reduceSub,Array.replicate_succ,Array.replicate_zero,List.push_toArray,List.append_toArray,List.nil_append,List.cons_append]
  gi_wp2
  go_ret;exact⟨rfl,rfl⟩
theorem each_stops (n : Nat) (hn : 1 ≤ n) (Bs k : Nat) (s : ByteArray) (ps : List S24) (hps : gram_each.l k s = some ps) (w : World) (hBs : w.heap[Bs]? = some (.cells #[.string s] 9 (0, 0))) :
    SeqStopsK Fence.wide n Try.prog 43 #[.pointer (some ⟨Bs, 0, none⟩)] encP (fun _ _ => True) (fun ys => ys = ps) (fun pre => pre <+: ps) ps.length w :=
  fun l J Jx W hW hJ _ hY h0 => each1_in n hn l Bs k s ps hps J Jx (fun pre x W hj hp => hY pre x W hj (by have := hp.length_le; simp at this; omega)) (fun _ _ _ h hg => hJ _ _ _ none h hg (fun _ e => by cases e)) W (blk_below hBs hW) h0
theorem own_grown {α:Type}{d:Kd α}{e N base:Nat}{ok:Nat→Prop}{W W':World}{v:Value}{xs:List α}{row:Option Nat} (h:Kd.R d e W base ok v xs) (hg:W.grownBy W' row) (hr: ∀ r,row=some r→N≤r∧ ∃ o:Obj,W.heap[r]? =some o∧o.isCells=false):Kd.R d e W' base ok v xs:=by
  refine Kd.R_mono (Kd.R_grown (Kd.R_bound h) hg (fun k hk e=>?_)) (fun k hk=>hk.1);obtain⟨_,_,_,q,_,cells,hc⟩:=hk;obtain⟨_,o,ho,hf⟩:=hr k e.symm;rw [hc]at ho;cases ho;cases hf
theorem blk_grown_ {W W':World}{row:Option Nat}{N B t:Nat}{cs:Array Value}{fr:Nat × Nat} (h:W.heap[B]? =some (.cells cs t fr)) (hg:W.grownBy W' row) (hr: ∀ r,row=some r→N≤r∧ ∃ o:Obj,W.heap[r]? =some o∧o.isCells=false):W'.heap[B]? =some (.cells cs t fr):=
  (hg.block B (blk_lt h) (fun e=>by
    obtain⟨_,o,ho,hc⟩:=hr B e.symm;rw [h]at ho;cases ho
    cases hc)).trans h
def gram_Pieces.f (k:Nat) (a0:ByteArray):Option ((List (S24))):=(gram_each.l k a0).bind fun ps=>if ps.length * 24≤140737488355328 then some ps else none
theorem gram_Pieces.mono: ∀ a0 k,LeO (gram_Pieces.f k a0) (gram_Pieces.f (k+1) a0):=by
  intro a0 k;unfold gram_Pieces.f
  repeat' first
    | (with_reducible exact gram_each.l_mono _ _)
    | (with_reducible exact LeO.refl _)
    | (with_reducible refine LeO.bind ?_ (fun _ => ?_))
set_option maxRecDepth 100000 in
set_option maxHeartbeats 2000000 in
theorem gram_Pieces.walk (k:Nat) (a0:ByteArray) (w:World) (r:List S24) (h:gram_Pieces.f k a0=some r):
    Calls Try.prog 12 #[.string a0] w fun e w'=> ∃ v0_:Value,e= .returned v0_∧Kd.R k24 24 w' w.heap.size (fun _=>True) v0_ r∧Below w.heap.size w w':=by
  refine (callsIn_wide (n:=4)).1 ?_;obtain⟨ps,hps,h⟩:=Option.bind_eq_some_iff.mp h;by_cases hlen:ps.length * 24≤140737488355328
  case neg=>rw [if_neg hlen]at h;cases h
  rw [if_pos hlen]at h;obtain rfl:=Option.some.inj h;have HPS:=Aside0.mk hps;have HLEN:=Aside0.mk hlen;clear h hps hlen;refine callsIn_of_wp_marks Try.func12 rfl trivial ?_ rfl;simp only[Try.ntmps12,List.size_toArray,List.length_cons,List.length_nil,Nat.reduceAdd,Nat.reduceSub,Array.replicate_succ,Array.replicate_zero,List.push_toArray,List.append_toArray,List.nil_append,List.cons_append]
  gi_wp2
  refine⟨trivial,?_⟩;refine (each_in _ _ _).mono ?_
  rintro e w' ⟨rfl,rfl⟩
  gi_wp2
  have oB:Boxed ((w.alloc (.cells #[.slice none 0 0] 43)).alloc (.cells #[.string a0] 9)) w.heap.size 43 (.slice none 0 0):=(Boxed.new w 43 (.slice none 0 0)).alloc _
  have sB:((w.alloc (.cells #[.slice none 0 0] 43)).alloc (.cells #[.string a0] 9)).heap[w.heap.size+1]? =some (.cells #[.string a0] 9 (0,0)):=by
    have:=heap_alloc_new (w.alloc (.cells #[.slice none 0 0] 43)) (.cells #[.string a0] 9)
    rwa [World.size_alloc]at this
  have hb2:Below w.heap.size w ((w.alloc (.cells #[.slice none 0 0] 43)).alloc (.cells #[.string a0] 9)):=below_alloc (below_alloc (Below.refl _ w) _) _;have hsz2:((w.alloc (.cells #[.slice none 0 0] 43)).alloc (.cells #[.string a0] 9)).heap.size=w.heap.size+1+1:=by simp
  generalize ((w.alloc (.cells #[.slice none 0 0] 43)).alloc (.cells #[.string a0] 9))=W2 at oB sB hb2 hsz2 ⊢
  refine wpIn_rangeFunc_ownH rfl (by omega) (gf := 43) (lb := #[.pointer (some ⟨w.heap.size + 1, 0, none⟩)]) rfl trivial (enters_of Try.func43 (by kernel_rfl) rfl)
    (each_stops 3 (by omega) (w.heap.size + 1) k a0 ps HPS.out W2 sB) (fun _ _ => trivial) (fun _ _ _ _ _ _ _ _ => trivial) (Below.refl _ _) (fun _ => rfl)
    (fun pre W => (∃ v, Boxed W w.heap.size 43 v ∧ Kd.R k24 24 W w.heap.size (fun k => k ≠ w.heap.size) v pre) ∧ Below w.heap.size w W ∧ W2.heap.size ≤ W.heap.size)
    (fun _ _ _ => False)
    (fun s A B row ⟨⟨v, h1, h2⟩, h3, h4⟩ hg hr => ⟨⟨v, blk_grown_ h1 hg hr, own_grown h2 hg hr⟩, h3.grown hg h3.size (fun k e => by have := (hr k e).1; omega), Nat.le_trans h4 hg.size⟩)
    (fun _ _ _ _ _ hs _ _ => hs)
    ⟨⟨_, oB, Kd.R_nil _ _ _ _ _⟩, hb2, Nat.le_refl _⟩
    (fun x a' W => ∃ Bx, W2.heap.size ≤ Bx ∧ W.heap[Bx]? = some (.cells #[.int .u8 x.f0, .string x.f1] 24 (0, 0)) ∧ a' = { tmps := #[.string a0, undef, .slice none 0 0, .pointer (some ⟨w.heap.size, 0, none⟩), .pointer (some ⟨Bx, 0, none⟩), .string a0, .func (.func 43) #[] #[.pointer (some ⟨w.heap.size + 1, 0, none⟩)], .agg #[.int .u8 x.f0, .string x.f1], undef, undef, undef, undef, undef], defers := [] })
    (fun x a' _ A B row ⟨Bx, h1, h2, h3⟩ hg hr => ⟨Bx, h1, blk_grown_ h2 hg hr, h3⟩) ?assign ?body ?done ?stop
  case assign=>
    rintro l pre x W K ⟨⟨v,h1,h2⟩,h3,h4⟩ hK
    dsimp only[encP]
    gi_wp2
    refine hK _ _ ((KeepsOthers.alloc _ _).from _) trivial ⟨⟨v,h1.alloc _,Kd.R_alloc h2 _⟩,below_alloc h3 _,by rw [World.size_alloc];omega⟩ ⟨W.heap.size,h4,heap_alloc_new _ _,rfl⟩
  case body=>
    rintro l pre x a' W hl hr ⟨⟨v,hv,hrow⟩,hb,hsz⟩ ⟨Bx,hBx,hx,rfl⟩ hlt
    have hc:=hv.cell;have hc0:W.cell? ⟨Bx,0,none⟩=some (.int .u8 x.f0):=(blk_cell hx 0).trans rfl;have hc1:W.cell? ⟨Bx,1,none⟩=some (.string x.f1):=(blk_cell hx 1).trans rfl;have HL:Aside0 ((pre.length+1) * 24≤140737488355328):=⟨by have:=HLEN.out;omega⟩
    gi_wp2_with (gi_at_builtin;refine R_append_in k24 (w0:=w) w.heap.size rfl (.tmp 8) (.tmp 10) 43 24 (.agg #[(.int .u8 0),(.string ⟨#[]⟩)]) 24 rfl Try.underlying43 info24 rfl (by decide) (by omega) v pre x [.int .u8 x.f0,.string x.f1] (fun k_=>k_≠w.heap.size) (fun _=>False) rfl rfl (k24_mkM _ _ _ _) (fun _ hk=>hk.elim) ?aF hrow hb hb.size HL.out ?_;(case aF=>intro k_ hk_ he_;subst he_;exact absurd (blk_lt hv) (Nat.not_lt.2 hk_));intro v1 w1 ho1 hb1 hg1 hat1;obtain⟨A1,c1,rfl⟩:=Kd.R_slice ho1;have hv1:Boxed w1 w.heap.size 43 v:=blk_grown hv hg1 (Kd.R_away hrow (fun _ hk=>hk));have hcv1:=hv1.cell;have hfv1:=hv1.frozen)
    refine⟨((KeepsOthers.of_grownBy hg1 (fun j o hj ho=>?_)).trans (KeepsOthers.setCell _ _ _)).from _,trivial,⟨_,Boxed.set _ hv1,by simpa using Kd.R_far ho1 (p:=⟨w.heap.size,0,none⟩) (fun _ hk=>hk) (.slice A1 (pre.length+1) c1)⟩,hb1.setCell (p:=⟨w.heap.size,0,none⟩) (Nat.le_refl _) _,Nat.le_trans hsz (Nat.le_trans hg1.size (Nat.le_of_eq (World.size_setCell _ _ _).symm))⟩;obtain⟨inner,hown⟩:=Kd.R_own hrow;obtain⟨cells,hcs⟩:=own_typed hown j hj;rw [hcs]at ho;cases ho;rfl
  case done=>
    rintro D xs W hD rfl ⟨⟨v,hv,hrow⟩,hb,hsz⟩ hDd
    obtain⟨A,c,rfl⟩:=Kd.R_slice hrow;have hc:=hv.cell
    gi_wp2
    refine⟨by simp,.inl ⟨_,_,rfl,run_takeDeferred hDd,?_⟩⟩;have hgr:=grownBy_putObj' W D (.deferred none);have hrr: ∀ r,some D=some r→w.heap.size≤r∧ ∃ o:Obj,W.heap[r]? =some o∧o.isCells=false:=fun r e=>by cases e;exact⟨by omega,_,hDd,rfl⟩
    exact⟨_,results_tmp rfl _ _ _,_,rfl,Kd.R_mono (own_grown hrow hgr hrr) (fun _ _=>trivial),hb.grown hgr hb.size (fun k e=>(hrr k e).1)⟩
  case stop=>
    rintro D c pre W _ _ h _
    exact h.elim
theorem gram_Pieces.calls (k:Nat) (a0:ByteArray) (r:List (S24)) (w:World) (h:gram_Pieces.f k a0=some r):
    Calls Try.prog 12 #[.string a0] w fun e w'=> ∃ v0_:Value,e= .returned (v0_)∧Kd.R k24 24 w' w.heap.size (fun _=>True) v0_ r∧Below w.heap.size w w':=by
  refine (gram_Pieces.walk k a0 w r h).mono ?_
  rintro e w' ⟨v,he,ho,hb⟩
  exact⟨v,he,ho,hb⟩
def spoorref13_Same.l0 : Nat → List (S38) → List (S38) → Int → Int → Option (Bool)
 | 0, _, _, _, _ => none
 | k + 1, x0, x1, x12, x13 => if x13 < x12 then (if 0 ≤ x13 then (if x13 < (x0.length : Int) then (if x13 < (x1.length : Int) then (if ((!(((rd_T38 x0 x13).f0.f0) == ((rd_T38 x1 x13).f0.f0)) || (!(((rd_T38 x0 x13).f0.f1) == ((rd_T38 x1 x13).f0.f1)) || (!(((rd_T38 x0 x13).f0.f2) == ((rd_T38 x1 x13).f0.f2)) || (!(((rd_T38 x0 x13).f0.f3) == ((rd_T38 x1 x13).f0.f3)) || ((!(((rd_T38 x0 x13).f0.f4.f0) == ((rd_T38 x1 x13).f0.f4.f0)) || ((!(((rd_T38 x0 x13).f0.f4.f1.f0) == ((rd_T38 x1 x13).f0.f4.f1.f0)) || (!(((rd_T38 x0 x13).f0.f4.f1.f1) == ((rd_T38 x1 x13).f0.f4.f1.f1)))) || (!(((rd_T38 x0 x13).f0.f4.f2) == ((rd_T38 x1 x13).f0.f4.f2))))) || ((!(((rd_T38 x0 x13).f0.f5.f0) == ((rd_T38 x1 x13).f0.f5.f0)) || (!(((rd_T38 x0 x13).f0.f5.f1) == ((rd_T38 x1 x13).f0.f5.f1)))) || (!(((rd_T38 x0 x13).f0.f6) == ((rd_T38 x1 x13).f0.f6)) || (!(((rd_T38 x0 x13).f0.f7) == ((rd_T38 x1 x13).f0.f7)))))))))) || (!(((rd_T38 x0 x13).f1) == ((rd_T38 x1 x13).f1)))) = true then (some false) else (spoorref13_Same.l0 k x0 x1 x12 (wrap64 (x13 + 1)))) else (none)) else (none)) else (none)) else (some true)
def spoorref13_Same.f (k:Nat) (l0:List (S38)) (l1:List (S38)):Option (Bool):=if (l0.length:Int)=(l1.length:Int) then (spoorref13_Same.l0 k l0 l1 (l0.length:Int) 0) else (some false)
theorem spoorref13_Same.mono_l: ∀ k,(∀ y0 y1 y2 y3,LeO (spoorref13_Same.l0 k y0 y1 y2 y3) (spoorref13_Same.l0 (k+1) y0 y1 y2 y3))
 |0=>fun _ _ _ _ r h=>by simp [spoorref13_Same.l0]at h
 |k+1=>by
  have ih0:=spoorref13_Same.mono_l k
  ·intro y0 y1 y2 y3;unfold spoorref13_Same.l0
   repeat' first
   |(with_reducible exact ih0 _ _ _ _)
   |(with_reducible exact LeO.refl _)
   |(with_reducible exact LeO.none _)
   |(with_reducible refine LeO.ite ?_ ?_)
   |(with_reducible refine LeO.bind ?_ (fun _=>?_))
   |exact ih0 _ _ _ _
   |exact LeO.none _
   |refine LeO.ite ?_ ?_
   |refine LeO.bind ?_ (fun _=>?_)
theorem spoorref13_Same.mono: ∀ a0 a1 k,LeO (spoorref13_Same.f k a0 a1) (spoorref13_Same.f (k+1) a0 a1):=by
 intro a0 a1 k;have ih0:=spoorref13_Same.mono_l k;unfold spoorref13_Same.f
 repeat' first
   | (with_reducible exact ih0 _ _ _ _)
   | (with_reducible exact LeO.refl _)
   | (with_reducible exact LeO.none _)
   | (with_reducible refine LeO.ite ?_ ?_)
   | (with_reducible refine LeO.bind ?_ (fun _ => ?_))
   | exact ih0 _ _ _ _
   | exact LeO.none _
   | refine LeO.ite ?_ ?_
   | refine LeO.bind ?_ (fun _ => ?_)
set_option maxHeartbeats 8000000 in
set_option maxRecDepth 100000 in
theorem spoorref13_Same.calls (k:Nat) (A0:Option Addr) (c0:Nat) (l0:List (S38)) (A1:Option Addr) (c1:Nat) (l1:List (S38)) (r:Bool) (w:World) (hr0:Kd.C k38 w A0 l0.length l0) (hc0:l0.length≤c0) (hr1:Kd.C k38 w A1 l1.length l1) (hc1:l1.length≤c1) (h:spoorref13_Same.f k l0 l1=some r):
  Calls Try.prog 14 #[.slice A0 l0.length c0,.slice A1 l1.length c1] w fun e w'=>e= .returned (.bool r)∧Drawn0 w w':=by
 have hu38:=Try.underlying38;have HR0:=Ax hr0;have HC0:=Ax hc0;clear hr0 hc0;have HR1:=Ax hr1;have HC1:=Ax hc1;clear hr1 hc1;have H:(if (l0.length:Int)=(l1.length:Int) then (spoorref13_Same.l0 k l0 l1 (l0.length:Int) 0) else (some false))=some r:=h;clear h;by_cases c3:(l0.length:Int)=(l1.length:Int)
 ·rw [if_pos c3]at H;have c3b0:((l0.length:Int)==(l1.length:Int))=true:=beq_iff_eq.mpr c3;have c3b1:((l0.length:Int) !=(l1.length:Int))=false:=bne_eq_false_iff_eq.mpr c3;have c3b2:(l0.length==l1.length)=true:=by first|simpa using c3|(simp at c3 ⊢;omega)
  clear c3;have H':=Ax H;clear H;go_enter Try.func14,Try.ntmps14;go_wp2
  repeat (go_quiet (fail);try go_wp2)
  go_loopg [13] k (fun kq v13 w'=> ∃ (x13_1:Int),v13= .int .i64 x13_1∧Aside0 (spoorref13_Same.l0 kq l0 l1 (l0.length:Int) x13_1=some r)∧Aside0 (kq≤k)∧Drawn0 w w')
  case atStart=>exact⟨(0),rS,H',⟨Nat.le_refl _⟩,by repeat (first|exact Drawn0.refl _|apply Drawn0.step)⟩
  case round=>
   clear H';(try clear c1);(try clear p2);(try clear c3);(try clear c3b0);(try clear c3b1);(try clear c3b2);obtain⟨x13_1,rfl,HA,HK1,⟨m1,rfl⟩⟩:=hrel;cases gk with
   |zero=>exact absurd HA.out (by simp [spoorref13_Same.l0])
   |succ k1=>
    have H:=HA.out;clear HA;simp only[spoorref13_Same.l0]at H;by_cases c4:x13_1<(l0.length:Int)
    ·rw [if_pos c4]at H;have c4b0:decide (x13_1<(l0.length:Int))=true:=decide_eq_true c4;clear c4;by_cases c5:0≤x13_1
     ·rw [if_pos c5]at H;have c5b0:decide (0≤x13_1)=true:=decide_eq_true c5;clear c5;by_cases c6:x13_1<(l0.length:Int)
      ·rw [if_pos c6]at H;have c6b0:decide (x13_1<(l0.length:Int))=true:=decide_eq_true c6;clear c6;by_cases c7:x13_1<(l1.length:Int)
       ·rw [if_pos c7]at H;have c7b0:decide (x13_1<(l1.length:Int))=true:=decide_eq_true c7;clear c7;by_cases c8:((!(((rd_T38 l0 x13_1).f0.f0)==((rd_T38 l1 x13_1).f0.f0))||(!(((rd_T38 l0 x13_1).f0.f1)==((rd_T38 l1 x13_1).f0.f1))||(!(((rd_T38 l0 x13_1).f0.f2)==((rd_T38 l1 x13_1).f0.f2))||(!(((rd_T38 l0 x13_1).f0.f3)==((rd_T38 l1 x13_1).f0.f3))||((!(((rd_T38 l0 x13_1).f0.f4.f0)==((rd_T38 l1 x13_1).f0.f4.f0))||((!(((rd_T38 l0 x13_1).f0.f4.f1.f0)==((rd_T38 l1 x13_1).f0.f4.f1.f0))||(!(((rd_T38 l0 x13_1).f0.f4.f1.f1)==((rd_T38 l1 x13_1).f0.f4.f1.f1))))||(!(((rd_T38 l0 x13_1).f0.f4.f2)==((rd_T38 l1 x13_1).f0.f4.f2)))))||((!(((rd_T38 l0 x13_1).f0.f5.f0)==((rd_T38 l1 x13_1).f0.f5.f0))||(!(((rd_T38 l0 x13_1).f0.f5.f1)==((rd_T38 l1 x13_1).f0.f5.f1))))||(!(((rd_T38 l0 x13_1).f0.f6)==((rd_T38 l1 x13_1).f0.f6))||(!(((rd_T38 l0 x13_1).f0.f7)==((rd_T38 l1 x13_1).f0.f7))))))))))||(!(((rd_T38 l0 x13_1).f1)==((rd_T38 l1 x13_1).f1))))=true
        ·rw [if_pos c8]at H;have c8b0:((!(((rd_T38 l0 x13_1).f0.f0)==((rd_T38 l1 x13_1).f0.f0))||(!(((rd_T38 l0 x13_1).f0.f1)==((rd_T38 l1 x13_1).f0.f1))||(!(((rd_T38 l0 x13_1).f0.f2)==((rd_T38 l1 x13_1).f0.f2))||(!(((rd_T38 l0 x13_1).f0.f3)==((rd_T38 l1 x13_1).f0.f3))||((!(((rd_T38 l0 x13_1).f0.f4.f0)==((rd_T38 l1 x13_1).f0.f4.f0))||((!(((rd_T38 l0 x13_1).f0.f4.f1.f0)==((rd_T38 l1 x13_1).f0.f4.f1.f0))||(!(((rd_T38 l0 x13_1).f0.f4.f1.f1)==((rd_T38 l1 x13_1).f0.f4.f1.f1))))||(!(((rd_T38 l0 x13_1).f0.f4.f2)==((rd_T38 l1 x13_1).f0.f4.f2)))))||((!(((rd_T38 l0 x13_1).f0.f5.f0)==((rd_T38 l1 x13_1).f0.f5.f0))||(!(((rd_T38 l0 x13_1).f0.f5.f1)==((rd_T38 l1 x13_1).f0.f5.f1))))||(!(((rd_T38 l0 x13_1).f0.f6)==((rd_T38 l1 x13_1).f0.f6))||(!(((rd_T38 l0 x13_1).f0.f7)==((rd_T38 l1 x13_1).f0.f7))))))))))||(!(((rd_T38 l0 x13_1).f1)==((rd_T38 l1 x13_1).f1))))=true:=c8;clear c8;obtain rfl:=Option.some.inj H;have p205:0≤(x13_1:Int):=of_decide_eq_true (by first|(with_reducible assumption)|assumption);have q205:x13_1<(l0.length:Int):=of_decide_eq_true (by first|(with_reducible assumption)|assumption);obtain⟨ad205,e205,hx205_0,hx205_1,hx205_2,hx205_3,hx205_4,hx205_5,hx205_6,hx205_7,hx205_8,hx205_9,hx205_10,hx205_11,hx205_12⟩:=at_T38 HR0.out x13_1 p205 q205;cases e205;replace p205:=eq_true p205;replace q205:=eq_true q205;have p206:0≤(x13_1:Int):=of_decide_eq_true (by first|(with_reducible assumption)|assumption);have q206:x13_1<(l1.length:Int):=of_decide_eq_true (by first|(with_reducible assumption)|assumption);obtain⟨ad206,e206,hx206_0,hx206_1,hx206_2,hx206_3,hx206_4,hx206_5,hx206_6,hx206_7,hx206_8,hx206_9,hx206_10,hx206_11,hx206_12⟩:=at_T38 HR1.out x13_1 p206 q206;cases e206;replace p206:=eq_true p206;replace q206:=eq_true q206;go_wp2
         repeat (go_quiet (fail);try go_wp2)
         go_ret;exact⟨by first|rfl|(simp;done)|(simp [*];done),by repeat (first|exact Drawn0.refl _|apply Drawn0.step)⟩
        ·rw [if_neg c8]at H;have c8b0:((!(((rd_T38 l0 x13_1).f0.f0)==((rd_T38 l1 x13_1).f0.f0))||(!(((rd_T38 l0 x13_1).f0.f1)==((rd_T38 l1 x13_1).f0.f1))||(!(((rd_T38 l0 x13_1).f0.f2)==((rd_T38 l1 x13_1).f0.f2))||(!(((rd_T38 l0 x13_1).f0.f3)==((rd_T38 l1 x13_1).f0.f3))||((!(((rd_T38 l0 x13_1).f0.f4.f0)==((rd_T38 l1 x13_1).f0.f4.f0))||((!(((rd_T38 l0 x13_1).f0.f4.f1.f0)==((rd_T38 l1 x13_1).f0.f4.f1.f0))||(!(((rd_T38 l0 x13_1).f0.f4.f1.f1)==((rd_T38 l1 x13_1).f0.f4.f1.f1))))||(!(((rd_T38 l0 x13_1).f0.f4.f2)==((rd_T38 l1 x13_1).f0.f4.f2)))))||((!(((rd_T38 l0 x13_1).f0.f5.f0)==((rd_T38 l1 x13_1).f0.f5.f0))||(!(((rd_T38 l0 x13_1).f0.f5.f1)==((rd_T38 l1 x13_1).f0.f5.f1))))||(!(((rd_T38 l0 x13_1).f0.f6)==((rd_T38 l1 x13_1).f0.f6))||(!(((rd_T38 l0 x13_1).f0.f7)==((rd_T38 l1 x13_1).f0.f7))))))))))||(!(((rd_T38 l0 x13_1).f1)==((rd_T38 l1 x13_1).f1))))=false:=by simpa using c8
         clear c8;have H':=Ax H;clear H;have p205:0≤(x13_1:Int):=of_decide_eq_true (by first|(with_reducible assumption)|assumption);have q205:x13_1<(l0.length:Int):=of_decide_eq_true (by first|(with_reducible assumption)|assumption);obtain⟨ad205,e205,hx205_0,hx205_1,hx205_2,hx205_3,hx205_4,hx205_5,hx205_6,hx205_7,hx205_8,hx205_9,hx205_10,hx205_11,hx205_12⟩:=at_T38 HR0.out x13_1 p205 q205;cases e205;replace p205:=eq_true p205;replace q205:=eq_true q205;have p206:0≤(x13_1:Int):=of_decide_eq_true (by first|(with_reducible assumption)|assumption);have q206:x13_1<(l1.length:Int):=of_decide_eq_true (by first|(with_reducible assumption)|assumption);obtain⟨ad206,e206,hx206_0,hx206_1,hx206_2,hx206_3,hx206_4,hx206_5,hx206_6,hx206_7,hx206_8,hx206_9,hx206_10,hx206_11,hx206_12⟩:=at_T38 HR1.out x13_1 p206 q206;cases e206;replace p206:=eq_true p206;replace q206:=eq_true q206;go_wp2
         repeat (go_quiet (fail);try go_wp2)
         go_roundg k1
         case measure=>have:=HK1.out;omega
         case rel=>exact⟨(wrap64 (x13_1+1)),rS,H',⟨by have:=HK1.out;omega⟩,by repeat (first|exact Drawn0.refl _|apply Drawn0.step)⟩
       ·rw [if_neg c7]at H;exact absurd H (by simp)
      ·rw [if_neg c6]at H;exact absurd H (by simp)
     ·rw [if_neg c5]at H;exact absurd H (by simp)
    ·rw [if_neg c4]at H;have c4b0:decide (x13_1<(l0.length:Int))=false:=decide_eq_false c4;clear c4;obtain rfl:=Option.some.inj H;go_wp2
     repeat (go_quiet (fail);try go_wp2)
     go_ret;exact⟨by first|rfl|(simp;done)|(simp [*];done),by repeat (first|exact Drawn0.refl _|apply Drawn0.step)⟩
 ·rw [if_neg c3]at H;have c3b0:((l0.length:Int)==(l1.length:Int))=false:=beq_eq_false_iff_ne.mpr c3;have c3b1:((l0.length:Int) !=(l1.length:Int))=true:=bne_iff_ne.mpr c3;have c3b2:(l0.length==l1.length)=false:=by first|simpa using c3|(simp at c3 ⊢;omega)
  obtain rfl:=Option.some.inj H;go_enter Try.func14,Try.ntmps14;go_wp2
  repeat (go_quiet (fail);try go_wp2)
  go_ret;exact⟨by first|rfl|(simp;done)|(simp [*];done),by repeat (first|exact Drawn0.refl _|apply Drawn0.step)⟩
attribute [local go_sem] Oper.semAt_some
theorem seq_sub {α:Type}{F:Fence}{n:Nat}{P:Program}{g:Nat}{lb:Array Value}{encs:α→Array Value}{Kp:World→World→Prop}{ps:List α}{w:World}
    (C: ∀ (l:Nat) (J Jx:List α→World→Prop) (W:World),Below w.heap.size w W→(∀ pre W W',J pre W→W.grownBy W' none→J pre W')→
      (∀ pre x W1,J pre W1→pre++ [x]<+:ps→YieldAt F (n - 1) P l (encs x) W1 fun e W'=>(e= .returned (.bool true)∧J (pre++ [x]) W'∧Kp W1 W')∨(e= .returned (.bool false)∧Jx (pre++ [x]) W'))→
      J [] W→CallsIn F n P g (#[.func (.yield l) #[] #[]]++lb) W fun e W'=>(∃ v,e= .returned v)∧((∃ ys,ys=ps∧J ys W')∨(∃ pre,pre<+:ps∧Jx pre W'))):
    SeqStopsK F n P g lb (fun x: {x // x∈ps}=>encs x.1) Kp (fun ys=>ys.map (·.1)=ps) (fun _=>True) ps.length w:=by
  intro l J Jx W hW hJ _ hY h0;refine (C l (fun pre W=> ∃ ys:List {x // x∈ps},ys.map (·.1)=pre∧J ys W) (fun pre W=> ∃ ys:List {x // x∈ps},ys.map (·.1)=pre∧Jx ys W) W hW ?_ ?_ ⟨[],rfl,h0⟩).mono ?_
  · rintro pre A B ⟨ys,hys,hj⟩ hg
    exact⟨ys,hys,hJ _ _ _ none hj hg (fun _ e=>by cases e)⟩
  · rintro pre x W1 ⟨ys,rfl,hj⟩ hp
    have hx:x∈ps:=hp.subset (by simp);have hlen:ys.length<ps.length:=by have:=hp.length_le;simp at this;omega
    refine YieldAt.mono (hY ys ⟨x,hx⟩ W1 hj hlen) ?_
    rintro e W' (⟨rfl,h1,h2⟩|⟨rfl,h1⟩)
    · exact .inl ⟨rfl,⟨_,by simp,h1⟩,h2⟩
    · exact .inr ⟨rfl,⟨_,by simp,h1⟩⟩
  · rintro e W' ⟨hv,(⟨_,rfl,ys,hys,hj⟩|⟨pre,hp,ys,hys,hj⟩)⟩
    · exact⟨hv,.inl ⟨ys,hys,hj⟩⟩
    · exact⟨hv,.inr ⟨ys,trivial,hj⟩⟩
def gram_got (k : Nat) (x : S24) : Option (List S38) := (gram_Of.f k x.f0 x.f1).bind fun (r1, r2, r3, r4, r5, r6, r7, r8, r9, r10, r11, r12, r13, r14) =>
  some (if r14 = 0 then [⟨⟨r1, r2, r3, r4, ⟨r5, ⟨r6, r7⟩, r8⟩, ⟨r9, r10⟩, r11, r12⟩, r13⟩] else [])
def gram_gots (k : Nat) : List S24 → Option (List S38)
  | [] => some []
  | x :: xs => (gram_got k x).bind fun g => (gram_gots k xs).bind fun r => some (g ++ r)
theorem gots_got {k:Nat}{x:S24}: ∀ {ps:List S24}{gs:List S38},gram_gots k ps=some gs→x∈ps→ ∃ g,gram_got k x=some g
  | [],_,_,h=>by cases h
  |y :: ys,gs,h,hm=>by
    obtain⟨g,h1,h2⟩:=Option.bind_eq_some_iff.mp h;obtain⟨r,h3,_⟩:=Option.bind_eq_some_iff.mp h2;rcases List.mem_cons.mp hm with rfl|hm
    · exact⟨g,h1⟩
    · exact gots_got h3 hm
theorem gots_snoc {k:Nat}{x:S24}{g:List S38}: ∀ {ps:List S24}{gs:List S38},gram_gots k ps=some gs→gram_got k x=some g→gram_gots k (ps++ [x])=some (gs++g)
  | [],gs,h,hx=>by
    obtain rfl:=Option.some.inj h;simp [gram_gots,hx]
  |y :: ys,gs,h,hx=>by
    obtain⟨a,h1,h2⟩:=Option.bind_eq_some_iff.mp h;obtain⟨r,h3,h4⟩:=Option.bind_eq_some_iff.mp h2;obtain rfl:=Option.some.inj h4;simp [gram_gots,h1,gots_snoc h3 hx]
theorem gots_len {k:Nat}: ∀ {ps:List S24}{gs:List S38},gram_gots k ps=some gs→gs.length≤ps.length
  | [],gs,h=>by
    obtain rfl:=Option.some.inj h;simp
  |y :: ys,gs,h=>by
    obtain⟨a,h1,h2⟩:=Option.bind_eq_some_iff.mp h;obtain⟨r,h3,h4⟩:=Option.bind_eq_some_iff.mp h2;obtain rfl:=Option.some.inj h4;obtain⟨t,_,h5⟩:=Option.bind_eq_some_iff.mp h1;obtain⟨r1,r2,r3,r4,r5,r6,r7,r8,r9,r10,r11,r12,r13,r14⟩:=t;have:=gots_len h3;dsimp only at h5
    split at h5 <;> (obtain rfl:=Option.some.inj h5;simp;omega)
theorem gram_got_mono (k:Nat) (x:S24):LeO (gram_got k x) (gram_got (k+1) x):=by
  unfold gram_got;exact LeO.bind (gram_Of.mono _ _ _) (fun _=>LeO.refl _)
theorem gram_gots_mono (k : Nat) : ∀ ps, LeO (gram_gots k ps) (gram_gots (k + 1) ps)
  | [] => LeO.refl _
  | x :: xs => LeO.bind (gram_got_mono k x) (fun _ => LeO.bind (gram_gots_mono k xs) (fun _ => LeO.refl _))
def gram_Gots.f (k:Nat) (a0:ByteArray):Option ((List (S38))):=(gram_each.l k a0).bind fun ps=>if ps.length * 104≤140737488355328 then gram_gots k ps else none
theorem gram_Gots.mono: ∀ a0 k,LeO (gram_Gots.f k a0) (gram_Gots.f (k+1) a0):=by
  intro a0 k;unfold gram_Gots.f;exact LeO.bind (gram_each.l_mono _ _) (fun _=>LeO.ite (gram_gots_mono _ _) (LeO.refl _))
set_option maxRecDepth 100000 in
set_option maxHeartbeats 4000000 in
theorem gram_Gots.walk (k:Nat) (a0:ByteArray) (w:World) (r:List S38) (h:gram_Gots.f k a0=some r):
    Calls Try.prog 15 #[.string a0] w fun e w'=> ∃ v0_:Value,e= .returned v0_∧Kd.R k38 38 w' w.heap.size (fun _=>True) v0_ r∧Below w.heap.size w w':=by
  refine (callsIn_wide (n:=4)).1 ?_;obtain⟨ps,hps,h⟩:=Option.bind_eq_some_iff.mp h;by_cases hlen:ps.length * 104≤140737488355328
  case neg=>rw [if_neg hlen]at h;cases h
  rw [if_pos hlen]at h;have HPS:=Aside0.mk hps;have HLEN:=Aside0.mk hlen;have HG:=Aside0.mk h;clear h hps hlen;refine callsIn_of_wp_marks Try.func15 rfl trivial ?_ rfl;simp only[Try.ntmps15,List.size_toArray,List.length_cons,List.length_nil,Nat.reduceAdd,Nat.reduceSub,Array.replicate_succ,Array.replicate_zero,List.push_toArray,List.append_toArray,List.nil_append,List.cons_append]
  gi_wp2
  refine⟨trivial,?_⟩;refine (each_in _ _ _).mono ?_
  rintro e w' ⟨rfl,rfl⟩
  gi_wp2
  have oB:Boxed ((w.alloc (.cells #[.slice none 0 0] 46)).alloc (.cells #[.string a0] 9)) w.heap.size 46 (.slice none 0 0):=(Boxed.new w 46 (.slice none 0 0)).alloc _
  have sB:((w.alloc (.cells #[.slice none 0 0] 46)).alloc (.cells #[.string a0] 9)).heap[w.heap.size+1]? =some (.cells #[.string a0] 9 (0,0)):=by
    have:=heap_alloc_new (w.alloc (.cells #[.slice none 0 0] 46)) (.cells #[.string a0] 9)
    rwa [World.size_alloc]at this
  have hb2:Below w.heap.size w ((w.alloc (.cells #[.slice none 0 0] 46)).alloc (.cells #[.string a0] 9)):=below_alloc (below_alloc (Below.refl _ w) _) _;have hsz2:((w.alloc (.cells #[.slice none 0 0] 46)).alloc (.cells #[.string a0] 9)).heap.size=w.heap.size+1+1:=by simp
  generalize ((w.alloc (.cells #[.slice none 0 0] 46)).alloc (.cells #[.string a0] 9))=W2 at oB sB hb2 hsz2 ⊢;have hseq:=seq_sub (encs:=encP) (Kp:=fun _ _=>True) (n:=3) (w:=W2) (lb:= #[.pointer (some ⟨w.heap.size+1,0,none⟩)]) (fun l J Jx W hW hJ hY h0=>each1_in 3 (by omega) l (w.heap.size+1) k a0 ps HPS.out J Jx hY hJ W (blk_below sB hW) h0)
  refine wpIn_rangeFunc_ownH rfl (by omega) (gf := 43) (lb := #[.pointer (some ⟨w.heap.size + 1, 0, none⟩)]) rfl trivial (enters_of Try.func43 (by kernel_rfl) rfl)
    hseq (fun _ _ => trivial) (fun _ _ _ _ _ _ _ _ => trivial) (Below.refl _ _) (fun _ => rfl)
    (fun pre W => (∃ v gs, Boxed W w.heap.size 46 v ∧ Kd.R k38 38 W w.heap.size (fun k => k ≠ w.heap.size) v gs ∧ gram_gots k (pre.map (·.1)) = some gs) ∧ Below w.heap.size w W ∧ W2.heap.size ≤ W.heap.size)
    (fun _ _ _ => False)
    (fun s A B row ⟨⟨v, gs, h1, h2, h5⟩, h3, h4⟩ hg hr => ⟨⟨v, gs, blk_grown_ h1 hg hr, own_grown h2 hg hr, h5⟩, h3.grown hg h3.size (fun k e => by have := (hr k e).1; omega), Nat.le_trans h4 hg.size⟩)
    (fun _ _ _ _ _ hs _ _ => hs)
    ⟨⟨_, [], oB, Kd.R_nil _ _ _ _ _, rfl⟩, hb2, Nat.le_refl _⟩
    (fun x a' W => ∃ Bx, W2.heap.size ≤ Bx ∧ W.heap[Bx]? = some (.cells #[.int .u8 x.1.f0, .string x.1.f1] 24 (0, 0)) ∧ a' = { tmps := #[.string a0, undef, .slice none 0 0, .pointer (some ⟨w.heap.size, 0, none⟩), .pointer (some ⟨Bx, 0, none⟩), undef, undef, .string a0, .func (.func 43) #[] #[.pointer (some ⟨w.heap.size + 1, 0, none⟩)], .agg #[.int .u8 x.1.f0, .string x.1.f1], undef, undef, undef, undef, undef, undef, undef, undef, undef, undef, undef, undef], defers := [] })
    (fun x a' _ A B row ⟨Bx, h1, h2, h3⟩ hg hr => ⟨Bx, h1, blk_grown_ h2 hg hr, h3⟩) ?assign ?body ?done ?stop
  case assign=>
    rintro l pre x W K ⟨⟨v,gs,h1,h2,h5⟩,h3,h4⟩ hK
    dsimp only[encP]
    gi_wp2
    exact hK _ _ ((KeepsOthers.alloc _ _).from _) trivial ⟨⟨v,gs,h1.alloc _,Kd.R_alloc h2 _,h5⟩,below_alloc h3 _,by rw [World.size_alloc];omega⟩ ⟨W.heap.size,h4,heap_alloc_new _ _,rfl⟩
  case body=>
    rintro l pre x a' W hl hr ⟨⟨v,gs,hv,hrow,hgs⟩,hb,hsz⟩ ⟨Bx,hBx,hx,rfl⟩ hlt
    obtain⟨g,hg⟩:=gots_got HG.out x.2;have hg':=hg;obtain⟨⟨r1,r2,r3,r4,r5,r6,r7,r8,r9,r10,r11,r12,r13,r14⟩,hof,he⟩:=Option.bind_eq_some_iff.mp hg';dsimp only at he;have HGS:=Aside0.mk (gots_snoc hgs hg);have HL:Aside0 ((gs.length+1) * 104≤140737488355328):=⟨by have h1:=HLEN.out;have h2:=gots_len hgs;rw [List.length_map]at h2;omega⟩;have HE:=Aside0.mk (Option.some.inj he);clear he hg hg' hgs;have hc0:W.cell? ⟨Bx,0,none⟩=some (.int .u8 x.1.f0):=(blk_cell hx 0).trans rfl;have hc1:W.cell? ⟨Bx,1,none⟩=some (.string x.1.f1):=(blk_cell hx 1).trans rfl
    gi_wp2
    refine⟨trivial,?_⟩;refine (CallsIn.inRound l (callsIn_wide.2 (gram_Of.calls k x.1.f0 x.1.f1 r1 r2 r3 r4 r5 r6 r7 r8 r9 r10 r11 r12 r13 r14 _ hof))).mono ?_
    rintro e W7 ⟨rfl,hb7⟩
    have hv7:Boxed W7 w.heap.size 46 v:=blk_below hv hb7;have hrow7:=Kd.R_below hrow hb7;have hbw7:=below_step hb hb7;have hk7:KeepsOthers W W7:=KeepsOthers.of_grownBy (row:=none) ⟨hb7.os,hb7.tape,hb7.output,hb7.size,fun k hk _=>hb7.block k hk⟩ (fun j o e _=>by cases e);have hs7:W2.heap.size≤W7.heap.size:=Nat.le_trans hsz hb7.size;have hv8:Boxed (W7.alloc (.cells #[.int .u8 r1,.int .i64 r2,.int .u64 r3,.int .i64 r4,.bool r5,.int .u64 r6,.int .u64 r7,.int .i64 r8,.int .u8 r9,.int .i64 r10,.int .i64 r11,.int .i64 r12,.int .i64 r13] 38)) w.heap.size 46 v:=hv7.alloc _;have hb8:=below_alloc hbw7 (.cells #[.int .u8 r1,.int .i64 r2,.int .u64 r3,.int .i64 r4,.bool r5,.int .u64 r6,.int .u64 r7,.int .i64 r8,.int .u8 r9,.int .i64 r10,.int .i64 r11,.int .i64 r12,.int .i64 r13] 38);have hrow8:=Kd.R_alloc hrow7 (.cells #[.int .u8 r1,.int .i64 r2,.int .u64 r3,.int .i64 r4,.bool r5,.int .u64 r6,.int .u64 r7,.int .i64 r8,.int .u8 r9,.int .i64 r10,.int .i64 r11,.int .i64 r12,.int .i64 r13] 38);have hk8:KeepsOthers W (W7.alloc (.cells #[.int .u8 r1,.int .i64 r2,.int .u64 r3,.int .i64 r4,.bool r5,.int .u64 r6,.int .u64 r7,.int .i64 r8,.int .u8 r9,.int .i64 r10,.int .i64 r11,.int .i64 r12,.int .i64 r13] 38)):=hk7.trans (KeepsOthers.alloc _ _);have hc:=hv8.cell;have hs8:W2.heap.size≤(W7.alloc (.cells #[.int .u8 r1,.int .i64 r2,.int .u64 r3,.int .i64 r4,.bool r5,.int .u64 r6,.int .u64 r7,.int .i64 r8,.int .u8 r9,.int .i64 r10,.int .i64 r11,.int .i64 r12,.int .i64 r13] 38)).heap.size:=by rw [World.size_alloc];omega
    have HB7:=Aside0.mk hb7;clear hc0 hc1 hx hv hrow hb hb7 hof hbw7 hrow7 hk7;by_cases c:r14=0
    · subst c;have he:=HE.out;rw [if_pos rfl]at he;subst he;clear HE
      gi_wp2_with (gi_at_builtin;refine R_append_in k38 (w0:=w) w.heap.size rfl (.tmp 17) (.tmp 19) 46 38 (.agg #[(.int .u8 0),(.int .i64 0),(.int .u64 0),(.int .i64 0),(.bool false),(.int .u64 0),(.int .u64 0),(.int .i64 0),(.int .u8 0),(.int .i64 0),(.int .i64 0),(.int .i64 0),(.int .i64 0)]) 104 rfl Try.underlying46 info38 rfl (by decide) (by omega) v gs ⟨⟨r1,r2,r3,r4,⟨r5,⟨r6,r7⟩,r8⟩,⟨r9,r10⟩,r11,r12⟩,r13⟩ [.int .u8 r1,.int .i64 r2,.int .u64 r3,.int .i64 r4,.bool r5,.int .u64 r6,.int .u64 r7,.int .i64 r8,.int .u8 r9,.int .i64 r10,.int .i64 r11,.int .i64 r12,.int .i64 r13] (fun k_=>k_≠w.heap.size) (fun _=>False) rfl ?aX (k38_mkM _ _ _ _) (fun _ hk=>hk.elim) ?aF hrow8 hb8 hb8.size HL.out ?_;(case aX=>first|rfl|(go_simp;done)|(go_simp;rfl));(case aF=>intro k_ hk_ he_;subst he_;exact absurd (blk_lt hv8) (Nat.not_lt.2 hk_));intro v1 w1 ho1 hb1 hg1 hat1;obtain⟨A1,c1,rfl⟩:=Kd.R_slice ho1;have hv1:Boxed w1 w.heap.size 46 v:=blk_grown hv8 hg1 (Kd.R_away hrow8 (fun _ hk=>hk));have hcv1:=hv1.cell;have hfv1:=hv1.frozen)
      refine⟨((hk8.trans (KeepsOthers.of_grownBy hg1 (fun j o hj ho=>?_))).trans (KeepsOthers.setCell _ _ _)).from _,trivial,⟨_,_,Boxed.set _ hv1,by simpa using Kd.R_far ho1 (p:=⟨w.heap.size,0,none⟩) (fun _ hk=>hk) (.slice A1 (gs.length+1) c1),by simpa using HGS.out⟩,hb1.setCell (p:=⟨w.heap.size,0,none⟩) (Nat.le_refl _) _,Nat.le_trans hs8 (Nat.le_trans hg1.size (Nat.le_of_eq (World.size_setCell _ _ _).symm))⟩;obtain⟨inner,hown⟩:=Kd.R_own hrow8;obtain⟨cells,hcs⟩:=own_typed hown j hj;rw [hcs]at ho;cases ho;rfl
    · have he:=HE.out;rw [if_neg c]at he;subst he;clear HE;have hcb:(r14==0)=false:=beq_eq_false_iff_ne.mpr c
      gi_wp2
      exact⟨hk8.from _,trivial,⟨_,_,hv8,hrow8,by simpa using HGS.out⟩,hb8,hs8⟩
  case done=>
    rintro D xs W hD hxs ⟨⟨v,gs,hv,hrow,hgs⟩,hb,hsz⟩ hDd
    rw [hxs]at hgs;obtain rfl:=Option.some.inj (hgs.symm.trans HG.out);obtain⟨A,c,rfl⟩:=Kd.R_slice hrow;have hc:=hv.cell;clear hgs
    gi_wp2
    refine⟨by simp,.inl ⟨_,_,rfl,run_takeDeferred hDd,?_⟩⟩;have hgr:=grownBy_putObj' W D (.deferred none);have hrr: ∀ r,some D=some r→w.heap.size≤r∧ ∃ o:Obj,W.heap[r]? =some o∧o.isCells=false:=fun r e=>by cases e;exact⟨by omega,_,hDd,rfl⟩
    exact⟨_,results_tmp rfl _ _ _,_,rfl,Kd.R_mono (own_grown hrow hgr hrr) (fun _ _=>trivial),hb.grown hgr hb.size (fun k e=>(hrr k e).1)⟩
  case stop=>
    rintro D c pre W _ _ h _
    exact h.elim
theorem gram_Gots.calls (k:Nat) (a0:ByteArray) (r:List (S38)) (w:World) (h:gram_Gots.f k a0=some r):
    Calls Try.prog 15 #[.string a0] w fun e w'=> ∃ v0_:Value,e= .returned (v0_)∧Kd.R k38 38 w' w.heap.size (fun _=>True) v0_ r∧Below w.heap.size w w':=by
  refine (gram_Gots.walk k a0 w r h).mono ?_
  rintro e w' ⟨v,he,ho,hb⟩
  exact⟨v,he,ho,hb⟩
def num_Add.l0 : Nat → List Int → Int → Option (List Int)
 | 0, _, _ => none
 | k + 1, x0, x1 => if x1 ≥ 128 then (if x0.length < 140737488355328 then (num_Add.l0 k (x0 ++ [Go.bits .or .u8 ((x1) % 256) 128]) (x1 / 128)) else (none)) else (if x0.length < 140737488355328 then (some (x0 ++ [(x1) % 256])) else (none))
def num_Add.f (k:Nat) (l0:List Int) (a1:Int):Option (List Int):=num_Add.l0 k l0 a1
theorem num_Add.mono_l: ∀ k,(∀ y0 y1,LeO (num_Add.l0 k y0 y1) (num_Add.l0 (k+1) y0 y1))
 |0=>fun _ _ r h=>by simp [num_Add.l0]at h
 |k+1=>by
  have ih0:=num_Add.mono_l k
  ·intro y0 y1;unfold num_Add.l0
   repeat' first
   |(with_reducible exact ih0 _ _)
   |(with_reducible exact LeO.refl _)
   |(with_reducible exact LeO.none _)
   |(with_reducible refine LeO.ite ?_ ?_)
   |(with_reducible refine LeO.bind ?_ (fun _=>?_))
   |exact ih0 _ _
   |exact LeO.none _
   |refine LeO.ite ?_ ?_
   |refine LeO.bind ?_ (fun _=>?_)
theorem num_Add.mono: ∀ a0 a1 k,LeO (num_Add.f k a0 a1) (num_Add.f (k+1) a0 a1):=by
 intro a0 a1 k;have ih0:=num_Add.mono_l k;unfold num_Add.f
 repeat' first
   | (with_reducible exact ih0 _ _)
   | (with_reducible exact LeO.refl _)
   | (with_reducible exact LeO.none _)
   | (with_reducible refine LeO.ite ?_ ?_)
   | (with_reducible refine LeO.bind ?_ (fun _ => ?_))
   | exact ih0 _ _
   | exact LeO.none _
   | refine LeO.ite ?_ ?_
   | refine LeO.bind ?_ (fun _ => ?_)
set_option maxHeartbeats 8000000 in
set_option maxRecDepth 100000 in
theorem num_Add.calls (k:Nat) (P0_:Nat→Prop) (u9000_:Value) (l0:List Int) (a1:Int) (r:List Int) (w0 w:World) (hB:Below w0.heap.size w0 w) (ho0:Kd.R (Kd.int .u8) 5 w w0.heap.size P0_ u9000_ l0) (h:num_Add.f k l0 a1=some r):
  Calls Try.prog 45 #[u9000_,.int .u64 a1] w fun e w'=> ∃ v0_:Value,e= .returned (v0_)∧Kd.R (Kd.int .u8) 5 w' w0.heap.size (fun k_=>(P0_ k_∨w.heap.size≤k_)) v0_ r∧Below w0.heap.size w0 w'∧Kept w w' (fun k_=>P0_ k_):=by
 have HO0:=Ax (show Kd.R (Kd.int .u8) 5 w w0.heap.size (fun k_=>(P0_ k_∨w.heap.size≤k_)) u9000_ l0 from Kd.R_mono ho0 (fun k_ hk=>(.inl hk)));have HK:=Ax (Kept.refl w (fun k_=>P0_ k_));have HW0:=Ax hB.size;have HB:=Ax hB;clear hB;have H:(num_Add.l0 k l0 a1)=some r:=h;clear h;have H':=Ax H;clear H;go_enter Try.func45,Try.ntmps45;go_wp2;go_loopg [0,1] k (fun kq v0 v1 w'=> ∃ (x0_1:List Int) (x1_1:Int),v1= .int .u64 x1_1∧Aside0 (num_Add.l0 kq x0_1 x1_1=some r)∧Aside0 (kq≤k)∧Aside0 (Kd.R (Kd.int .u8) 5 w' w0.heap.size (fun k_=>(P0_ k_∨w.heap.size≤k_)) v0 x0_1)∧Aside0 (Kept w w' (fun k_=>P0_ k_))∧Aside0 (Below w0.heap.size w0 w'))
 case atStart=>exact⟨(l0),(a1),rS,H',⟨Nat.le_refl _⟩,⟨by (with_reducible repeat (first|apply Kd.R_alloc|apply Kd.R_drewN|apply Kd.R_drew));exact HO0.out⟩,⟨by repeat (first|(with_reducible first|exact HK.out|apply Kept.alloc|apply Kept.drewN|apply Kept.drew)|exact HK.out)⟩,⟨bw0 HB.out⟩⟩
 case round=>
  clear H';try clear p2
  obtain⟨x0_1,x1_1,rfl,HA,HK1,HO_0,HK,HB⟩:=hrel;cases gk with
  |zero=>exact absurd HA.out (by simp [num_Add.l0])
  |succ k1=>
   have H:=HA.out;clear HA;simp only[num_Add.l0]at H;by_cases c3:x1_1 ≥ 128
   ·rw [if_pos c3]at H;have c3b0:decide (128≤x1_1)=true:=decide_eq_true c3;clear c3;by_cases c4:x0_1.length<140737488355328
    ·rw [if_pos c4]at H;have LMc4:=Ax c4;clear c4;obtain⟨y207,hy207⟩: ∃ y_:List Int,y_=(x0_1++ [Go.bits .or .u8 ((x1_1) % 256) 128]):=⟨_,rfl⟩;replace H:(num_Add.l0 k1 y207 (x1_1 / 128))=some r:=by first|(rw [hy207];with_reducible exact H)|(have H2_:=(Option.bind_some _ _).symm.trans H;rw [hy207];with_reducible exact H2_)|(have H2_:=(Option.bind_some _ _).symm.trans H;with_reducible exact H2_)|with_reducible exact H|(rw [hy207];exact H)|exact H
     have Ny207:=Ax hy207;clear hy207;have H':=Ax H;clear H;go_wp2_with (first|((with_reducible refine gate_builtin (b:=.append) (xs:= #[.tmp 7,.tmp 11]) rfl ?_);at_builtin;refine Kd.R_append (Kd.int .u8) (w0:=w0) w0.heap.size rfl (.tmp 7) (.tmp 11) 67 5 (.int .u8 0) 1 rfl Try.underlying67 info5 rfl (by decide) (by omega) u0 x0_1 (Go.bits .or .u8 ((x1_1) % 256) 128) [.int .u8 (Go.bits .or .u8 ((x1_1) % 256) 128)] (fun k_=>(P0_ k_∨w.heap.size≤k_)) (fun _=>False) rfl rfl ?aP (fun _ hk=>hk.elim) ?aF ?aO ?aB ?aS ?aL ?_;(case aP=>exact rfl);(case aB=>exact (bw0 HB.out));(case aF=>exact (fun k_ hk=>(.inr (Nat.le_trans (by first|exact HK.out.1|exact (show Kept w _ (fun k_=>P0_ k_) from by repeat (first|(with_reducible first|exact HK.out|apply Kept.alloc|apply Kept.drewN|apply Kept.drew)|exact HK.out)).1) hk))));(case aO=>exact (by (with_reducible repeat (first|apply Kd.R_alloc|apply Kd.R_drewN|apply Kd.R_drew));exact HO_0.out));(case aS=>exact (below_size (bw0 HB.out)));(case aL=>have:=LMc4.out;omega);intro v208 w5 ho hb hg hat;rw [← Ny207.out]at ho;have n0_:=Ax (hb);have n1_:=Ax (Kept.of_grown (S:=(fun k_=>P0_ k_)) hg (by repeat (first|(with_reducible first|exact HK.out|apply Kept.alloc|apply Kept.drewN|apply Kept.drew)|exact HK.out)) (fun k_ e_=>(HO_0.out.1 k_ e_)));have n2_:=Ax (ho);clear HB;clear HK;clear HO_0;have HB:=n0_;have HK:=n1_;have HO209:=n2_;clear n0_ n1_ n2_;clear ho hb hg hat));go_roundg k1
     case measure=>have:=HK1.out;omega
     case rel=>exact⟨(y207),(x1_1 / 128),rS,H',⟨by have:=HK1.out;omega⟩,⟨by (with_reducible repeat (first|apply Kd.R_alloc|apply Kd.R_drewN|apply Kd.R_drew));exact HO209.out⟩,⟨by repeat (first|(with_reducible first|exact HK.out|apply Kept.alloc|apply Kept.drewN|apply Kept.drew)|exact HK.out)⟩,⟨bw0 HB.out⟩⟩
    ·rw [if_neg c4]at H;exact absurd H (by simp)
   ·rw [if_neg c3]at H;have c3b0:decide (128≤x1_1)=false:=decide_eq_false c3;clear c3;by_cases c6:x0_1.length<140737488355328
    ·rw [if_pos c6]at H;have LMc6:=Ax c6;clear c6;obtain⟨y210,hy210⟩: ∃ y_:List Int,y_=(x0_1++ [(x1_1) % 256]):=⟨_,rfl⟩;replace H:(some y210)=some r:=by first|(rw [hy210];with_reducible exact H)|(have H2_:=(Option.bind_some _ _).symm.trans H;rw [hy210];with_reducible exact H2_)|(have H2_:=(Option.bind_some _ _).symm.trans H;with_reducible exact H2_)|with_reducible exact H|(rw [hy210];exact H)|exact H
     have Ny210:=Ax hy210;clear hy210;obtain rfl:=Option.some.inj H;go_wp2_with (first|((with_reducible refine gate_builtin (b:=.append) (xs:= #[.tmp 15,.tmp 18]) rfl ?_);at_builtin;refine Kd.R_append (Kd.int .u8) (w0:=w0) w0.heap.size rfl (.tmp 15) (.tmp 18) 67 5 (.int .u8 0) 1 rfl Try.underlying67 info5 rfl (by decide) (by omega) u0 x0_1 ((x1_1) % 256) [.int .u8 ((x1_1) % 256)] (fun k_=>(P0_ k_∨w.heap.size≤k_)) (fun _=>False) rfl rfl ?aP (fun _ hk=>hk.elim) ?aF ?aO ?aB ?aS ?aL ?_;(case aP=>exact rfl);(case aB=>exact (bw0 HB.out));(case aF=>exact (fun k_ hk=>(.inr (Nat.le_trans (by first|exact HK.out.1|exact (show Kept w _ (fun k_=>P0_ k_) from by repeat (first|(with_reducible first|exact HK.out|apply Kept.alloc|apply Kept.drewN|apply Kept.drew)|exact HK.out)).1) hk))));(case aO=>exact (by (with_reducible repeat (first|apply Kd.R_alloc|apply Kd.R_drewN|apply Kd.R_drew));exact HO_0.out));(case aS=>exact (below_size (bw0 HB.out)));(case aL=>have:=LMc6.out;omega);intro v211 w7 ho hb hg hat;rw [← Ny210.out]at ho;have n0_:=Ax (hb);have n1_:=Ax (Kept.of_grown (S:=(fun k_=>P0_ k_)) hg (by repeat (first|(with_reducible first|exact HK.out|apply Kept.alloc|apply Kept.drewN|apply Kept.drew)|exact HK.out)) (fun k_ e_=>(HO_0.out.1 k_ e_)));have n2_:=Ax (ho);clear HB;clear HK;clear HO_0;have HB:=n0_;have HK:=n1_;have HO212:=n2_;clear n0_ n1_ n2_;clear ho hb hg hat));go_ret;exact⟨_,eS,by (with_reducible repeat (first|apply Kd.R_alloc|apply Kd.R_drewN|apply Kd.R_drew));exact HO212.out,bw0 HB.out,by repeat (first|(with_reducible first|exact HK.out|apply Kept.alloc|apply Kept.drewN|apply Kept.drew)|exact HK.out)⟩
    ·rw [if_neg c6]at H;exact absurd H (by simp)
def msg_action.f (k:Nat) (l0:List Int) (a1_0:Int) (a1_1:Int):Option (List Int):=if l0.length<140737488355328 then ((some (l0++ [a1_0]:List Int)).bind fun y214=>(if a1_0=1 then ((num_Add.f k y214 (IntKind.u64.wrap (a1_1))).bind fun t217=>(some t217)) else (some y214))) else (none)
theorem msg_action.mono: ∀ a0 a1 a2 k,LeO (msg_action.f k a0 a1 a2) (msg_action.f (k+1) a0 a1 a2):=by
 intro a0 a1 a2 k;unfold msg_action.f
 repeat' first
   | (with_reducible exact num_Add.mono _ _ _)
   | (with_reducible exact LeO.refl _)
   | (with_reducible exact LeO.none _)
   | (with_reducible refine LeO.ite ?_ ?_)
   | (with_reducible refine LeO.bind ?_ (fun _ => ?_))
   | exact num_Add.mono _ _ _
   | exact LeO.none _
   | refine LeO.ite ?_ ?_
   | refine LeO.bind ?_ (fun _ => ?_)
set_option maxHeartbeats 8000000 in
set_option maxRecDepth 100000 in
theorem msg_action.calls (k:Nat) (P0_:Nat→Prop) (u9000_:Value) (l0:List Int) (a1_0:Int) (a1_1:Int) (r:List Int) (w0 w:World) (hB:Below w0.heap.size w0 w) (ho0:Kd.R (Kd.int .u8) 5 w w0.heap.size P0_ u9000_ l0) (h:msg_action.f k l0 a1_0 a1_1=some r):
  Calls Try.prog 46 #[u9000_,.agg #[.int .u8 a1_0,.int .i64 a1_1]] w fun e w'=> ∃ v0_:Value,e= .returned (v0_)∧Kd.R (Kd.int .u8) 5 w' w0.heap.size (fun k_=>(P0_ k_∨w.heap.size≤k_)) v0_ r∧Below w0.heap.size w0 w'∧Kept w w' (fun k_=>P0_ k_):=by
 have hu33:=Try.underlying33;have HO0:=Ax (show Kd.R (Kd.int .u8) 5 w w0.heap.size (fun k_=>(P0_ k_∨w.heap.size≤k_)) u9000_ l0 from Kd.R_mono ho0 (fun k_ hk=>(.inl hk)));have HK:=Ax (Kept.refl w (fun k_=>P0_ k_));have HW0:=Ax hB.size;have HB:=Ax hB;clear hB;have H:(if l0.length<140737488355328 then ((some (l0++ [a1_0]:List Int)).bind fun y214=>(if a1_0=1 then ((num_Add.f k y214 (IntKind.u64.wrap (a1_1))).bind fun t217=>(some t217)) else (some y214))) else (none))=some r:=h;clear h;by_cases c3:l0.length<140737488355328
 ·rw [if_pos c3]at H;have LMc3:=Ax c3;clear c3;obtain⟨y214,hy214⟩: ∃ y_:List Int,y_=(l0++ [a1_0]):=⟨_,rfl⟩;replace H:(if a1_0=1 then ((num_Add.f k y214 (IntKind.u64.wrap (a1_1))).bind fun t217=>(some t217)) else (some y214))=some r:=by first|(rw [hy214];with_reducible exact H)|(have H2_:=(Option.bind_some _ _).symm.trans H;rw [hy214];with_reducible exact H2_)|(have H2_:=(Option.bind_some _ _).symm.trans H;with_reducible exact H2_)|with_reducible exact H|(rw [hy214];exact H)|exact H
  have Ny214:=Ax hy214;clear hy214;by_cases c4:a1_0=1;·rw [if_pos c4]at H;have c4b0:(a1_0==1)=true:=beq_iff_eq.mpr c4;have c4b1:(a1_0 !=1)=false:=bne_eq_false_iff_eq.mpr c4;clear c4;replace H:=Option.bind_eq_some_iff.mp H;obtain⟨t217,A50,H⟩:=H;replace H:(some t217)=some r:=H;have A5:=Ax A50;clear A50;obtain rfl:=Option.some.inj H;go_enter Try.func46,Try.ntmps46;go_wp2_with (first|((with_reducible refine gate_dst (N:=3) rfl ?_);refine box_event ?hg (N:=3) ?hd (cs:= #[.int .u8 a1_0,.int .i64 a1_1]) (t:=33) ?hr ?_;(case hd=>rfl);(case hg=>rfl);(case hr=>first|(go_simp;done)|(go_simp;rfl));intro gb213 hg w6 hbox hb;have n0_:=Ax (Kd.R_below (by (with_reducible repeat (first|apply Kd.R_alloc|apply Kd.R_drewN|apply Kd.R_drew));exact HO0.out) hb);have n1_:=Ax (Kept.below (S:=(fun k_=>P0_ k_)) (by repeat (first|(with_reducible first|exact HK.out|apply Kept.alloc|apply Kept.drewN|apply Kept.drew)|exact HK.out)) hb);have n2_:=Bs0 HB hb;have n3_:=Ax (hbox);have n4_:=Ax ((by rw [hg];exact (by first|exact HK.out.1|exact (show Kept w _ (fun k_=>P0_ k_) from by repeat (first|(with_reducible first|exact HK.out|apply Kept.alloc|apply Kept.drewN|apply Kept.drew)|exact HK.out)).1):w.heap.size≤gb213));have n5_:=Ax ((by rw [hg];exact (below_size (bw0 HB.out)):w0.heap.size≤gb213));clear HO0;clear HK;clear HB;have HO0:=n0_;have HK:=n1_;have HB:=n2_;have BK213:=n3_;have GW213:=n4_;have GE213:=n5_;clear n0_ n1_ n2_ n3_ n4_ n5_;clear hb hbox hg;obtain⟨hcz7_0,hcz7_1,hfz7_0,hfz7_1⟩:=cl2 BK213)|((with_reducible refine gate_builtin (b:=.append) (xs:= #[.tmp 5,.tmp 8]) rfl ?_);at_builtin;refine Kd.R_append (Kd.int .u8) (w0:=w0) w0.heap.size rfl (.tmp 5) (.tmp 8) 67 5 (.int .u8 0) 1 rfl Try.underlying67 info5 rfl (by decide) (by omega) u9000_ l0 a1_0 [.int .u8 a1_0] (fun k_=>(P0_ k_∨w.heap.size≤k_)) (fun _=>False) rfl rfl ?aP (fun _ hk=>hk.elim) ?aF ?aO ?aB ?aS ?aL ?_;(case aP=>exact rfl);(case aB=>exact (bw1 HB.out GE213.out));(case aF=>exact (fun k_ hk=>(.inr (Nat.le_trans (by first|exact HK.out.1|exact (show Kept w _ (fun k_=>P0_ k_) from by repeat (first|(with_reducible first|exact HK.out|apply Kept.alloc|apply Kept.drewN|apply Kept.drew|refine Kept.setCell ?_ (.inr GW213.out) _)|exact HK.out)).1) hk))));(case aO=>exact (by (with_reducible repeat (first|apply Kd.R_alloc|apply Kd.R_drewN|apply Kd.R_drew));exact HO0.out));(case aS=>exact (below_size (bw1 HB.out GE213.out)));(case aL=>have:=LMc3.out;omega);intro v215 w8 ho hb hg hat;rw [← Ny214.out]at ho;have n0_:=Ax (blk_grown (g:=gb213) (o:=.cells #[.int .u8 a1_0,.int .i64 a1_1] 33 (0,0)) (bf0 BK213.out) hg (Kd.R_ne HO0.out BK213.out (by decide)));have n1_:=Ax (hb);have n2_:=Ax (Kept.of_grown (S:=(fun k_=>P0_ k_)) hg (by repeat (first|(with_reducible first|exact HK.out|apply Kept.alloc|apply Kept.drewN|apply Kept.drew|refine Kept.setCell ?_ (.inr GW213.out) _)|exact HK.out)) (fun k_ e_=>(HO0.out.1 k_ e_)));have n3_:=Ax (ho);clear BK213;clear HB;clear HK;clear HO0;have BK213:=n0_;have HB:=n1_;have HK:=n2_;have HO216:=n3_;clear n0_ n1_ n2_ n3_;clear ho hb hg hat;obtain⟨hcz9_0,hcz9_1,hfz9_0,hfz9_1⟩:=cl2 BK213;obtain⟨Ao10,co10,eo10⟩:=Kd.R_slice HO216.out;subst eo10)|((with_reducible refine gate_callee (f:=45) rfl ?_);refine goesL_ (some 17) rfl rfl Try.func45 (by kernel_rfl) rfl #[.slice Ao10 y214.length co10,.int .u64 (IntKind.u64.wrap (a1_1))] rfl gS ?_;(with_reducible refine (num_Add.calls k (fun k_=>some k_=(.slice Ao10 y214.length co10:Value).ownBlock) (.slice Ao10 y214.length co10) y214 (IntKind.u64.wrap (a1_1)) t217 w0 _ ?side1 ?side2 A5.out).mono ?_);(case side1=>repeat (first|(with_reducible first|exact HB.out|apply below_alloc|apply pw_below_drewN|apply below_drew1|refine below_set ?_ GE213.out)|exact HB.out));(case side2=>exact Kd.R_tight rfl HO216.out);rintro e w11 ⟨v218,rfl,ho0,hb,hkp⟩;refine⟨_,rfl,?_⟩;have n0_:=Ax (blk_kept (bf0 BK213.out) hkp (fun hs_=>(fun e_=>(Kd.R_ne HO216.out BK213.out (by decide)) e_) hs_));have n1_:=Ax (Kd.R_mono (ok':=fun k_=>(P0_ k_∨w.heap.size≤k_)) ho0 (fun k_ hk_=>Or.elim hk_ (fun hs_=>(HO216.out.1 k_ (hs_).symm)) (fun hn_=>(.inr (Nat.le_trans (by first|exact HK.out.1|exact (show Kept w _ (fun k_=>P0_ k_) from by repeat (first|(with_reducible first|exact HK.out|apply Kept.alloc|apply Kept.drewN|apply Kept.drew|refine Kept.setCell ?_ (.inr GW213.out) _)|exact HK.out)).1) hn_)))));have n2_:=Ax (Kept.then_ (S:=(fun k_=>P0_ k_)) (by repeat (first|(with_reducible first|exact HK.out|apply Kept.alloc|apply Kept.drewN|apply Kept.drew|refine Kept.setCell ?_ (.inr GW213.out) _)|exact HK.out)) hkp (fun k_ hs_=>(fun e_=>(HO216.out.1 k_ e_.symm)) hs_));have n3_:=Ax (hb);clear BK213;clear HK;clear HB;clear HO216;have BK213:=n0_;have HO219:=n1_;have HK:=n2_;have HB:=n3_;clear n0_ n1_ n2_ n3_;(try clear hb);(try clear hkp);(try clear ho0)));go_ret;exact⟨_,eS,by (with_reducible repeat (first|apply Kd.R_alloc|apply Kd.R_drewN|apply Kd.R_drew));exact HO219.out,bw1 HB.out GE213.out,by repeat (first|(with_reducible first|exact HK.out|apply Kept.alloc|apply Kept.drewN|apply Kept.drew|refine Kept.setCell ?_ (.inr GW213.out) _)|exact HK.out)⟩
  ·rw [if_neg c4]at H;have c4b0:(a1_0==1)=false:=beq_eq_false_iff_ne.mpr c4;have c4b1:(a1_0 !=1)=true:=bne_iff_ne.mpr c4;obtain rfl:=Option.some.inj H;go_enter Try.func46,Try.ntmps46;go_wp2_with (first|((with_reducible refine gate_dst (N:=3) rfl ?_);refine box_event ?hg (N:=3) ?hd (cs:= #[.int .u8 a1_0,.int .i64 a1_1]) (t:=33) ?hr ?_;(case hd=>rfl);(case hg=>rfl);(case hr=>first|(go_simp;done)|(go_simp;rfl));intro gb213 hg w12 hbox hb;have n0_:=Ax (Kd.R_below (by (with_reducible repeat (first|apply Kd.R_alloc|apply Kd.R_drewN|apply Kd.R_drew));exact HO0.out) hb);have n1_:=Ax (Kept.below (S:=(fun k_=>P0_ k_)) (by repeat (first|(with_reducible first|exact HK.out|apply Kept.alloc|apply Kept.drewN|apply Kept.drew)|exact HK.out)) hb);have n2_:=Bs0 HB hb;have n3_:=Ax (hbox);have n4_:=Ax ((by rw [hg];exact (by first|exact HK.out.1|exact (show Kept w _ (fun k_=>P0_ k_) from by repeat (first|(with_reducible first|exact HK.out|apply Kept.alloc|apply Kept.drewN|apply Kept.drew)|exact HK.out)).1):w.heap.size≤gb213));have n5_:=Ax ((by rw [hg];exact (below_size (bw0 HB.out)):w0.heap.size≤gb213));clear HO0;clear HK;clear HB;have HO0:=n0_;have HK:=n1_;have HB:=n2_;have BK213:=n3_;have GW213:=n4_;have GE213:=n5_;clear n0_ n1_ n2_ n3_ n4_ n5_;clear hb hbox hg;obtain⟨hcz13_0,hcz13_1,hfz13_0,hfz13_1⟩:=cl2 BK213)|((with_reducible refine gate_builtin (b:=.append) (xs:= #[.tmp 5,.tmp 8]) rfl ?_);at_builtin;refine Kd.R_append (Kd.int .u8) (w0:=w0) w0.heap.size rfl (.tmp 5) (.tmp 8) 67 5 (.int .u8 0) 1 rfl Try.underlying67 info5 rfl (by decide) (by omega) u9000_ l0 a1_0 [.int .u8 a1_0] (fun k_=>(P0_ k_∨w.heap.size≤k_)) (fun _=>False) rfl rfl ?aP (fun _ hk=>hk.elim) ?aF ?aO ?aB ?aS ?aL ?_;(case aP=>exact rfl);(case aB=>exact (bw1 HB.out GE213.out));(case aF=>exact (fun k_ hk=>(.inr (Nat.le_trans (by first|exact HK.out.1|exact (show Kept w _ (fun k_=>P0_ k_) from by repeat (first|(with_reducible first|exact HK.out|apply Kept.alloc|apply Kept.drewN|apply Kept.drew|refine Kept.setCell ?_ (.inr GW213.out) _)|exact HK.out)).1) hk))));(case aO=>exact (by (with_reducible repeat (first|apply Kd.R_alloc|apply Kd.R_drewN|apply Kd.R_drew));exact HO0.out));(case aS=>exact (below_size (bw1 HB.out GE213.out)));(case aL=>have:=LMc3.out;omega);intro v215 w14 ho hb hg hat;rw [← Ny214.out]at ho;have n0_:=Ax (blk_grown (g:=gb213) (o:=.cells #[.int .u8 a1_0,.int .i64 a1_1] 33 (0,0)) (bf0 BK213.out) hg (Kd.R_ne HO0.out BK213.out (by decide)));have n1_:=Ax (hb);have n2_:=Ax (Kept.of_grown (S:=(fun k_=>P0_ k_)) hg (by repeat (first|(with_reducible first|exact HK.out|apply Kept.alloc|apply Kept.drewN|apply Kept.drew|refine Kept.setCell ?_ (.inr GW213.out) _)|exact HK.out)) (fun k_ e_=>(HO0.out.1 k_ e_)));have n3_:=Ax (ho);clear BK213;clear HB;clear HK;clear HO0;have BK213:=n0_;have HB:=n1_;have HK:=n2_;have HO216:=n3_;clear n0_ n1_ n2_ n3_;clear ho hb hg hat;obtain⟨hcz15_0,hcz15_1,hfz15_0,hfz15_1⟩:=cl2 BK213));go_ret;exact⟨_,eS,by (with_reducible repeat (first|apply Kd.R_alloc|apply Kd.R_drewN|apply Kd.R_drew));exact HO216.out,bw1 HB.out GE213.out,by repeat (first|(with_reducible first|exact HK.out|apply Kept.alloc|apply Kept.drewN|apply Kept.drew|refine Kept.setCell ?_ (.inr GW213.out) _)|exact HK.out)⟩
 ·rw [if_neg c3]at H;exact absurd H (by simp)
end Go.Proofs.Ythkdfojmhloofaa.Q
end
