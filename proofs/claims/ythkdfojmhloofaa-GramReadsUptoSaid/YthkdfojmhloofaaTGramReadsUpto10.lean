-- Merged and trimmed by this session's program wip/tools/trim.py.
import Derived.Test.YthkdfojmhloofaaRows
import Derived.ChangeArms
import Derived.WideShapes
import Derived.SizedLaws
import Derived.Laws.BytesArg
import Derived.Laws.BitsLemmas
import Derived.Test.YthkdfojmhloofaaTGramReadsUpto9
section
namespace Go.Proofs.Ythkdfojmhloofaa.Q
open Go.RowKit Go.Proofs.YthkdfojmhloofaaW.PrintWords Go.Proofs.YthkdfojmhloofaaW.PrintLast Go.Proofs.YthkdfojmhloofaaW.PrintMore
attribute [local go_sem] max2_int min2_int max_two min_two max_three min_three max_four min_four   -- for this text's walks alone
set_option linter.unusedVariables false
set_option linter.unusedSimpArgs false
attribute [local go_sem high] eqA38
def spoorref13_Of.f (k:Nat) (B:Int) (C:ByteArray):Option (Int × Int × Int × Int × Bool × Int × Int × Int × Int × Int × Int × Int × Int × Int):=if B=1 then ((spoorref11_Get.f k C).bind fun A=>(if A.2.2.2.2.2.2.2.2.2.2.2.2=0 then (some (A.1,A.2.1,A.2.2.1,A.2.2.2.1,A.2.2.2.2.1,A.2.2.2.2.2.1,A.2.2.2.2.2.2.1,A.2.2.2.2.2.2.2.1,A.2.2.2.2.2.2.2.2.1,A.2.2.2.2.2.2.2.2.2.1,A.2.2.2.2.2.2.2.2.2.2.1,A.2.2.2.2.2.2.2.2.2.2.2.1,0,0)) else (some (0,0,0,0,false,0,0,0,0,0,0,0,2,0)))) else (if B=2 then (if C.toList=([]:List UInt8) then (some (0,0,0,0,false,0,0,0,0,0,0,0,7,0)) else (some (0,0,0,0,false,0,0,0,0,0,0,0,0,2))) else (if B=3 then (if C.toList=([]:List UInt8) then (some (0,0,0,0,false,0,0,0,0,0,0,0,11,0)) else (some (0,0,0,0,false,0,0,0,0,0,0,0,0,2))) else (some (0,0,0,0,false,0,0,0,0,0,0,0,0,2))))
set_option maxHeartbeats 8000000 in
set_option maxRecDepth 100000 in
theorem spoorref13_Of.calls (k:Nat) (E:Int) (F:ByteArray) (r1:Int) (r2:Int) (r3:Int) (r4:Int) (r5:Bool) (r6:Int) (r7:Int) (r8:Int) (r9:Int) (ax:Int) (ay:Int) (az:Int) (aA:Int) (aC:Int) (w:World) (h:spoorref13_Of.f k E F=some (r1,r2,r3,r4,r5,r6,r7,r8,r9,ax,ay,az,aA,aC)):
  Calls Try.prog 9 #[.agg #[.int .u8 E,.string F]] w fun e w'=>e= .returned (.tuple #[.agg #[.int .u8 r1,.int .i64 r2,.int .u64 r3,.int .i64 r4,.bool r5,.int .u64 r6,.int .u64 r7,.int .i64 r8,.int .u8 r9,.int .i64 ax,.int .i64 ay,.int .i64 az,.int .i64 aA],.int .i64 aC])∧Below w.heap.size w w':=by
 have b5:=Try.underlying24;have b6:=Try.underlying38;have b7:=Try.underlying35;have HB:=Ax (Below.refl w.heap.size w);have H:(if E=1 then ((spoorref11_Get.f k F).bind fun M=>(if M.2.2.2.2.2.2.2.2.2.2.2.2=0 then (some (M.1,M.2.1,M.2.2.1,M.2.2.2.1,M.2.2.2.2.1,M.2.2.2.2.2.1,M.2.2.2.2.2.2.1,M.2.2.2.2.2.2.2.1,M.2.2.2.2.2.2.2.2.1,M.2.2.2.2.2.2.2.2.2.1,M.2.2.2.2.2.2.2.2.2.2.1,M.2.2.2.2.2.2.2.2.2.2.2.1,0,0)) else (some (0,0,0,0,false,0,0,0,0,0,0,0,2,0)))) else (if E=2 then (if F.toList=([]:List UInt8) then (some (0,0,0,0,false,0,0,0,0,0,0,0,7,0)) else (some (0,0,0,0,false,0,0,0,0,0,0,0,0,2))) else (if E=3 then (if F.toList=([]:List UInt8) then (some (0,0,0,0,false,0,0,0,0,0,0,0,11,0)) else (some (0,0,0,0,false,0,0,0,0,0,0,0,0,2))) else (some (0,0,0,0,false,0,0,0,0,0,0,0,0,2)))))=some (r1,r2,r3,r4,r5,r6,r7,r8,r9,ax,ay,az,aA,aC):=h;clear h;by_cases c2:E=1
 ·rw [if_pos c2]at H;have aK:(E==1)=true:=beq_iff_eq.mpr c2;have aM:(E !=1)=false:=bne_eq_false_iff_eq.mpr c2;clear c2;replace H:=bI H;obtain⟨⟨I,L,O,V,X,aa,ab,ac,ae,am,au,aw,af⟩,aJ,H⟩:=H;dsimp only at H;have A3:=Ax aJ;clear aJ;by_cases c4:af=0;·rw [if_pos c4]at H;have aN:(af==0)=true:=beq_iff_eq.mpr c4;have aQ:(af !=0)=false:=bne_eq_false_iff_eq.mpr c4;clear c4;simp only[Option.some.injEq,Prod.mk.injEq]at H;obtain⟨rfl,rfl,rfl,rfl,rfl,rfl,rfl,rfl,rfl,rfl,rfl,rfl,rfl,rfl⟩:=H;go_enter Try.func9,Try.ntmps9;go_wp2_with (first|((with_reducible refine gate_dst (N:=1) rfl ?_);refine bX (N:=1) (cs:= #[.int .u8 E,.string F]) (t:=24) ?_;intro ap hg w5 B hb;have A:=Ax (B);have aq:=Gw0 HB hg;have C:=Gw0 HB hg;replace HB:=Bs0 HB hb;clear hb B hg)|((with_reducible refine gate_dst (N:=2) rfl ?_);refine bX (N:=2) (cs:= #[.int .u8 0,.int .i64 0,.int .u64 0,.int .i64 0,.bool false,.int .u64 0,.int .u64 0,.int .i64 0,.int .u8 0,.int .i64 0,.int .i64 0,.int .i64 0,.int .i64 0]) (t:=38) ?_;intro R hg w6 B hb;have D:=Ax (B);have ar:=Gw1 HB hg C.out;have G:=Gw1 HB hg C.out;replace HB:=Bs1 HB hb C.out;have T:=Nl0 A hg;have U:=Nr0 A hg;replace A:=Bx0 A hb;clear hb B hg;have b8:=T.out;have b9:=U.out;obtain⟨ba,bb,bc,bd⟩:=cl2 A)|((with_reducible refine gate_callee (f:=21) rfl ?_);refine goesL_ (some 13) rfl rfl Try.func21 (by kernel_rfl) rfl #[.string F] rfl gS ?_;(with_reducible refine (spoorref11_Get.calls k F I L O V X aa ab ac ae am au aw af _ A3.out).mono ?_);rintro e w9 ⟨rfl,hb⟩;refine⟨_,rfl,?_⟩;replace A:=Bx0 A hb;replace D:=Bx0 D hb;replace HB:=Bs2 HB hb C.out G.out;(try clear hb))|((with_reducible refine gate_dst (N:=4) rfl ?_);refine bX (N:=4) (cs:= #[.int .u8 0,.int .i64 0,.int .u64 0,.int .i64 0,.bool false,.int .u64 0,.int .u64 0,.int .i64 0,.int .u8 0,.int .i64 0,.int .i64 0,.int .i64 0]) (t:=35) ?_;intro aR hg bf B hb;have aD:=Ax (B);have aT:=Gw2 HB hg C.out G.out;have aE:=Gw2 HB hg C.out G.out;replace HB:=Bs2 HB hb C.out G.out;have aG:=Nl0 A hg;have aH:=Nr0 A hg;replace A:=Bx0 A hb;have av:=Nl0 D hg;have aI:=Nr0 D hg;replace D:=Bx0 D hb;clear hb B hg;have bg:=aH.out;have bh:=aG.out;have bi:=aI.out;have bj:=av.out;obtain⟨bk,bl,bm,bn,bo,bq,br,bu,bv,bx,bz,bA,bB,bC,bD,bE,bF,bG,bH,bJ,bK,bL,bM,bN⟩:=cl12 aD;obtain⟨bO,bP,bQ,bR,bS,bT,bU,bV,bW,bY,bZ,cd,ce,cf,cg,ch,ci,cj,ck,cl,cm,cn,co,cq,cr,ct⟩:=cl13 D));refine bodyPost_ret (results_ct rfl _ _ R 38 #[.int .u8 I,.int .i64 L,.int .u64 O,.int .i64 V,.bool X,.int .u64 aa,.int .u64 ab,.int .i64 ac,.int .u8 ae,.int .i64 am,.int .i64 au,.int .i64 aw,.int .i64 0] (0,0) _ rfl (by (with_reducible repeat (first|refine blk_drewN ?_ _|refine blk_drew ?_|refine blk_alloc ?_ _));refine blk_put (cs:= #[.int .u8 I,.int .i64 L,.int .u64 O,.int .i64 V,.bool X,.int .u64 aa,.int .u64 ab,.int .i64 ac,.int .u8 ae,.int .i64 am,.int .i64 au,.int .i64 aw,.int .i64 0]) ?_ 12 _ rfl;(with_reducible repeat (first|refine blk_drewN ?_ _|refine blk_drew ?_|refine blk_alloc ?_ _));refine blk_put (cs:= #[.int .u8 I,.int .i64 L,.int .u64 O,.int .i64 V,.bool X,.int .u64 aa,.int .u64 ab,.int .i64 ac,.int .u8 ae,.int .i64 am,.int .i64 au,.int .i64 0,.int .i64 0]) ?_ 11 _ rfl;(with_reducible repeat (first|refine blk_drewN ?_ _|refine blk_drew ?_|refine blk_alloc ?_ _));refine blk_put (cs:= #[.int .u8 I,.int .i64 L,.int .u64 O,.int .i64 V,.bool X,.int .u64 aa,.int .u64 ab,.int .i64 ac,.int .u8 ae,.int .i64 am,.int .i64 0,.int .i64 0,.int .i64 0]) ?_ 10 _ rfl;(with_reducible repeat (first|refine blk_drewN ?_ _|refine blk_drew ?_|refine blk_alloc ?_ _));refine blk_put (cs:= #[.int .u8 I,.int .i64 L,.int .u64 O,.int .i64 V,.bool X,.int .u64 aa,.int .u64 ab,.int .i64 ac,.int .u8 ae,.int .i64 0,.int .i64 0,.int .i64 0,.int .i64 0]) ?_ 9 _ rfl;(with_reducible repeat (first|refine blk_drewN ?_ _|refine blk_drew ?_|refine blk_alloc ?_ _));refine blk_put (cs:= #[.int .u8 I,.int .i64 L,.int .u64 O,.int .i64 V,.bool X,.int .u64 aa,.int .u64 ab,.int .i64 ac,.int .u8 0,.int .i64 0,.int .i64 0,.int .i64 0,.int .i64 0]) ?_ 8 _ rfl;(with_reducible repeat (first|refine blk_drewN ?_ _|refine blk_drew ?_|refine blk_alloc ?_ _));refine blk_put (cs:= #[.int .u8 I,.int .i64 L,.int .u64 O,.int .i64 V,.bool X,.int .u64 aa,.int .u64 ab,.int .i64 0,.int .u8 0,.int .i64 0,.int .i64 0,.int .i64 0,.int .i64 0]) ?_ 7 _ rfl;(with_reducible repeat (first|refine blk_drewN ?_ _|refine blk_drew ?_|refine blk_alloc ?_ _));refine blk_put (cs:= #[.int .u8 I,.int .i64 L,.int .u64 O,.int .i64 V,.bool X,.int .u64 aa,.int .u64 0,.int .i64 0,.int .u8 0,.int .i64 0,.int .i64 0,.int .i64 0,.int .i64 0]) ?_ 6 _ rfl;(with_reducible repeat (first|refine blk_drewN ?_ _|refine blk_drew ?_|refine blk_alloc ?_ _));refine blk_put (cs:= #[.int .u8 I,.int .i64 L,.int .u64 O,.int .i64 V,.bool X,.int .u64 0,.int .u64 0,.int .i64 0,.int .u8 0,.int .i64 0,.int .i64 0,.int .i64 0,.int .i64 0]) ?_ 5 _ rfl;(with_reducible repeat (first|refine blk_drewN ?_ _|refine blk_drew ?_|refine blk_alloc ?_ _));refine blk_put (cs:= #[.int .u8 I,.int .i64 L,.int .u64 O,.int .i64 V,.bool false,.int .u64 0,.int .u64 0,.int .i64 0,.int .u8 0,.int .i64 0,.int .i64 0,.int .i64 0,.int .i64 0]) ?_ 4 _ rfl;(with_reducible repeat (first|refine blk_drewN ?_ _|refine blk_drew ?_|refine blk_alloc ?_ _));refine blk_put (cs:= #[.int .u8 I,.int .i64 L,.int .u64 O,.int .i64 0,.bool false,.int .u64 0,.int .u64 0,.int .i64 0,.int .u8 0,.int .i64 0,.int .i64 0,.int .i64 0,.int .i64 0]) ?_ 3 _ rfl;(with_reducible repeat (first|refine blk_drewN ?_ _|refine blk_drew ?_|refine blk_alloc ?_ _));refine blk_put (cs:= #[.int .u8 I,.int .i64 L,.int .u64 0,.int .i64 0,.bool false,.int .u64 0,.int .u64 0,.int .i64 0,.int .u8 0,.int .i64 0,.int .i64 0,.int .i64 0,.int .i64 0]) ?_ 2 _ rfl;(with_reducible repeat (first|refine blk_drewN ?_ _|refine blk_drew ?_|refine blk_alloc ?_ _));refine blk_put (cs:= #[.int .u8 I,.int .i64 0,.int .u64 0,.int .i64 0,.bool false,.int .u64 0,.int .u64 0,.int .i64 0,.int .u8 0,.int .i64 0,.int .i64 0,.int .i64 0,.int .i64 0]) ?_ 1 _ rfl;(with_reducible repeat (first|refine blk_drewN ?_ _|refine blk_drew ?_|refine blk_alloc ?_ _));refine blk_put (cs:= #[.int .u8 0,.int .i64 0,.int .u64 0,.int .i64 0,.bool false,.int .u64 0,.int .u64 0,.int .i64 0,.int .u8 0,.int .i64 0,.int .i64 0,.int .i64 0,.int .i64 0]) ?_ 0 _ rfl;(repeat (first|(with_reducible first|refine blk_drewN ?_ _|refine blk_drew ?_|refine blk_alloc ?_ _)|refine blk_far ?_ av.out _));exact D.out) Try.underlying38 rfl (by kernel_rfl)) rfl ?_;exact⟨eS,bw3 HB.out C.out G.out aE.out⟩
  ·rw [if_neg c4]at H;have aN:(af==0)=false:=beq_eq_false_iff_ne.mpr c4;have aQ:(af !=0)=true:=bne_iff_ne.mpr c4;simp only[Option.some.injEq,Prod.mk.injEq]at H;obtain⟨rfl,rfl,rfl,rfl,rfl,rfl,rfl,rfl,rfl,rfl,rfl,rfl,rfl,rfl⟩:=H;go_enter Try.func9,Try.ntmps9;go_wp2_with (first|((with_reducible refine gate_dst (N:=1) rfl ?_);refine bX (N:=1) (cs:= #[.int .u8 E,.string F]) (t:=24) ?_;intro ap hg cu B hb;have A:=Ax (B);have aq:=Gw0 HB hg;have C:=Gw0 HB hg;replace HB:=Bs0 HB hb;clear hb B hg)|((with_reducible refine gate_dst (N:=2) rfl ?_);refine bX (N:=2) (cs:= #[.int .u8 0,.int .i64 0,.int .u64 0,.int .i64 0,.bool false,.int .u64 0,.int .u64 0,.int .i64 0,.int .u8 0,.int .i64 0,.int .i64 0,.int .i64 0,.int .i64 0]) (t:=38) ?_;intro R hg cv B hb;have D:=Ax (B);have ar:=Gw1 HB hg C.out;have G:=Gw1 HB hg C.out;replace HB:=Bs1 HB hb C.out;have T:=Nl0 A hg;have U:=Nr0 A hg;replace A:=Bx0 A hb;clear hb B hg;have cw:=T.out;have cx:=U.out;obtain⟨cy,cz,cA,cB⟩:=cl2 A)|((with_reducible refine gate_callee (f:=21) rfl ?_);refine goesL_ (some 13) rfl rfl Try.func21 (by kernel_rfl) rfl #[.string F] rfl gS ?_;(with_reducible refine (spoorref11_Get.calls k F I L O V X aa ab ac ae am au aw af _ A3.out).mono ?_);rintro e cC ⟨rfl,hb⟩;refine⟨_,rfl,?_⟩;replace A:=Bx0 A hb;replace D:=Bx0 D hb;replace HB:=Bs2 HB hb C.out G.out;(try clear hb))|((with_reducible refine gate_dst (N:=4) rfl ?_);refine bX (N:=4) (cs:= #[.int .u8 0,.int .i64 0,.int .u64 0,.int .i64 0,.bool false,.int .u64 0,.int .u64 0,.int .i64 0,.int .u8 0,.int .i64 0,.int .i64 0,.int .i64 0]) (t:=35) ?_;intro aR hg cD B hb;have aD:=Ax (B);have aT:=Gw2 HB hg C.out G.out;have aE:=Gw2 HB hg C.out G.out;replace HB:=Bs2 HB hb C.out G.out;have aG:=Nl0 A hg;have aH:=Nr0 A hg;replace A:=Bx0 A hb;have av:=Nl0 D hg;have aI:=Nr0 D hg;replace D:=Bx0 D hb;clear hb B hg;have cE:=aH.out;have cF:=aG.out;have cG:=aI.out;have cH:=av.out;obtain⟨cI,cJ,cK,cL,cM,cN,cO,cP,cQ,cR,cS,cT,cU,cV,cW,cX,cY,cZ,d2,d3,d4,d5,d6,d7⟩:=cl12 aD;obtain⟨d8,d9,da,db,dc,dd,de,df,dg,dh,di,dj,dk,dl,dm,dn,dp,dq,dr,dt,du,dv,dw,dx,dy,dz⟩:=cl13 D));refine bodyPost_ret (results_ct rfl _ _ R 38 #[.int .u8 0,.int .i64 0,.int .u64 0,.int .i64 0,.bool false,.int .u64 0,.int .u64 0,.int .i64 0,.int .u8 0,.int .i64 0,.int .i64 0,.int .i64 0,.int .i64 2] (0,0) _ rfl (by (with_reducible repeat (first|refine blk_drewN ?_ _|refine blk_drew ?_|refine blk_alloc ?_ _));refine blk_put (cs:= #[.int .u8 0,.int .i64 0,.int .u64 0,.int .i64 0,.bool false,.int .u64 0,.int .u64 0,.int .i64 0,.int .u8 0,.int .i64 0,.int .i64 0,.int .i64 0,.int .i64 0]) ?_ 12 _ rfl;(with_reducible repeat (first|refine blk_drewN ?_ _|refine blk_drew ?_|refine blk_alloc ?_ _));refine blk_put (cs:= #[.int .u8 0,.int .i64 0,.int .u64 0,.int .i64 0,.bool false,.int .u64 0,.int .u64 0,.int .i64 0,.int .u8 0,.int .i64 0,.int .i64 0,.int .i64 0,.int .i64 0]) ?_ 11 _ rfl;(with_reducible repeat (first|refine blk_drewN ?_ _|refine blk_drew ?_|refine blk_alloc ?_ _));refine blk_put (cs:= #[.int .u8 0,.int .i64 0,.int .u64 0,.int .i64 0,.bool false,.int .u64 0,.int .u64 0,.int .i64 0,.int .u8 0,.int .i64 0,.int .i64 0,.int .i64 0,.int .i64 0]) ?_ 10 _ rfl;(with_reducible repeat (first|refine blk_drewN ?_ _|refine blk_drew ?_|refine blk_alloc ?_ _));refine blk_put (cs:= #[.int .u8 0,.int .i64 0,.int .u64 0,.int .i64 0,.bool false,.int .u64 0,.int .u64 0,.int .i64 0,.int .u8 0,.int .i64 0,.int .i64 0,.int .i64 0,.int .i64 0]) ?_ 9 _ rfl;(with_reducible repeat (first|refine blk_drewN ?_ _|refine blk_drew ?_|refine blk_alloc ?_ _));refine blk_put (cs:= #[.int .u8 0,.int .i64 0,.int .u64 0,.int .i64 0,.bool false,.int .u64 0,.int .u64 0,.int .i64 0,.int .u8 0,.int .i64 0,.int .i64 0,.int .i64 0,.int .i64 0]) ?_ 8 _ rfl;(with_reducible repeat (first|refine blk_drewN ?_ _|refine blk_drew ?_|refine blk_alloc ?_ _));refine blk_put (cs:= #[.int .u8 0,.int .i64 0,.int .u64 0,.int .i64 0,.bool false,.int .u64 0,.int .u64 0,.int .i64 0,.int .u8 0,.int .i64 0,.int .i64 0,.int .i64 0,.int .i64 0]) ?_ 7 _ rfl;(with_reducible repeat (first|refine blk_drewN ?_ _|refine blk_drew ?_|refine blk_alloc ?_ _));refine blk_put (cs:= #[.int .u8 0,.int .i64 0,.int .u64 0,.int .i64 0,.bool false,.int .u64 0,.int .u64 0,.int .i64 0,.int .u8 0,.int .i64 0,.int .i64 0,.int .i64 0,.int .i64 0]) ?_ 6 _ rfl;(with_reducible repeat (first|refine blk_drewN ?_ _|refine blk_drew ?_|refine blk_alloc ?_ _));refine blk_put (cs:= #[.int .u8 0,.int .i64 0,.int .u64 0,.int .i64 0,.bool false,.int .u64 0,.int .u64 0,.int .i64 0,.int .u8 0,.int .i64 0,.int .i64 0,.int .i64 0,.int .i64 0]) ?_ 5 _ rfl;(with_reducible repeat (first|refine blk_drewN ?_ _|refine blk_drew ?_|refine blk_alloc ?_ _));refine blk_put (cs:= #[.int .u8 0,.int .i64 0,.int .u64 0,.int .i64 0,.bool false,.int .u64 0,.int .u64 0,.int .i64 0,.int .u8 0,.int .i64 0,.int .i64 0,.int .i64 0,.int .i64 0]) ?_ 4 _ rfl;(with_reducible repeat (first|refine blk_drewN ?_ _|refine blk_drew ?_|refine blk_alloc ?_ _));refine blk_put (cs:= #[.int .u8 0,.int .i64 0,.int .u64 0,.int .i64 0,.bool false,.int .u64 0,.int .u64 0,.int .i64 0,.int .u8 0,.int .i64 0,.int .i64 0,.int .i64 0,.int .i64 0]) ?_ 3 _ rfl;(with_reducible repeat (first|refine blk_drewN ?_ _|refine blk_drew ?_|refine blk_alloc ?_ _));refine blk_put (cs:= #[.int .u8 0,.int .i64 0,.int .u64 0,.int .i64 0,.bool false,.int .u64 0,.int .u64 0,.int .i64 0,.int .u8 0,.int .i64 0,.int .i64 0,.int .i64 0,.int .i64 0]) ?_ 2 _ rfl;(with_reducible repeat (first|refine blk_drewN ?_ _|refine blk_drew ?_|refine blk_alloc ?_ _));refine blk_put (cs:= #[.int .u8 0,.int .i64 0,.int .u64 0,.int .i64 0,.bool false,.int .u64 0,.int .u64 0,.int .i64 0,.int .u8 0,.int .i64 0,.int .i64 0,.int .i64 0,.int .i64 0]) ?_ 1 _ rfl;(with_reducible repeat (first|refine blk_drewN ?_ _|refine blk_drew ?_|refine blk_alloc ?_ _));refine blk_put (cs:= #[.int .u8 0,.int .i64 0,.int .u64 0,.int .i64 0,.bool false,.int .u64 0,.int .u64 0,.int .i64 0,.int .u8 0,.int .i64 0,.int .i64 0,.int .i64 0,.int .i64 0]) ?_ 0 _ rfl;(repeat (first|(with_reducible first|refine blk_drewN ?_ _|refine blk_drew ?_|refine blk_alloc ?_ _)|refine blk_far ?_ av.out _));exact D.out) Try.underlying38 rfl (by kernel_rfl)) rfl ?_;exact⟨eS,bw3 HB.out C.out G.out aE.out⟩
 ·rw [if_neg c2]at H;have aK:(E==1)=false:=beq_eq_false_iff_ne.mpr c2;have aM:(E !=1)=true:=bne_iff_ne.mpr c2;by_cases ag:E=2
  ·rw [if_pos ag]at H;have aU:(E==2)=true:=beq_iff_eq.mpr ag;have aV:(E !=2)=false:=bne_eq_false_iff_eq.mpr ag;clear ag;by_cases ah:F.toList=([]:List UInt8);·rw [if_pos ah]at H;have aW:(F.toList==([]:List UInt8))=true:=beq_iff_eq.mpr ah;have aY:(F.toList !=([]:List UInt8))=false:=bne_eq_false_iff_eq.mpr ah;clear ah;simp only[Option.some.injEq,Prod.mk.injEq]at H;obtain⟨rfl,rfl,rfl,rfl,rfl,rfl,rfl,rfl,rfl,rfl,rfl,rfl,rfl,rfl⟩:=H;go_enter Try.func9,Try.ntmps9;go_wp2_with (first|((with_reducible refine gate_dst (N:=1) rfl ?_);refine bX (N:=1) (cs:= #[.int .u8 E,.string F]) (t:=24) ?_;intro ap hg dA B hb;have A:=Ax (B);have aq:=Gw0 HB hg;have C:=Gw0 HB hg;replace HB:=Bs0 HB hb;clear hb B hg)|((with_reducible refine gate_dst (N:=2) rfl ?_);refine bX (N:=2) (cs:= #[.int .u8 0,.int .i64 0,.int .u64 0,.int .i64 0,.bool false,.int .u64 0,.int .u64 0,.int .i64 0,.int .u8 0,.int .i64 0,.int .i64 0,.int .i64 0,.int .i64 0]) (t:=38) ?_;intro R hg dB B hb;have D:=Ax (B);have ar:=Gw1 HB hg C.out;have G:=Gw1 HB hg C.out;replace HB:=Bs1 HB hb C.out;have T:=Nl0 A hg;have U:=Nr0 A hg;replace A:=Bx0 A hb;clear hb B hg;have dC:=T.out;have dD:=U.out;obtain⟨dE,dG,dH,dI⟩:=cl2 A;obtain⟨dJ,dK,dL,dM,dN,dO,dP,dQ,dR,dS,dU,dV,dW,dX,dY,dZ,e7,e8,e9,ea,eb,ec,ed,ee,ef,eg⟩:=cl13 D));refine bodyPost_ret (results_ct rfl _ _ R 38 #[.int .u8 0,.int .i64 0,.int .u64 0,.int .i64 0,.bool false,.int .u64 0,.int .u64 0,.int .i64 0,.int .u8 0,.int .i64 0,.int .i64 0,.int .i64 0,.int .i64 7] (0,0) _ rfl (gB D.out) Try.underlying38 rfl (by kernel_rfl)) rfl ?_;exact⟨eS,bw2 HB.out C.out G.out⟩
   ·rw [if_neg ah]at H;have aW:(F.toList==([]:List UInt8))=false:=beq_eq_false_iff_ne.mpr ah;have aY:(F.toList !=([]:List UInt8))=true:=bne_iff_ne.mpr ah;simp only[Option.some.injEq,Prod.mk.injEq]at H;obtain⟨rfl,rfl,rfl,rfl,rfl,rfl,rfl,rfl,rfl,rfl,rfl,rfl,rfl,rfl⟩:=H;go_enter Try.func9,Try.ntmps9;go_wp2_with (first|((with_reducible refine gate_dst (N:=1) rfl ?_);refine bX (N:=1) (cs:= #[.int .u8 E,.string F]) (t:=24) ?_;intro ap hg eh B hb;have A:=Ax (B);have aq:=Gw0 HB hg;have C:=Gw0 HB hg;replace HB:=Bs0 HB hb;clear hb B hg)|((with_reducible refine gate_dst (N:=2) rfl ?_);refine bX (N:=2) (cs:= #[.int .u8 0,.int .i64 0,.int .u64 0,.int .i64 0,.bool false,.int .u64 0,.int .u64 0,.int .i64 0,.int .u8 0,.int .i64 0,.int .i64 0,.int .i64 0,.int .i64 0]) (t:=38) ?_;intro R hg ei B hb;have D:=Ax (B);have ar:=Gw1 HB hg C.out;have G:=Gw1 HB hg C.out;replace HB:=Bs1 HB hb C.out;have T:=Nl0 A hg;have U:=Nr0 A hg;replace A:=Bx0 A hb;clear hb B hg;have ej:=T.out;have ek:=U.out;obtain⟨el,en,eo,ep⟩:=cl2 A;obtain⟨eq,er,es,et,eu,ev,ex,ey,ez,eA,eB,eC,eD,eE,eF,eG,eH,eI,eJ,eK,eL,eM,eN,eO,eP,eQ⟩:=cl13 D));refine bodyPost_ret (results_ct rfl _ _ R 38 #[.int .u8 0,.int .i64 0,.int .u64 0,.int .i64 0,.bool false,.int .u64 0,.int .u64 0,.int .i64 0,.int .u8 0,.int .i64 0,.int .i64 0,.int .i64 0,.int .i64 0] (0,0) _ rfl (gB D.out) Try.underlying38 rfl (by kernel_rfl)) rfl ?_;exact⟨eS,bw2 HB.out C.out G.out⟩
  ·rw [if_neg ag]at H;have aU:(E==2)=false:=beq_eq_false_iff_ne.mpr ag;have aV:(E !=2)=true:=bne_iff_ne.mpr ag;by_cases aj:E=3
   ·rw [if_pos aj]at H;have aZ:(E==3)=true:=beq_iff_eq.mpr aj;have b2:(E !=3)=false:=bne_eq_false_iff_eq.mpr aj;clear aj;by_cases al:F.toList=([]:List UInt8);·rw [if_pos al]at H;have b3:(F.toList==([]:List UInt8))=true:=beq_iff_eq.mpr al;have b4:(F.toList !=([]:List UInt8))=false:=bne_eq_false_iff_eq.mpr al;clear al;simp only[Option.some.injEq,Prod.mk.injEq]at H;obtain⟨rfl,rfl,rfl,rfl,rfl,rfl,rfl,rfl,rfl,rfl,rfl,rfl,rfl,rfl⟩:=H;go_enter Try.func9,Try.ntmps9;go_wp2_with (first|((with_reducible refine gate_dst (N:=1) rfl ?_);refine bX (N:=1) (cs:= #[.int .u8 E,.string F]) (t:=24) ?_;intro ap hg eR B hb;have A:=Ax (B);have aq:=Gw0 HB hg;have C:=Gw0 HB hg;replace HB:=Bs0 HB hb;clear hb B hg)|((with_reducible refine gate_dst (N:=2) rfl ?_);refine bX (N:=2) (cs:= #[.int .u8 0,.int .i64 0,.int .u64 0,.int .i64 0,.bool false,.int .u64 0,.int .u64 0,.int .i64 0,.int .u8 0,.int .i64 0,.int .i64 0,.int .i64 0,.int .i64 0]) (t:=38) ?_;intro R hg eT B hb;have D:=Ax (B);have ar:=Gw1 HB hg C.out;have G:=Gw1 HB hg C.out;replace HB:=Bs1 HB hb C.out;have T:=Nl0 A hg;have U:=Nr0 A hg;replace A:=Bx0 A hb;clear hb B hg;have eU:=T.out;have eV:=U.out;obtain⟨eW,eX,eY,eZ⟩:=cl2 A;obtain⟨fb,fc,fd,fe,fg,fh,fi,fj,fk,fl,fm,fo,fp,fq,ft,fu,fv,fw,fx,fy,fz,fA,fB,fC,fD,fE⟩:=cl13 D));refine bodyPost_ret (results_ct rfl _ _ R 38 #[.int .u8 0,.int .i64 0,.int .u64 0,.int .i64 0,.bool false,.int .u64 0,.int .u64 0,.int .i64 0,.int .u8 0,.int .i64 0,.int .i64 0,.int .i64 0,.int .i64 11] (0,0) _ rfl (gB D.out) Try.underlying38 rfl (by kernel_rfl)) rfl ?_;exact⟨eS,bw2 HB.out C.out G.out⟩
    ·rw [if_neg al]at H;have b3:(F.toList==([]:List UInt8))=false:=beq_eq_false_iff_ne.mpr al;have b4:(F.toList !=([]:List UInt8))=true:=bne_iff_ne.mpr al;simp only[Option.some.injEq,Prod.mk.injEq]at H;obtain⟨rfl,rfl,rfl,rfl,rfl,rfl,rfl,rfl,rfl,rfl,rfl,rfl,rfl,rfl⟩:=H;go_enter Try.func9,Try.ntmps9;go_wp2_with (first|((with_reducible refine gate_dst (N:=1) rfl ?_);refine bX (N:=1) (cs:= #[.int .u8 E,.string F]) (t:=24) ?_;intro ap hg fF B hb;have A:=Ax (B);have aq:=Gw0 HB hg;have C:=Gw0 HB hg;replace HB:=Bs0 HB hb;clear hb B hg)|((with_reducible refine gate_dst (N:=2) rfl ?_);refine bX (N:=2) (cs:= #[.int .u8 0,.int .i64 0,.int .u64 0,.int .i64 0,.bool false,.int .u64 0,.int .u64 0,.int .i64 0,.int .u8 0,.int .i64 0,.int .i64 0,.int .i64 0,.int .i64 0]) (t:=38) ?_;intro R hg fG B hb;have D:=Ax (B);have ar:=Gw1 HB hg C.out;have G:=Gw1 HB hg C.out;replace HB:=Bs1 HB hb C.out;have T:=Nl0 A hg;have U:=Nr0 A hg;replace A:=Bx0 A hb;clear hb B hg;have fH:=T.out;have fI:=U.out;obtain⟨fJ,fK,fL,fM⟩:=cl2 A;obtain⟨fN,fO,fP,fQ,fR,fS,fT,fU,fV,fW,fX,fY,fZ,g6,g7,g8,g9,ga,gb,gc,gh,gi,gj,gl,gn,gq⟩:=cl13 D));refine bodyPost_ret (results_ct rfl _ _ R 38 #[.int .u8 0,.int .i64 0,.int .u64 0,.int .i64 0,.bool false,.int .u64 0,.int .u64 0,.int .i64 0,.int .u8 0,.int .i64 0,.int .i64 0,.int .i64 0,.int .i64 0] (0,0) _ rfl (gB D.out) Try.underlying38 rfl (by kernel_rfl)) rfl ?_;exact⟨eS,bw2 HB.out C.out G.out⟩
   ·rw [if_neg aj]at H;have aZ:(E==3)=false:=beq_eq_false_iff_ne.mpr aj;have b2:(E !=3)=true:=bne_iff_ne.mpr aj;simp only[Option.some.injEq,Prod.mk.injEq]at H;obtain⟨rfl,rfl,rfl,rfl,rfl,rfl,rfl,rfl,rfl,rfl,rfl,rfl,rfl,rfl⟩:=H;go_enter Try.func9,Try.ntmps9;go_wp2_with (first|((with_reducible refine gate_dst (N:=1) rfl ?_);refine bX (N:=1) (cs:= #[.int .u8 E,.string F]) (t:=24) ?_;intro ap hg gt B hb;have A:=Ax (B);have aq:=Gw0 HB hg;have C:=Gw0 HB hg;replace HB:=Bs0 HB hb;clear hb B hg)|((with_reducible refine gate_dst (N:=2) rfl ?_);refine bX (N:=2) (cs:= #[.int .u8 0,.int .i64 0,.int .u64 0,.int .i64 0,.bool false,.int .u64 0,.int .u64 0,.int .i64 0,.int .u8 0,.int .i64 0,.int .i64 0,.int .i64 0,.int .i64 0]) (t:=38) ?_;intro R hg gu B hb;have D:=Ax (B);have ar:=Gw1 HB hg C.out;have G:=Gw1 HB hg C.out;replace HB:=Bs1 HB hb C.out;have T:=Nl0 A hg;have U:=Nr0 A hg;replace A:=Bx0 A hb;clear hb B hg;have gv:=T.out;have gx:=U.out;obtain⟨gy,gz,gA,gC⟩:=cl2 A;obtain⟨gD,gE,gG,gH,gI,gJ,gM,gN,gO,gP,gQ,gR,gT,gU,gV,gW,gX,gY,gZ,hH,hL,hO,hP,hU,hX,hZ⟩:=cl13 D));refine bodyPost_ret (results_ct rfl _ _ R 38 #[.int .u8 0,.int .i64 0,.int .u64 0,.int .i64 0,.bool false,.int .u64 0,.int .u64 0,.int .i64 0,.int .u8 0,.int .i64 0,.int .i64 0,.int .i64 0,.int .i64 0] (0,0) _ rfl (gB D.out) Try.underlying38 rfl (by kernel_rfl)) rfl ?_;exact⟨eS,bw2 HB.out C.out G.out⟩
mutual
def spoorref13_Pieces.l0 : Nat → ByteArray → List (S24) → Option ((List (S24)))
 | 0, _, _ => none
 | k + 1, x0, x3 => if x0.toList = ([] : List UInt8) then (some x3) else (spoorref13_Pieces.l1 k x0 x3 0)
def spoorref13_Pieces.j2 : Nat → ByteArray → List (S24) → Int → Option ((List (S24)))
 | 0, _, _, _ => none
 | k + 1, x0, x3, x4 => if x4 > 0 then (if x3.length < 5864062014805 then (if 0 ≤ x4 then (if x4 ≤ (x0.size : Int) then (spoorref13_Pieces.l0 k (x0.extract (x4 : Int).toNat x0.size) (x3 ++ [(⟨2, (⟨#[]⟩ : ByteArray)⟩ : S24)])) else (none)) else (none)) else (none)) else (if (x0.size : Int) < 3 then (some x3) else (if 1 < (x0.size : Int) then (if 2 < (x0.size : Int) then (if 3 ≤ (x0.size : Int) then (if (wrap64 ((wrap64 (256 * (wrap64 (bt x0 1)))) + (wrap64 (bt x0 2)))) = 0 then (spoorref13_Pieces.j3 k (x0.extract 3 x0.size) x3 (wrap64 ((wrap64 (256 * (wrap64 (bt x0 1)))) + (wrap64 (bt x0 2)))) true) else (spoorref13_Pieces.j3 k (x0.extract 3 x0.size) x3 (wrap64 ((wrap64 (256 * (wrap64 (bt x0 1)))) + (wrap64 (bt x0 2)))) (decide ((wrap64 ((wrap64 (256 * (wrap64 (bt x0 1)))) + (wrap64 (bt x0 2)))) > 64)))) else (none)) else (none)) else (none)))
def spoorref13_Pieces.j3 : Nat → ByteArray → List (S24) → Int → Bool → Option ((List (S24)))
 | 0, _, _, _, _ => none
 | k + 1, x0, x3, x5, x48 => if x48 = true then (if x3.length < 5864062014805 then (spoorref13_Pieces.j4 k x0 (x3 ++ [(⟨3, (⟨#[]⟩ : ByteArray)⟩ : S24)]) x5) else (none)) else (spoorref13_Pieces.j4 k x0 x3 x5)
def spoorref13_Pieces.j4 : Nat → ByteArray → List (S24) → Int → Option ((List (S24)))
 | 0, _, _, _ => none
 | k + 1, x0, x3, x5 => if x5 > (x0.size : Int) then (some x3) else (if x5 > 0 then (if x5 ≤ 64 then (if 0 ≤ x5 then (if x5 ≤ (x0.size : Int) then (if x3.length < 5864062014805 then (spoorref13_Pieces.l0 k (x0.extract (x5 : Int).toNat x0.size) (x3 ++ [(⟨1, x0.extract 0 (x5 : Int).toNat⟩ : S24)])) else (none)) else (none)) else (none)) else (if 0 ≤ x5 then (if x5 ≤ (x0.size : Int) then (spoorref13_Pieces.l0 k (x0.extract (x5 : Int).toNat x0.size) x3) else (none)) else (none))) else (if 0 ≤ x5 then (if x5 ≤ (x0.size : Int) then (spoorref13_Pieces.l0 k (x0.extract (x5 : Int).toNat x0.size) x3) else (none)) else (none)))
def spoorref13_Pieces.l1 : Nat → ByteArray → List (S24) → Int → Option ((List (S24)))
 | 0, _, _, _ => none
 | k + 1, x0, x3, x4 => if x4 < (x0.size : Int) then (if 0 ≤ x4 then (if (bt x0 x4) = 245 then (spoorref13_Pieces.j2 k x0 x3 x4) else (spoorref13_Pieces.l1 k x0 x3 (wrap64 (x4 + 1)))) else (none)) else (spoorref13_Pieces.j2 k x0 x3 x4)
end
def spoorref13_Pieces.f (k:Nat) (a0:ByteArray):Option ((List (S24))):=spoorref13_Pieces.l0 k a0 ([]:List (S24))
set_option maxHeartbeats 8000000 in
set_option maxRecDepth 100000 in
theorem spoorref13_Pieces.calls (k:Nat) (a0:ByteArray) (r:List (S24)) (w:World) (h:spoorref13_Pieces.f k a0=some r):
  Calls Try.prog 13 #[.string a0] w fun e w'=> ∃ bn:Value,e= .returned (bn)∧Kd.R k24 24 w' w.heap.size (fun _=>True) bn r∧Below w.heap.size w w':=by
 have ci:=Try.underlying24;have HB:=Ax (Below.refl w.heap.size w);have H:(spoorref13_Pieces.l0 k a0 ([]:List (S24)))=some r:=h;clear h;have H':=Ax H;clear H;go_enter Try.func13,Try.ntmps13;go_wp2
 repeat (go_quiet (fail);try go_wp2)
 go_loopg [0,3] k (fun kq v0 v3 w'=> ∃ (A:ByteArray) (F:List (S24)),v0= .string A∧Aside0 (spoorref13_Pieces.l0 kq A F=some r)∧Aside0 (kq≤k)∧Aside0 (Kd.R k24 24 w' w.heap.size (fun _=>True) v3 F)∧Aside0 (Below w.heap.size w w'))
 case atStart=>exact⟨(a0),(([]:List (S24))),rS,H',⟨Nat.le_refl _⟩,⟨by first|exact Kd.R_nil _ _ _ _ _|exact Kd.N_nil _ _ _ _ _|exact Kd.V_nil _ _ _ _ _|exact Kd.Q_nil _ _ _ _ _|exact Kd.S_nil _ _ _ _ _⟩,⟨bw0 HB.out⟩⟩
 case round=>
  clear H';try clear c1
  obtain⟨A,F,rfl,HA,L,C,HB⟩:=hrel;cases gk with
  |zero=>exact absurd HA.out (by simp [spoorref13_Pieces.l0])
  |succ k1=>
   have H:=HA.out;clear HA;simp only[spoorref13_Pieces.l0]at H;by_cases c2:A.toList=([]:List UInt8)
   ·rw [if_pos c2]at H;have az:(A.toList==([]:List UInt8))=true:=beq_iff_eq.mpr c2;have aA:(A.toList !=([]:List UInt8))=false:=bne_eq_false_iff_eq.mpr c2;clear c2;obtain rfl:=Option.some.inj H;go_wp2
    repeat (go_quiet (fail);try go_wp2)
    go_ret;exact⟨_,eS,by (with_reducible repeat (first|apply Kd.R_alloc|apply Kd.R_drewN|apply Kd.R_drew));exact C.out,bw0 HB.out⟩
   ·rw [if_neg c2]at H;have az:(A.toList==([]:List UInt8))=false:=beq_eq_false_iff_ne.mpr c2;have aA:(A.toList !=([]:List UInt8))=true:=bne_iff_ne.mpr c2;have b4:=Ax H;clear H;go_upto_block 2 with (fail)
    repeat (go_quiet (fail);go_upto_block 2 with (fail))
    go_cut [4] (fun v4 wc=> ∃ (kq:Nat) (B:Int),v4= .int .i64 B∧Aside0 (spoorref13_Pieces.j2 kq A F B=some r)∧Aside0 (kq≤k1)∧Aside0 (Kd.R k24 24 wc w.heap.size (fun _=>True) u3 F)∧Aside0 (Below w.heap.size w wc))
    case first=>
     have H:=b4.out;clear b4;have H':=Ax H;clear H;go_wp2
     repeat (go_quiet (fail);try go_wp2)
     go_loopg [4] k1 (fun kq v4 w'=> ∃ (B:Int),v4= .int .i64 B∧Aside0 (spoorref13_Pieces.l1 kq A F B=some r)∧Aside0 (kq≤k1)∧Aside0 (Kd.R k24 24 w' w.heap.size (fun _=>True) u3 F)∧Aside0 (Below w.heap.size w w'))
     case atStart=>exact⟨(0),rS,H',⟨Nat.le_refl _⟩,⟨by (with_reducible repeat (first|apply Kd.R_alloc|apply Kd.R_drewN|apply Kd.R_drew));exact C.out⟩,⟨bw0 HB.out⟩⟩
     case round=>
      clear H';(try clear c1);(try clear c2);(try clear az);(try clear aA);(try clear p2);obtain⟨B,rfl,HA,aU,C,HB⟩:=hrel;cases gk with
      |zero=>exact absurd HA.out (by simp [spoorref13_Pieces.l1])
      |succ k2=>
       have H:=HA.out;clear HA;simp only[spoorref13_Pieces.l1]at H;by_cases c4:B<(A.size:Int)
       ·rw [if_pos c4]at H;have X:decide (B<(A.size:Int))=true:=dT c4;clear c4
        (first|rw [X]|(simp only[i64_w,i32_w];rw [X])|skip)
        by_cases c5:0≤B
        ·rw [if_pos c5]at H;have b5:decide (0≤B)=true:=dT c5;clear c5;by_cases c7:(bt A B)=245
         ·rw [if_pos c7]at H;have aV:((bt A B)==245)=true:=beq_iff_eq.mpr c7;have aW:((bt A B) !=245)=false:=bne_eq_false_iff_eq.mpr c7;clear c7;have H':=Ax H;clear H;have p6:0≤(B:Int):=of_decide_eq_true (by first|(with_reducible assumption)|assumption);have q6:B<(A.size:Int):=of_decide_eq_true (by first|(with_reducible assumption)|assumption);have aY:=bt_at A B;replace p6:=eq_true p6;replace q6:=eq_true q6;go_wp2
          repeat (go_quiet (fail);try go_wp2)
          go_meet
          case rel=>exact⟨_,(B),rS,H',⟨by have:=L.out;have:=aU.out;first|omega|exact Nat.le_refl _⟩,⟨by (with_reducible repeat (first|apply Kd.R_alloc|apply Kd.R_drewN|apply Kd.R_drew));exact C.out⟩,⟨bw0 HB.out⟩⟩
         ·rw [if_neg c7]at H;have aV:((bt A B)==245)=false:=beq_eq_false_iff_ne.mpr c7;have aW:((bt A B) !=245)=true:=bne_iff_ne.mpr c7;have H':=Ax H;clear H;have p6:0≤(B:Int):=of_decide_eq_true (by first|(with_reducible assumption)|assumption);have q6:B<(A.size:Int):=of_decide_eq_true (by first|(with_reducible assumption)|assumption);have aY:=bt_at A B;replace p6:=eq_true p6;replace q6:=eq_true q6;go_wp2
          repeat (go_quiet (fail);try go_wp2)
          go_roundg k2
          case measure=>have:=L.out;have:=aU.out;omega
          case rel=>exact⟨(wrap64 (B+1)),rS,H',⟨by have:=L.out;have:=aU.out;omega⟩,⟨by (with_reducible repeat (first|apply Kd.R_alloc|apply Kd.R_drewN|apply Kd.R_drew));exact C.out⟩,⟨bw0 HB.out⟩⟩
        ·rw [if_neg c5]at H;exact absurd H (by simp)
       ·rw [if_neg c4]at H;have X:decide (B<(A.size:Int))=false:=dF c4;clear c4
        (first|rw [X]|(simp only[i64_w,i32_w];rw [X])|skip)
        have H':=Ax H;clear H;go_wp2
        repeat (go_quiet (fail);try go_wp2)
        go_meet
        case rel=>exact⟨_,(B),rS,H',⟨by have:=L.out;have:=aU.out;first|omega|exact Nat.le_refl _⟩,⟨by (with_reducible repeat (first|apply Kd.R_alloc|apply Kd.R_drewN|apply Kd.R_drew));exact C.out⟩,⟨bw0 HB.out⟩⟩
    case rest=>
     clear b4;(try clear c1);(try clear c2);(try clear az);(try clear aA);(try clear p2 p2);(try clear c4);(try clear X);(try clear c5);(try clear b5);(try clear p6 p6);(try clear q6 q6);(try clear aY);(try clear c7);(try clear aV);(try clear aW);obtain⟨kq,B,rfl,HA,N,C,HB⟩:=hcut;cases kq with
     |zero=>exact absurd HA.out (by simp [spoorref13_Pieces.j2])
     |succ kj2=>
      have H:=HA.out;clear HA;simp only[spoorref13_Pieces.j2]at H;by_cases c8:B > 0
      ·rw [if_pos c8]at H;have b6:decide (0<B)=true:=dT c8;clear c8;by_cases c9:F.length<5864062014805
       ·rw [if_pos c9]at H;have b7:=Ax c9;clear c9;obtain⟨bo,aC⟩: ∃ y_:List (S24),y_=(F++ [(⟨2,(⟨#[]⟩:ByteArray)⟩:S24)]):=⟨_,rfl⟩;replace H:(if 0≤B then (if B≤(A.size:Int) then (spoorref13_Pieces.l0 kj2 (A.extract (B:Int).toNat A.size) bo) else (none)) else (none))=some r:=by first|(rw [aC];with_reducible exact H)|(have O:=(Option.bind_some _ _).symm.trans H;rw [aC];with_reducible exact O)|(have O:=(Option.bind_some _ _).symm.trans H;with_reducible exact O)|with_reducible exact H|(rw [aC];exact H)|exact H
        have b8:=Ax aC;clear aC;by_cases c10:0≤B
        ·rw [if_pos c10]at H;have bq:=eq_true c10;have br:decide (0≤B)=true:=dT c10;clear c10;by_cases af:B≤(A.size:Int)
         ·rw [if_pos af]at H;have bu:=eq_true af;have bv:decide (B≤(A.size:Int))=true:=dT af;clear af;have H':=Ax H;clear H;go_wp2_with (first|((with_reducible refine gate_builtin (b:=.append) (xs:= #[.tmp 22,.tmp 24]) rfl ?_);at_builtin;refine Kd.R_append k24 (w0:=w) w.heap.size rfl (.tmp 22) (.tmp 24) 43 24 (.agg #[(.int .u8 0),(.string ⟨#[]⟩)]) 24 rfl Try.underlying43 info24 rfl (by decide) (by omega) u3 F (⟨2,(⟨#[]⟩:ByteArray)⟩:S24) [.int .u8 2,.string (⟨#[]⟩:ByteArray)] (fun _=>True) (fun _=>False) rfl rfl ?aP (fun _ hk=>hk.elim) ?aF ?aO ?aB ?aS ?aL ?_;(case aP=>exact k24_mkM _ _ _ (⟨2,(⟨#[]⟩:ByteArray)⟩:S24));(case aB=>exact (bw0 HB.out));(case aF=>exact (fun _ _=>trivial));(case aO=>exact (by (with_reducible repeat (first|apply Kd.R_alloc|apply Kd.R_drewN|apply Kd.R_drew));exact C.out));(case aS=>exact (below_size (bw0 HB.out)));(case aL=>have:=b7.out;omega);intro bx bz ho hb hg I;rw [← b8.out]at ho;have D:=Ax (hb);have E:=Ax (ho);clear HB;clear C;have HB:=D;have b9:=E;clear D E;clear ho hb hg I))
          repeat (go_quiet (first|((with_reducible refine gate_builtin (b:=.append) (xs:= #[.tmp 22,.tmp 24]) rfl ?_);at_builtin;refine Kd.R_append k24 (w0:=w) w.heap.size rfl (.tmp 22) (.tmp 24) 43 24 (.agg #[(.int .u8 0),(.string ⟨#[]⟩)]) 24 rfl Try.underlying43 info24 rfl (by decide) (by omega) u3 F (⟨2,(⟨#[]⟩:ByteArray)⟩:S24) [.int .u8 2,.string (⟨#[]⟩:ByteArray)] (fun _=>True) (fun _=>False) rfl rfl ?aP (fun _ hk=>hk.elim) ?aF ?aO ?aB ?aS ?aL ?_;(case aP=>exact k24_mkM _ _ _ (⟨2,(⟨#[]⟩:ByteArray)⟩:S24));(case aB=>exact (bw0 HB.out));(case aF=>exact (fun _ _=>trivial));(case aO=>exact (by (with_reducible repeat (first|apply Kd.R_alloc|apply Kd.R_drewN|apply Kd.R_drew));exact C.out));(case aS=>exact (below_size (bw0 HB.out)));(case aL=>have:=b7.out;omega);intro bx bz ho hb hg I;rw [← b8.out]at ho;have D:=Ax (hb);have E:=Ax (ho);clear HB;clear C;have HB:=D;have b9:=E;clear D E;clear ho hb hg I));try go_wp2_with (first|((with_reducible refine gate_builtin (b:=.append) (xs:= #[.tmp 22,.tmp 24]) rfl ?_);at_builtin;refine Kd.R_append k24 (w0:=w) w.heap.size rfl (.tmp 22) (.tmp 24) 43 24 (.agg #[(.int .u8 0),(.string ⟨#[]⟩)]) 24 rfl Try.underlying43 info24 rfl (by decide) (by omega) u3 F (⟨2,(⟨#[]⟩:ByteArray)⟩:S24) [.int .u8 2,.string (⟨#[]⟩:ByteArray)] (fun _=>True) (fun _=>False) rfl rfl ?aP (fun _ hk=>hk.elim) ?aF ?aO ?aB ?aS ?aL ?_;(case aP=>exact k24_mkM _ _ _ (⟨2,(⟨#[]⟩:ByteArray)⟩:S24));(case aB=>exact (bw0 HB.out));(case aF=>exact (fun _ _=>trivial));(case aO=>exact (by (with_reducible repeat (first|apply Kd.R_alloc|apply Kd.R_drewN|apply Kd.R_drew));exact C.out));(case aS=>exact (below_size (bw0 HB.out)));(case aL=>have:=b7.out;omega);intro bx bz ho hb hg I;rw [← b8.out]at ho;have D:=Ax (hb);have E:=Ax (ho);clear HB;clear C;have HB:=D;have b9:=E;clear D E;clear ho hb hg I)))
          go_roundg kj2
          case measure=>have:=L.out;have:=N.out;omega
          case rel=>exact⟨(A.extract (B:Int).toNat A.size),(bo),rS,H',⟨by have:=L.out;have:=N.out;omega⟩,⟨by (with_reducible repeat (first|apply Kd.R_alloc|apply Kd.R_drewN|apply Kd.R_drew));exact b9.out⟩,⟨bw0 HB.out⟩⟩
         ·rw [if_neg af]at H;exact absurd H (by simp)
        ·rw [if_neg c10]at H;exact absurd H (by simp)
       ·rw [if_neg c9]at H;exact absurd H (by simp)
      ·rw [if_neg c8]at H;have b6:decide (0<B)=false:=dF c8;clear c8;by_cases aa:(A.size:Int)<3
       ·rw [if_pos aa]at H;have ba:decide ((A.size:Int)<3)=true:=dT aa;have bb:decide (A.size<3)=true:=dT (by omega);clear aa;obtain rfl:=Option.some.inj H;go_wp2
        repeat (go_quiet (fail);try go_wp2)
        go_ret;exact⟨_,eS,by (with_reducible repeat (first|apply Kd.R_alloc|apply Kd.R_drewN|apply Kd.R_drew));exact C.out,bw0 HB.out⟩
       ·rw [if_neg aa]at H;have ba:decide ((A.size:Int)<3)=false:=dF aa;have bb:decide (A.size<3)=false:=dF (by omega);clear aa;by_cases al:1<(A.size:Int)
        ·rw [if_pos al]at H;have bA:decide (1<(A.size:Int))=true:=dT al;have bB:decide (1<A.size)=true:=dT (by omega);clear al;by_cases am:2<(A.size:Int)
         ·rw [if_pos am]at H;have bC:decide (2<(A.size:Int))=true:=dT am;have bD:decide (2<A.size)=true:=dT (by omega);clear am;by_cases ag:3≤(A.size:Int)
          ·rw [if_pos ag]at H;have bE:=eq_true ag;have bF:decide (3≤(A.size:Int))=true:=dT ag;clear ag;have bc:=Ax H;clear H;have aD:0≤(1:Int):=(by omega);have ap:1<A.size:=(by have:(1:Int)<(A.size:Int):=of_decide_eq_true (by first|(with_reducible assumption)|assumption);first|omega|(simp only[ByteArray.size_append];omega));have bG: ∀ h:1<A.size,((A[1]'h).toNat:Int)=bt A 1:=bt_at A 1;clear aD;have bH:(1<(A.size:Int))=True:=eq_true (of_decide_eq_true (by first|(with_reducible assumption)|assumption));replace ap:=eq_true ap;have aE:0≤(2:Int):=(by omega);have aq:2<A.size:=(by have:(2:Int)<(A.size:Int):=of_decide_eq_true (by first|(with_reducible assumption)|assumption);first|omega|(simp only[ByteArray.size_append];omega));have bJ: ∀ h:2<A.size,((A[2]'h).toNat:Int)=bt A 2:=bt_at A 2;clear aE;have bK:(2<(A.size:Int))=True:=eq_true (of_decide_eq_true (by first|(with_reducible assumption)|assumption));replace aq:=eq_true aq;go_upto_region 13 with (fail)
           repeat (go_quiet (fail);go_upto_region 13 with (fail))
           go_cut [48] (fun bR wc=> ∃ (kq:Nat) (aZ:Bool),bR= .bool aZ∧Aside0 (spoorref13_Pieces.j3 kq (A.extract 3 A.size) F (wrap64 ((wrap64 (256 * (wrap64 (bt A 1))))+(wrap64 (bt A 2)))) aZ=some r)∧Aside0 (kq≤kj2)∧Aside0 (Kd.R k24 24 wc w.heap.size (fun _=>True) u3 F)∧Aside0 (Below w.heap.size w wc))
           case first=>
            have H:=bc.out;clear bc;by_cases T:(wrap64 ((wrap64 (256 * (wrap64 (bt A 1))))+(wrap64 (bt A 2))))=0
            ·rw [if_pos T]at H;have ah:((wrap64 ((wrap64 (256 * (wrap64 (bt A 1))))+(wrap64 (bt A 2))))==0)=true:=beq_iff_eq.mpr T;have bd:((wrap64 ((wrap64 (256 * (wrap64 (bt A 1))))+(wrap64 (bt A 2)))) !=0)=false:=bne_eq_false_iff_eq.mpr T;clear T
             (first|rw [ah]|(simp only[i64_w,i32_w];rw [ah])|skip)
             have H':=Ax H;clear H;go_wp2
             repeat (go_quiet (fail);try go_wp2)
             go_meet
             case rel=>exact⟨_,(true),rS,H',⟨by have:=L.out;have:=N.out;first|omega|exact Nat.le_refl _⟩,⟨by (with_reducible repeat (first|apply Kd.R_alloc|apply Kd.R_drewN|apply Kd.R_drew));exact C.out⟩,⟨bw0 HB.out⟩⟩
            ·rw [if_neg T]at H;have ah:((wrap64 ((wrap64 (256 * (wrap64 (bt A 1))))+(wrap64 (bt A 2))))==0)=false:=beq_eq_false_iff_ne.mpr T;have bd:((wrap64 ((wrap64 (256 * (wrap64 (bt A 1))))+(wrap64 (bt A 2)))) !=0)=true:=bne_iff_ne.mpr T
             (first|rw [ah]|(simp only[i64_w,i32_w];rw [ah])|skip)
             have H':=Ax H;clear H;go_wp2
             repeat (go_quiet (fail);try go_wp2)
             go_meet
             case rel=>exact⟨_,(decide ((wrap64 ((wrap64 (256 * (wrap64 (bt A 1))))+(wrap64 (bt A 2)))) > 64)),rS,H',⟨by have:=L.out;have:=N.out;first|omega|exact Nat.le_refl _⟩,⟨by (with_reducible repeat (first|apply Kd.R_alloc|apply Kd.R_drewN|apply Kd.R_drew));exact C.out⟩,⟨bw0 HB.out⟩⟩
           case rest=>
            clear bc;(try clear c1);(try clear p1);(try clear q1);(try clear hx1);(try clear qi1);(try clear c2);(try clear az);(try clear aA);(try clear p2 p2);(try clear c4);(try clear X);(try clear c5);(try clear b5);(try clear p6 p6);(try clear q6 q6);(try clear aY);(try clear c7);(try clear aV);(try clear aW);(try clear c8);(try clear b6);(try clear c9);(try clear c10);(try clear bq);(try clear br);(try clear af);(try clear bu);(try clear bv);(try clear aa);(try clear ba);(try clear bb);(try clear al);(try clear bA);(try clear bB);(try clear aD aD);(try clear ap ap);(try clear bG);(try clear bH);(try clear am);(try clear bC);(try clear bD);(try clear aE aE);(try clear aq aq);(try clear bJ);(try clear bK);(try clear ag);(try clear bE);(try clear bF);(try clear T);(try clear ah);(try clear bd);obtain⟨kq,aZ,rfl,HA,ab,C,HB⟩:=hcut;cases kq with
            |zero=>exact absurd HA.out (by simp [spoorref13_Pieces.j3])
            |succ kj18=>
             have H:=HA.out;clear HA;simp only[spoorref13_Pieces.j3]at H;have bf:=Ax H;clear H;go_upto_if 48 with (fail)
             repeat (go_quiet (fail);go_upto_if 48 with (fail))
             go_cut [3] (fun v3 wc=> ∃ (kq:Nat) (M:List (S24)),Aside0 (spoorref13_Pieces.j4 kq (A.extract 3 A.size) M (wrap64 ((wrap64 (256 * (wrap64 (bt A 1))))+(wrap64 (bt A 2))))=some r)∧Aside0 (kq≤kj18)∧Aside0 (Kd.R k24 24 wc w.heap.size (fun _=>True) v3 M)∧Aside0 (Below w.heap.size w wc))
             case first=>
              have H:=bf.out;clear bf;by_cases aG:aZ=true
              ·subst aG;have H1:(if F.length<5864062014805 then (spoorref13_Pieces.j4 kj18 (A.extract 3 A.size) (F++ [(⟨3,(⟨#[]⟩:ByteArray)⟩:S24)]) (wrap64 ((wrap64 (256 * (wrap64 (bt A 1))))+(wrap64 (bt A 2))))) else (none))=some r:=by rw [if_pos rfl]at H;exact H
               clear H;have H:=H1;clear H1;by_cases aH:F.length<5864062014805
               ·rw [if_pos aH]at H;have bg:=Ax aH;clear aH;obtain⟨bL,aI⟩: ∃ y_:List (S24),y_=(F++ [(⟨3,(⟨#[]⟩:ByteArray)⟩:S24)]):=⟨_,rfl⟩;replace H:(spoorref13_Pieces.j4 kj18 (A.extract 3 A.size) bL (wrap64 ((wrap64 (256 * (wrap64 (bt A 1))))+(wrap64 (bt A 2)))))=some r:=by first|(rw [aI];with_reducible exact H)|(have O:=(Option.bind_some _ _).symm.trans H;rw [aI];with_reducible exact O)|(have O:=(Option.bind_some _ _).symm.trans H;with_reducible exact O)|with_reducible exact H|(rw [aI];exact H)|exact H
                have bh:=Ax aI;clear aI;have H':=Ax H;clear H;go_wp2_with (first|((with_reducible refine gate_builtin (b:=.append) (xs:= #[.tmp 49,.tmp 51]) rfl ?_);at_builtin;refine Kd.R_append k24 (w0:=w) w.heap.size rfl (.tmp 49) (.tmp 51) 43 24 (.agg #[(.int .u8 0),(.string ⟨#[]⟩)]) 24 rfl Try.underlying43 info24 rfl (by decide) (by omega) u3 F (⟨3,(⟨#[]⟩:ByteArray)⟩:S24) [.int .u8 3,.string (⟨#[]⟩:ByteArray)] (fun _=>True) (fun _=>False) rfl rfl ?aP (fun _ hk=>hk.elim) ?aF ?aO ?aB ?aS ?aL ?_;(case aP=>exact k24_mkM _ _ _ (⟨3,(⟨#[]⟩:ByteArray)⟩:S24));(case aB=>exact (bw0 HB.out));(case aF=>exact (fun _ _=>trivial));(case aO=>exact (by (with_reducible repeat (first|apply Kd.R_alloc|apply Kd.R_drewN|apply Kd.R_drew));exact C.out));(case aS=>exact (below_size (bw0 HB.out)));(case aL=>have:=bg.out;omega);intro bM bN ho hb hg I;rw [← bh.out]at ho;have D:=Ax (hb);have E:=Ax (ho);clear HB;clear C;have HB:=D;have bi:=E;clear D E;clear ho hb hg I))
                repeat (go_quiet (first|((with_reducible refine gate_builtin (b:=.append) (xs:= #[.tmp 49,.tmp 51]) rfl ?_);at_builtin;refine Kd.R_append k24 (w0:=w) w.heap.size rfl (.tmp 49) (.tmp 51) 43 24 (.agg #[(.int .u8 0),(.string ⟨#[]⟩)]) 24 rfl Try.underlying43 info24 rfl (by decide) (by omega) u3 F (⟨3,(⟨#[]⟩:ByteArray)⟩:S24) [.int .u8 3,.string (⟨#[]⟩:ByteArray)] (fun _=>True) (fun _=>False) rfl rfl ?aP (fun _ hk=>hk.elim) ?aF ?aO ?aB ?aS ?aL ?_;(case aP=>exact k24_mkM _ _ _ (⟨3,(⟨#[]⟩:ByteArray)⟩:S24));(case aB=>exact (bw0 HB.out));(case aF=>exact (fun _ _=>trivial));(case aO=>exact (by (with_reducible repeat (first|apply Kd.R_alloc|apply Kd.R_drewN|apply Kd.R_drew));exact C.out));(case aS=>exact (below_size (bw0 HB.out)));(case aL=>have:=bg.out;omega);intro bM bN ho hb hg I;rw [← bh.out]at ho;have D:=Ax (hb);have E:=Ax (ho);clear HB;clear C;have HB:=D;have bi:=E;clear D E;clear ho hb hg I));try go_wp2_with (first|((with_reducible refine gate_builtin (b:=.append) (xs:= #[.tmp 49,.tmp 51]) rfl ?_);at_builtin;refine Kd.R_append k24 (w0:=w) w.heap.size rfl (.tmp 49) (.tmp 51) 43 24 (.agg #[(.int .u8 0),(.string ⟨#[]⟩)]) 24 rfl Try.underlying43 info24 rfl (by decide) (by omega) u3 F (⟨3,(⟨#[]⟩:ByteArray)⟩:S24) [.int .u8 3,.string (⟨#[]⟩:ByteArray)] (fun _=>True) (fun _=>False) rfl rfl ?aP (fun _ hk=>hk.elim) ?aF ?aO ?aB ?aS ?aL ?_;(case aP=>exact k24_mkM _ _ _ (⟨3,(⟨#[]⟩:ByteArray)⟩:S24));(case aB=>exact (bw0 HB.out));(case aF=>exact (fun _ _=>trivial));(case aO=>exact (by (with_reducible repeat (first|apply Kd.R_alloc|apply Kd.R_drewN|apply Kd.R_drew));exact C.out));(case aS=>exact (below_size (bw0 HB.out)));(case aL=>have:=bg.out;omega);intro bM bN ho hb hg I;rw [← bh.out]at ho;have D:=Ax (hb);have E:=Ax (ho);clear HB;clear C;have HB:=D;have bi:=E;clear D E;clear ho hb hg I)))
                go_meet
                case rel=>exact⟨_,(bL),H',⟨by have:=L.out;have:=N.out;have:=ab.out;first|omega|exact Nat.le_refl _⟩,⟨by (with_reducible repeat (first|apply Kd.R_alloc|apply Kd.R_drewN|apply Kd.R_drew));exact bi.out⟩,⟨bw0 HB.out⟩⟩
               ·rw [if_neg aH]at H;exact absurd H (by simp)
              ·replace aG:=Bool.eq_false_iff.mpr aG;subst aG;have H1:(spoorref13_Pieces.j4 kj18 (A.extract 3 A.size) F (wrap64 ((wrap64 (256 * (wrap64 (bt A 1))))+(wrap64 (bt A 2)))))=some r:=by rw [if_neg (show ¬ (false=true) by decide)]at H;exact H
               clear H;have H:=H1;clear H1;have H':=Ax H;clear H;go_wp2
               repeat (go_quiet (fail);try go_wp2)
               go_meet
               case rel=>exact⟨_,(F),H',⟨by have:=L.out;have:=N.out;have:=ab.out;first|omega|exact Nat.le_refl _⟩,⟨by (with_reducible repeat (first|apply Kd.R_alloc|apply Kd.R_drewN|apply Kd.R_drew));exact C.out⟩,⟨bw0 HB.out⟩⟩
             case rest=>
              clear bf;(try clear c1);(try clear p1 p1);(try clear q1 q1);(try clear hx1);(try clear qi1);(try clear c2);(try clear az);(try clear aA);(try clear p2 p2);(try clear c4);(try clear X);(try clear c5);(try clear b5);(try clear p6 p6);(try clear q6 q6);(try clear aY);(try clear c7);(try clear aV);(try clear aW);(try clear c8);(try clear b6);(try clear c9);(try clear c10);(try clear bq);(try clear br);(try clear af);(try clear bu);(try clear bv);(try clear aa);(try clear ba);(try clear bb);(try clear al);(try clear bA);(try clear bB);(try clear aD aD);(try clear ap ap);(try clear bG);(try clear bH);(try clear am);(try clear bC);(try clear bD);(try clear aE aE);(try clear aq aq);(try clear bJ);(try clear bK);(try clear ag);(try clear bE);(try clear bF);(try clear T);(try clear ah);(try clear bd);(try clear aG);(try clear aH);obtain⟨kq,M,HA,ar,C,HB⟩:=hcut;cases kq with
              |zero=>exact absurd HA.out (by simp [spoorref13_Pieces.j4])
              |succ kj20=>
               have H:=HA.out;clear HA;simp only[spoorref13_Pieces.j4]at H;by_cases au:(wrap64 ((wrap64 (256 * (wrap64 (bt A 1))))+(wrap64 (bt A 2)))) > ((A.extract 3 A.size).size:Int)
               ·rw [if_pos au]at H;have av:decide (((A.extract 3 A.size).size:Int)<(wrap64 ((wrap64 (256 * (wrap64 (bt A 1))))+(wrap64 (bt A 2)))))=true:=dT au;have aw:=av
                (try simp only[ByteArray.size_extract,Nat.min_self]at aw)
                clear au;obtain rfl:=Option.some.inj H;go_wp2
                repeat (go_quiet (fail);try go_wp2)
                go_ret;exact⟨_,eS,by (with_reducible repeat (first|apply Kd.R_alloc|apply Kd.R_drewN|apply Kd.R_drew));exact C.out,bw0 HB.out⟩
               ·rw [if_neg au]at H;have av:decide (((A.extract 3 A.size).size:Int)<(wrap64 ((wrap64 (256 * (wrap64 (bt A 1))))+(wrap64 (bt A 2)))))=false:=dF au;have aw:=av
                (try simp only[ByteArray.size_extract,Nat.min_self]at aw)
                clear au;by_cases ax:(wrap64 ((wrap64 (256 * (wrap64 (bt A 1))))+(wrap64 (bt A 2)))) > 0
                ·rw [if_pos ax]at H;have b2:decide (0<(wrap64 ((wrap64 (256 * (wrap64 (bt A 1))))+(wrap64 (bt A 2)))))=true:=dT ax;clear ax;by_cases ay:(wrap64 ((wrap64 (256 * (wrap64 (bt A 1))))+(wrap64 (bt A 2))))≤64
                 ·rw [if_pos ay]at H;have bj:decide ((wrap64 ((wrap64 (256 * (wrap64 (bt A 1))))+(wrap64 (bt A 2))))≤64)=true:=dT ay;clear ay;obtain⟨G,ac⟩: ∃ j_:Int,(wrap64 ((wrap64 (256 * (wrap64 (bt A 1))))+(wrap64 (bt A 2))))=j_:=⟨_,rfl⟩;replace H:(if 0≤(G) then (if (G)≤((A.extract 3 A.size).size:Int) then (if M.length<5864062014805 then (spoorref13_Pieces.l0 kj20 ((A.extract 3 A.size).extract ((G):Int).toNat (A.extract 3 A.size).size) (M++ [(⟨1,(A.extract 3 A.size).extract 0 ((G):Int).toNat⟩:S24)])) else (none)) else (none)) else (none))=some r:=by first|(rw [ac]at H;exact H)|(simp only[ac]at H ⊢;exact H)
                  (try rw [ac]at av)
                  (try rw [ac]at aw)
                  (try rw [ac]at b2)
                  (try rw [ac]at bj)
                  have cj:(IntKind.i64.wrap ((wrap64 (256 * (wrap64 (bt A 1))))+(wrap64 (bt A 2))))=G:=(i64_w _).trans ac;by_cases aJ:0≤(G)
                  ·rw [if_pos aJ]at H;have ck:=eq_true aJ;have cl:decide (0≤(G))=true:=dT aJ;clear aJ;by_cases aK:(G)≤((A.extract 3 A.size).size:Int)
                   ·rw [if_pos aK]at H;have bS:=eq_true aK;have bT:=bS
                    (try simp only[ByteArray.size_extract,Nat.min_self]at bT)
                    have bU:decide ((G)≤((A.extract 3 A.size).size:Int))=true:=dT aK;have bV:=bU
                    (try simp only[ByteArray.size_extract,Nat.min_self]at bV)
                    clear aK;by_cases b3:M.length<5864062014805
                    ·rw [if_pos b3]at H;have bk:=Ax b3;clear b3;obtain⟨bO,aM⟩: ∃ y_:List (S24),y_=(M++ [(⟨1,(A.extract 3 A.size).extract 0 ((G):Int).toNat⟩:S24)]):=⟨_,rfl⟩;replace H:(spoorref13_Pieces.l0 kj20 ((A.extract 3 A.size).extract ((G):Int).toNat (A.extract 3 A.size).size) bO)=some r:=by first|(rw [aM];with_reducible exact H)|(have O:=(Option.bind_some _ _).symm.trans H;rw [aM];with_reducible exact O)|(have O:=(Option.bind_some _ _).symm.trans H;with_reducible exact O)|with_reducible exact H|(rw [aM];exact H)|exact H
                     have bl:=Ax aM;clear aM;have cm:=eq_true (of_decide_eq_true (by first|(with_reducible assumption)|assumption):0≤(G));have cn:=eq_true (of_decide_eq_true (by first|(with_reducible assumption)|assumption):(G)≤((A.extract 3 A.size).size:Int));have H':=Ax H;clear H;go_wp2_with (first|((with_reducible refine gate_builtin (b:=.append) (xs:= #[.tmp 64,.tmp 69]) rfl ?_);at_builtin;refine Kd.R_append k24 (w0:=w) w.heap.size rfl (.tmp 64) (.tmp 69) 43 24 (.agg #[(.int .u8 0),(.string ⟨#[]⟩)]) 24 rfl Try.underlying43 info24 rfl (by decide) (by omega) u3 M (⟨1,(A.extract 3 A.size).extract 0 ((G):Int).toNat⟩:S24) [.int .u8 1,.string ((A.extract 3 A.size).extract 0 ((G):Int).toNat)] (fun _=>True) (fun _=>False) rfl rfl ?aP (fun _ hk=>hk.elim) ?aF ?aO ?aB ?aS ?aL ?_;(case aP=>exact k24_mkM _ _ _ (⟨1,(A.extract 3 A.size).extract 0 ((G):Int).toNat⟩:S24));(case aB=>exact (bw0 HB.out));(case aF=>exact (fun _ _=>trivial));(case aO=>exact (by (with_reducible repeat (first|apply Kd.R_alloc|apply Kd.R_drewN|apply Kd.R_drew));exact C.out));(case aS=>exact (below_size (bw0 HB.out)));(case aL=>have:=bk.out;omega);intro bP bQ ho hb hg I;rw [← bl.out]at ho;have D:=Ax (hb);have E:=Ax (ho);clear HB;clear C;have HB:=D;have bm:=E;clear D E;clear ho hb hg I))
                     repeat (go_quiet (first|((with_reducible refine gate_builtin (b:=.append) (xs:= #[.tmp 64,.tmp 69]) rfl ?_);at_builtin;refine Kd.R_append k24 (w0:=w) w.heap.size rfl (.tmp 64) (.tmp 69) 43 24 (.agg #[(.int .u8 0),(.string ⟨#[]⟩)]) 24 rfl Try.underlying43 info24 rfl (by decide) (by omega) u3 M (⟨1,(A.extract 3 A.size).extract 0 ((G):Int).toNat⟩:S24) [.int .u8 1,.string ((A.extract 3 A.size).extract 0 ((G):Int).toNat)] (fun _=>True) (fun _=>False) rfl rfl ?aP (fun _ hk=>hk.elim) ?aF ?aO ?aB ?aS ?aL ?_;(case aP=>exact k24_mkM _ _ _ (⟨1,(A.extract 3 A.size).extract 0 ((G):Int).toNat⟩:S24));(case aB=>exact (bw0 HB.out));(case aF=>exact (fun _ _=>trivial));(case aO=>exact (by (with_reducible repeat (first|apply Kd.R_alloc|apply Kd.R_drewN|apply Kd.R_drew));exact C.out));(case aS=>exact (below_size (bw0 HB.out)));(case aL=>have:=bk.out;omega);intro bP bQ ho hb hg I;rw [← bl.out]at ho;have D:=Ax (hb);have E:=Ax (ho);clear HB;clear C;have HB:=D;have bm:=E;clear D E;clear ho hb hg I));try go_wp2_with (first|((with_reducible refine gate_builtin (b:=.append) (xs:= #[.tmp 64,.tmp 69]) rfl ?_);at_builtin;refine Kd.R_append k24 (w0:=w) w.heap.size rfl (.tmp 64) (.tmp 69) 43 24 (.agg #[(.int .u8 0),(.string ⟨#[]⟩)]) 24 rfl Try.underlying43 info24 rfl (by decide) (by omega) u3 M (⟨1,(A.extract 3 A.size).extract 0 ((G):Int).toNat⟩:S24) [.int .u8 1,.string ((A.extract 3 A.size).extract 0 ((G):Int).toNat)] (fun _=>True) (fun _=>False) rfl rfl ?aP (fun _ hk=>hk.elim) ?aF ?aO ?aB ?aS ?aL ?_;(case aP=>exact k24_mkM _ _ _ (⟨1,(A.extract 3 A.size).extract 0 ((G):Int).toNat⟩:S24));(case aB=>exact (bw0 HB.out));(case aF=>exact (fun _ _=>trivial));(case aO=>exact (by (with_reducible repeat (first|apply Kd.R_alloc|apply Kd.R_drewN|apply Kd.R_drew));exact C.out));(case aS=>exact (below_size (bw0 HB.out)));(case aL=>have:=bk.out;omega);intro bP bQ ho hb hg I;rw [← bl.out]at ho;have D:=Ax (hb);have E:=Ax (ho);clear HB;clear C;have HB:=D;have bm:=E;clear D E;clear ho hb hg I)))
                     go_roundg kj20
                     case measure=>have:=L.out;have:=N.out;have:=ab.out;have:=ar.out;omega
                     case rel=>exact⟨((A.extract 3 A.size).extract ((G):Int).toNat (A.extract 3 A.size).size),(bO),(by first|rfl|(simp;done)|(simp only[← ac] <;> (first|rfl|simp))|(simp [*];done)),H',⟨by have:=L.out;have:=N.out;have:=ab.out;have:=ar.out;omega⟩,⟨by (with_reducible repeat (first|apply Kd.R_alloc|apply Kd.R_drewN|apply Kd.R_drew));exact bm.out⟩,⟨bw0 HB.out⟩⟩
                    ·rw [if_neg b3]at H;exact absurd H (by simp)
                   ·rw [if_neg aK]at H;exact absurd H (by simp)
                  ·rw [if_neg aJ]at H;exact absurd H (by simp)
                 ·rw [if_neg ay]at H;have bj:decide ((wrap64 ((wrap64 (256 * (wrap64 (bt A 1))))+(wrap64 (bt A 2))))≤64)=false:=dF ay;clear ay;obtain⟨U,ae⟩: ∃ j_:Int,(wrap64 ((wrap64 (256 * (wrap64 (bt A 1))))+(wrap64 (bt A 2))))=j_:=⟨_,rfl⟩;replace H:(if 0≤(U) then (if (U)≤((A.extract 3 A.size).size:Int) then (spoorref13_Pieces.l0 kj20 ((A.extract 3 A.size).extract ((U):Int).toNat (A.extract 3 A.size).size) M) else (none)) else (none))=some r:=by first|(rw [ae]at H;exact H)|(simp only[ae]at H ⊢;exact H)
                  (try rw [ae]at av)
                  (try rw [ae]at aw)
                  (try rw [ae]at b2)
                  (try rw [ae]at bj)
                  have co:(IntKind.i64.wrap ((wrap64 (256 * (wrap64 (bt A 1))))+(wrap64 (bt A 2))))=U:=(i64_w _).trans ae;by_cases aN:0≤(U)
                  ·rw [if_pos aN]at H;have cq:=eq_true aN;have cr:decide (0≤(U))=true:=dT aN;clear aN;by_cases aQ:(U)≤((A.extract 3 A.size).size:Int)
                   ·rw [if_pos aQ]at H;have bW:=eq_true aQ;have bY:=bW
                    (try simp only[ByteArray.size_extract,Nat.min_self]at bY)
                    have bZ:decide ((U)≤((A.extract 3 A.size).size:Int))=true:=dT aQ;have cd:=bZ
                    (try simp only[ByteArray.size_extract,Nat.min_self]at cd)
                    clear aQ;have H':=Ax H;clear H;go_wp2
                    repeat (go_quiet (fail);try go_wp2)
                    go_roundg kj20
                    case measure=>have:=L.out;have:=N.out;have:=ab.out;have:=ar.out;omega
                    case rel=>exact⟨((A.extract 3 A.size).extract ((U):Int).toNat (A.extract 3 A.size).size),(M),(by first|rfl|(simp;done)|(simp only[← ae] <;> (first|rfl|simp))|(simp [*];done)),H',⟨by have:=L.out;have:=N.out;have:=ab.out;have:=ar.out;omega⟩,⟨by (with_reducible repeat (first|apply Kd.R_alloc|apply Kd.R_drewN|apply Kd.R_drew));exact C.out⟩,⟨bw0 HB.out⟩⟩
                   ·rw [if_neg aQ]at H;exact absurd H (by simp)
                  ·rw [if_neg aN]at H;exact absurd H (by simp)
                ·rw [if_neg ax]at H;have b2:decide (0<(wrap64 ((wrap64 (256 * (wrap64 (bt A 1))))+(wrap64 (bt A 2)))))=false:=dF ax;clear ax;obtain⟨V,aj⟩: ∃ j_:Int,(wrap64 ((wrap64 (256 * (wrap64 (bt A 1))))+(wrap64 (bt A 2))))=j_:=⟨_,rfl⟩;replace H:(if 0≤(V) then (if (V)≤((A.extract 3 A.size).size:Int) then (spoorref13_Pieces.l0 kj20 ((A.extract 3 A.size).extract ((V):Int).toNat (A.extract 3 A.size).size) M) else (none)) else (none))=some r:=by first|(rw [aj]at H;exact H)|(simp only[aj]at H ⊢;exact H)
                 (try rw [aj]at av)
                 (try rw [aj]at aw)
                 (try rw [aj]at b2)
                 have ct:(IntKind.i64.wrap ((wrap64 (256 * (wrap64 (bt A 1))))+(wrap64 (bt A 2))))=V:=(i64_w _).trans aj;by_cases aR:0≤(V)
                 ·rw [if_pos aR]at H;have cu:=eq_true aR;have cv:decide (0≤(V))=true:=dT aR;clear aR;by_cases aT:(V)≤((A.extract 3 A.size).size:Int)
                  ·rw [if_pos aT]at H;have ce:=eq_true aT;have cf:=ce
                   (try simp only[ByteArray.size_extract,Nat.min_self]at cf)
                   have cg:decide ((V)≤((A.extract 3 A.size).size:Int))=true:=dT aT;have ch:=cg
                   (try simp only[ByteArray.size_extract,Nat.min_self]at ch)
                   clear aT;have H':=Ax H;clear H;go_wp2
                   repeat (go_quiet (fail);try go_wp2)
                   go_roundg kj20
                   case measure=>have:=L.out;have:=N.out;have:=ab.out;have:=ar.out;omega
                   case rel=>exact⟨((A.extract 3 A.size).extract ((V):Int).toNat (A.extract 3 A.size).size),(M),(by first|rfl|(simp;done)|(simp only[← aj] <;> (first|rfl|simp))|(simp [*];done)),H',⟨by have:=L.out;have:=N.out;have:=ab.out;have:=ar.out;omega⟩,⟨by (with_reducible repeat (first|apply Kd.R_alloc|apply Kd.R_drewN|apply Kd.R_drew));exact C.out⟩,⟨bw0 HB.out⟩⟩
                  ·rw [if_neg aT]at H;exact absurd H (by simp)
                 ·rw [if_neg aR]at H;exact absurd H (by simp)
          ·rw [if_neg ag]at H;exact absurd H (by simp)
         ·rw [if_neg am]at H;exact absurd H (by simp)
        ·rw [if_neg al]at H;exact absurd H (by simp)
def spoorref13_Gots.l0 : Nat → List (S38) → List (S24) → Int → Int → Option ((List (S38)))
 | 0, _, _, _, _ => none
 | k + 1, x3, x9, x10, x11 => if x11 < x10 then (if 0 ≤ x11 then (if x11 < (x9.length : Int) then ((spoorref13_Of.f k ((rd_T24 x9 x11).f0) ((rd_T24 x9 x11).f1)).bind fun A => (if x3.length < 1353245080339 then (spoorref13_Gots.l0 k (x3 ++ [(⟨(⟨A.1, A.2.1, A.2.2.1, A.2.2.2.1, (⟨A.2.2.2.2.1, (⟨A.2.2.2.2.2.1, A.2.2.2.2.2.2.1⟩ : S28), A.2.2.2.2.2.2.2.1⟩ : S30), (⟨A.2.2.2.2.2.2.2.2.1, A.2.2.2.2.2.2.2.2.2.1⟩ : S33), A.2.2.2.2.2.2.2.2.2.2.1, A.2.2.2.2.2.2.2.2.2.2.2.1⟩ : S35), A.2.2.2.2.2.2.2.2.2.2.2.2.1⟩ : S38)]) x9 x10 (wrap64 (x11 + 1))) else (none))) else (none)) else (none)) else (some x3)
def spoorref13_Gots.f (k:Nat) (a0:ByteArray):Option ((List (S38))):=(spoorref13_Pieces.f k a0).bind fun A=>(spoorref13_Gots.l0 k ([]:List (S38)) A (A.length:Int) 0)
set_option maxHeartbeats 8000000 in
set_option maxRecDepth 100000 in
theorem spoorref13_Gots.calls (k:Nat) (a0:ByteArray) (r:List (S38)) (w:World) (h:spoorref13_Gots.f k a0=some r):
  Calls Try.prog 16 #[.string a0] w fun e w'=> ∃ aC:Value,e= .returned (aC)∧Kd.R k38 38 w' w.heap.size (fun _=>True) aC r∧Below w.heap.size w w':=by
 have b7:=Try.underlying24;have b8:=Try.underlying38;have HB:=Ax (Below.refl w.heap.size w);have H:((spoorref13_Pieces.f k a0).bind fun B=>(spoorref13_Gots.l0 k ([]:List (S38)) B (B.length:Int) 0))=some r:=h;clear h;replace H:=bI H;obtain⟨B,aD,H⟩:=H;(try dsimp only at H);have A2:=Ax aD;clear aD;have H':=Ax H;clear H;go_enter Try.func16,Try.ntmps16;go_wp2_with (first|((with_reducible refine gate_callee (f:=13) rfl ?_);refine goesL_ (some 9) rfl rfl Try.func13 (by kernel_rfl) rfl #[.string a0] rfl gS ?_;(with_reducible refine (spoorref13_Pieces.calls k a0 B _ A2.out).mono ?_);rintro e w3 ⟨b9,rfl,aE,hb⟩;refine⟨_,rfl,?_⟩;have aG:=Ax (Kd.R_lower aE (below_size (bw0 HB.out)));replace HB:=Bs0 HB hb;(try clear hb);(try clear hb2);(try clear hk);(try clear hi);(try clear aE);obtain⟨aR,aT,aU⟩:=Kd.R_slice aG.out;subst aU));go_loopg [3,11] k (fun kq v3 aV w'=> ∃ (aq:List (S38)) (C:Int),aV= .int .i64 C∧Aside0 (spoorref13_Gots.l0 kq aq B (B.length:Int) C=some r)∧Aside0 (kq≤k)∧Aside0 (Kd.R k38 38 w' w.heap.size (fun _=>True) v3 aq)∧Aside0 (Kd.R k24 24 w' w.heap.size (fun _=>True) (.slice aR B.length aT) B)∧Aside0 (Below w.heap.size w w'))
 case atStart=>exact⟨(([]:List (S38))),(0),rS,H',⟨Nat.le_refl _⟩,⟨by first|exact Kd.R_nil _ _ _ _ _|exact Kd.N_nil _ _ _ _ _|exact Kd.V_nil _ _ _ _ _|exact Kd.Q_nil _ _ _ _ _|exact Kd.S_nil _ _ _ _ _⟩,⟨by (with_reducible repeat (first|apply Kd.R_alloc|apply Kd.R_drewN|apply Kd.R_drew));exact aG.out⟩,⟨bw0 HB.out⟩⟩
 case round=>
  clear H';try clear c1
  try clear p2
  obtain⟨aq,C,rfl,HA,aH,D,E,HB⟩:=hrel;cases gk with
  |zero=>exact absurd HA.out (by simp [spoorref13_Gots.l0])
  |succ k1=>
   have H:=HA.out;clear HA;simp only[spoorref13_Gots.l0]at H;by_cases c5:C<(B.length:Int)
   ·rw [if_pos c5]at H;have aW:decide (C<(B.length:Int))=true:=dT c5;clear c5;by_cases c6:0≤C
    ·rw [if_pos c6]at H;have ba:decide (0≤C)=true:=dT c6;clear c6;by_cases c7:C<(B.length:Int)
     ·rw [if_pos c7]at H;have bb:decide (C<(B.length:Int))=true:=dT c7;clear c7;replace H:=bI H;obtain⟨⟨O,T,U,V,X,aa,ab,ac,ae,af,ag,ah,aj,aY⟩,aI,H⟩:=H;dsimp only at H;have A8:=Ax aI;clear aI;by_cases c9:aq.length<1353245080339
      ·rw [if_pos c9]at H;have aZ:=Ax c9;clear c9;obtain⟨aJ,au⟩: ∃ y_:List (S38),y_=(aq++ [(⟨(⟨O,T,U,V,(⟨X,(⟨aa,ab⟩:S28),ac⟩:S30),(⟨ae,af⟩:S33),ag,ah⟩:S35),aj⟩:S38)]):=⟨_,rfl⟩;replace H:(spoorref13_Gots.l0 k1 aJ B (B.length:Int) (wrap64 (C+1)))=some r:=by first|(rw [au];with_reducible exact H)|(have ax:=(Option.bind_some _ _).symm.trans H;rw [au];with_reducible exact ax)|(have ax:=(Option.bind_some _ _).symm.trans H;with_reducible exact ax)|with_reducible exact H|(rw [au];exact H)|exact H
       have b2:=Ax au;clear au;have H':=Ax H;clear H;have ay:0≤(C:Int):=of_decide_eq_true (by first|(with_reducible assumption)|assumption);have az:C<(B.length:Int):=of_decide_eq_true (by first|(with_reducible assumption)|assumption);obtain⟨bc,b3,bd,bf⟩:=at_T24 (Kd.R_reads' E.out).2.2 C ay az;cases b3;replace ay:=eq_true ay;replace az:=eq_true az;go_wp2_with (first|((with_reducible refine gate_dst (N:=5) rfl ?_);refine bX (N:=5) (cs:= #[.int .u8 0,.string (⟨#[]⟩:ByteArray)]) (t:=24) ?_;intro al hg bg av hb;have G:=Ax (Kd.R_below (by (with_reducible repeat (first|apply Kd.R_alloc|apply Kd.R_drewN|apply Kd.R_drew));exact D.out) hb);have I:=Ax (Kd.R_below (Kd.R_elderB (by (with_reducible repeat (first|apply Kd.R_alloc|apply Kd.R_drewN|apply Kd.R_drew));exact E.out) al (Nat.le_of_eq hg.symm)) hb);have L:=Bs0 HB hb;have M:=Ax (av);have am:=Gw0 HB hg;have aw:=Gw0 HB hg;clear D;clear E;clear HB;have D:=G;have E:=I;have HB:=L;have F:=M;have bh:=am;have ap:=aw;clear G I L M am aw;clear hb av hg;obtain⟨bi,bj,bk,bl⟩:=cl2 F)|((with_reducible refine gate_callee (f:=9) rfl ?_);refine goesL_ (some 17) rfl rfl Try.func9 (by kernel_rfl) rfl #[.agg #[.int .u8 ((rd_T24 B C).f0),.string ((rd_T24 B C).f1)]] rfl gS ?_;(with_reducible refine (spoorref13_Of.calls k1 ((rd_T24 B C).f0) ((rd_T24 B C).f1) O T U V X aa ab ac ae af ag ah aj aY _ A8.out).mono ?_);rintro e bm ⟨rfl,hb⟩;refine⟨_,rfl,?_⟩;have G:=Ax (Kd.R_below (by (with_reducible repeat (first|apply Kd.R_alloc|apply Kd.R_drewN|apply Kd.R_drew));exact (Kd.R_mono (Kd.R_far (p:=⟨al,1,none⟩) (Kd.R_far (p:=⟨al,0,none⟩) (Kd.R_types D.out F.out (by decide)) (fun _ hk=>hk.2) (.int .u8 ((rd_T24 B C).f0))) (fun _ hk=>hk.2) (.string ((rd_T24 B C).f1))) (fun _ h_=>h_.1))) hb);have I:=Ax (Kd.R_below (by (with_reducible repeat (first|apply Kd.R_alloc|apply Kd.R_drewN|apply Kd.R_drew));exact (Kd.R_mono (Kd.R_far (p:=⟨al,1,none⟩) (Kd.R_far (p:=⟨al,0,none⟩) (Kd.R_mono E.out (fun k_ hk=>(⟨hk,hk.2⟩:_∧k_≠al))) (fun _ hk=>hk.2) (.int .u8 ((rd_T24 B C).f0))) (fun _ hk=>hk.2) (.string ((rd_T24 B C).f1))) (fun _ h_=>h_.1))) hb);have L:=Ax (blk_below (g:=al) (o:=.cells #[.int .u8 ((rd_T24 B C).f0),.string ((rd_T24 B C).f1)] 24 (0,0)) (by (with_reducible repeat (first|refine blk_drewN ?_ _|refine blk_drew ?_|refine blk_alloc ?_ _));refine blk_put (cs:= #[.int .u8 ((rd_T24 B C).f0),.string (⟨#[]⟩:ByteArray)]) ?_ 1 _ rfl;(with_reducible repeat (first|refine blk_drewN ?_ _|refine blk_drew ?_|refine blk_alloc ?_ _));refine blk_put (cs:= #[.int .u8 0,.string (⟨#[]⟩:ByteArray)]) ?_ 0 _ rfl;(with_reducible repeat (first|refine blk_drewN ?_ _|refine blk_drew ?_|refine blk_alloc ?_ _));exact F.out) hb);have M:=Bs1 HB hb ap.out;clear D;clear E;clear F;clear HB;have D:=G;have E:=I;have F:=L;have HB:=M;clear G I L M;(try clear hb);(try clear hb2);(try clear hk);(try clear hi))|((with_reducible refine gate_dst (N:=6) rfl ?_);refine bX (N:=6) (cs:= #[.int .u8 0,.int .i64 0,.int .u64 0,.int .i64 0,.bool false,.int .u64 0,.int .u64 0,.int .i64 0,.int .u8 0,.int .i64 0,.int .i64 0,.int .i64 0,.int .i64 0]) (t:=38) ?_;intro A hg bn av hb;have G:=Ax (Kd.R_below (Kd.R_elderB (by (with_reducible repeat (first|apply Kd.R_alloc|apply Kd.R_drewN|apply Kd.R_drew));exact D.out) A (Nat.le_of_eq hg.symm)) hb);have I:=Ax (Kd.R_below (by (with_reducible repeat (first|apply Kd.R_alloc|apply Kd.R_drewN|apply Kd.R_drew));exact E.out) hb);have L:=Bx0 F hb;have M:=Bs1 HB hb ap.out;have am:=Ax (av);have aw:=Gw1 HB hg ap.out;have aK:=Gw1 HB hg ap.out;have aM:=Nl0 F hg;have aN:=Nr0 F hg;clear D;clear E;clear F;clear HB;have D:=G;have E:=I;have F:=L;have HB:=M;have ar:=am;have bo:=aw;have aA:=aK;have aQ:=aM;have b4:=aN;clear G I L M am aw aK aM aN;clear hb av hg;have bq:=b4.out;have br:=aQ.out;obtain⟨bu,bv,bx,bz,bA,bB,bC,bD,bE,bF,bG,bH,bJ,bK,bL,bM,bN,bO,bP,bQ,bR,bS,bT,bU,bV,bW⟩:=cl13 ar)|((with_reducible refine gate_builtin (b:=.append) (xs:= #[.tmp 20,.tmp 22]) rfl ?_);at_builtin;refine Kd.R_append k38 (w0:=w) w.heap.size rfl (.tmp 20) (.tmp 22) 46 38 (.agg #[(.int .u8 0),(.int .i64 0),(.int .u64 0),(.int .i64 0),(.bool false),(.int .u64 0),(.int .u64 0),(.int .i64 0),(.int .u8 0),(.int .i64 0),(.int .i64 0),(.int .i64 0),(.int .i64 0)]) 104 rfl Try.underlying46 info38 rfl (by decide) (by omega) u3 aq (⟨(⟨O,T,U,V,(⟨X,(⟨aa,ab⟩:S28),ac⟩:S30),(⟨ae,af⟩:S33),ag,ah⟩:S35),aj⟩:S38) [.int .u8 O,.int .i64 T,.int .u64 U,.int .i64 V,.bool X,.int .u64 aa,.int .u64 ab,.int .i64 ac,.int .u8 ae,.int .i64 af,.int .i64 ag,.int .i64 ah,.int .i64 aj] (fun k_=>k_≠A) (fun _=>False) rfl (by first|(go_simp;done)|(go_simp;rfl)) ?aP (fun _ hk=>hk.elim) ?aF ?aO ?aB ?aS ?aL ?_;(case aP=>exact k38_mkM _ _ _ (⟨(⟨O,T,U,V,(⟨X,(⟨aa,ab⟩:S28),ac⟩:S30),(⟨ae,af⟩:S33),ag,ah⟩:S35),aj⟩:S38));(case aB=>exact (bw2 HB.out ap.out aA.out));(case aF=>exact (fun k_ hk=>Kd.freshB (g:=A) (o:=.cells #[.int .u8 O,.int .i64 T,.int .u64 U,.int .i64 V,.bool X,.int .u64 aa,.int .u64 ab,.int .i64 ac,.int .u8 ae,.int .i64 af,.int .i64 ag,.int .i64 ah,.int .i64 aj] 38 (0,0)) (gB ar.out) k_ hk));(case aO=>exact (by (with_reducible repeat (first|apply Kd.R_alloc|apply Kd.R_drewN|apply Kd.R_drew));exact Kd.R_mono (Kd.R_far (p:=⟨A,12,none⟩) (Kd.R_far (p:=⟨A,11,none⟩) (Kd.R_far (p:=⟨A,10,none⟩) (Kd.R_far (p:=⟨A,9,none⟩) (Kd.R_far (p:=⟨A,8,none⟩) (Kd.R_far (p:=⟨A,7,none⟩) (Kd.R_far (p:=⟨A,6,none⟩) (Kd.R_far (p:=⟨A,5,none⟩) (Kd.R_far (p:=⟨A,4,none⟩) (Kd.R_far (p:=⟨A,3,none⟩) (Kd.R_far (p:=⟨A,2,none⟩) (Kd.R_far (p:=⟨A,1,none⟩) (Kd.R_far (p:=⟨A,0,none⟩) (Kd.R_mono D.out (fun k_ hk=>(⟨hk,hk.2⟩:_∧k_≠A))) (fun _ hk=>hk.2) (.int .u8 O)) (fun _ hk=>hk.2) (.int .i64 T)) (fun _ hk=>hk.2) (.int .u64 U)) (fun _ hk=>hk.2) (.int .i64 V)) (fun _ hk=>hk.2) (.bool X)) (fun _ hk=>hk.2) (.int .u64 aa)) (fun _ hk=>hk.2) (.int .u64 ab)) (fun _ hk=>hk.2) (.int .i64 ac)) (fun _ hk=>hk.2) (.int .u8 ae)) (fun _ hk=>hk.2) (.int .i64 af)) (fun _ hk=>hk.2) (.int .i64 ag)) (fun _ hk=>hk.2) (.int .i64 ah)) (fun _ hk=>hk.2) (.int .i64 aj)) (fun _ hk=>hk.1.2)));(case aS=>exact (below_size (bw2 HB.out ap.out aA.out)));(case aL=>have:=aZ.out;omega);intro bY bZ ho hb hg b5;rw [← b2.out]at ho;have G:=Ax (Kd.R_over' (by (with_reducible repeat (first|apply Kd.R_alloc|apply Kd.R_drewN|apply Kd.R_drew));exact (Kd.R_mono (Kd.R_far (p:=⟨A,12,none⟩) (Kd.R_far (p:=⟨A,11,none⟩) (Kd.R_far (p:=⟨A,10,none⟩) (Kd.R_far (p:=⟨A,9,none⟩) (Kd.R_far (p:=⟨A,8,none⟩) (Kd.R_far (p:=⟨A,7,none⟩) (Kd.R_far (p:=⟨A,6,none⟩) (Kd.R_far (p:=⟨A,5,none⟩) (Kd.R_far (p:=⟨A,4,none⟩) (Kd.R_far (p:=⟨A,3,none⟩) (Kd.R_far (p:=⟨A,2,none⟩) (Kd.R_far (p:=⟨A,1,none⟩) (Kd.R_far (p:=⟨A,0,none⟩) (Kd.R_types E.out ar.out (by decide)) (fun _ hk=>hk.2) (.int .u8 O)) (fun _ hk=>hk.2) (.int .i64 T)) (fun _ hk=>hk.2) (.int .u64 U)) (fun _ hk=>hk.2) (.int .i64 V)) (fun _ hk=>hk.2) (.bool X)) (fun _ hk=>hk.2) (.int .u64 aa)) (fun _ hk=>hk.2) (.int .u64 ab)) (fun _ hk=>hk.2) (.int .i64 ac)) (fun _ hk=>hk.2) (.int .u8 ae)) (fun _ hk=>hk.2) (.int .i64 af)) (fun _ hk=>hk.2) (.int .i64 ag)) (fun _ hk=>hk.2) (.int .i64 ah)) (fun _ hk=>hk.2) (.int .i64 aj)) (fun _ h_=>h_.1))) (Kd.R_typed (by (with_reducible repeat (first|apply Kd.R_alloc|apply Kd.R_drewN|apply Kd.R_drew));exact (Kd.R_mono (Kd.R_far (p:=⟨A,12,none⟩) (Kd.R_far (p:=⟨A,11,none⟩) (Kd.R_far (p:=⟨A,10,none⟩) (Kd.R_far (p:=⟨A,9,none⟩) (Kd.R_far (p:=⟨A,8,none⟩) (Kd.R_far (p:=⟨A,7,none⟩) (Kd.R_far (p:=⟨A,6,none⟩) (Kd.R_far (p:=⟨A,5,none⟩) (Kd.R_far (p:=⟨A,4,none⟩) (Kd.R_far (p:=⟨A,3,none⟩) (Kd.R_far (p:=⟨A,2,none⟩) (Kd.R_far (p:=⟨A,1,none⟩) (Kd.R_far (p:=⟨A,0,none⟩) (Kd.R_mono D.out (fun k_ hk=>(⟨hk,hk.2⟩:_∧k_≠A))) (fun _ hk=>hk.2) (.int .u8 O)) (fun _ hk=>hk.2) (.int .i64 T)) (fun _ hk=>hk.2) (.int .u64 U)) (fun _ hk=>hk.2) (.int .i64 V)) (fun _ hk=>hk.2) (.bool X)) (fun _ hk=>hk.2) (.int .u64 aa)) (fun _ hk=>hk.2) (.int .u64 ab)) (fun _ hk=>hk.2) (.int .i64 ac)) (fun _ hk=>hk.2) (.int .u8 ae)) (fun _ hk=>hk.2) (.int .i64 af)) (fun _ hk=>hk.2) (.int .i64 ag)) (fun _ hk=>hk.2) (.int .i64 ah)) (fun _ hk=>hk.2) (.int .i64 aj)) (fun _ h_=>h_.1)))) (by decide) hg);have I:=Ax (blk_grown (g:=al) (o:=.cells #[.int .u8 ((rd_T24 B C).f0),.string ((rd_T24 B C).f1)] 24 (0,0)) (by (repeat (first|(with_reducible first|refine blk_drewN ?_ _|refine blk_drew ?_|refine blk_alloc ?_ _)|refine blk_far ?_ aQ.out _));exact F.out) hg (Kd.R_ne D.out F.out (by decide)));have L:=Ax (blk_grown (g:=A) (o:=.cells #[.int .u8 O,.int .i64 T,.int .u64 U,.int .i64 V,.bool X,.int .u64 aa,.int .u64 ab,.int .i64 ac,.int .u8 ae,.int .i64 af,.int .i64 ag,.int .i64 ah,.int .i64 aj] 38 (0,0)) (gB ar.out) hg (Kd.R_away D.out (fun _ hk=>hk.2)));have M:=Ax (hb);have am:=Ax (ho);clear E;clear F;clear ar;clear HB;clear D;have E:=G;have F:=I;have ar:=L;have HB:=M;have b6:=am;clear G I L M am;clear ho hb hg b5));go_roundg k1
       case measure=>have:=aH.out;omega
       case rel=>exact⟨(aJ),(wrap64 (C+1)),rS,H',⟨by have:=aH.out;omega⟩,⟨by (with_reducible repeat (first|apply Kd.R_alloc|apply Kd.R_drewN|apply Kd.R_drew));exact Kd.R_mono b6.out (fun _ hk=>trivial)⟩,⟨by (with_reducible repeat (first|apply Kd.R_alloc|apply Kd.R_drewN|apply Kd.R_drew));exact Kd.R_mono E.out (fun _ hk=>trivial)⟩,⟨bw2 HB.out ap.out aA.out⟩⟩
      ·rw [if_neg c9]at H;exact absurd H (by simp)
     ·rw [if_neg c7]at H;exact absurd H (by simp)
    ·rw [if_neg c6]at H;exact absurd H (by simp)
   ·rw [if_neg c5]at H;have aW:decide (C<(B.length:Int))=false:=dF c5;clear c5;obtain rfl:=Option.some.inj H;go_wp2;go_ret;exact⟨_,eS,by (with_reducible repeat (first|apply Kd.R_alloc|apply Kd.R_drewN|apply Kd.R_drew));exact D.out,bw0 HB.out⟩
def spoorlaw13_GramReads.f (k:Nat) (a0:ByteArray) (C:Int) (D:ByteArray):Option (Bool):=(gram_Of.f k C D).bind fun A=>((spoorref13_Of.f k C D).bind fun B=>((spoorlaw13_lives.f k).bind fun aa=>(if aa=true then ((gram_Pieces.f k a0).bind fun ab=>((spoorref13_Pieces.f k a0).bind fun ac=>((spoorref12_Same.f k ab ac).bind fun ae=>(if ae=true then ((gram_Gots.f k a0).bind fun af=>((spoorref13_Gots.f k a0).bind fun ag=>((spoorref13_Same.f k af ag).bind fun ah=>(if ah=true then (if ((A.1==B.1&&(A.2.1==B.2.1&&(A.2.2.1==B.2.2.1&&(A.2.2.2.1==B.2.2.2.1&&((A.2.2.2.2.1==B.2.2.2.2.1&&((A.2.2.2.2.2.1==B.2.2.2.2.2.1&&(A.2.2.2.2.2.2.1==B.2.2.2.2.2.2.1))&&(A.2.2.2.2.2.2.2.1==B.2.2.2.2.2.2.2.1)))&&((A.2.2.2.2.2.2.2.2.1==B.2.2.2.2.2.2.2.2.1&&(A.2.2.2.2.2.2.2.2.2.1==B.2.2.2.2.2.2.2.2.2.1))&&(A.2.2.2.2.2.2.2.2.2.2.1==B.2.2.2.2.2.2.2.2.2.2.1&&(A.2.2.2.2.2.2.2.2.2.2.2.1==B.2.2.2.2.2.2.2.2.2.2.2.1))))))))&&(A.2.2.2.2.2.2.2.2.2.2.2.2.1==B.2.2.2.2.2.2.2.2.2.2.2.2.1))=true then (some (A.2.2.2.2.2.2.2.2.2.2.2.2.2==B.2.2.2.2.2.2.2.2.2.2.2.2.2)) else (none)) else (none))))) else (none))))) else (none))))
set_option maxHeartbeats 8000000 in
set_option maxRecDepth 100000 in
theorem spoorlaw13_GramReads.calls (k:Nat) (a0:ByteArray) (O:Int) (R:ByteArray) (r:Bool) (w:World) (h:spoorlaw13_GramReads.f k a0 O R=some r):
  Calls Try.prog 3 #[.string a0,.agg #[.int .u8 O,.string R]] w fun e w'=>e= .returned (.bool r)∧Below w.heap.size w w':=by
 have bE:=Try.underlying24;have bF:=Try.underlying38;have HB:=Ax (Below.refl w.heap.size w);have H:((gram_Of.f k O R).bind fun E=>((spoorref13_Of.f k O R).bind fun F=>((spoorlaw13_lives.f k).bind fun b8=>(if b8=true then ((gram_Pieces.f k a0).bind fun aV=>((spoorref13_Pieces.f k a0).bind fun aW=>((spoorref12_Same.f k aV aW).bind fun aY=>(if aY=true then ((gram_Gots.f k a0).bind fun aK=>((spoorref13_Gots.f k a0).bind fun aM=>((spoorref13_Same.f k aK aM).bind fun aT=>(if aT=true then (if ((E.1==F.1&&(E.2.1==F.2.1&&(E.2.2.1==F.2.2.1&&(E.2.2.2.1==F.2.2.2.1&&((E.2.2.2.2.1==F.2.2.2.2.1&&((E.2.2.2.2.2.1==F.2.2.2.2.2.1&&(E.2.2.2.2.2.2.1==F.2.2.2.2.2.2.1))&&(E.2.2.2.2.2.2.2.1==F.2.2.2.2.2.2.2.1)))&&((E.2.2.2.2.2.2.2.2.1==F.2.2.2.2.2.2.2.2.1&&(E.2.2.2.2.2.2.2.2.2.1==F.2.2.2.2.2.2.2.2.2.1))&&(E.2.2.2.2.2.2.2.2.2.2.1==F.2.2.2.2.2.2.2.2.2.2.1&&(E.2.2.2.2.2.2.2.2.2.2.2.1==F.2.2.2.2.2.2.2.2.2.2.2.1))))))))&&(E.2.2.2.2.2.2.2.2.2.2.2.2.1==F.2.2.2.2.2.2.2.2.2.2.2.2.1))=true then (some (E.2.2.2.2.2.2.2.2.2.2.2.2.2==F.2.2.2.2.2.2.2.2.2.2.2.2.2)) else (none)) else (none))))) else (none))))) else (none)))))=some r:=h;clear h;replace H:=bI H;obtain⟨⟨X,aa,ab,ac,ae,af,ag,ah,aj,al,am,ap,aq,b2⟩,bb,H⟩:=H;dsimp only at H;have A3:=Ax bb;clear bb;replace H:=bI H;obtain⟨⟨au,av,aw,ax,ay,az,aA,aC,aD,aE,aG,aH,aI,b3⟩,bc,H⟩:=H;dsimp only at H;have A4:=Ax bc;clear bc;replace H:=bI H;obtain⟨b8,bd,H⟩:=H;(try dsimp only at H);have A5:=Ax bd;clear bd;by_cases c6:b8=true
 ·subst c6;have H1:((gram_Pieces.f k a0).bind fun aV=>((spoorref13_Pieces.f k a0).bind fun aW=>((spoorref12_Same.f k aV aW).bind fun aY=>(if aY=true then ((gram_Gots.f k a0).bind fun aK=>((spoorref13_Gots.f k a0).bind fun aM=>((spoorref13_Same.f k aK aM).bind fun aT=>(if aT=true then (if ((X==au&&(aa==av&&(ab==aw&&(ac==ax&&((ae==ay&&((af==az&&(ag==aA))&&(ah==aC)))&&((aj==aD&&(al==aE))&&(am==aG&&(ap==aH))))))))&&(aq==aI))=true then (some (b2==b3)) else (none)) else (none))))) else (none)))))=some r:=by rw [if_pos rfl]at H;exact H
  clear H;have H:=H1;clear H1;replace H:=bI H;obtain⟨aV,bf,H⟩:=H;(try dsimp only at H);have A7:=Ax bf;clear bf;replace H:=bI H;obtain⟨aW,bg,H⟩:=H;(try dsimp only at H);have A8:=Ax bg;clear bg;replace H:=bI H;obtain⟨aY,bh,H⟩:=H;(try dsimp only at H);have A9:=Ax bh;clear bh;by_cases c10:aY=true
  ·subst c10;have H1:((gram_Gots.f k a0).bind fun aK=>((spoorref13_Gots.f k a0).bind fun aM=>((spoorref13_Same.f k aK aM).bind fun aT=>(if aT=true then (if ((X==au&&(aa==av&&(ab==aw&&(ac==ax&&((ae==ay&&((af==az&&(ag==aA))&&(ah==aC)))&&((aj==aD&&(al==aE))&&(am==aG&&(ap==aH))))))))&&(aq==aI))=true then (some (b2==b3)) else (none)) else (none)))))=some r:=by rw [if_pos rfl]at H;exact H
   clear H;have H:=H1;clear H1;replace H:=bI H;obtain⟨aK,bi,H⟩:=H;(try dsimp only at H);have bq:=Ax bi;clear bi;replace H:=bI H;obtain⟨aM,bj,H⟩:=H;(try dsimp only at H);have br:=Ax bj;clear bj;replace H:=bI H;obtain⟨aT,bk,H⟩:=H;(try dsimp only at H);have bu:=Ax bk;clear bk;by_cases b4:aT=true
   ·subst b4;have H1:(if ((X==au&&(aa==av&&(ab==aw&&(ac==ax&&((ae==ay&&((af==az&&(ag==aA))&&(ah==aC)))&&((aj==aD&&(al==aE))&&(am==aG&&(ap==aH))))))))&&(aq==aI))=true then (some (b2==b3)) else (none))=some r:=by rw [if_pos rfl]at H;exact H
    clear H;have H:=H1;clear H1;by_cases b5:((X==au&&(aa==av&&(ab==aw&&(ac==ax&&((ae==ay&&((af==az&&(ag==aA))&&(ah==aC)))&&((aj==aD&&(al==aE))&&(am==aG&&(ap==aH))))))))&&(aq==aI))=true;·rw [if_pos b5]at H;have bG:((X==au&&(aa==av&&(ab==aw&&(ac==ax&&((ae==ay&&((af==az&&(ag==aA))&&(ah==aC)))&&((aj==aD&&(al==aE))&&(am==aG&&(ap==aH))))))))&&(aq==aI))=true:=b5;clear b5;obtain rfl:=Option.some.inj H;go_enter Try.func3,Try.ntmps3;go_wp2_with (first|((with_reducible refine gate_dst (N:=3) rfl ?_);refine bX (N:=3) (cs:= #[.int .u8 O,.string R]) (t:=24) ?_;intro b6 hg bH aN hb;have A:=Ax (aN);have bJ:=Gw0 HB hg;have C:=Gw0 HB hg;replace HB:=Bs0 HB hb;clear hb aN hg;obtain⟨bK,bL,bM,bN⟩:=cl2 A)|((with_reducible refine gate_callee (f:=8) rfl ?_);refine goesL_ (some 11) rfl rfl Try.func8 (by kernel_rfl) rfl #[.agg #[.int .u8 O,.string R]] rfl gS ?_;(with_reducible refine (gram_Of.calls k O R X aa ab ac ae af ag ah aj al am ap aq b2 _ A3.out).mono ?_);rintro e bO ⟨rfl,hb⟩;refine⟨_,rfl,?_⟩;replace A:=Bx0 A hb;replace HB:=Bs1 HB hb C.out;(try clear hb))|((with_reducible refine gate_dst (N:=5) rfl ?_);refine bX (N:=5) (cs:= #[.int .u8 0,.int .i64 0,.int .u64 0,.int .i64 0,.bool false,.int .u64 0,.int .u64 0,.int .i64 0,.int .u8 0,.int .i64 0,.int .i64 0,.int .i64 0,.int .i64 0]) (t:=38) ?_;intro b7 hg bP aN hb;have B:=Ax (aN);have bQ:=Gw1 HB hg C.out;have G:=Gw1 HB hg C.out;replace HB:=Bs1 HB hb C.out;have bl:=Nl0 A hg;have bv:=Nr0 A hg;replace A:=Bx0 A hb;clear hb aN hg;have bR:=bv.out;have bS:=bl.out;obtain⟨bT,bU,bV,bW,bY,bZ,cd,ce,cf,cg,ch,ci,cj,ck,cl,cm,cn,co,cq,cr,ct,cu,cv,cw,cx,cy⟩:=cl13 B;obtain⟨cz,cA,cB,cC⟩:=cl2 A)|((with_reducible refine gate_callee (f:=9) rfl ?_);refine goesL_ (some 16) rfl rfl Try.func9 (by kernel_rfl) rfl #[.agg #[.int .u8 O,.string R]] rfl gS ?_;(with_reducible refine (spoorref13_Of.calls k O R au av aw ax ay az aA aC aD aE aG aH aI b3 _ A4.out).mono ?_);rintro e cD ⟨rfl,hb⟩;refine⟨_,rfl,?_⟩;have I:=Ax (blk_below (g:=b6) (o:=.cells #[.int .u8 O,.string R] 24 (0,0)) (by (repeat (first|(with_reducible first|refine blk_drewN ?_ _|refine blk_drew ?_|refine blk_alloc ?_ _)|refine blk_far ?_ bl.out _));exact A.out) hb);have L:=Ax (blk_below (g:=b7) (o:=.cells #[.int .u8 X,.int .i64 aa,.int .u64 ab,.int .i64 ac,.bool ae,.int .u64 af,.int .u64 ag,.int .i64 ah,.int .u8 aj,.int .i64 al,.int .i64 am,.int .i64 ap,.int .i64 aq] 38 (0,0)) (gB B.out) hb);have M:=Bs2 HB hb C.out G.out;clear A;clear B;clear HB;have A:=I;have B:=L;have HB:=M;clear I L M;(try clear hb))|((with_reducible refine gate_dst (N:=7) rfl ?_);refine bX (N:=7) (cs:= #[.int .u8 0,.int .i64 0,.int .u64 0,.int .i64 0,.bool false,.int .u64 0,.int .u64 0,.int .i64 0,.int .u8 0,.int .i64 0,.int .i64 0,.int .i64 0,.int .i64 0]) (t:=38) ?_;intro b9 hg cE aN hb;have D:=Ax (aN);have cF:=Gw2 HB hg C.out G.out;have ar:=Gw2 HB hg C.out G.out;replace HB:=Bs2 HB hb C.out G.out;have bm:=Nl0 A hg;have bx:=Nr0 A hg;replace A:=Bx0 A hb;have bn:=Nl0 B hg;have bz:=Nr0 B hg;replace B:=Bx0 B hb;clear hb aN hg;have cG:=bx.out;have cH:=bm.out;have cI:=bz.out;have cJ:=bn.out;obtain⟨cK,cL,cM,cN,cO,cP,cQ,cR,cS,cT,cU,cV,cW,cX,cY,cZ,d2,d3,d4,d5,d6,d7,d8,d9,da,db⟩:=cl13 D)|((with_reducible refine gate_callee (f:=10) rfl ?_);refine goesL_ (some 19) rfl rfl Try.func10 (by kernel_rfl) rfl #[] rfl gS ?_;(with_reducible refine (spoorlaw13_lives.calls k  true _ A5.out).mono ?_);rintro e dc ⟨rfl,hb⟩;refine⟨_,rfl,?_⟩;have I:=Ax (blk_below (g:=b6) (o:=.cells #[.int .u8 O,.string R] 24 (0,0)) (by (repeat (first|(with_reducible first|refine blk_drewN ?_ _|refine blk_drew ?_|refine blk_alloc ?_ _)|refine blk_far ?_ bm.out _));exact A.out) hb);have L:=Ax (blk_below (g:=b7) (o:=.cells #[.int .u8 X,.int .i64 aa,.int .u64 ab,.int .i64 ac,.bool ae,.int .u64 af,.int .u64 ag,.int .i64 ah,.int .u8 aj,.int .i64 al,.int .i64 am,.int .i64 ap,.int .i64 aq] 38 (0,0)) (by (repeat (first|(with_reducible first|refine blk_drewN ?_ _|refine blk_drew ?_|refine blk_alloc ?_ _)|refine blk_far ?_ bn.out _));exact B.out) hb);have M:=Ax (blk_below (g:=b9) (o:=.cells #[.int .u8 au,.int .i64 av,.int .u64 aw,.int .i64 ax,.bool ay,.int .u64 az,.int .u64 aA,.int .i64 aC,.int .u8 aD,.int .i64 aE,.int .i64 aG,.int .i64 aH,.int .i64 aI] 38 (0,0)) (gB D.out) hb);have V:=Bs3 HB hb C.out G.out ar.out;clear A;clear B;clear D;clear HB;have A:=I;have B:=L;have D:=M;have HB:=V;clear I L M V;(try clear hb))|(go_at_call 12;(with_reducible refine (gram_Pieces.calls k a0 aV _ A7.out).mono ?_);rintro e dd ⟨de,rfl,T,hb⟩;have U:=Ax (Kd.R_lower (Kd.R_newB T (g:=b6) (o:=.cells #[.int .u8 O,.string R] 24 (0,0)) (bf0 A.out)) (below_size (bw3 HB.out C.out G.out ar.out)));replace A:=Bx0 A hb;replace B:=Bx0 B hb;replace D:=Bx0 D hb;replace HB:=Bs3 HB hb C.out G.out ar.out;(try clear hb);(try clear T))|(go_at_call 13;(with_reducible refine (spoorref13_Pieces.calls k a0 aW _ A8.out).mono ?_);rintro e df ⟨dg,rfl,T,hb⟩;have I:=Ax (Kd.R_elder' (by (with_reducible repeat (first|apply Kd.R_alloc|apply Kd.R_drewN|apply Kd.R_drew));exact U.out) (Kd.R_base T) hb);have L:=Ax (Kd.R_lower (Kd.R_newB (Kd.R_new' T (Kd.R_lt (by (with_reducible repeat (first|apply Kd.R_alloc|apply Kd.R_drewN|apply Kd.R_drew));exact U.out))) (g:=b6) (o:=.cells #[.int .u8 O,.string R] 24 (0,0)) (bf0 A.out)) (below_size (bw3 HB.out C.out G.out ar.out)));have M:=Bx0 A hb;have V:=Bx0 B hb;have aQ:=Bx0 D hb;have aR:=Bs3 HB hb C.out G.out ar.out;clear U;clear A;clear B;clear D;clear HB;have U:=I;have aJ:=L;have A:=M;have B:=V;have D:=aQ;have HB:=aR;clear I L M V aQ aR;(try clear hb);(try clear T);obtain⟨dh,di,bA⟩:=Kd.R_slice U.out;subst bA;obtain⟨dj,dk,bB⟩:=Kd.R_slice aJ.out;subst bB)|(go_at_call 11;(with_reducible refine (spoorref12_Same.calls k _ _ aV _ _ aW true _ ?side1 ?side2 ?side3 ?side4 A9.out).mono ?_);(case side1=>repeat (first|exact (Kd.R_reads' U.out).2.2|(with_reducible refine Kd.C_alloc ?_ _)|(with_reducible refine Kd.C_drewN ?_ _)|(with_reducible refine Kd.C_drew ?_)));(case side2=>exact (Kd.R_reads' U.out).2.1);(case side3=>repeat (first|exact (Kd.R_reads' aJ.out).2.2|(with_reducible refine Kd.C_alloc ?_ _)|(with_reducible refine Kd.C_drewN ?_ _)|(with_reducible refine Kd.C_drew ?_)));(case side4=>exact (Kd.R_reads' aJ.out).2.1);rintro e w' ⟨rfl,⟨nd,rfl⟩⟩)|(go_at_call 15;(with_reducible refine (gram_Gots.calls k a0 aK _ bq.out).mono ?_);rintro e dl ⟨dm,rfl,T,hb⟩;have I:=Ax (Kd.R_below (by (with_reducible repeat (first|apply Kd.R_alloc|apply Kd.R_drewN|apply Kd.R_drew));exact U.out) hb);have L:=Ax (Kd.R_below (by (with_reducible repeat (first|apply Kd.R_alloc|apply Kd.R_drewN|apply Kd.R_drew));exact aJ.out) hb);have M:=Ax (Kd.R_lower (Kd.R_newB (Kd.R_newB T (g:=b7) (o:=.cells #[.int .u8 X,.int .i64 aa,.int .u64 ab,.int .i64 ac,.bool ae,.int .u64 af,.int .u64 ag,.int .i64 ah,.int .u8 aj,.int .i64 al,.int .i64 am,.int .i64 ap,.int .i64 aq] 38 (0,0)) (bf0 B.out)) (g:=b9) (o:=.cells #[.int .u8 au,.int .i64 av,.int .u64 aw,.int .i64 ax,.bool ay,.int .u64 az,.int .u64 aA,.int .i64 aC,.int .u8 aD,.int .i64 aE,.int .i64 aG,.int .i64 aH,.int .i64 aI] 38 (0,0)) (bf0 D.out)) (below_size (bw3 HB.out C.out G.out ar.out)));have V:=Bx0 A hb;have aQ:=Bx0 B hb;have aR:=Bx0 D hb;have aZ:=Bs3 HB hb C.out G.out ar.out;clear U;clear aJ;clear A;clear B;clear D;clear HB;have U:=I;have aJ:=L;have aU:=M;have A:=V;have B:=aQ;have D:=aR;have HB:=aZ;clear I L M V aQ aR aZ;(try clear hb);(try clear T))|(go_at_call 16;(with_reducible refine (spoorref13_Gots.calls k a0 aM _ br.out).mono ?_);rintro e dn ⟨dp,rfl,T,hb⟩;have I:=Ax (Kd.R_below (by (with_reducible repeat (first|apply Kd.R_alloc|apply Kd.R_drewN|apply Kd.R_drew));exact U.out) hb);have L:=Ax (Kd.R_below (by (with_reducible repeat (first|apply Kd.R_alloc|apply Kd.R_drewN|apply Kd.R_drew));exact aJ.out) hb);have M:=Ax (Kd.R_elder' (by (with_reducible repeat (first|apply Kd.R_alloc|apply Kd.R_drewN|apply Kd.R_drew));exact aU.out) (Kd.R_base T) hb);have V:=Ax (Kd.R_lower (Kd.R_newB (Kd.R_newB (Kd.R_new' T (Kd.R_lt (by (with_reducible repeat (first|apply Kd.R_alloc|apply Kd.R_drewN|apply Kd.R_drew));exact aU.out))) (g:=b7) (o:=.cells #[.int .u8 X,.int .i64 aa,.int .u64 ab,.int .i64 ac,.bool ae,.int .u64 af,.int .u64 ag,.int .i64 ah,.int .u8 aj,.int .i64 al,.int .i64 am,.int .i64 ap,.int .i64 aq] 38 (0,0)) (bf0 B.out)) (g:=b9) (o:=.cells #[.int .u8 au,.int .i64 av,.int .u64 aw,.int .i64 ax,.bool ay,.int .u64 az,.int .u64 aA,.int .i64 aC,.int .u8 aD,.int .i64 aE,.int .i64 aG,.int .i64 aH,.int .i64 aI] 38 (0,0)) (bf0 D.out)) (below_size (bw3 HB.out C.out G.out ar.out)));have aQ:=Bx0 A hb;have aR:=Bx0 B hb;have aZ:=Bx0 D hb;have bo:=Bs3 HB hb C.out G.out ar.out;clear U;clear aJ;clear aU;clear A;clear B;clear D;clear HB;have U:=I;have aJ:=L;have aU:=M;have ba:=V;have A:=aQ;have B:=aR;have D:=aZ;have HB:=bo;clear I L M V aQ aR aZ bo;(try clear hb);(try clear T);obtain⟨dq,dr,bC⟩:=Kd.R_slice aU.out;subst bC;obtain⟨dt,du,bD⟩:=Kd.R_slice ba.out;subst bD)|(go_at_call 14;(with_reducible refine (spoorref13_Same.calls k _ _ aK _ _ aM true _ ?side1 ?side2 ?side3 ?side4 bu.out).mono ?_);(case side1=>repeat (first|exact (Kd.R_reads' aU.out).2.2|(with_reducible refine Kd.C_alloc ?_ _)|(with_reducible refine Kd.C_drewN ?_ _)|(with_reducible refine Kd.C_drew ?_)));(case side2=>exact (Kd.R_reads' aU.out).2.1);(case side3=>repeat (first|exact (Kd.R_reads' ba.out).2.2|(with_reducible refine Kd.C_alloc ?_ _)|(with_reducible refine Kd.C_drewN ?_ _)|(with_reducible refine Kd.C_drew ?_)));(case side4=>exact (Kd.R_reads' ba.out).2.1);rintro e w' ⟨rfl,⟨nd,rfl⟩⟩;obtain⟨dv,dw,dx,dy,dz,dA,dB,dC,dD,dE,dG,dH,dI,dJ,dK,dL,dM,dN,dO,dP,dQ,dR,dS,dU,dV,dW⟩:=cl13 B;obtain⟨dX,dY,dZ,e7,e8,e9,ea,eb,ec,ed,ee,ef,eg,eh,ei,ej,ek,el,en,eo,ep,eq,er,es,et,eu⟩:=cl13 D));go_ret;exact⟨eS,bw3 HB.out C.out G.out ar.out⟩
    ·rw [if_neg b5]at H;exact absurd H (by simp)
   ·replace b4:=Bool.eq_false_iff.mpr b4;subst b4;have H1:(none)=some r:=by rw [if_neg (show ¬ (false=true) by decide)]at H;exact H
    clear H;have H:=H1;clear H1;exact absurd H (by simp)
  ·replace c10:=Bool.eq_false_iff.mpr c10;subst c10;have H1:(none)=some r:=by rw [if_neg (show ¬ (false=true) by decide)]at H;exact H
   clear H;have H:=H1;clear H1;exact absurd H (by simp)
 ·replace c6:=Bool.eq_false_iff.mpr c6;subst c6;have H1:(none)=some r:=by rw [if_neg (show ¬ (false=true) by decide)]at H;exact H
  clear H;have H:=H1;clear H1;exact absurd H (by simp)
def IsS80 (w0 W:World) (g:Nat) (f0:ByteArray) (f1:Bool) (f2:Int) (f3:ByteArray) (f4:List (S24)):Prop:= ∃ A4 c4,W.heap[g]? =some (.cells #[.string f0,.bool f1,.int .i64 f2,.string f3,.slice A4 f4.length c4] 80 (0,0))∧w0.heap.size≤g∧Kd.C k24 w0 A4 f4.length f4
theorem IsS80.grown {w0 W:World}{g:Nat}{f0:ByteArray}{f1:Bool}{f2:Int}{f3:ByteArray}{f4:List (S24)}{W1:World}{row:Option Nat} (h:IsS80 w0 W g f0 f1 f2 f3 f4) (hw:W.grownBy W1 row) (aa:some g≠row):IsS80 w0 W1 g f0 f1 f2 f3 f4:=by
 obtain⟨A4,c4,hb,hg,ab⟩:=h;exact⟨A4,c4,blk_grown hb hw aa,hg,ab⟩
theorem IsS80.kept {w0 W:World}{g:Nat}{f0:ByteArray}{f1:Bool}{f2:Int}{f3:ByteArray}{f4:List (S24)}{W1:World}{S:Nat→Prop} (h:IsS80 w0 W g f0 f1 f2 f3 f4) (hk:Kept W W1 S) (aa: ¬ S g):IsS80 w0 W1 g f0 f1 f2 f3 f4:=by
 obtain⟨A4,c4,hb,hg,ab⟩:=h;exact⟨A4,c4,blk_kept hb hk aa,hg,ab⟩
theorem IsS80.below {w0 W:World}{g:Nat}{f0:ByteArray}{f1:Bool}{f2:Int}{f3:ByteArray}{f4:List (S24)}{W1:World} (h:IsS80 w0 W g f0 f1 f2 f3 f4) (hw:Below W.heap.size W W1):IsS80 w0 W1 g f0 f1 f2 f3 f4:=h.grown (grown_of_below hw none) (by simp)
theorem IsS80.alloc {w0 W:World}{g:Nat}{f0:ByteArray}{f1:Bool}{f2:Int}{f3:ByteArray}{f4:List (S24)} (h:IsS80 w0 W g f0 f1 f2 f3 f4) (o:Obj):IsS80 w0 (W.alloc o) g f0 f1 f2 f3 f4:=h.below (below_alloc (Below.refl _ _) o)
theorem IsS80.drewN {w0 W:World}{g:Nat}{f0:ByteArray}{f1:Bool}{f2:Int}{f3:ByteArray}{f4:List (S24)} (h:IsS80 w0 W g f0 f1 f2 f3 f4) (m:Nat):IsS80 w0 (W.drewN m) g f0 f1 f2 f3 f4:=h
theorem IsS80.drew {w0 W:World}{g:Nat}{f0:ByteArray}{f1:Bool}{f2:Int}{f3:ByteArray}{f4:List (S24)} (h:IsS80 w0 W g f0 f1 f2 f3 f4):IsS80 w0 W.drew g f0 f1 f2 f3 f4:=h
theorem IsS80.at_ {w0 W:World}{g:Nat}{f0:ByteArray}{f1:Bool}{f2:Int}{f3:ByteArray}{f4:List (S24)}{w':World}{m:Nat} (hq:W.drewN m=w') (h:IsS80 w0 W g f0 f1 f2 f3 f4):IsS80 w0 w' g f0 f1 f2 f3 f4:=by subst hq;exact IsS80.drewN h m
theorem IsS80.apart {w0 W:World}{g:Nat}{f0:ByteArray}{f1:Bool}{f2:Int}{f3:ByteArray}{f4:List (S24)}{α:Type}{d:Kd α}{e:Nat}{base:Nat}{ok:Nat→Prop}{v:Value}{xs:List α} (h:IsS80 w0 W g f0 f1 f2 f3 f4) (ho:d.R e W base ok v xs) (ht: ∀ q,q∈e :: d.E→q≠80):d.R e W base (fun k=>ok k∧k≠g) v xs:=by
 obtain⟨A4,c4,hb,hg,aa⟩:=h;exact Kd.R_types ho hb ht
theorem IsS80.own_ne {w0 W:World}{g:Nat}{f0:ByteArray}{f1:Bool}{f2:Int}{f3:ByteArray}{f4:List (S24)}{α:Type}{d:Kd α}{e:Nat}{base:Nat}{ok:Nat→Prop}{v:Value}{xs:List α} (h:IsS80 w0 W g f0 f1 f2 f3 f4) (ho:d.R e W base ok v xs) (ht:e≠80):some g≠v.ownBlock:=by
 obtain⟨A4,c4,hb,hg,aa⟩:=h;exact Kd.R_ne ho hb ht
theorem IsS80.lt {w0 W:World}{g:Nat}{f0:ByteArray}{f1:Bool}{f2:Int}{f3:ByteArray}{f4:List (S24)} (h:IsS80 w0 W g f0 f1 f2 f3 f4):g<W.heap.size:=by
 obtain⟨A4,c4,hb,hg,aa⟩:=h;exact blk_lt hb
theorem IsS80.ge {w0 W:World}{g:Nat}{f0:ByteArray}{f1:Bool}{f2:Int}{f3:ByteArray}{f4:List (S24)} (h:IsS80 w0 W g f0 f1 f2 f3 f4):w0.heap.size≤g:=by
 obtain⟨A4,c4,hb,hg,aa⟩:=h;exact hg
theorem IsS80.far {w0 W:World}{g:Nat}{f0:ByteArray}{f1:Bool}{f2:Int}{f3:ByteArray}{f4:List (S24)}{p:Addr} (h:IsS80 w0 W g f0 f1 f2 f3 f4) (aa:g≠p.block) (u:Value):IsS80 w0 (W.setCell p u) g f0 f1 f2 f3 f4:=by
 obtain⟨A4,c4,hb,hg,ab⟩:=h;exact⟨A4,c4,blk_far hb aa u,hg,ab⟩
theorem IsS80.set_0 {w0 W:World}{g:Nat}{f0:ByteArray}{f1:Bool}{f2:Int}{f3:ByteArray}{f4:List (S24)} (h:IsS80 w0 W g f0 f1 f2 f3 f4) (x:ByteArray):IsS80 w0 (W.setCell ⟨g,0,none⟩ (.string x)) g x f1 f2 f3 f4:=by
 obtain⟨A4,c4,hb,hg,aa⟩:=h;exact⟨A4,c4,by simpa using blk_set hb 0 (.string x),hg,aa⟩
theorem IsS80.set_1 {w0 W:World}{g:Nat}{f0:ByteArray}{f1:Bool}{f2:Int}{f3:ByteArray}{f4:List (S24)} (h:IsS80 w0 W g f0 f1 f2 f3 f4) (x:Bool):IsS80 w0 (W.setCell ⟨g,1,none⟩ (.bool x)) g f0 x f2 f3 f4:=by
 obtain⟨A4,c4,hb,hg,aa⟩:=h;exact⟨A4,c4,by simpa using blk_set hb 1 (.bool x),hg,aa⟩
theorem IsS80.new (w0 W:World) (A4:Option Addr) (c4:Nat) (f0:ByteArray) (f1:Bool) (f2:Int) (f3:ByteArray) (f4:List (S24)) (hB:Below w0.heap.size w0 W) (aa:Kd.C k24 w0 A4 f4.length f4):IsS80 w0 (W.alloc (.cells #[.string f0,.bool f1,.int .i64 f2,.string f3,.slice A4 f4.length c4] 80)) W.heap.size f0 f1 f2 f3 f4:=⟨A4,c4,by simpa using heap_alloc_new W _,hB.size,aa⟩
end Go.Proofs.Ythkdfojmhloofaa.Q
end
section
namespace Go.Proofs.Ythkdfojmhloofaa.Open
set_option linter.unusedVariables false
open Go.RowKit Go.WideShapes Go.Proofs.YthkdfojmhloofaaW.PrintWords Go.Proofs.YthkdfojmhloofaaW.PrintLast Go.Proofs.YthkdfojmhloofaaW.PrintMore
open Go.Proofs.Ythkdfojmhloofaa.Rows (uptoBulk uptoBulkAll)
def Opens {α : Type} (P : Program) (t : TypeId) (K : Kd α) (wf : α → Prop) (mu : α → Nat) : Prop :=
  ∀ {H : Type} (enc : TypeId × Value → H) (W : World) (aa : Nat → Bool) (ab : Bool) (n : Nat) (cs : List Value) (x : DataW H × List MemPlace),
    DataW.trod enc P W 0 aa ab n t cs = some x → ∃ a, K.K W a cs ∧ wf a ∧ mu a ≤ uptoBulk x.1
def wfInt (k:IntKind) (n:Int):Prop:=(Lit.int k n).wf=true
def wfStr (s:ByteArray):Prop:=s.size≤maxLen
def mu1 {α:Type} (_:α):Nat:=1
def muStr (s:ByteArray):Nat:=s.size+1
theorem opens_int {P:Program}{t:TypeId}{k:IntKind} (hu:P.underlying t=some (.int k)):Opens P t (Kd.int k) (wfInt k) mu1:=by
  intro H enc W aa ab n cs x h;obtain⟨a,rfl,rfl,hw⟩:=DataW.trod_int hu h;exact⟨a,rfl,hw,by simp [mu1,uptoBulk]⟩
theorem opens_string {P:Program}{t:TypeId} (hu:P.underlying t=some .string):Opens P t Kd.string wfStr muStr:=by
  intro H enc W aa ab n cs x h;obtain⟨s,rfl,rfl,hs⟩:=DataW.trod_string hu h;exact⟨s,rfl,hs,by simp [muStr,uptoBulk]⟩
end Go.Proofs.Ythkdfojmhloofaa.Open
end
section
namespace Go.Proofs.Ythkdfojmhloofaa.Q
set_option linter.unusedVariables false
set_option linter.unusedSimpArgs false
open Go.RowKit Go.Proofs.YthkdfojmhloofaaW.PrintWords Go.Proofs.YthkdfojmhloofaaW.PrintLast Go.Proofs.YthkdfojmhloofaaW.PrintMore Go.Proofs.Ythkdfojmhloofaa.Open
open Go.Proofs.Ythkdfojmhloofaa.Rows (uptoBulk uptoBulkAll)
def wf24 (x:S24):Prop:=(wfInt .u8) x.f0∧wfStr x.f1
def mu24 (x:S24):Nat:=mu1 x.f0+muStr x.f1+1
set_option maxRecDepth 100000 in
theorem opn24:Opens Try.prog 24 k24 wf24 mu24:=by
  intro H enc W A B n cs x h;obtain⟨xs,m,rfl,rfl,hl,hs,hf⟩:=DataW.trod_struct Try.underlying24 h;have hc:cs.length=2:=hl.trans (by kernel_rfl);have hx:xs.length=2:=hs;clear hl hs h
  match cs,hc,xs,hx,hf with
  | [c0,c1],_, [y0,y1],_,hf=>
    have e0:Try.prog.cellsOf 22=1:=by kernel_rfl
    have e1:Try.prog.cellsOf 9=1:=by kernel_rfl
    have g0:=hf 0 _ rfl;simp only[List.getElem_toArray,List.getElem_cons_zero,List.getElem_cons_succ,e0]at g0;obtain⟨a0,K0,w0,m0⟩:=(opens_int Try.underlying22) enc W A B m [c0] y0 g0;have g1:=hf 1 _ rfl;simp only[List.getElem_toArray,List.getElem_cons_zero,List.getElem_cons_succ,e1]at g1;obtain⟨a1,K1,w1,m1⟩:=(opens_string Try.underlying9) enc W A B m [c1] y1 g1;exact⟨⟨a0,a1⟩,⟨[c0], [c1],rfl,K0,K1⟩,⟨w0,w1⟩,by simp only[mu24,List.map_cons,List.map_nil,uptoBulk,uptoBulkAll];omega⟩
end Go.Proofs.Ythkdfojmhloofaa.Q
end
section
namespace Go.Proofs.Ythkdfojmhloofaa.Q
set_option linter.unusedVariables false
open Go.RowKit Go.Proofs.YthkdfojmhloofaaW.PrintWords Go.Proofs.YthkdfojmhloofaaW.PrintLast Go.Proofs.YthkdfojmhloofaaW.PrintMore Go.Proofs.Ythkdfojmhloofaa.Open
def spoorlaw13_GramReads.PureUpto:Prop:= ∀ (a0:ByteArray) (A:Int) (B:ByteArray),wfStr a0→wf24 (⟨A,B⟩:S24)→muStr a0+mu24 (⟨A,B⟩:S24)≤1048576→ ∃ k,spoorlaw13_GramReads.f k a0 A B=some true
end Go.Proofs.Ythkdfojmhloofaa.Q
end
section
namespace Go.Proofs.Ythkdfojmhloofaa.Base
set_option linter.unusedVariables false
open Go.RowKit Go.Proofs.YthkdfojmhloofaaW.PrintWords Go.Proofs.YthkdfojmhloofaaW.PrintLast Go.Proofs.YthkdfojmhloofaaW.PrintMore
theorem Ev.pos {α:Type}{c:Prop} [Decidable c] {f g:Nat→Option α}{r:α} (h:c) (k:Ev f r):Ev (fun n=>if c then f n else g n) r:=Ev.congr (fun _=>if_pos h) k
theorem Ev.neg {α:Type}{c:Prop} [Decidable c] {f g:Nat→Option α}{r:α} (h: ¬ c) (k:Ev g r):Ev (fun n=>if c then f n else g n) r:=Ev.congr (fun _=>if_neg h) k
theorem Ev.const {α:Type}{o:Option α}{r:α} (h:o=some r):Ev (fun _=>o) r:=⟨0,fun _ _=>h⟩
theorem Ev.succ {α:Type}{g:Nat→Option α}{r:α} (h:Ev (fun k=>g (k+1)) r):Ev g r:=Ev.step (fun _=>rfl) h
theorem Ev.to {α:Type}{g:Nat→Option α}{r q:α} (h:Ev g r) (e:r=q):Ev g q:=e▸h
theorem w64 {n:Int} (h0: -9223372036854775808≤n) (h1:n≤9223372036854775807):wrap64 n=n:=by unfold wrap64;omega
theorem u64w {n:Int} (h0:0≤n) (h1:n<18446744073709551616):IntKind.u64.wrap n=n:=by
  simp [IntKind.wrap,IntKind.bits,IntKind.signed];omega
theorem u64m (n:Int):IntKind.u64.wrap n=n % 18446744073709551616:=by simp [IntKind.wrap,IntKind.bits,IntKind.signed]
def Bytes (l:List Int):Prop:= ∀ x∈l,0≤x∧x<256
theorem Bytes.nil:Bytes []:=fun _ h=>by cases h
theorem Bytes.cons {x:Int}{l:List Int} (h0:0≤x) (h1:x<256) (h:Bytes l):Bytes (x :: l):=fun y hy=>by
  rcases List.mem_cons.1 hy with rfl|hy
  · exact⟨h0,h1⟩
  · exact h y hy
theorem Bytes.head {x:Int}{l:List Int} (h:Bytes (x :: l)):0≤x∧x<256:=h x (by simp)
theorem Bytes.tail {x:Int}{l:List Int} (h:Bytes (x :: l)):Bytes l:=fun y hy=>h y (by simp [hy])
theorem Bytes.append {a b:List Int} (ha:Bytes a) (hb:Bytes b):Bytes (a++b):=fun x hx=>(List.mem_append.1 hx).elim (ha x) (hb x)
theorem Bytes.left {a b:List Int} (h:Bytes (a++b)):Bytes a:=fun x hx=>h x (by simp [hx])
theorem Bytes.right {a b:List Int} (h:Bytes (a++b)):Bytes b:=fun x hx=>h x (by simp [hx])
theorem Bytes.drop {l:List Int} (h:Bytes l) (n:Nat):Bytes (l.drop n):=fun x hx=>h x (List.mem_of_mem_drop hx)
theorem Bytes.take {l:List Int} (h:Bytes l) (n:Nat):Bytes (l.take n):=fun x hx=>h x (List.mem_of_mem_take hx)
theorem bytesOf_bytes (s:ByteArray):Bytes (bytesOf s):=by
  intro x hx;obtain⟨b,_,rfl⟩:=List.mem_map.1 hx;have:=b.toNat_lt;omega
theorem str_ext {a b:ByteArray} (h:a.data.toList=b.data.toList):a=b:=by
  cases a with|mk a=>cases b with|mk b=>
  have:a=b:=Array.toList_inj.mp h;rw [this]
theorem str_bytes (s:ByteArray):strOfNums (bytesOf s)=s:=by
  refine str_ext ?_;rw [strOfNums_data,bytesOf,List.map_map]
  conv=>rhs;rw [← List.map_id s.data.toList]
  refine List.map_congr_left fun b _=>?_
  simp
theorem bytes_str {l:List Int} (h:Bytes l):bytesOf (strOfNums l)=l:=by
  rw [bytesOf,strOfNums_data,List.map_map]
  conv=>rhs;rw [← List.map_id l]
  refine List.map_congr_left fun x hx=>?_
  obtain⟨h0,h1⟩:=h x hx;simp;omega
theorem str_append (a b:List Int):strOfNums (a++b)=strOfNums a++strOfNums b:=by
  refine str_ext ?_;rw [ByteArray.data_append,Array.toList_append,strOfNums_data,strOfNums_data,strOfNums_data,List.map_append]
theorem bytes_extract (s:ByteArray) (i j:Nat):bytesOf (s.extract i j)=((bytesOf s).take j).drop i:=by
  unfold bytesOf;rw [ByteArray.data_extract,Array.toList_extract,List.extract_eq_take_drop,List.map_take,List.map_drop,List.drop_take]
theorem bytes_from (s:ByteArray) (i:Nat):bytesOf (s.extract i s.size)=(bytesOf s).drop i:=by
  rw [bytes_extract,List.take_of_length_le (by rw [bytesOf_length];exact Nat.le_refl _)]
theorem str_from (s:ByteArray) (i:Nat):s.extract i s.size=strOfNums ((bytesOf s).drop i):=by rw [← bytes_from,str_bytes]
theorem str_part (s:ByteArray) (i j:Nat):s.extract i j=strOfNums (((bytesOf s).take j).drop i):=by rw [← bytes_extract,str_bytes]
theorem bt_of {s:ByteArray}{l:List Int} (h:bytesOf s=l) (i:Int):bt s i=rd l i:=by rw [← rd_bytesOf,h]
theorem rd_drop {l:List Int}{i:Nat}{x:Int}{r:List Int} (h:l.drop i=x :: r):rd l (i:Int)=x:=by
  have h1:l[i]? =some x:=by
    have:=List.getElem?_drop (xs:=l) (i:=i) (j:=0);rw [h]at this
    simpa using this.symm
  simp [rd,List.getD_eq_getElem?_getD,h1]
theorem drop_lt {l:List Int}{i:Nat}{x:Int}{r:List Int} (h:l.drop i=x :: r):i<l.length:=by
  rcases Nat.lt_or_ge i l.length with g|g
  · exact g
  · rw [List.drop_eq_nil_of_le g]at h;cases h
theorem drop_next {α:Type}{l:List α}{i:Nat}{x:α}{r:List α} (h:l.drop i=x :: r):l.drop (i+1)=r:=by
  rw [← List.drop_drop,h];rfl
theorem drop_nil_le {α:Type}{l:List α}{i:Nat} (h:l.drop i= []):l.length≤i:=List.drop_eq_nil_iff.1 h
theorem andNot128 {x:Int} (h0:0≤x) (h1:x<256):Go.bits .andNot .u8 x 128=x % 128:=by
  have h: ∀ n:Fin 256,Go.bits .andNot .u8 ((n.val:Nat):Int) 128=((n.val:Nat):Int) % 128:=by decide+kernel
  have:=h ⟨x.toNat,by omega⟩
  simpa [Int.toNat_of_nonneg h0] using this
theorem bits_or_comm (k:IntKind) (x y:Int):Go.bits .or k x y=Go.bits .or k y x:=by
  unfold Go.bits;simp only[BitVec.or_comm]
theorem wraps_u64 (n:Int) (h₀:0≤n) (h₁:n<2 ^ 64):IntKind.u64.wrap n=n:=u64w h₀ (by omega)
theorem or_join {x y : Int} (i : Nat) (hx : 0 ≤ x) (hm : x % 2 ^ i = 0) (ab : x < 18446744073709551616) (hy : 0 ≤ y) (aa : y < 2 ^ i) (ac : y < 18446744073709551616) : Go.bits .or .u64 x y = x + y :=
  bits_join .u64 64 (by decide) wraps_u64 i x y hx hm (by omega) hy aa (by omega)
end Go.Proofs.Ythkdfojmhloofaa.Base
end
section
namespace Go.Proofs.Ythkdfojmhloofaa.Num
set_option linter.unusedVariables false
open Go.RowKit Go.Proofs.YthkdfojmhloofaaW.PrintWords Go.Proofs.YthkdfojmhloofaaW.PrintLast Go.Proofs.YthkdfojmhloofaaW.PrintMore Go.Proofs.Ythkdfojmhloofaa.Base
def putL (n:Nat):List Int:=if n<128 then [(n:Int)] else ((n:Int) % 128+128) :: putL (n / 128)
termination_by n
theorem putL_small {n:Nat} (h:n<128):putL n= [(n:Int)]:=by rw [putL,if_pos h]
theorem putL_great {n:Nat} (h: ¬ n<128):putL n=((n:Int) % 128+128) :: putL (n / 128):=by rw [putL,if_neg h]
theorem putL_ne (n:Nat):putL n≠ []:=by
  rw [putL]
  split <;> simp
theorem putL_pos (n:Nat):0<(putL n).length:=List.length_pos_iff.2 (putL_ne n)
theorem putL_bytes (n:Nat):Bytes (putL n):=by
  induction n using Nat.strongRecOn with
  |_ n ih=>
    by_cases h:n<128;·rw [putL_small h];exact Bytes.cons (by omega) (by omega) Bytes.nil
    ·rw [putL_great h];exact Bytes.cons (by omega) (by omega) (ih _ (by omega))
theorem putL_len_aux: ∀ (j n:Nat),n<128 ^ (j+1)→(putL n).length≤j+1
  |0,n,h=>by rw [putL_small (by simpa using h)];simp
  |j+1,n,h=>by
    by_cases g:n<128
    · rw [putL_small g];simp
    · rw [putL_great g,List.length_cons]
      have:=putL_len_aux j (n / 128) (by
        rw [Nat.div_lt_iff_lt_mul (by decide)]
        rwa [Nat.pow_succ]at h)
      omega
theorem putL_len {n:Nat} (h:n<18446744073709551616):(putL n).length≤10:=putL_len_aux 9 n (Nat.lt_of_lt_of_le h (by decide))
def getL : Nat → Int → List Int → Int × List Int × Int
  | _, _, [] => (0, [], 5)
  | i, n, b :: r => if i = 9 ∧ b > 1 then (0, [], 7) else if b ≥ 128 then getL (i + 1) (n + b % 128 * 128 ^ i) r else if b = 0 ∧ 0 < i then (0, [], 7) else (n + b * 128 ^ i, r, 0)
theorem getL_put (A:List Int): ∀ (m i:Nat) (n:Int),i≤9→m * 128 ^ i<18446744073709551616→(0<i→0<m)→getL i n (putL m++A)=(n+m * 128 ^ i,A,0):=by
  intro m
  induction m using Nat.strongRecOn with
  |_ m ih=>
    intro i n hi hm h0
    have h9:i=9→m≤1:=by
      rintro rfl
      have:m * 9223372036854775808<18446744073709551616:=by simpa using hm
      omega
    by_cases h:m<128;·rw [putL_small h];simp only[List.cons_append,List.nil_append,getL];rw [if_neg (by omega),if_neg (by omega),if_neg (by omega)]
    · rw [putL_great h];simp only[List.cons_append,getL];have hd:m / 128 * 128 ^ (i+1)≤m * 128 ^ i:=by rw [Nat.pow_succ,Nat.mul_comm (128 ^ i), ← Nat.mul_assoc];exact Nat.mul_le_mul_right _ (Nat.div_mul_le_self _ _)
      rw [if_neg (by omega),if_pos (by omega),ih (m / 128) (by omega) (i+1) _ (by omega) (by omega) (by omega)];refine Prod.ext ?_ rfl
      show n+((m:Int) % 128+128) % 128 * 128 ^ i+((m / 128:Nat):Int) * 128 ^ (i+1)=n+(m:Int) * 128 ^ i
      rw [Int.pow_succ];have e:((m:Int) % 128+128) % 128=(m:Int) % 128:=by omega
      have e2:((m / 128:Nat):Int)=(m:Int) / 128:=by omega
      rw [e,e2,Int.add_assoc,Int.mul_comm (128 ^ i) 128, ← Int.mul_assoc, ← Int.add_mul]
      congr 2
      omega
theorem getL_put0 {m:Nat} (A:List Int) (h:m<18446744073709551616):getL 0 0 (putL m++A)=((m:Int),A,0):=by
  rw [getL_put A m 0 0 (by omega) (by simpa using h) (by omega)];simp
theorem getL_back: ∀ (l:List Int) (i:Nat) (n v:Int) (r:List Int),Bytes l→i≤9→getL i n l=(v,r,0)→ ∃ m:Nat,v=n+m * 128 ^ i∧l=putL m++r∧(0<i→0<m)∧m * 128 ^ i<18446744073709551616
  | [],i,n,v,r,_,_,h=>by simp [getL]at h
  |b :: l,i,n,v,r,hb,hi,h=>by
    obtain⟨b0,b1⟩:=hb.head;simp only[getL]at h;by_cases h1:i=9∧b > 1
    · rw [if_pos h1]at h;simp at h
    rw [if_neg h1]at h;by_cases h2:b ≥ 128
    · rw [if_pos h2]at h;obtain⟨m,hv,hl,hm,hs⟩:=getL_back l (i+1) _ v r hb.tail (by omega) h;have hm:=hm (by omega);have e:(((b % 128).toNat+m * 128:Nat):Int)=b % 128+m * 128:=by omega
      refine⟨(b % 128).toNat+m * 128,?_,?_,by omega,?_⟩
      · rw [hv,e,Int.pow_succ,Int.add_mul,Int.add_assoc,Int.mul_comm (128 ^ i) 128,Int.mul_assoc]
      · rw [putL_great (by omega),hl];have e1:((b % 128).toNat+m * 128) / 128=m:=by omega
        have e2:((((b % 128).toNat+m * 128:Nat):Int) % 128+128)=b:=by omega
        rw [e1,e2];rfl
      · have hp:0<128 ^ i:=Nat.pow_pos (by decide);have af:((b % 128).toNat+m * 128) * 128 ^ i<(m+1) * 128 ^ (i+1):=by rw [Nat.pow_succ,Nat.mul_comm (128 ^ i), ← Nat.mul_assoc];exact Nat.mul_lt_mul_of_pos_right (by omega) hp
        have aa:i≤8:=by omega
        have ab:m * 128 ^ (i+1)<18446744073709551616:=hs
        have ac: ∀ j:Nat,j≤8→m * 128 ^ (j+1)<18446744073709551616→18446744073709551616=128 ^ (j+1) * (18446744073709551616 / 128 ^ (j+1)):=by
          intro j hj _;have:j=0∨j=1∨j=2∨j=3∨j=4∨j=5∨j=6∨j=7∨j=8:=by omega
          rcases this with rfl|rfl|rfl|rfl|rfl|rfl|rfl|rfl|rfl <;> decide
        have hq:=ac i aa ab
        have ae:m+1≤18446744073709551616 / 128 ^ (i+1):=by
          have:m * 128 ^ (i+1)<18446744073709551616 / 128 ^ (i+1) * 128 ^ (i+1):=by rw [Nat.mul_comm (18446744073709551616 / _)];omega
          exact Nat.lt_of_mul_lt_mul_right this
        have:(m+1) * 128 ^ (i+1)≤18446744073709551616:=by rw [hq,Nat.mul_comm (128 ^ (i+1))];exact Nat.mul_le_mul_right _ ae
        omega
    rw [if_neg h2]at h;by_cases h3:b=0∧0<i
    · rw [if_pos h3]at h;simp at h
    rw [if_neg h3]at h;simp only[Prod.mk.injEq,and_true]at h;obtain⟨rfl,rfl⟩:=h;refine⟨b.toNat,by rw [Int.toNat_of_nonneg b0],?_,by omega,?_⟩
    · rw [putL_small (by omega),Int.toNat_of_nonneg b0];rfl
    · have:i=0∨i=1∨i=2∨i=3∨i=4∨i=5∨i=6∨i=7∨i=8∨i=9:=by omega
      rcases this with rfl|rfl|rfl|rfl|rfl|rfl|rfl|rfl|rfl|rfl <;> simp only[Nat.reducePow] <;> omega
theorem getL_back0 {l r:List Int}{v:Int} (hb:Bytes l) (h:getL 0 0 l=(v,r,0)): ∃ m:Nat,v=m∧l=putL m++r∧m<18446744073709551616:=by
  obtain⟨m,hv,hl,_,hs⟩:=getL_back l 0 0 v r hb (by omega) h;exact⟨m,by simpa using hv,hl,by simpa using hs⟩
theorem getL_err: ∀ (l:List Int) (i:Nat) (n:Int),(getL i n l).2.2=0∨((getL i n l).2.2≠0∧(getL i n l).1=0∧(getL i n l).2.1= [])
  | [],_,_=>by simp [getL]
  |b :: l,i,n=>by
    simp only[getL]
    split
    · exact .inr (by simp)
    split
    · exact getL_err l _ _
    split
    · exact .inr (by simp)
    · exact .inl rfl
theorem getL_len: ∀ (l:List Int) (i:Nat) (n:Int),(getL i n l).2.1.length≤l.length
  | [],_,_=>by simp [getL]
  |b :: l,i,n=>by
    simp only[getL]
    split
    · simp
    split
    · have:=getL_len l (i+1) (n+b % 128 * 128 ^ i);simp;omega
    split
    · simp
    · simp
end Go.Proofs.Ythkdfojmhloofaa.Num
end
section
namespace Go.Proofs.Ythkdfojmhloofaa.Addr
set_option linter.unusedVariables false
open Go.RowKit Go.Proofs.YthkdfojmhloofaaW.PrintWords Go.Proofs.YthkdfojmhloofaaW.PrintLast Go.Proofs.YthkdfojmhloofaaW.PrintMore Go.Proofs.Ythkdfojmhloofaa.Base
def Wn (six:Bool):Nat:=if six then 128 else 32
theorem Wn_le (six:Bool):Wn six≤128:=by cases six <;> simp [Wn]
def hi (n:Nat):Int:=((n / 18446744073709551616:Nat):Int)
def lo (n:Nat):Int:=((n % 18446744073709551616:Nat):Int)
theorem lo_range (n:Nat):0≤lo n∧lo n<18446744073709551616:=by unfold lo;omega
theorem hi_range {n:Nat} (h:n<340282366920938463463374607431768211456):0≤hi n∧hi n<18446744073709551616:=by unfold hi;omega
theorem p2pos (n:Nat):0<2 ^ n:=Nat.two_pow_pos n
theorem p2le {n:Nat} (h:n≤128):2 ^ n≤340282366920938463463374607431768211456:=Nat.le_trans (Nat.pow_le_pow_right (by decide) h) (by decide)
theorem p2le64 {n:Nat} (h:n≤64):2 ^ n≤18446744073709551616:=Nat.le_trans (Nat.pow_le_pow_right (by decide) h) (by decide)
theorem p2lt64 {n:Nat} (h:n<64):2 ^ n≤9223372036854775808:=Nat.le_trans (Nat.pow_le_pow_right (show 0<2 by decide) (show n≤63 by omega)) (by decide)
theorem p2split {n:Nat} (h:64≤n):2 ^ n=18446744073709551616 * 2 ^ (n - 64):=by
  have:2 ^ n=2 ^ 64 * 2 ^ (n - 64):=by rw [← Nat.pow_add];congr 1;omega
  rw [this]
theorem p2split' {n:Nat} (h:n≤64):18446744073709551616=2 ^ n * 2 ^ (64 - n):=by
  have:2 ^ 64=2 ^ n * 2 ^ (64 - n):=by rw [← Nat.pow_add];congr 1;omega
  rw [← this]
theorem wn_pow (six:Bool):2 ^ Wn six≤340282366920938463463374607431768211456:=p2le (Wn_le six)
theorem wn_six {n:Nat}:(n<2 ^ Wn true)↔n<340282366920938463463374607431768211456:=Iff.rfl
theorem wn_four {n:Nat}:(n<2 ^ Wn false)↔n<4294967296:=Iff.rfl
theorem mod_parts {n N:Nat} (h:64≤n):N % 2 ^ n=0↔(N / 18446744073709551616) % 2 ^ (n - 64)=0∧N % 18446744073709551616=0:=by
  rw [p2split h,Nat.mod_mul];constructor
  · intro e;constructor
    · rcases Nat.eq_zero_or_pos (N / 18446744073709551616 % 2 ^ (n - 64)) with z|z
      · exact z
      · omega
    · omega
  · rintro⟨a,b⟩
    rw [a,b]
theorem mod_low {n N:Nat} (h:n≤64):(N % 18446744073709551616) % 2 ^ n=N % 2 ^ n:=by
  refine Nat.mod_mod_of_dvd N ⟨2 ^ (64 - n),?_⟩;exact p2split' h
theorem or_zero {x y:Int} (hx:0≤x) (aa:x<18446744073709551616) (hy:0≤y) (ab:y<18446744073709551616):Go.bits .or .u64 x y=0↔x=0∧y=0:=by
  obtain⟨a,rfl⟩:=Int.eq_ofNat_of_zero_le hx;obtain⟨b,rfl⟩:=Int.eq_ofNat_of_zero_le hy;rw [(bits_nat .u64 64 (by decide) wraps_u64 a b (by omega) (by omega)).2];constructor
  · intro h;have h0:a ||| b=0:=by exact_mod_cast h
    have:=Nat.or_eq_zero_iff.1 h0;omega
  · rintro⟨h1,h2⟩
    have e1:a=0:=by omega
    have e2:b=0:=by omega
    subst e1;subst e2;rfl
theorem and_mask {x:Int}{j:Nat} (hx:0≤x) (aa:x<18446744073709551616) (hj:j≤64):Go.bits .and .u64 x ((2 ^ j - 1:Nat):Int)=x % ((2 ^ j:Nat):Int):=by
  have:=bits_mask .u64 64 (by decide) wraps_u64 j hj x hx (by omega);have e:((2 ^ j - 1:Nat):Int)=(2:Int) ^ j - 1:=by rw [Int.natCast_sub (p2pos j)];simp
  rw [e,this];simp
theorem shl1 {m:Nat} (h:m<64):shl .u64 1 (m:Int)=((2 ^ m:Nat):Int):=by
  have:=p2lt64 h;unfold shl;rw [Int.toNat_natCast,Nat.min_eq_left (by simp [IntKind.bits];omega),Int.one_mul];have e:(2:Int) ^ m=((2 ^ m:Nat):Int):=by simp
  rw [e];generalize 2 ^ m=q at *;exact u64w (by omega) (by omega)
def bitsL : Nat → Nat → List Int
  | 0, _ => []
  | w + 1, n => bitsL w (n / 2) ++ [((n % 2 : Nat) : Int)]
theorem bitsL_len : ∀ w n, (bitsL w n).length = w
  | 0, _ => rfl
  | w + 1, n => by simp [bitsL, bitsL_len w]
theorem bitsL_split: ∀ (b a n:Nat),bitsL (a+b) n=bitsL a (n / 2 ^ b)++bitsL b n
  |0,a,n=>by simp [bitsL]
  |b+1,a,n=>by
    have e:n / 2 / 2 ^ b=n / 2 ^ (b+1):=by rw [Nat.div_div_eq_div_mul,Nat.pow_succ,Nat.mul_comm]
    rw [← Nat.add_assoc,bitsL,bitsL_split b a (n / 2),e,bitsL,List.append_assoc]
theorem bitsL_zero: ∀ (w n:Nat),(∀ x∈bitsL w n,x=0)↔n % 2 ^ w=0
  |0,n=>by simp [bitsL,Nat.mod_one]
  |w+1,n=>by
    have ih:=bitsL_zero w (n / 2);have e:n % 2 ^ (w+1)=2 * (n / 2 % 2 ^ w)+n % 2:=by rw [Nat.pow_succ,Nat.mul_comm,Nat.mod_mul];omega
    rw [e];constructor;·intro h;have h1:=ih.1 (fun x hx=>h x (by simp [bitsL,hx]));have h2:=h ((n % 2:Nat):Int) (by simp [bitsL]);omega
    · intro h x hx;rcases List.mem_append.1 hx with hx|hx
      · exact ih.2 (by omega) x hx
      · simp at hx;omega
def okP (six:Bool) (n:Nat) (A:Int):Prop:=0≤A∧A≤Wn six∧n<2 ^ Wn six∧n % 2 ^ (Wn six - A.toNat)=0
instance (six:Bool) (n:Nat) (len:Int):Decidable (okP six n len):=by unfold okP;exact inferInstance
def hostN (six:Bool) (aa:Int):Nat:=2 ^ (Wn six - aa.toNat) - 1
def hasP (six:Bool) (n:Nat) (A:Int) (B:Bool) (m:Nat):Prop:=okP six n A∧six=B∧m<2 ^ Wn B∧n≤m∧m≤n+hostN six A
instance (six:Bool) (n:Nat) (len:Int) (six':Bool) (m:Nat):Decidable (hasP six n len six' m):=by unfold hasP;exact inferInstance
end Go.Proofs.Ythkdfojmhloofaa.Addr
end
section
namespace Go.Proofs.Ythkdfojmhloofaa.Be
set_option linter.unusedVariables false
open Go.RowKit Go.Proofs.YthkdfojmhloofaaW.PrintWords Go.Proofs.YthkdfojmhloofaaW.PrintLast Go.Proofs.YthkdfojmhloofaaW.PrintMore Go.Proofs.Ythkdfojmhloofaa.Base
def be : Nat → Nat → List Int
  | 0, _ => []
  | j + 1, n => be j (n / 256) ++ [((n % 256 : Nat) : Int)]
def nb (l:List Int):Nat:=l.foldl (fun a b=>256 * a+b.toNat) 0
theorem snoc_ind {P:List Int→Prop} (h0:P []) (h1: ∀ l x,P l→P (l++ [x])) (l:List Int):P l:=by
  have h: ∀ r:List Int,P r.reverse:=by
    intro r
    induction r with
    |nil=>exact h0
    |cons a r ih=>rw [List.reverse_cons];exact h1 _ _ ih
  have:=h l.reverse
  rwa [List.reverse_reverse]at this
theorem nb_snoc (l:List Int) (b:Int):nb (l++ [b])=256 * nb l+b.toNat:=by simp [nb,List.foldl_append]
theorem be_len : ∀ j n, (be j n).length = j
  | 0, _ => rfl
  | j + 1, n => by rw [be, List.length_append, be_len j]; rfl
theorem be_bytes: ∀ j n,Bytes (be j n)
  |0,_=>Bytes.nil
  |j+1,n=>by
    rw [be];exact (be_bytes j _).append (Bytes.cons (by omega) (by omega) Bytes.nil)
theorem nb_be: ∀ j n,nb (be j n)=n % 256 ^ j
  |0,n=>by simp [be,nb,Nat.mod_one]
  |j+1,n=>by
    rw [be,nb_snoc,nb_be j,Int.toNat_natCast,Nat.pow_succ,Nat.mul_comm (256 ^ j) 256,Nat.mod_mul];omega
theorem be_nb (l:List Int):Bytes l→be l.length (nb l)=l:=by
  induction l using snoc_ind with
  |h0=>intro _;rfl
  |h1 l x ih=>
    intro hb;have hx:=hb.right.head;have e:(l++ [x]).length=l.length+1:=by simp
    rw [e,be,nb_snoc];have e1:(256 * nb l+x.toNat) / 256=nb l:=by omega
    have e2:(((256 * nb l+x.toNat) % 256:Nat):Int)=x:=by omega
    rw [e1,e2,ih hb.left]
theorem be_split: ∀ (b a n:Nat),be (a+b) n=be a (n / 256 ^ b)++be b n
  |0,a,n=>by simp [be]
  |b+1,a,n=>by
    rw [show a+(b+1)=a+b+1 by omega,be,be_split b a,be,Nat.div_div_eq_div_mul,Nat.pow_succ,Nat.mul_comm 256,List.append_assoc]
theorem nb_append (a b:List Int):nb (a++b)=nb a * 256 ^ b.length+nb b:=by
  induction b using snoc_ind with
  |h0=>simp [nb]
  |h1 l x ih=>
    rw [← List.append_assoc,nb_snoc,nb_snoc,ih,List.length_append,List.length_singleton,Nat.pow_succ,Nat.mul_add, ← Nat.add_assoc, ← Nat.mul_assoc (nb a),Nat.mul_comm 256 (nb a * _)]
theorem nb_lt (l:List Int):Bytes l→nb l<256 ^ l.length:=by
  induction l using snoc_ind with
  |h0=>intro _;simp [nb]
  |h1 l x ih=>
    intro hb;have hx:=hb.right.head;have:=ih hb.left;rw [nb_snoc,List.length_append,List.length_singleton,Nat.pow_succ];omega
theorem be_zero (j:Nat):be j 0=List.replicate j 0:=by
  induction j with
  |zero=>rfl
  |succ j ih=>rw [be,Nat.zero_div,ih,List.replicate_succ'];rfl
theorem be_mod (j n m:Nat) (h:n % 256 ^ j=m % 256 ^ j):be j n=be j m:=by
  have e: ∀ x,be j (nb (be j x))=be j x:=fun x=>by
    have:=be_nb (be j x) (be_bytes j x)
    rwa [be_len]at this
  rw [← e n, ← e m,nb_be,nb_be,h]
theorem be_zeros {j n:Nat} (h:n % 256 ^ j=0):be j n=List.replicate j 0:=by rw [be_mod j n 0 (by rw [h];simp),be_zero]
theorem nb_zeros (j:Nat):nb (List.replicate j 0)=0:=by rw [← be_zero,nb_be,Nat.zero_mod]
theorem bytes_zeros (n:Nat):Bytes (List.replicate n 0):=fun x hx=>by
  rw [List.eq_of_mem_replicate hx];omega
end Go.Proofs.Ythkdfojmhloofaa.Be
end
section
namespace Go.Proofs.Ythkdfojmhloofaa.Msg
set_option linter.unusedVariables false
open Go.RowKit Go.Proofs.YthkdfojmhloofaaW.PrintWords Go.Proofs.YthkdfojmhloofaaW.PrintLast Go.Proofs.YthkdfojmhloofaaW.PrintMore Go.Proofs.Ythkdfojmhloofaa.Base Go.Proofs.Ythkdfojmhloofaa.Num Go.Proofs.Ythkdfojmhloofaa.Addr Go.Proofs.Ythkdfojmhloofaa.Be
def Bn (six:Bool):Nat:=if six then 16 else 4
theorem bn_wn (six:Bool):Wn six=8 * Bn six:=by cases six <;> rfl
theorem p256 (j:Nat):256 ^ j=2 ^ (8 * j):=by rw [Nat.pow_mul]
def Kn (aa:Int):Nat:=(aa.toNat+7) / 8
def sixB (six:Bool):Int:=if six then 6 else 4
def preL (six:Bool) (n:Nat) (A:Int):List Int:=sixB six :: A :: (be (Bn six) n).take (Kn A)
theorem kn_le {six:Bool}{A:Int} (h:A≤Wn six):Kn A≤Bn six:=by rw [bn_wn]at h;unfold Kn;omega
theorem pre_tail {six:Bool}{n:Nat}{A:Int} (h:okP six n A):be (Bn six) n=(be (Bn six) n).take (Kn A)++List.replicate (Bn six - Kn A) 0:=by
  obtain⟨h0,h1,h2,h3⟩:=h;have hk:=kn_le h1;have hw:=bn_wn six;obtain⟨b,hb⟩: ∃ b,Bn six=Kn A+b:=⟨Bn six - Kn A,by omega⟩;rw [hb,be_split,List.take_left' (be_len _ _),Nat.add_sub_cancel_left]
  congr 1
  apply be_zeros;rw [p256];apply Nat.mod_eq_zero_of_dvd;refine Nat.dvd_trans (Nat.pow_dvd_pow 2 ?_) (Nat.dvd_of_mod_eq_zero h3);unfold Kn at hb;omega
theorem preL_bytes {six:Bool}{n:Nat}{A:Int} (h:okP six n A):Bytes (preL six n A):=by
  obtain⟨h0,h1,_⟩:=h;have:=Wn_le six;refine Bytes.cons (by cases six <;> simp [sixB]) (by cases six <;> simp [sixB]) (Bytes.cons h0 (by omega) ((be_bytes _ _).take _))
theorem preL_len {six:Bool}{n:Nat}{A:Int} (h:okP six n A):(preL six n A).length≤18:=by
  simp only[preL,List.length_cons,List.length_take,be_len];have:Bn six≤16:=by cases six <;> simp [Bn]
  omega
def preN (six:Bool) (A:Int) (l:List Int):Nat:=nb (l.take (Kn A)++List.replicate (Bn six - Kn A) 0)
abbrev Pfx:=Bool × Nat × Int
def getP : List Int → Option (Pfx × List Int)
  | b :: len :: l => if (b = 4 ∨ b = 6) ∧ len ≤ Wn (b == 6) ∧ Kn len ≤ l.length ∧ okP (b == 6) (preN (b == 6) len l) len then some ((b == 6, preN (b == 6) len l, len), l.drop (Kn len)) else none
  | _ => none
theorem preN_put {six:Bool}{n:Nat}{A:Int} (r:List Int) (h:okP six n A):preN six A ((be (Bn six) n).take (Kn A)++r)=n:=by
  unfold preN;rw [List.take_left' (by rw [List.length_take,be_len];exact Nat.min_eq_left (kn_le h.2.1)), ← pre_tail h,nb_be];have hw:256 ^ Bn six=2 ^ Wn six:=by rw [p256,bn_wn]
  rw [hw,Nat.mod_eq_of_lt h.2.2.1]
theorem getP_put {six:Bool}{n:Nat}{A:Int} (r:List Int) (h:okP six n A):getP (preL six n A++r)=some ((six,n,A),r):=by
  simp only[preL,List.cons_append,getP];have e6:(sixB six==6)=six:=by cases six <;> rfl
  have e4:sixB six=4∨sixB six=6:=by cases six <;> simp [sixB]
  have hk:=kn_le h.2.1;rw [e6,preN_put r h,if_pos ⟨e4,h.2.1,by simp [be_len];omega,h⟩,List.drop_left' (by rw [List.length_take,be_len];exact Nat.min_eq_left hk)]
theorem getP_back {l r:List Int}{six:Bool}{n:Nat}{A:Int} (hb:Bytes l) (h:getP l=some ((six,n,A),r)):okP six n A∧l=preL six n A++r:=by
  match l,h with
  |b :: ln :: l,h=>
    simp only[getP]at h
    split at h
    · rename_i c
      obtain⟨c1,c2,c3,c4⟩:=c;simp only[Option.some.injEq,Prod.mk.injEq]at h;obtain⟨⟨rfl,rfl,rfl⟩,rfl⟩:=h;refine⟨c4,?_⟩;have e6:sixB (b==6)=b:=by rcases c1 with rfl|rfl <;> rfl
      have hk:=kn_le c2;have hl:(l.take (Kn ln)++List.replicate (Bn (b==6) - Kn ln) 0).length=Bn (b==6):=by rw [List.length_append,List.length_take,List.length_replicate];omega
      have e:=be_nb (l.take (Kn ln)++List.replicate (Bn (b==6) - Kn ln) 0) ((hb.tail.tail.take _).append (bytes_zeros _));rw [hl]at e;simp only[preL,e6,List.cons_append]
      congr 2
      unfold preN;rw [e,List.take_left' (by rw [List.length_take];exact Nat.min_eq_left c3),List.take_append_drop]
    · cases h
  | [],h=>simp [getP]at h
  | [_],h=>simp [getP]at h
def okA (k i:Int):Prop:=k=1∧0≤i∧i≤65536∨(k=2∨k=3)∧i=0
instance (k i:Int):Decidable (okA k i):=by unfold okA;exact inferInstance
def actL (k i:Int):List Int:=k :: (if k=1 then putL i.toNat else [])
def rdN (most:Int) (l:List Int):Option (Int × List Int):=if (getL 0 0 l).2.2=0∧(getL 0 0 l).1≤most then some ((getL 0 0 l).1,(getL 0 0 l).2.1) else none
theorem rdN_put {most m:Int} (r:List Int) (h0:0≤m) (h:m≤most) (h1:m<18446744073709551616):rdN most (putL m.toNat++r)=some (m,r):=by
  unfold rdN;rw [getL_put0 r (by omega),if_pos ⟨rfl,by show ((m.toNat:Nat):Int)≤_;omega⟩];rw [show ((m.toNat:Nat):Int)=m by omega]
theorem rdN_back {most v:Int}{l r:List Int} (hb:Bytes l) (h:rdN most l=some (v,r)):0≤v∧v≤most∧v<18446744073709551616∧l=putL v.toNat++r:=by
  unfold rdN at h
  split at h
  · rename_i c
    simp only[Option.some.injEq,Prod.mk.injEq]at h;obtain⟨m,hv,hl,hm⟩:=getL_back0 (l:=l) (v:=(getL 0 0 l).1) (r:=(getL 0 0 l).2.1) hb (Prod.ext rfl (Prod.ext rfl c.1));have e:v.toNat=m:=by omega
    exact⟨by omega,by omega,by omega,by rw [e, ← h.2];exact hl⟩
  · cases h
def getA : List Int → Option ((Int × Int) × List Int)
  | k :: l => if k = 1 then (rdN 65536 l).bind fun x => some ((1, x.1), x.2) else if k = 2 ∨ k = 3 then some ((k, 0), l) else none
  | [] => none
theorem okA_act {k i:Int} (h:okA k i):k=1∧0≤i∧i≤65536∨k≠1∧(k=2∨k=3)∧i=0:=by unfold okA at h;omega
theorem getA_put {k i:Int} (r:List Int) (h:okA k i):getA (actL k i++r)=some ((k,i),r):=by
  rcases okA_act h with ⟨rfl,h0,h1⟩|⟨h1,h2,rfl⟩
  ·simp only[actL,if_pos,List.cons_append,getA];rw [rdN_put r h0 h1 (by omega)];rfl
  ·simp only[actL,if_neg h1,List.cons_append,List.nil_append,getA];rw [if_pos h2]
theorem getA_back {l r:List Int}{k i:Int} (hb:Bytes l) (h:getA l=some ((k,i),r)):okA k i∧l=actL k i++r:=by
  match l,h with
  |b :: l,h=>
    simp only[getA]at h
    split at h
    · rename_i c
      obtain⟨⟨v,s⟩,hx,h⟩:=Option.bind_eq_some_iff.mp h;simp only[Option.some.injEq,Prod.mk.injEq]at h;obtain⟨⟨rfl,rfl⟩,rfl⟩:=h;obtain⟨h0,h1,h2,hl⟩:=rdN_back hb.tail hx;exact⟨.inl ⟨rfl,h0,h1⟩,by rw [c,hl];rfl⟩
    · split at h
      · rename_i c1 c2
        simp only[Option.some.injEq,Prod.mk.injEq]at h;obtain⟨⟨rfl,rfl⟩,rfl⟩:=h;exact⟨.inr ⟨c2,rfl⟩,by simp [actL,c1]⟩
      · cases h
theorem actL_bytes {k i:Int} (h:okA k i):Bytes (actL k i):=by
  rcases okA_act h with ⟨rfl,h0,h1⟩|⟨h1,h2,rfl⟩
  · simp only[actL,if_pos];exact Bytes.cons (by omega) (by omega) (putL_bytes _)
  · simp only[actL,if_neg h1];exact Bytes.cons (by omega) (by omega) Bytes.nil
theorem actL_len {k i:Int} (h:okA k i):(actL k i).length≤11:=by
  rcases okA_act h with ⟨rfl,h0,h1⟩|⟨h1,h2,rfl⟩
  ·simp only[actL,if_pos,List.length_cons];have:=putL_len (n:=i.toNat) (by omega);omega
  · simp [actL,h1]
structure E11 where
  kd : Int
  ro : Int
  sq : Int
  ti : Int
  six : Bool
  n : Nat
  ln : Int
  ak : Int
  ai : Int
  ifc : Int
  pe : Int
  deriving DecidableEq
def noP (e:E11):Prop:=e.six=false∧e.n=0∧e.ln=0
def noA (e:E11):Prop:=e.ak=0∧e.ai=0
def okE (e : E11) : Prop := (0 ≤ e.ro ∧ e.ro ≤ 1048576 ∧ 1 ≤ e.sq ∧ e.sq ≤ 1099511627776 ∧ 0 ≤ e.ti ∧ e.ti ≤ 1099511627776) ∧
  ((e.kd = 1 ∨ e.kd = 2) ∧ noP e ∧ noA e ∧ e.ifc = 0 ∧ e.pe = 0 ∨ e.kd = 3 ∧ okP e.six e.n e.ln ∧ okA e.ak e.ai ∧ e.ifc = 0 ∧ e.pe = 0 ∨ e.kd = 4 ∧ okP e.six e.n e.ln ∧ noA e ∧ e.ifc = 0 ∧ e.pe = 0 ∨
   e.kd = 5 ∧ noP e ∧ noA e ∧ (0 ≤ e.ifc ∧ e.ifc ≤ 65536) ∧ (0 ≤ e.pe ∧ e.pe ≤ 1048576) ∨ e.kd = 6 ∧ noP e ∧ noA e ∧ (0 ≤ e.ifc ∧ e.ifc ≤ 65536) ∧ e.pe = 0)
instance (e:E11):Decidable (noP e):=by unfold noP;exact inferInstance
instance (e:E11):Decidable (noA e):=by unfold noA;exact inferInstance
instance (e:E11):Decidable (okE e):=by unfold okE;exact inferInstance
def endL (e:E11):List Int:=if e.kd=3 then preL e.six e.n e.ln++actL e.ak e.ai else if e.kd=4 then preL e.six e.n e.ln else if e.kd=5 then putL e.ifc.toNat++putL e.pe.toNat else if e.kd=6 then putL e.ifc.toNat else []
def bodyL (e:E11):List Int:=e.kd :: (putL e.ro.toNat++(putL e.sq.toNat++(putL e.ti.toNat++endL e)))
def zE (kd ro sq ti:Int):E11:=⟨kd,ro,sq,ti,false,0,0,0,0,0,0⟩
def getEnd (kd ro sq ti : Int) (l : List Int) : Option (E11 × List Int) :=
  if kd = 3 then (getP l).bind fun p => (getA p.2).bind fun a => some (⟨kd, ro, sq, ti, p.1.1, p.1.2.1, p.1.2.2, a.1.1, a.1.2, 0, 0⟩, a.2)
  else if kd = 4 then (getP l).bind fun p => some (⟨kd, ro, sq, ti, p.1.1, p.1.2.1, p.1.2.2, 0, 0, 0, 0⟩, p.2)
  else if kd = 5 then (rdN 65536 l).bind fun x => (rdN 1048576 x.2).bind fun y => some (⟨kd, ro, sq, ti, false, 0, 0, 0, 0, x.1, y.1⟩, y.2)
  else if kd = 6 then (rdN 65536 l).bind fun x => some (⟨kd, ro, sq, ti, false, 0, 0, 0, 0, x.1, 0⟩, x.2)
  else some (zE kd ro sq ti, l)
def getE : List Int → Option E11
  | kd :: l => (rdN 1048576 l).bind fun a => (rdN 1099511627776 a.2).bind fun b => (rdN 1099511627776 b.2).bind fun c => (getEnd kd a.1 b.1 c.1 c.2).bind fun x => if x.2 = [] ∧ okE x.1 then some x.1 else none
  | [] => none
theorem getEnd_put {e:E11} (r:List Int) (h:okE e):getEnd e.kd e.ro e.sq e.ti (endL e++r)=some (e,r):=by
  obtain⟨hn,h⟩:=h;obtain⟨kd,ro,sq,ti,six,n,ln,ak,ai,aa,pe⟩:=e;dsimp only at *;rcases h with ⟨hk,⟨h1,h2,h3⟩,⟨h4,h5⟩,h6,h7⟩|⟨rfl,hp,ha,h6,h7⟩|⟨rfl,hp,⟨h4,h5⟩,h6,h7⟩|⟨rfl,⟨h1,h2,h3⟩,⟨h4,h5⟩,h6,h7⟩|⟨rfl,⟨h1,h2,h3⟩,⟨h4,h5⟩,h6,h7⟩ <;> (try dsimp only at *)
  ·subst h1 h2 h3 h4 h5 h6 h7;unfold getEnd endL;rw [if_neg (by omega),if_neg (by omega),if_neg (by omega),if_neg (by omega)];dsimp only;rw [if_neg (by omega),if_neg (by omega),if_neg (by omega),if_neg (by omega)];rfl
  ·subst h6 h7;unfold getEnd endL;dsimp only;rw [if_pos rfl,if_pos rfl,List.append_assoc,getP_put _ hp];simp only[Option.bind_some];rw [getA_put _ ha];rfl
  ·subst h4 h5 h6 h7;unfold getEnd endL;dsimp only;rw [if_neg (by decide),if_pos rfl,if_neg (by decide),if_pos rfl,getP_put _ hp];rfl
  ·subst h1 h2 h3 h4 h5;unfold getEnd endL;dsimp only;rw [if_neg (by decide),if_neg (by decide),if_pos rfl,if_neg (by decide),if_neg (by decide),if_pos rfl,List.append_assoc,rdN_put _ h6.1 h6.2 (by omega)];simp only[Option.bind_some];rw [rdN_put _ h7.1 h7.2 (by omega)];rfl
  ·subst h1 h2 h3 h4 h5 h7;unfold getEnd endL;dsimp only;rw [if_neg (by decide),if_neg (by decide),if_neg (by decide),if_pos rfl,if_neg (by decide),if_neg (by decide),if_neg (by decide),if_pos rfl,rdN_put _ h6.1 h6.2 (by omega)];rfl
theorem getEnd_back {kd ro sq ti:Int}{l r:List Int}{e:E11} (hb:Bytes l) (h:getEnd kd ro sq ti l=some (e,r)):e.kd=kd∧e.ro=ro∧e.sq=sq∧e.ti=ti∧l=endL e++r:=by
  unfold getEnd at h
  split at h
  · rename_i c
    obtain⟨⟨⟨a,b,c'⟩,s⟩,hp,h⟩:=Option.bind_eq_some_iff.mp h;obtain⟨⟨⟨x,y⟩,u⟩,ha,h⟩:=Option.bind_eq_some_iff.mp h;simp only[Option.some.injEq,Prod.mk.injEq]at h;obtain⟨rfl,rfl⟩:=h;obtain⟨_,hl⟩:=getP_back hb hp;obtain⟨_,hm⟩:=getA_back (by rw [hl]at hb;exact hb.right) ha;refine⟨rfl,rfl,rfl,rfl,?_⟩;unfold endL;dsimp only at *;rw [if_pos c,hl,hm,List.append_assoc]
  split at h
  · rename_i c1 c
    obtain⟨⟨⟨a,b,c'⟩,s⟩,hp,h⟩:=Option.bind_eq_some_iff.mp h;simp only[Option.some.injEq,Prod.mk.injEq]at h;obtain⟨rfl,rfl⟩:=h;obtain⟨_,hl⟩:=getP_back hb hp;refine⟨rfl,rfl,rfl,rfl,?_⟩;unfold endL;dsimp only at *;rw [if_neg c1,if_pos c,hl]
  split at h
  · rename_i c1 c2 c
    obtain⟨⟨a,s⟩,hp,h⟩:=Option.bind_eq_some_iff.mp h;obtain⟨⟨x,u⟩,ha,h⟩:=Option.bind_eq_some_iff.mp h;simp only[Option.some.injEq,Prod.mk.injEq]at h;obtain⟨rfl,rfl⟩:=h;obtain⟨_,_,_,hl⟩:=rdN_back hb hp;obtain⟨_,_,_,hm⟩:=rdN_back (by rw [hl]at hb;exact hb.right) ha;refine⟨rfl,rfl,rfl,rfl,?_⟩;unfold endL;dsimp only at *;rw [if_neg c1,if_neg c2,if_pos c,hl,hm,List.append_assoc]
  split at h
  · rename_i c1 c2 c3 c
    obtain⟨⟨a,s⟩,hp,h⟩:=Option.bind_eq_some_iff.mp h;simp only[Option.some.injEq,Prod.mk.injEq]at h;obtain⟨rfl,rfl⟩:=h;obtain⟨_,_,_,hl⟩:=rdN_back hb hp;refine⟨rfl,rfl,rfl,rfl,?_⟩;unfold endL;dsimp only at *;rw [if_neg c1,if_neg c2,if_neg c3,if_pos c,hl]
  · rename_i c1 c2 c3 c4
    simp only[Option.some.injEq,Prod.mk.injEq]at h;obtain⟨rfl,rfl⟩:=h;refine⟨rfl,rfl,rfl,rfl,?_⟩;unfold endL zE;dsimp only;rw [if_neg c1,if_neg c2,if_neg c3,if_neg c4];rfl
theorem getE_body {e:E11} (h:okE e):getE (bodyL e)=some e:=by
  have hn:=h.1;have hp:=getEnd_put [] h;rw [List.append_nil]at hp;unfold bodyL;simp only[getE];rw [rdN_put _ (by omega) (by omega) (by omega)];simp only[Option.bind_some];rw [rdN_put _ (by omega) (by omega) (by omega)];simp only[Option.bind_some];rw [rdN_put _ (by omega) (by omega) (by omega)];simp only[Option.bind_some];rw [hp];simp only[Option.bind_some];rw [if_pos ⟨trivial,h⟩]
theorem getE_back {l:List Int}{e:E11} (hb:Bytes l) (h:getE l=some e):okE e∧l=bodyL e:=by
  match l,h with
  |kd :: l,h=>
    simp only[getE]at h;obtain⟨⟨a,la⟩,h1,h⟩:=Option.bind_eq_some_iff.mp h;obtain⟨⟨b,lb⟩,h2,h⟩:=Option.bind_eq_some_iff.mp h;obtain⟨⟨c,lc⟩,h3,h⟩:=Option.bind_eq_some_iff.mp h;obtain⟨⟨x,lx⟩,h4,h⟩:=Option.bind_eq_some_iff.mp h
    split at h
    · rename_i g
      simp only[Option.some.injEq]at h;subst h;obtain⟨_,_,_,e1⟩:=rdN_back hb.tail h1;have A:Bytes la:=by have:=hb.tail;rw [e1]at this;exact this.right
      obtain⟨_,_,_,e2⟩:=rdN_back A h2;have B:Bytes lb:=by have:=A;rw [e2]at this;exact this.right
      obtain⟨_,_,_,e3⟩:=rdN_back B h3;have aa:Bytes lc:=by have:=B;rw [e3]at this;exact this.right
      obtain⟨g1,g2,g3,g4,e4⟩:=getEnd_back aa h4;dsimp only at *;refine⟨g.2,?_⟩;unfold bodyL;rw [g1,g2,g3,g4,e1,e2,e3,e4,g.1,List.append_nil]
    · cases h
theorem endL_bytes {e:E11} (h:okE e):Bytes (endL e):=by
  obtain⟨_,h⟩:=h;unfold endL;rcases h with ⟨hk,_⟩|⟨hk,hp,ha,_⟩|⟨hk,hp,_⟩|⟨hk,_⟩|⟨hk,_⟩
  · rw [if_neg (by omega),if_neg (by omega),if_neg (by omega),if_neg (by omega)];exact Bytes.nil
  · rw [if_pos hk];exact (preL_bytes hp).append (actL_bytes ha)
  · rw [if_neg (by omega),if_pos hk];exact preL_bytes hp
  · rw [if_neg (by omega),if_neg (by omega),if_pos hk];exact (putL_bytes _).append (putL_bytes _)
  · rw [if_neg (by omega),if_neg (by omega),if_neg (by omega),if_pos hk];exact putL_bytes _
theorem kd_range {e:E11} (h:okE e):1≤e.kd∧e.kd≤6:=by
  obtain⟨_,h⟩:=h;rcases h with ⟨hk,_⟩|⟨hk,hp,ha,_⟩|⟨hk,hp,_⟩|⟨hk,_⟩|⟨hk,_⟩ <;> omega
theorem bodyL_bytes {e:E11} (h:okE e):Bytes (bodyL e):=by
  have:=kd_range h;exact Bytes.cons (by omega) (by omega) ((putL_bytes _).append ((putL_bytes _).append ((putL_bytes _).append (endL_bytes h))))
theorem putL_len6 {n:Nat} (h:n≤1099511627776):(putL n).length≤6:=putL_len_aux 5 n (Nat.lt_of_le_of_lt h (by decide))
theorem putL_len3 {n:Nat} (h:n≤1048576):(putL n).length≤3:=putL_len_aux 2 n (Nat.lt_of_le_of_lt h (by decide))
theorem endL_len {e:E11} (h:okE e):(endL e).length≤29:=by
  obtain⟨_,h⟩:=h;unfold endL;rcases h with ⟨hk,_⟩|⟨hk,hp,ha,_⟩|⟨hk,hp,_⟩|⟨hk,_,_,h1,h2⟩|⟨hk,_,_,h1,_⟩
  · rw [if_neg (by omega),if_neg (by omega),if_neg (by omega),if_neg (by omega)];simp
  · rw [if_pos hk,List.length_append];have:=preL_len hp;have:=actL_len ha;omega
  · rw [if_neg (by omega),if_pos hk];have:=preL_len hp;omega
  ·rw [if_neg (by omega),if_neg (by omega),if_pos hk,List.length_append];have:=putL_len3 (n:=e.ifc.toNat) (by omega);have:=putL_len3 (n:=e.pe.toNat) (by omega);omega
  ·rw [if_neg (by omega),if_neg (by omega),if_neg (by omega),if_pos hk];have:=putL_len3 (n:=e.ifc.toNat) (by omega);omega
theorem bodyL_len {e:E11} (h:okE e):4≤(bodyL e).length∧(bodyL e).length≤64:=by
  have hn:=h.1;have h1:=putL_len3 (n:=e.ro.toNat) (by omega);have h2:=putL_len6 (n:=e.sq.toNat) (by omega);have h3:=putL_len6 (n:=e.ti.toNat) (by omega);have h4:=endL_len h;have g1:=putL_pos e.ro.toNat;have g2:=putL_pos e.sq.toNat;have g3:=putL_pos e.ti.toNat;unfold bodyL;simp only[List.length_cons,List.length_append];omega
end Go.Proofs.Ythkdfojmhloofaa.Msg
end
section
namespace Go.Proofs.Ythkdfojmhloofaa.Addr
set_option linter.unusedVariables false
open Go.RowKit Go.Proofs.YthkdfojmhloofaaW.PrintWords Go.Proofs.YthkdfojmhloofaaW.PrintLast Go.Proofs.YthkdfojmhloofaaW.PrintMore Go.Proofs.Ythkdfojmhloofaa.Base Go.Proofs.Ythkdfojmhloofaa.Q
theorem right_is (six:Bool) {n:Nat} (hn:n<340282366920938463463374607431768211456):addr_Right.f six (hi n) (lo n)=some (decide (n<2 ^ Wn six)):=by
  obtain⟨h1,h2⟩:=hi_range hn;obtain⟨h3,h4⟩:=lo_range n;unfold addr_Right.f;cases six with
  |true=>rw [if_pos rfl,dT (wn_six.2 hn)]
  |false=>
    rw [if_neg (by simp)];by_cases h:n<4294967296
    · rw [dT (wn_four.2 h),if_pos (by unfold hi;omega)];have:lo n / 4294967296=0:=by unfold lo;omega
      rw [this];rfl
    · rw [dF (fun q=>h (wn_four.1 q))];by_cases hz:hi n=0
      · rw [if_pos hz];have:lo n / 4294967296≠0:=by unfold lo;unfold hi at hz;omega
        simp [this]
      · rw [if_neg hz]
theorem wide_is (six:Bool):addr_Wide.f six=some ((Wn six:Nat):Int):=by cases six <;> rfl
theorem below_is {n:Nat} (hn:n≤128):addr_below.f (n:Int)=some (hi (2 ^ n - 1),lo (2 ^ n - 1)):=by
  unfold addr_below.f;by_cases h:n=128
  · subst h;rw [if_pos (by omega)]
    decide+kernel
  rw [if_neg (by omega)];by_cases h2:64≤n
  · have e:wrap64 ((n:Int) - 64)=((n - 64:Nat):Int):=by rw [w64 (by omega) (by omega)];omega
    rw [if_pos (by omega),e,if_pos (by omega),shl1 (by omega)];have hp:=p2lt64 (show n - 64<64 by omega);have hq:=p2pos (n - 64);rw [p2split h2];generalize 2 ^ (n - 64)=q at *;rw [u64w (by omega) (by omega)];unfold hi lo
    congr 2 <;> omega
  · rw [if_neg (by omega),if_pos (by omega),shl1 (by omega)];have hp:=p2lt64 (show n<64 by omega);have hq:=p2pos n;generalize 2 ^ n=q at *;rw [u64w (by omega) (by omega)];unfold hi lo
    congr 2 <;> omega
theorem host_is (six:Bool) (a b:Int) {A:Int} (h0:0≤A) (h1:A≤Wn six):addr_host.f six a b A=some (hi (hostN six A),lo (hostN six A)):=by
  have hw:=Wn_le six;simp only[addr_host.f,wide_is,Option.bind_some];have e:wrap64 (((Wn six:Nat):Int) - A)=((Wn six - A.toNat:Nat):Int):=by rw [w64 (by omega) (by omega)];omega
  rw [e,below_is (by omega)];rfl
theorem check_ev (six:Bool) {n:Nat} (hn:n<340282366920938463463374607431768211456) (A:Int):Ev (fun k=>addr_Check.f k six (hi n) (lo n) A) (if okP six n A then 0 else 2):=by
  have hw:=Wn_le six;have B: ¬ okP six n A→Ev (fun k=>addr_Check.j0 k true six (hi n) (lo n) A) (if okP six n A then 0 else 2):=by intro h;rw [if_neg h];refine Ev.succ ?_;simp only[addr_Check.j0];exact Ev.pos trivial (Ev.now _)
  simp only[addr_Check.f,wide_is,right_is six hn,Option.bind_some];by_cases h0:A<0
  · exact Ev.pos h0 (B (fun h=>by have:=h.1;omega))
  refine Ev.neg h0 ?_;by_cases h1:A > ((Wn six:Nat):Int)
  · exact Ev.pos h1 (B (fun h=>by have:=h.2.1;omega))
  refine Ev.neg h1 ?_;by_cases h2:n<2 ^ Wn six
  · rw [dT h2];refine Ev.succ ?_;simp only[addr_Check.j0,host_is six _ _ (show 0≤A by omega) (show A≤((Wn six:Nat):Int) by omega),Option.bind_some];refine Ev.neg (by simp) ?_;obtain⟨a0,a1⟩:=hi_range hn;obtain⟨b0,b1⟩:=lo_range n;have hk:Wn six - A.toNat≤128:=by omega
    have C:Go.bits .or .u64 (Go.bits .and .u64 (hi n) (hi (hostN six A))) (Go.bits .and .u64 (lo n) (lo (hostN six A)))=0↔n % 2 ^ (Wn six - A.toNat)=0:=by
      unfold hostN;generalize Wn six - A.toNat=k at *;have hp:=p2pos k;by_cases g:64≤k
      · have e1:hi (2 ^ k - 1)=((2 ^ (k - 64) - 1:Nat):Int):=by rw [p2split g];have:=p2pos (k - 64);generalize 2 ^ (k - 64)=q at *;unfold hi;omega
        have e2:lo (2 ^ k - 1)=((2 ^ 64 - 1:Nat):Int):=by rw [p2split g];have:=p2pos (k - 64);generalize 2 ^ (k - 64)=q at *;unfold lo;omega
        have aa:=p2le64 (show k - 64≤64 by omega);have ab:=p2pos (k - 64);rw [e1,e2,and_mask a0 a1 (by omega),and_mask b0 b1 (by omega),mod_parts g];have hm:=Int.emod_nonneg (hi n) (show ((2 ^ (k - 64):Nat):Int)≠0 by omega);have hl:=Int.emod_lt_of_pos (hi n) (show (0:Int)<((2 ^ (k - 64):Nat):Int) by omega);rw [or_zero hm (by omega) (by omega) (by omega)];have c1:hi n % ((2 ^ (k - 64):Nat):Int)=((n / 18446744073709551616 % 2 ^ (k - 64):Nat):Int):=by unfold hi;simp
        have c2:lo n % ((2 ^ 64:Nat):Int)=((n % 18446744073709551616:Nat):Int):=by unfold lo;omega
        rw [c1,c2];omega
      · have g':k≤64:=by omega
        have aa:=p2lt64 (show k<64 by omega);have e1:hi (2 ^ k - 1)=((2 ^ 0 - 1:Nat):Int):=by generalize 2 ^ k=q at *;unfold hi;omega
        have e2:lo (2 ^ k - 1)=((2 ^ k - 1:Nat):Int):=by generalize 2 ^ k=q at *;unfold lo;omega
        rw [e1,e2,and_mask a0 a1 (by omega),and_mask b0 b1 g', ← mod_low g'];have hm:=Int.emod_nonneg (lo n) (show ((2 ^ k:Nat):Int)≠0 by omega);have hl:=Int.emod_lt_of_pos (lo n) (show (0:Int)<((2 ^ k:Nat):Int) by omega);rw [or_zero (by omega) (by omega) hm (by omega)];have c2:lo n % ((2 ^ k:Nat):Int)=((n % 18446744073709551616 % 2 ^ k:Nat):Int):=by unfold lo;simp
        rw [c2];omega
    by_cases z:n % 2 ^ (Wn six - A.toNat)=0;·rw [if_pos (show okP six n A from ⟨by omega,by omega,h2,z⟩)];exact Ev.pos (C.2 z) (Ev.now _)
    ·rw [if_neg (fun h:okP six n A=>z h.2.2.2)];exact Ev.neg (fun h=>z (C.1 h)) (Ev.now _)
  ·rw [dF h2];exact B (fun h=>h2 h.2.2.1)
theorem rright_is (six:Bool) {n:Nat} (hn:n<340282366920938463463374607431768211456):spoorref09_Right.f six (hi n) (lo n)=some (decide (n<2 ^ Wn six)):=by
  unfold spoorref09_Right.f;cases six with
  |true=>rw [dT (wn_six.2 hn)];rfl
  |false=>
    rw [if_neg (by simp)];by_cases hz:hi n=0;·rw [if_pos hz];refine congrArg some (decide_eq_decide.2 ?_);rw [wn_four];unfold lo;unfold hi at hz;omega
    ·rw [if_neg hz,dF];rw [wn_four];unfold hi at hz;omega
theorem rwide_is (six:Bool):spoorref09_Wide.f six=some ((Wn six:Nat):Int):=by cases six <;> rfl
theorem set_mid (j:Nat) (A:List Int) (b:Int):(List.replicate (j+1) (0:Int)++A).set j b=List.replicate j 0++(b :: A):=by
  rw [List.replicate_succ',List.append_assoc,List.set_append_right _ _ (by simp)];simp
theorem bits_aux: ∀ (j n:Nat) (A:List Int),n<340282366920938463463374607431768211456→j≤128→Ev (fun k=>spoorref09_bits.l0 k (List.replicate j 0++A) (lo n) (hi n) ((j:Int) - 1)) (bitsL j n++A)
  |0,n,A,hn,_=>by
    refine Ev.succ ?_;simp only[spoorref09_bits.l0];exact Ev.neg (by omega) (Ev.const (by simp [bitsL]))
  |j+1,n,A,hn,hj=>by
    refine Ev.succ ?_;simp only[spoorref09_bits.l0];refine Ev.pos (by omega) (Ev.pos (by omega) (Ev.pos (by simp;omega) ?_));have e1:wrap64 (Int.tmod (lo n) 2)=((n % 2:Nat):Int):=by rw [Int.tmod_eq_emod_of_nonneg (lo_range n).1,w64 (by omega) (by omega)];unfold lo;omega
    have e2:IntKind.u64.wrap (IntKind.u64.wrap (Int.tdiv (lo n) 2)+IntKind.u64.wrap (Int.tmod (hi n) 2 * 9223372036854775808))=lo (n / 2):=by rw [Int.tdiv_eq_ediv_of_nonneg (lo_range n).1,Int.tmod_eq_emod_of_nonneg (hi_range hn).1,u64m,u64m,u64m];unfold lo hi;omega
    have e3:IntKind.u64.wrap (Int.tdiv (hi n) 2)=hi (n / 2):=by rw [Int.tdiv_eq_ediv_of_nonneg (hi_range hn).1,u64m];unfold hi;omega
    have e4:wrap64 (((j+1:Nat):Int) - 1 - 1)=(j:Int) - 1:=by rw [w64 (by omega) (by omega)];omega
    have e5:(((j+1:Nat):Int) - 1).toNat=j:=by omega
    rw [e1,e2,e3,e4,e5,set_mid];refine Ev.to (bits_aux j (n / 2) (((n % 2:Nat):Int) :: A) (by omega) (by omega)) ?_;simp [bitsL]
theorem bits_ev (six:Bool) {n:Nat} (hn:n<340282366920938463463374607431768211456):Ev (fun k=>spoorref09_bits.f k six (hi n) (lo n)) (bitsL (Wn six) n):=by
  have hw:=Wn_le six;simp only[spoorref09_bits.f,rwide_is,Option.bind_some,Int.toNat_natCast];refine Ev.pos (by omega) (Ev.pos (by omega) ?_);have:=bits_aux (Wn six) n [] hn hw;simp only[List.append_nil]at this;have e:wrap64 (((List.replicate (Wn six) (0:Int)).length:Int) - 1)=(Wn six:Int) - 1:=by rw [List.length_replicate,w64 (by omega) (by omega)]
  rw [e];exact this
theorem check_aux (l:List Int) (A:Int) (hl:l.length≤128) (s:Bool) (a b:Int): ∀ (r:List Int) (j:Nat),l.drop j=r→Ev (fun k=>spoorref09_Check.l0 k l (l.length:Int) (j:Int) s a b A) (if ∀ x∈r.drop (A.toNat - j),x=0 then 0 else 2)
  | [],j,hj=>by
    have:=drop_nil_le hj;refine Ev.succ ?_;simp only[spoorref09_Check.l0];exact Ev.neg (by omega) (Ev.const (by simp))
  |x :: r,j,hj=>by
    have aa:=drop_lt hj;have hx:=rd_drop hj;have e0:wrap64 ((j:Int)+1)=((j+1:Nat):Int):=by rw [w64 (by omega) (by omega)];omega
    have ih:=check_aux l A hl s a b r (j+1) (drop_next hj);refine Ev.succ ?_;simp only[spoorref09_Check.l0];refine Ev.pos (by omega) (Ev.pos (by omega) (Ev.pos (by omega) ?_));rw [e0,hx];by_cases h:(j:Int) ≥ A
    · have d0:A.toNat - j=0:=by omega
      have d1:A.toNat - (j+1)=0:=by omega
      rw [d1,List.drop_zero]at ih;rw [d0,List.drop_zero];refine Ev.pos h ?_;by_cases hz:x=0
      · refine Ev.pos hz (Ev.to ih ?_);by_cases hr: ∀ y∈r,y=0
        · rw [if_pos hr,if_pos (fun y hy=>(List.mem_cons.1 hy).elim (fun e=>e.trans hz) (hr y))]
        · rw [if_neg hr,if_neg (fun q=>hr (fun y hy=>q y (by simp [hy])))]
      ·rw [if_neg (fun q=>hz (q x (by simp)))];exact Ev.neg hz (Ev.now _)
    · refine Ev.neg h (Ev.to ih ?_);have d0:A.toNat - j=(A.toNat - (j+1))+1:=by omega
      rw [d0,List.drop_succ_cons]
theorem bitsL_drop {w a n:Nat} (h:a≤w):(bitsL w n).drop a=bitsL (w - a) n:=by
  have e:w=a+(w - a):=by omega
  conv=>lhs;rw [e,bitsL_split (w - a) a n]
  rw [List.drop_left' (bitsL_len _ _)]
theorem rcheck_ev (six:Bool) {n:Nat} (hn:n<340282366920938463463374607431768211456) (A:Int):Ev (fun k=>spoorref09_Check.f k six (hi n) (lo n) A) (if okP six n A then 0 else 2):=by
  have hw:=Wn_le six;have B: ¬ okP six n A→Ev (fun k=>spoorref09_Check.j0 k true six (hi n) (lo n) A) (if okP six n A then 0 else 2):=by intro h;rw [if_neg h];refine Ev.succ ?_;simp only[spoorref09_Check.j0];exact Ev.pos trivial (Ev.now _)
  simp only[spoorref09_Check.f,rwide_is,rright_is six hn,Option.bind_some];by_cases h0:A<0
  · exact Ev.pos h0 (B (fun h=>by have:=h.1;omega))
  refine Ev.neg h0 ?_;by_cases h1:A > ((Wn six:Nat):Int)
  · exact Ev.pos h1 (B (fun h=>by have:=h.2.1;omega))
  refine Ev.neg h1 ?_;by_cases h2:n<2 ^ Wn six
  · rw [dT h2];refine Ev.succ ?_;simp only[spoorref09_Check.j0];refine Ev.neg (by simp) (Ev.bind (bits_ev six hn) ?_);have:=check_aux (bitsL (Wn six) n) A (by rw [bitsL_len];exact hw) six (hi n) (lo n) _ 0 rfl;rw [List.drop_zero,Nat.sub_zero,bitsL_drop (by omega)]at this;refine Ev.to this ?_;simp only[bitsL_zero];by_cases z:n % 2 ^ (Wn six - A.toNat)=0
    · rw [if_pos z,if_pos (show okP six n A from ⟨by omega,by omega,h2,z⟩)]
    · rw [if_neg z,if_neg (fun h:okP six n A=>z h.2.2.2)]
  ·rw [dF h2];exact B (fun h=>h2 h.2.2.1)
end Go.Proofs.Ythkdfojmhloofaa.Addr
end
section
namespace Go.Proofs.Ythkdfojmhloofaa.Num
set_option linter.unusedVariables false
open Go.RowKit Go.Proofs.YthkdfojmhloofaaW.PrintWords Go.Proofs.YthkdfojmhloofaaW.PrintLast Go.Proofs.YthkdfojmhloofaaW.PrintMore Go.Proofs.Ythkdfojmhloofaa.Base Go.Proofs.Ythkdfojmhloofaa.Q
theorem rput_ev: ∀ (n:Nat),n<18446744073709551616→Ev (fun k=>spoorref01_Put.f k (n:Int)) (strOfNums (putL n)):=by
  intro n
  induction n using Nat.strongRecOn with
  |_ n ih=>
    intro hn;by_cases h:n<128
    · refine Ev.step (f:=fun _=>some (strOfNums ([(n:Int)]))) (fun k=>?_) ?_;·simp only[spoorref01_Put.f];rw [if_pos (by omega),Int.emod_eq_of_lt (by omega) (by omega)]
      · rw [putL_small h];exact Ev.now _
    · have e:=putL_great h;have hl:=putL_len (n:=n / 128) (by omega);have hh:=ih (n / 128) (by omega) (by omega);refine Ev.step (f:=fun k=>(spoorref01_Put.f k ((n / 128:Nat):Int)).bind fun t=>if (strOfNums [(n:Int) % 128+128]).size+t.size≤9223372036854775807 then some (strOfNums [(n:Int) % 128+128]++t) else none) (fun k=>?_) ?_
      · simp only[spoorref01_Put.f];rw [if_neg (by omega)];simp only[Option.bind_some];have e1:Int.tmod (n:Int) 128=(n:Int) % 128:=Int.tmod_eq_emod_of_nonneg (by omega);have e2:Int.tdiv (n:Int) 128=((n / 128:Nat):Int):=by rw [Int.tdiv_eq_ediv_of_nonneg (by omega)];omega
        rw [e1,e2,u64w (by omega) (by omega),u64w (by omega) (by omega),Int.emod_eq_of_lt (a:=(n:Int) % 128+128) (by omega) (by omega)]
      · refine Ev.bind hh (Ev.pos ?_ ?_)
        · rw [strOfNums_size,strOfNums_size];simp;omega
        · rw [← str_append,e];exact Ev.now _
def getR (x:Int × List Int × Int):Int × ByteArray × Int:=(x.1,strOfNums x.2.1,x.2.2)
theorem p128 {i:Nat} (h:i≤9):(0:Int)<128 ^ i∧(128:Int) ^ i≤9223372036854775808∧(2:Int) ^ (7 * i)=128 ^ i∧(i≤8→(128:Int) ^ i≤72057594037927936):=by
  have:i=0∨i=1∨i=2∨i=3∨i=4∨i=5∨i=6∨i=7∨i=8∨i=9:=by omega
  rcases this with rfl|rfl|rfl|rfl|rfl|rfl|rfl|rfl|rfl|rfl <;> decide
theorem shl7 {c:Int}{i:Nat} (h0:0≤c) (h1:c<128) (hi:i≤9) (h9:i=9→c≤1):shl .u64 (IntKind.u64.wrap c) (wrap64 (7 * (i:Int)))=c * 128 ^ i∧c * 128 ^ i+128 ^ i≤18446744073709551616:=by
  have:i=0∨i=1∨i=2∨i=3∨i=4∨i=5∨i=6∨i=7∨i=8∨i=9:=by omega
  rw [u64w h0 (by omega)];rcases this with rfl|rfl|rfl|rfl|rfl|rfl|rfl|rfl|rfl|rfl <;> simp [shl,wrap64,u64m,IntKind.bits] <;> omega
theorem get_ev (s : ByteArray) (hs : s.size ≤ 281474976710656) : ∀ (l : List Int) (i : Nat) (n : Int), (bytesOf s).drop i = l → i ≤ 9 → 0 ≤ n → n < 128 ^ i → Ev (fun k => num_Get.l0 k s n (mn (s.size : Int) 10) (i : Int)) (getR (getL i n l)) := by
  intro l
  induction l with
  | nil =>
    intro i n hd hi h0 h1
    have aa := drop_nil_le hd
    rw [bytesOf_length] at aa
    refine Ev.step (f := fun _ => some (0, (⟨#[]⟩ : ByteArray), 5)) (fun k => ?_) (Ev.now _)
    simp only [num_Get.l0]
    rw [if_neg (by unfold mn; split <;> omega)]
  | cons b l ih =>
    intro i n hd hi h0 h1
    have ab := drop_lt hd
    rw [bytesOf_length] at ab
    have hb : bt s (i : Int) = b := by rw [← rd_bytesOf]; exact rd_drop hd
    have ac : Bytes (b :: l) := by rw [← hd]; exact (bytesOf_bytes s).drop i
    obtain ⟨b0, b1⟩ := ac.head
    have A := drop_next hd
    have ae : s.extract (i + 1) s.size = strOfNums l := by rw [str_from, A]
    obtain ⟨p0, p1, p2, p3⟩ := p128 hi
    have af : (i : Int) < mn (s.size : Int) 10 := by unfold mn; split <;> omega
    have hw : 0 ≤ wrap64 (7 * (i : Int)) := by rw [w64 (by omega) (by omega)]; omega
    have B : wrap64 ((i : Int) + 1) = ((i + 1 : Nat) : Int) := by rw [w64 (by omega) (by omega)]; omega
    simp only [getL]
    -- the head of the loop
    have head : ∀ (q : Bool) (x : Int), (i = 9 → q = decide (b > 1)) → (i ≠ 9 → q = false) → Go.bits .or .u64 n (shl .u64 (IntKind.u64.wrap (Go.bits .andNot .u8 b 128)) (wrap64 (7 * (i : Int)))) = x → ∀ k, num_Get.l0 (k + 1) s n (mn (s.size : Int) 10) (i : Int) = num_Get.j1 k s x (i : Int) b (mn (s.size : Int) 10) (i : Int) q := by
      intro q x q1 q2 hx k
      simp only [num_Get.l0]
      rw [if_pos af, if_pos (by omega), if_pos (by omega), if_pos hw, hb, hx]
      by_cases h9 : i = 9
      · rw [if_pos (by omega), q1 h9]
      · rw [if_neg (by omega), q2 h9]
    rw [andNot128 b0 b1] at head
    by_cases h1' : i = 9 ∧ b > 1
    · rw [if_pos h1']
      refine Ev.step (fun k => head true _ (fun _ => by simp [h1'.2]) (fun h => absurd h1'.1 h) rfl k) ?_
      refine Ev.step (f := fun k => num_Get.j2 k s _ (i : Int) b (mn (s.size : Int) 10) (i : Int) true) (fun k => by simp only [num_Get.j1]; rw [if_pos trivial]) ?_
      exact Ev.step (f := fun _ => some (0, (⟨#[]⟩ : ByteArray), 7)) (fun k => by simp only [num_Get.j2]; rw [if_pos trivial]) (Ev.now _)
    rw [if_neg h1']
    have hc := shl7 (c := b % 128) (i := i) (by omega) (by omega) hi (fun h => by omega)
    have ag : Go.bits .or .u64 n (shl .u64 (IntKind.u64.wrap (b % 128)) (wrap64 (7 * (i : Int)))) = n + b % 128 * 128 ^ i := by
      have hn : 0 ≤ b % 128 * 128 ^ i := Int.mul_nonneg (by omega) (by omega)
      rw [hc.1, bits_or_comm, or_join (7 * i) hn (by rw [p2]; exact Int.mul_emod_left _ _) (by omega) h0 (by rw [p2]; exact h1) (by omega), Int.add_comm]
    have C := head false _ (fun h => by symm; simp; omega) (fun _ => rfl) ag
    by_cases h2 : b ≥ 128
    · rw [if_pos h2]
      have ah : i ≤ 8 := by omega
      refine Ev.step C ?_
      refine Ev.step (f := fun k => num_Get.j2 k s (n + b % 128 * 128 ^ i) (i : Int) b (mn (s.size : Int) 10) (i : Int) false) (fun k => by simp only [num_Get.j1]; rw [if_neg (by simp), if_neg (by omega)]) ?_
      refine Ev.step (f := fun k => num_Get.l0 k s (n + b % 128 * 128 ^ i) (mn (s.size : Int) 10) ((i + 1 : Nat) : Int)) (fun k => by simp only [num_Get.j2]; rw [if_neg (by simp), if_neg (by omega), B]) ?_
      have hn : 0 ≤ b % 128 * 128 ^ i := Int.mul_nonneg (by omega) (by omega)
      refine ih (i + 1) _ A (by omega) (by omega) ?_
      rw [Int.pow_succ]
      have : b % 128 * 128 ^ i ≤ 127 * 128 ^ i := Int.mul_le_mul_of_nonneg_right (by omega) (by omega)
      omega
    rw [if_neg h2]
    refine Ev.step C ?_
    have hm : b % 128 = b := by omega
    rw [hm]
    by_cases h3 : b = 0 ∧ 0 < i
    · rw [if_pos h3]
      refine Ev.step (f := fun k => num_Get.j2 k s (n + b * 128 ^ i) (i : Int) b (mn (s.size : Int) 10) (i : Int) true) (fun k => by simp only [num_Get.j1]; rw [if_neg (by simp), if_pos h3.1, dT (by omega)]) ?_
      exact Ev.step (f := fun _ => some (0, (⟨#[]⟩ : ByteArray), 7)) (fun k => by simp only [num_Get.j2]; rw [if_pos trivial]) (Ev.now _)
    · rw [if_neg h3]
      refine Ev.step (f := fun k => num_Get.j2 k s (n + b * 128 ^ i) (i : Int) b (mn (s.size : Int) 10) (i : Int) false) (fun k => by
        simp only [num_Get.j1]
        rw [if_neg (by simp)]
        by_cases D : b = 0
        · rw [if_pos D, dF (by omega)]
        · rw [if_neg D]) ?_
      refine Ev.step (f := fun _ => some (n + b * 128 ^ i, strOfNums l, 0)) (fun k => ?_) (Ev.now _)
      simp only [num_Get.j2]
      rw [if_neg (by simp), if_pos (by omega), B, if_pos (by omega), if_pos (by omega), Int.toNat_natCast, ae]
theorem get_ev0 (s:ByteArray) (hs:s.size≤281474976710656):Ev (fun k=>num_Get.f k s) (getR (getL 0 0 (bytesOf s))):=by
  have:=get_ev s hs (bytesOf s) 0 0 rfl (by omega) (by omega) (by simp)
  simpa [num_Get.f] using this
theorem rget_ev (s:ByteArray) (hs:s.size≤281474976710656): ∀ (l:List Int) (i:Nat) (n:Int),(bytesOf s).drop i=l→i≤9→0≤n→n<128 ^ i→Ev (fun k=>spoorref01_Get.l0 k s n (128 ^ i) (i:Int)) (getR (getL i n l)):=by
  intro l
  induction l with
  |nil=>
    intro i n hd hi h0 h1;have aa:=drop_nil_le hd;rw [bytesOf_length]at aa;refine Ev.step (f:=fun _=>some (0,(⟨#[]⟩:ByteArray),5)) (fun k=>?_) (Ev.now _);simp only[spoorref01_Get.l0];rw [if_neg (by omega)]
  |cons b l ih=>
    intro i n hd hi h0 h1;have ab:=drop_lt hd;rw [bytesOf_length]at ab;have hb:bt s (i:Int)=b:=by rw [← rd_bytesOf];exact rd_drop hd
    have ac:Bytes (b :: l):=by rw [← hd];exact (bytesOf_bytes s).drop i
    obtain⟨b0,b1⟩:=ac.head;have C:=drop_next hd;have D:s.extract (i+1) s.size=strOfNums l:=by rw [str_from,C]
    obtain⟨p0,p1,p2,p3⟩:=p128 hi;have B:wrap64 ((i:Int)+1)=((i+1:Nat):Int):=by rw [w64 (by omega) (by omega)];omega
    simp only[getL]
    have head: ∀ (q:Bool),(i=9→q=decide (b > 1))→(i≠9→q=false)→ ∀ k,spoorref01_Get.l0 (k+1) s n (128 ^ i) (i:Int)=spoorref01_Get.j1 k s n (128 ^ i) (i:Int) b q:=by
      intro q q1 q2 k;simp only[spoorref01_Get.l0];rw [if_pos (by omega),if_pos (by omega),hb];by_cases h9:i=9
      · rw [if_pos (by omega),q1 h9]
      · rw [if_neg (by omega),q2 h9]
    by_cases h1':i=9∧b > 1;·rw [if_pos h1'];refine Ev.step (fun k=>head true (fun _=>by simp [h1'.2]) (fun h=>absurd h1'.1 h) k) ?_;exact Ev.step (f:=fun _=>some (0,(⟨#[]⟩:ByteArray),7)) (fun k=>by simp only[spoorref01_Get.j1];rw [if_pos trivial]) (Ev.now _)
    rw [if_neg h1'];have hc:=(shl7 (c:=b % 128) (i:=i) (by omega) (by omega) hi (fun h=>by omega)).2;have hn:0≤b % 128 * 128 ^ i:=Int.mul_nonneg (by omega) (by omega);have A:IntKind.u64.wrap (n+IntKind.u64.wrap (IntKind.u64.wrap (Int.tmod b 128) * 128 ^ i))=n+b % 128 * 128 ^ i:=by rw [Int.tmod_eq_emod_of_nonneg b0,u64w (n:=b % 128) (by omega) (by omega),u64w (n:=b % 128 * 128 ^ i) hn (by omega),u64w (by omega) (by omega)]
    refine Ev.step (head false (fun h=>by symm;simp;omega) (fun _=>rfl)) ?_;by_cases h2:b ≥ 128
    · rw [if_pos h2];have ae:i≤8:=by omega
      have hp:=p3 ae;refine Ev.step (f:=fun k=>spoorref01_Get.l0 k s (n+b % 128 * 128 ^ i) (128 ^ (i+1)) ((i+1:Nat):Int)) (fun k=>?_) ?_;·simp only[spoorref01_Get.j1];rw [if_neg (by simp),if_pos h2,A,B,u64w (n:=128 ^ i * 128) (by omega) (by omega),Int.pow_succ]
      ·refine ih (i+1) _ C (by omega) (by omega) ?_;rw [Int.pow_succ];have:b % 128 * 128 ^ i≤127 * 128 ^ i:=Int.mul_le_mul_of_nonneg_right (by omega) (by omega);omega
    rw [if_neg h2];have hm:b % 128=b:=by omega
    rw [hm]at A;by_cases h3:b=0∧0<i;·rw [if_pos h3];exact Ev.step (f:=fun _=>some (0,(⟨#[]⟩:ByteArray),7)) (fun k=>by simp only[spoorref01_Get.j1];rw [if_neg (by simp),if_neg h2,if_pos h3.1,if_pos (by omega)]) (Ev.now _)
    · rw [if_neg h3];refine Ev.step (f:=fun _=>some (n+b * 128 ^ i,strOfNums l,0)) (fun k=>?_) (Ev.now _);simp only[spoorref01_Get.j1];rw [if_neg (by simp),if_neg h2];by_cases E:b=0
      · rw [if_pos E,if_neg (by omega),B,if_pos (by omega),if_pos (by omega),Int.toNat_natCast,D,A]
      · rw [if_neg E,B,if_pos (by omega),if_pos (by omega),Int.toNat_natCast,D,A]
theorem rget_ev0 (s:ByteArray) (hs:s.size≤281474976710656):Ev (fun k=>spoorref01_Get.f k s) (getR (getL 0 0 (bytesOf s))):=by
  have:=rget_ev s hs (bytesOf s) 0 0 rfl (by omega) (by omega) (by simp)
  simpa [spoorref01_Get.f] using this
theorem getL_val {l:List Int} (hb:Bytes l):0≤(getL 0 0 l).1∧(getL 0 0 l).1<18446744073709551616:=by
  rcases getL_err l 0 0 with h|⟨_,h,_⟩
  ·obtain⟨m,hv,_,hm⟩:=getL_back0 (l:=l) (v:=(getL 0 0 l).1) (r:=(getL 0 0 l).2.1) hb (Prod.ext rfl (Prod.ext rfl h));omega
  · rw [h];omega
theorem reader_ev (s:ByteArray) (hs:s.size≤281474976710656):Ev (fun k=>num_Reader_Num.f k s 0) (getR (getL 0 0 (bytesOf s))):=by
  simp only[num_Reader_Num.f];exact Ev.pos trivial (Ev.bind (get_ev0 s hs) (Ev.now _))
end Go.Proofs.Ythkdfojmhloofaa.Num
end
section
namespace Go.Proofs.Ythkdfojmhloofaa.Msg
set_option linter.unusedVariables false
open Go.RowKit Go.Proofs.YthkdfojmhloofaaW.PrintWords Go.Proofs.YthkdfojmhloofaaW.PrintLast Go.Proofs.YthkdfojmhloofaaW.PrintMore Go.Proofs.Ythkdfojmhloofaa.Base Go.Proofs.Ythkdfojmhloofaa.Num Go.Proofs.Ythkdfojmhloofaa.Addr Go.Proofs.Ythkdfojmhloofaa.Be Go.Proofs.Ythkdfojmhloofaa.Q
theorem id_is (a:Int):msg_id.f a=some (decide (0≤a∧a≤1048576)):=by
  unfold msg_id.f;by_cases h:a ≥ 0
  · rw [if_pos h];congr 1;simp [h]
  · rw [if_neg h];congr 1;simp;omega
theorem iface_is (a:Int):msg_iface.f a=some (decide (0≤a∧a≤65536)):=by
  unfold msg_iface.f;by_cases h:a ≥ 0
  · rw [if_pos h];congr 1;simp [h]
  · rw [if_neg h];congr 1;simp;omega
theorem acts_is (k i:Int):msg_acts.f k i=some (decide (okA k i)):=by
  unfold msg_acts.f;rw [iface_is];by_cases h1:k=1
  · rw [if_pos h1];simp only[Option.bind_some]
    congr 1
    apply decide_eq_decide.2;unfold okA;omega
  rw [if_neg h1];by_cases h2:k=2
  · rw [if_pos h2]
    congr 1
    rw [Bool.eq_iff_iff];simp only[beq_iff_eq,decide_eq_true_eq];unfold okA;omega
  rw [if_neg h2];by_cases h3:k=3
  · rw [if_pos h3]
    congr 1
    rw [Bool.eq_iff_iff];simp only[beq_iff_eq,decide_eq_true_eq];unfold okA;omega
  rw [if_neg h3]
  congr 1
  rw [Bool.eq_iff_iff];simp only[decide_eq_true_eq];unfold okA;constructor
  · intro h;cases h
  · omega
theorem fin {B:Bool}{P:Prop} [Decidable P] (h:B=true↔ ¬ P):(if B=true then some (2:Int) else some 0)=some (if P then 0 else 2):=by
  by_cases p:P
  · rw [if_neg (by rw [h];simpa using p),if_pos p]
  · rw [if_pos (by rw [h];exact p),if_neg p]
theorem hilo0 {n:Nat}:(hi n=0∧lo n=0)↔n=0:=by unfold hi lo;omega
def okN (e:E11):Prop:=0≤e.ro∧e.ro≤1048576∧1≤e.sq∧e.sq≤1099511627776∧0≤e.ti∧e.ti≤1099511627776
instance (e:E11):Decidable (okN e):=by unfold okN;exact inferInstance
theorem j0_bad (a b c d:Int) (s:Bool) (x1 x2 x3 x4 x5 x6 x7:Int):Ev (fun k=>msg_Check.j0 k true a b c d s x1 x2 x3 x4 x5 x6 x7) 2:=by
  refine Ev.succ ?_;simp only[msg_Check.j0];exact Ev.pos trivial (Ev.now _)
theorem j1_ev (e:E11) (hn:e.n<340282366920938463463374607431768211456) (hN:okN e) (b:Bool) (hb:b=true↔e.kd=1∨e.kd=2):
    Ev (fun k=>msg_Check.j1 k true e.kd b e.kd e.ro e.sq e.ti e.six (hi e.n) (lo e.n) e.ln e.ak e.ai e.ifc e.pe 0 0 0 0 e.six (hi e.n) (lo e.n) e.ln e.ak e.ai e.ifc e.pe) (if okE e then 0 else 2):=by
  have h0:= @hilo0 e.n
  have A : okE e ↔ ((e.kd = 1 ∨ e.kd = 2) ∧ noP e ∧ noA e ∧ e.ifc = 0 ∧ e.pe = 0 ∨ e.kd = 3 ∧ okP e.six e.n e.ln ∧ okA e.ak e.ai ∧ e.ifc = 0 ∧ e.pe = 0 ∨ e.kd = 4 ∧ okP e.six e.n e.ln ∧ noA e ∧ e.ifc = 0 ∧ e.pe = 0 ∨
   e.kd = 5 ∧ noP e ∧ noA e ∧ (0 ≤ e.ifc ∧ e.ifc ≤ 65536) ∧ (0 ≤ e.pe ∧ e.pe ≤ 1048576) ∨ e.kd = 6 ∧ noP e ∧ noA e ∧ (0 ≤ e.ifc ∧ e.ifc ≤ 65536) ∧ e.pe = 0) := ⟨fun h => h.2, fun h => ⟨hN, h⟩⟩
  refine Ev.succ ?_;simp only[msg_Check.j1];by_cases c0:e.kd=1∨e.kd=2;·refine Ev.pos (hb.2 c0) (Ev.pos trivial (Ev.const (fin ?_)));rw [A];unfold noP noA;cases hsx:e.six <;> rcases c0 with c|c <;> simp [c] <;> omega
  refine Ev.neg (fun h=>c0 (hb.1 h)) ?_;by_cases c3:e.kd=3
  · refine Ev.pos c3 ?_;rw [acts_is];simp only[Option.bind_some];by_cases ca:okA e.ak e.ai
    · refine Ev.pos (dT ca) (Ev.bind (check_ev e.six hn e.ln) ?_);by_cases cp:okP e.six e.n e.ln;·rw [if_pos cp];refine Ev.pos rfl (Ev.const (fin ?_));rw [A];simp [c3,cp,ca] <;> omega
      ·rw [if_neg cp];refine Ev.neg (by decide) (Ev.const ?_);rw [if_neg (by rw [A];simp [c3,cp])]
    ·refine Ev.neg (by simpa using ca) (Ev.const ?_);rw [if_neg (by rw [A];simp [c3,ca])]
  refine Ev.neg c3 ?_;by_cases c4:e.kd=4
  · refine Ev.pos c4 (Ev.pos trivial (Ev.bind (check_ev e.six hn e.ln) ?_));by_cases cp:okP e.six e.n e.ln;·rw [if_pos cp];refine Ev.pos rfl (Ev.const (fin ?_));rw [A];unfold noA;simp [c4,cp] <;> omega
    ·rw [if_neg cp];refine Ev.neg (by decide) (Ev.const ?_);rw [if_neg (by rw [A];simp [c4,cp])]
  refine Ev.neg c4 ?_;by_cases c5:e.kd=5
  · refine Ev.pos c5 ?_;rw [id_is,iface_is];simp only[Option.bind_some];by_cases ca:0≤e.pe∧e.pe≤1048576
    · refine Ev.pos (dT ca) ?_;by_cases cb:0≤e.ifc∧e.ifc≤65536;·refine Ev.pos (dT cb) (Ev.const (fin ?_));rw [A];unfold noP noA;cases hsx:e.six <;> simp [c5,ca,cb] <;> omega
      ·refine Ev.neg (by simpa using cb) (Ev.const ?_);rw [if_neg (by rw [A];omega)]
    ·refine Ev.neg (by simpa using ca) (Ev.const ?_);rw [if_neg (by rw [A];omega)]
  refine Ev.neg c5 ?_;by_cases c6:e.kd=6
  · refine Ev.pos c6 (Ev.pos trivial ?_);rw [iface_is];simp only[Option.bind_some];by_cases cb:0≤e.ifc∧e.ifc≤65536;·refine Ev.pos (dT cb) (Ev.const (fin ?_));rw [A];unfold noP noA;cases hsx:e.six <;> simp [c6,cb] <;> omega
    ·refine Ev.neg (by simpa using cb) (Ev.const ?_);rw [if_neg (by rw [A];omega)]
  ·refine Ev.neg c6 (Ev.const ?_);rw [if_neg (by rw [A];omega)]
theorem echeck_ev (e:E11) (hn:e.n<340282366920938463463374607431768211456) (hs:0≤e.sq):Ev (fun k=>msg_Check.f k e.kd e.ro e.sq e.ti e.six (hi e.n) (lo e.n) e.ln e.ak e.ai e.ifc e.pe) (if okE e then 0 else 2):=by
  simp only[msg_Check.f];rw [id_is];simp only[Option.bind_some];by_cases h:okN e
  · obtain⟨h1,h2,h3,h4,h5,h6⟩:=h;refine Ev.pos (dT ⟨h1,h2⟩) (Ev.neg (by omega) (Ev.neg (by omega) (Ev.neg (by omega) ?_)));rw [dF (show ¬ e.ti > 1099511627776 by omega)];refine Ev.succ ?_;simp only[msg_Check.j0];refine Ev.neg (by decide) ?_;by_cases c:e.kd=1
    · exact Ev.pos c (j1_ev e hn ⟨h1,h2,h3,h4,h5,h6⟩ _ (by simp [c]))
    · exact Ev.neg c (j1_ev e hn ⟨h1,h2,h3,h4,h5,h6⟩ _ (by simp [c]))
  · rw [if_neg (fun g=>h g.1)];by_cases c1:0≤e.ro∧e.ro≤1048576
    · refine Ev.pos (dT c1) ?_;by_cases c2:e.sq=0
      · exact Ev.pos c2 (j0_bad _ _ _ _ _ _ _ _ _ _ _ _)
      refine Ev.neg c2 ?_;by_cases c3:e.sq > 1099511627776
      · exact Ev.pos c3 (j0_bad _ _ _ _ _ _ _ _ _ _ _ _)
      refine Ev.neg c3 ?_;by_cases c4:e.ti<0
      · exact Ev.pos c4 (j0_bad _ _ _ _ _ _ _ _ _ _ _ _)
      refine Ev.neg c4 ?_;rw [dT (show e.ti > 1099511627776 by unfold okN at h;omega)];exact j0_bad _ _ _ _ _ _ _ _ _ _ _ _
    · exact Ev.neg (by simpa using c1) (j0_bad _ _ _ _ _ _ _ _ _ _ _ _)
theorem byt8_be (n:Nat):byt8 (n:Int)=be 8 n:=by
  simp only[byt8,be,List.nil_append,List.cons_append];simp only[List.cons.injEq,and_true];omega
theorem word_six {n:Nat} (h:n<340282366920938463463374607431768211456):byt8 (hi n)++byt8 (lo n)=be 16 n:=by
  unfold hi lo;rw [byt8_be,byt8_be,show 16=8+8 from rfl,be_split 8 8 n]
  congr 1
  exact be_mod 8 _ _ (Nat.mod_mod _ _)
end Go.Proofs.Ythkdfojmhloofaa.Msg
end
section
namespace Go.Proofs.Ythkdfojmhloofaa.Msg
set_option linter.unusedVariables false
open Go.RowKit Go.Proofs.YthkdfojmhloofaaW.PrintWords Go.Proofs.YthkdfojmhloofaaW.PrintLast Go.Proofs.YthkdfojmhloofaaW.PrintMore Go.Proofs.Ythkdfojmhloofaa.Base Go.Proofs.Ythkdfojmhloofaa.Num Go.Proofs.Ythkdfojmhloofaa.Addr Go.Proofs.Ythkdfojmhloofaa.Be Go.Proofs.Ythkdfojmhloofaa.Q
theorem bt_nat (s:ByteArray) (i:Nat):bt s (i:Int)=rd (bytesOf s) i:=(rd_bytesOf s i).symm
theorem take_rd (l:List Int) (o i:Nat) (h:o+i<l.length):(l.drop o).take (i+1)=(l.drop o).take i++ [rd l ((o+i:Nat):Int)]:=by
  have hi:i<(l.drop o).length:=by rw [List.length_drop];omega
  rw [List.take_succ_eq_append_getElem hi]
  congr 2
  simp only[rd,Int.toNat_natCast];rw [List.getD_eq_getElem?_getD,List.getElem?_eq_getElem h,List.getElem_drop];rfl
theorem wd_nb (s:ByteArray) (o:Nat): ∀ i,i≤8→o+i≤s.size→wd s o i=((nb (((bytesOf s).drop o).take i) * 256 ^ (8 - i):Nat):Int)
  |0,_,_=>by simp [wd,nb]
  |i+1,h,hs=>by
    have hl:(bytesOf s).length=s.size:=bytesOf_length s;have hr:=bt_range s ((o+i:Nat):Int);rw [wd,wd_nb s o i (by omega) (by omega),take_rd _ o i (by omega),nb_snoc,bt_nat];rw [bt_nat]at hr;generalize rd (bytesOf s) ((o+i:Nat):Int)=x at hr;generalize nb (((bytesOf s).drop o).take i)=N;obtain⟨m,rfl⟩: ∃ m:Nat,x=m:=⟨x.toNat,by omega⟩;rw [Int.toNat_natCast];have e1:(256:Nat) ^ (8 - i)=256 * 256 ^ (8 - (i+1)):=by rw [show 8 - i=(8 - (i+1))+1 by omega,Nat.pow_succ,Nat.mul_comm]
    have e2:(2:Int) ^ (56 - 8 * i)=((256 ^ (8 - (i+1)):Nat):Int):=by rw [p256,show 8 * (8 - (i+1))=56 - 8 * i by omega];exact (Int.natCast_pow 2 _).symm
    rw [e1,e2,Nat.add_mul];generalize 256 ^ (8 - (i+1))=E;rw [← Int.natCast_mul, ← Int.natCast_add, ← Nat.mul_assoc,Nat.mul_comm N 256]
def preS : Option (Pfx × List Int) → Bool × Int × Int × Int × ByteArray × Int
  | some ((six, n, len), r) => (six, hi n, lo n, len, strOfNums r, 0)
  | none => (false, 0, 0, 0, (⟨#[]⟩ : ByteArray), 7)
theorem rest_bytes {s:ByteArray}{a b:Int}{l:List Int} (h:bytesOf s=a :: b :: l):bytesOf (s.extract 2 s.size)=l:=by rw [bytes_from,h];rfl
theorem size_of_bytes {s:ByteArray}{l:List Int} (h:bytesOf s=l):s.size=l.length:=by rw [← h,bytesOf_length]
theorem bt01 {s:ByteArray}{a b:Int}{l:List Int} (h:bytesOf s=a :: b :: l):bt s 0=a∧bt s 1=b:=by
  constructor
  · rw [bt_of h];rfl
  · rw [bt_of h];rfl
theorem four_num {B:ByteArray}{l:List Int} (hr:bytesOf B=l) {A:Int} (h1:A≤32) (hk:Kn A≤l.length):(0:Int)=hi (preN false A l)∧wd B 0 (Kn A) / 4294967296=lo (preN false A l):=by
  have aa:Kn A≤4:=by unfold Kn;omega
  have hs:=size_of_bytes hr;have hb:Bytes l:=by rw [← hr];exact bytesOf_bytes B
  have e:preN false A l=nb (l.take (Kn A)) * 256 ^ (4 - Kn A):=by unfold preN;rw [nb_append,nb_zeros,List.length_replicate];rfl
  have ab:preN false A l<4294967296:=by have:=nb_lt (l.take (Kn A)++List.replicate (Bn false - Kn A) 0) ((hb.take _).append (bytes_zeros _));rw [List.length_append,List.length_take,List.length_replicate]at this;rw [show min (Kn A) l.length+(Bn false - Kn A)=4 by have:Bn false=4:=rfl;omega]at this;exact this
  rw [wd_nb B 0 (Kn A) (by omega) (by omega),hr,List.drop_zero];have e2:nb (l.take (Kn A)) * 256 ^ (8 - Kn A)=preN false A l * 4294967296:=by rw [e,show 8 - Kn A=(4 - Kn A)+4 by omega,Nat.pow_add,Nat.mul_assoc]
  rw [e2];unfold hi lo;omega
theorem six_num {C:ByteArray}{l:List Int} (hr:bytesOf C=l) {A:Int} (h1:A≤128) (hk:Kn A≤l.length):wd C 0 (min 8 (Kn A))=hi (preN true A l)∧wd C 8 (Kn A - 8)=lo (preN true A l):=by
  have ab:Kn A≤16:=by unfold Kn;omega
  have hs:=size_of_bytes hr;have hb:Bytes l:=by rw [← hr];exact bytesOf_bytes C
  have e:preN true A l=nb (l.take (Kn A)) * 256 ^ (16 - Kn A):=by unfold preN;rw [nb_append,nb_zeros,List.length_replicate];rfl
  rw [wd_nb C 0 _ (by omega) (by omega)];by_cases h8:Kn A≤8
  · have e2:nb (l.take (Kn A)) * 256 ^ (16 - Kn A)=nb (l.take (Kn A)) * 256 ^ (8 - Kn A) * 18446744073709551616:=by rw [show 16 - Kn A=(8 - Kn A)+8 by omega,Nat.pow_add, ← Nat.mul_assoc]
    rw [Nat.min_eq_right h8,show Kn A - 8=0 by omega,hr,List.drop_zero];unfold hi lo;rw [e,e2];constructor
    · rw [Nat.mul_div_cancel _ (by decide)]
    · rw [Nat.mul_mod_left];rfl
  · rw [Nat.min_eq_left (by omega),wd_nb C 8 _ (by omega) (by omega),hr,List.drop_zero];have e3:l.take (Kn A)=l.take 8++(l.drop 8).take (Kn A - 8):=by rw [← List.take_append_drop 8 (l.take (Kn A)),List.take_take,List.drop_take,Nat.min_eq_left (by omega)]
    have D:((l.drop 8).take (Kn A - 8)).length=Kn A - 8:=by rw [List.length_take,List.length_drop];omega
    have E:=nb_lt ((l.drop 8).take (Kn A - 8)) ((hb.drop 8).take _);rw [D]at E;have e4:preN true A l=nb (l.take 8) * 18446744073709551616+nb ((l.drop 8).take (Kn A - 8)) * 256 ^ (8 - (Kn A - 8)):=by rw [e,e3,nb_append,D,Nat.add_mul,Nat.mul_assoc, ← Nat.pow_add,show Kn A - 8+(16 - Kn A)=8 by omega,show 16 - Kn A=8 - (Kn A - 8) by omega]
    have aa:nb ((l.drop 8).take (Kn A - 8)) * 256 ^ (8 - (Kn A - 8))<18446744073709551616:=by have h:=Nat.mul_lt_mul_of_pos_right E (Nat.pow_pos (n:=8 - (Kn A - 8)) (show 0<256 by decide));rw [← Nat.pow_add,show Kn A - 8+(8 - (Kn A - 8))=8 by omega]at h;exact h
    unfold hi lo;rw [e4];generalize nb ((l.drop 8).take (Kn A - 8)) * 256 ^ (8 - (Kn A - 8))=B at aa ⊢;simp only[Nat.sub_self,Nat.pow_zero,Nat.mul_one];constructor <;> omega
theorem preN_lt {six:Bool}{A:Int}{l:List Int} (hb:Bytes l) (h1:A≤Wn six) (hk:Kn A≤l.length):preN six A l<340282366920938463463374607431768211456:=by
  have:=nb_lt (l.take (Kn A)++List.replicate (Bn six - Kn A) 0) ((hb.take _).append (bytes_zeros _));have aa:=kn_le h1;rw [List.length_append,List.length_take,List.length_replicate,show min (Kn A) l.length+(Bn six - Kn A)=Bn six by omega]at this;refine Nat.lt_of_lt_of_le this ?_;rw [p256, ← bn_wn];exact wn_pow six
theorem pfxof_ev {six:Bool}{n:Nat} (hn:n<340282366920938463463374607431768211456) (A:Int) (r:ByteArray):Ev (fun k=>pfx_of k six (hi n) (lo n) A r) (if okP six n A then (six,hi n,lo n,A,r,0) else (false,0,0,0,(⟨#[]⟩:ByteArray),7)):=by
  simp only[pfx_of];refine Ev.bind (check_ev six hn A) ?_;by_cases h:okP six n A
  · rw [if_pos h,if_pos h];exact Ev.pos rfl (Ev.now _)
  · rw [if_neg h,if_neg h];exact Ev.neg (by decide) (Ev.const rfl)
theorem getprefix_ev (s:ByteArray):Ev (fun k=>msg_GetPrefix.f k s) (preS (getP (bytesOf s))):=by
  simp only[msg_GetPrefix.f]
  match hl:bytesOf s with
  | []=>
    have:=size_of_bytes hl;simp only[List.length_nil]at this;exact Ev.pos (by omega) (Ev.const rfl)
  | [a]=>
    have:=size_of_bytes hl;simp only[List.length_cons,List.length_nil]at this;exact Ev.pos (by omega) (Ev.const rfl)
  |a :: b :: l=>
    have hs:=size_of_bytes hl;simp only[List.length_cons]at hs;have hb:Bytes (a :: b :: l):=by rw [← hl];exact bytesOf_bytes s
    have hr:=rest_bytes hl;have aa:=size_of_bytes hr;obtain⟨b0,b1⟩:=bt01 hl;have ae:=hb.tail.head;rw [b0,b1];refine Ev.neg (by omega) ?_;generalize s.extract 2 s.size=rest at hr aa;have ab:(b.toNat+7) / 8=Kn b:=rfl;have ac:rest.extract (Kn b) rest.size=strOfNums (l.drop (Kn b)):=by rw [str_from,hr]
    rw [ab,ac];simp only[getP];have af:(Kn b:Int)=(b+7) / 8:=by unfold Kn;omega
    by_cases c4:a=4
    · refine Ev.pos c4 ?_;have e6:(a==6)=false:=by rw [c4];rfl
      rw [e6];by_cases c5:((rest.size:Nat):Int)<(b+7) / 8;·refine Ev.pos c5 (Ev.const ?_);rw [if_neg (fun h=>by have:=h.2.2.1;omega)];rfl
      refine Ev.neg c5 ?_;by_cases c6:b > 32;·refine Ev.pos c6 (Ev.const ?_);rw [if_neg (fun h=>by have:=h.2.1;have:Wn false=32:=rfl;omega)];rfl
      refine Ev.neg c6 ?_;obtain⟨f1,f2⟩:=four_num hr (by omega) (show Kn b≤l.length by omega);rw [f2];have hw:b≤Wn false:=by have:Wn false=32:=rfl;omega
      have h:=pfxof_ev (six:=false) (preN_lt hb.tail.tail hw (by omega)) b (strOfNums (l.drop (Kn b)));rw [← f1]at h;refine Ev.to h ?_;by_cases ok:okP false (preN false b l) b;·rw [if_pos ok,if_pos ⟨.inl c4,hw,by omega,ok⟩];simp only[preS, ← f1]
      · rw [if_neg ok,if_neg (fun h=>ok h.2.2.2)];rfl
    refine Ev.neg c4 ?_;by_cases c7:a=6
    · refine Ev.pos c7 ?_;have e6:(a==6)=true:=by rw [c7];rfl
      rw [e6];by_cases c5:((rest.size:Nat):Int)<(b+7) / 8;·refine Ev.pos c5 (Ev.const ?_);rw [if_neg (fun h=>by have:=h.2.2.1;omega)];rfl
      refine Ev.neg c5 ?_;by_cases c6:b > 128;·refine Ev.pos c6 (Ev.const ?_);rw [if_neg (fun h=>by have:=h.2.1;have:Wn true=128:=rfl;omega)];rfl
      refine Ev.neg c6 ?_;obtain⟨f1,f2⟩:=six_num hr (by omega) (show Kn b≤l.length by omega);rw [f1,f2];have hw:b≤Wn true:=by have:Wn true=128:=rfl;omega
      refine Ev.to (pfxof_ev (six:=true) (preN_lt hb.tail.tail hw (by omega)) b (strOfNums (l.drop (Kn b)))) ?_;by_cases ok:okP true (preN true b l) b
      · rw [if_pos ok,if_pos ⟨.inr c7,hw,by omega,ok⟩];rfl
      · rw [if_neg ok,if_neg (fun h=>ok h.2.2.2)];rfl
    ·refine Ev.neg c7 (Ev.const ?_);rw [if_neg (fun h=>by omega)];rfl
theorem reader_bad (s:ByteArray) {y:Int} (hy:y≠0):Ev (fun k=>num_Reader_Num.f k s y) (0,s,y):=by
  simp only[num_Reader_Num.f];exact Ev.neg hy (Ev.now _)
theorem many_ok {s:ByteArray} (hs:s.size≤281474976710656) {most v:Int}{r:List Int} (h0:0≤most) (h1:most≤9223372036854775807) (h:rdN most (bytesOf s)=some (v,r)):Ev (fun k=>num_Reader_Many.f k s 0 most) (v,strOfNums r,0):=by
  simp only[num_Reader_Many.f];have hb:=bytesOf_bytes s;obtain⟨a,b,c,d⟩:=rdN_back hb h;unfold rdN at h
  split at h
  · rename_i g
    simp only[Option.some.injEq,Prod.mk.injEq]at h;refine Ev.bind (reader_ev s hs) (Ev.neg ?_ (Ev.const ?_))
    · rw [u64w h0 (by omega)]
      show ¬ (getL 0 0 (bytesOf s)).1 > most
      omega
    · show some (wrap64 (getL 0 0 (bytesOf s)).1,strOfNums (getL 0 0 (bytesOf s)).2.1,(getL 0 0 (bytesOf s)).2.2)=_
      rw [h.1,h.2,g.1,w64 (by omega) (by omega)]
  · cases h
theorem many_bad {s:ByteArray} (hs:s.size≤281474976710656) {y most:Int} (h0:0≤most) (h1:most≤9223372036854775807) (h:y≠0∨y=0∧rdN most (bytesOf s)=none): ∃ v s' y',Ev (fun k=>num_Reader_Many.f k s y most) (v,s',y')∧y'≠0∧s'.size≤281474976710656:=by
  simp only[num_Reader_Many.f];rcases h with h|⟨rfl,h⟩
  ·refine⟨_,_,_,Ev.bind (reader_bad s h) (Ev.neg ?_ (Ev.now _)),h,hs⟩;rw [u64w h0 (by omega)];omega
  · have aa:=getL_len (bytesOf s) 0 0;rw [bytesOf_length]at aa;have hz:(strOfNums (getL 0 0 (bytesOf s)).2.1).size≤281474976710656:=by rw [strOfNums_size];omega
    have hv:=getL_val (bytesOf_bytes s);by_cases g:(getL 0 0 (bytesOf s)).1 > most;·refine⟨_,_,_,Ev.bind (reader_ev s hs) (Ev.pos ?_ (Ev.now _)),by decide,hz⟩;rw [u64w h0 (by omega)];exact g
    · refine⟨_,_,_,Ev.bind (reader_ev s hs) (Ev.neg ?_ (Ev.now _)),?_,hz⟩
      · rw [u64w h0 (by omega)];exact g
      · show (getL 0 0 (bytesOf s)).2.2≠0
        intro e;unfold rdN at h;rw [if_pos ⟨e,by omega⟩]at h;cases h
theorem u64_cases (s:ByteArray) (hs:s.size≤281474976710656) (y:Int):(∃ v r,y=0∧rdN 18446744073709551615 (bytesOf s)=some (v,r)∧Ev (fun k=>num_Reader_Num.f k s y) (v,strOfNums r,0))∨((y≠0∨rdN 18446744073709551615 (bytesOf s)=none)∧ ∃ v s' y',Ev (fun k=>num_Reader_Num.f k s y) (v,s',y')∧y'≠0∧s'.size≤281474976710656):=by
  by_cases hy:y=0
  · subst hy;have aa:=getL_len (bytesOf s) 0 0;rw [bytesOf_length]at aa;have hz:(strOfNums (getL 0 0 (bytesOf s)).2.1).size≤281474976710656:=by rw [strOfNums_size];omega
    have hv:=getL_val (bytesOf_bytes s);have hr:=reader_ev s hs;by_cases g:(getL 0 0 (bytesOf s)).2.2=0
    · refine .inl ⟨(getL 0 0 (bytesOf s)).1,(getL 0 0 (bytesOf s)).2.1,rfl,?_,?_⟩;·unfold rdN;rw [if_pos ⟨g,by omega⟩]
      ·refine Ev.to hr ?_;simp only[getR,g]
    ·refine .inr ⟨.inr ?_,_,_,_,hr,g,hz⟩;unfold rdN;rw [if_neg (fun h=>g h.1)]
  · exact .inr ⟨.inl hy,_,_,_,reader_bad s hy,hy,hs⟩
def actS : Option ((Int × Int) × List Int) → Int × Int × ByteArray × Int
  | some ((k, i), r) => (k, i, strOfNums r, 0)
  | none => (0, 0, (⟨#[]⟩ : ByteArray), 7)
theorem nil_iff (s:ByteArray):s.toList=([]:List UInt8)↔bytesOf s= []:=by
  rw [Go.ByteArray.toList_eq];constructor
  · intro h;rw [← List.length_eq_zero_iff,bytesOf_length,ByteArray.size, ← Array.length_toList,h];rfl
  ·intro h;rw [← List.length_eq_zero_iff,Array.length_toList];have:=bytesOf_length s;rw [h]at this;exact this.symm
theorem rest1 {s:ByteArray}{a:Int}{l:List Int} (h:bytesOf s=a :: l):bytesOf (s.extract 1 s.size)=l:=by rw [bytes_from,h];rfl
theorem bt0 {s:ByteArray}{a:Int}{l:List Int} (h:bytesOf s=a :: l):bt s 0=a:=by rw [bt_of h];rfl
theorem getaction_ev (s:ByteArray) (hs:s.size≤281474976710656):Ev (fun k=>msg_GetAction.f k s) (actS (getA (bytesOf s))):=by
  simp only[msg_GetAction.f]
  match hl:bytesOf s with
  | []=>exact Ev.pos ((nil_iff s).2 hl) (Ev.now _)
  |a :: l=>
    have hz:=size_of_bytes hl;simp only[List.length_cons]at hz;have hr:=rest1 hl;have ab:=size_of_bytes hr;have aa:s.extract 1 s.size=strOfNums l:=by rw [str_from,hl];rfl
    rw [bt0 hl];refine Ev.neg (fun h=>by rw [nil_iff,hl]at h;cases h) (Ev.pos (by omega) (Ev.pos (by omega) ?_));simp only[getA];by_cases c1:a=1
    · refine Ev.pos c1 ?_;rw [if_pos c1];cases hx:rdN 65536 l with
      |some x=>
        obtain⟨v,r⟩:=x;rw [← hr]at hx;refine Ev.bind (many_ok (by omega) (by omega) (by omega) hx) (Ev.pos rfl ?_);have hv:=rdN_back (bytesOf_bytes _) hx;rw [acts_is];simp only[Option.bind_some];rw [c1];exact Ev.pos (dT (.inl ⟨rfl,hv.1,hv.2.1⟩)) (Ev.now _)
      |none=>
        rw [← hr]at hx;obtain⟨v,s',y',h,hy,_⟩:=many_bad (s:=s.extract 1 s.size) (by omega) (y:=0) (most:=65536) (by omega) (by omega) (.inr ⟨rfl,hx⟩);exact Ev.bind h (Ev.neg hy (Ev.now _))
    · refine Ev.neg c1 ?_;rw [if_neg c1,acts_is];simp only[Option.bind_some];by_cases c2:a=2∨a=3;·rw [if_pos c2,aa];exact Ev.pos (dT (.inr ⟨c2,rfl⟩)) (Ev.now _)
      ·rw [if_neg c2];refine Ev.neg ?_ (Ev.now _);simp only[decide_eq_true_eq];unfold okA;omega
theorem pre_bad (s:ByteArray) {y:Int} (hy:y≠0) (hs:s.size≤281474976710656): ∃ x1 x2 x3 x4,Ev (fun k=>api_Prefix.f k s y) (x1,x2,x3,x4,s,y):=by
  simp only[api_Prefix.f];refine⟨(preS (getP (bytesOf s))).1,(preS (getP (bytesOf s))).2.1,(preS (getP (bytesOf s))).2.2.1,(preS (getP (bytesOf s))).2.2.2.1,Ev.bind (getprefix_ev s) (Ev.const ?_)⟩;rw [if_neg hy,if_neg hy]
theorem act_bad (s:ByteArray) {y:Int} (hy:y≠0) (hs:s.size≤281474976710656): ∃ x1 x2,Ev (fun k=>api_Action.f k s y) (x1,x2,s,y):=by
  simp only[api_Action.f];refine⟨(actS (getA (bytesOf s))).1,(actS (getA (bytesOf s))).2.1,Ev.bind (getaction_ev s hs) (Ev.const ?_)⟩;rw [if_neg hy,if_neg hy]
theorem pre_cases (s:ByteArray) (hs:s.size≤281474976710656) (y:Int):(∃ six n ln r,y=0∧getP (bytesOf s)=some ((six,n,ln),r)∧Ev (fun k=>api_Prefix.f k s y) (six,hi n,lo n,ln,strOfNums r,0))∨((y≠0∨getP (bytesOf s)=none)∧ ∃ x1 x2 x3 x4 s' y',Ev (fun k=>api_Prefix.f k s y) (x1,x2,x3,x4,s',y')∧y'≠0∧s'.size≤281474976710656):=by
  by_cases hy:y=0
  · subst hy;have h:=getprefix_ev s;cases hx:getP (bytesOf s) with
    |some x=>
      obtain⟨⟨six,n,ln⟩,r⟩:=x;rw [hx]at h;refine .inl ⟨six,n,ln,r,rfl,rfl,?_⟩;simp only[api_Prefix.f];exact Ev.bind h (Ev.now _)
    |none=>
      rw [hx]at h;refine .inr ⟨.inr rfl,false,0,0,0,⟨#[]⟩,7,?_,by decide,by decide⟩;simp only[api_Prefix.f];exact Ev.bind h (Ev.const rfl)
  ·obtain⟨x1,x2,x3,x4,h⟩:=pre_bad s hy hs;exact .inr ⟨.inl hy,x1,x2,x3,x4,s,y,h,hy,hs⟩
theorem act_cases (s:ByteArray) (hs:s.size≤281474976710656) (y:Int):(∃ k i r,y=0∧getA (bytesOf s)=some ((k,i),r)∧Ev (fun q=>api_Action.f q s y) (k,i,strOfNums r,0))∨((y≠0∨getA (bytesOf s)=none)∧ ∃ x1 x2 s' y',Ev (fun q=>api_Action.f q s y) (x1,x2,s',y')∧y'≠0∧s'.size≤281474976710656):=by
  by_cases hy:y=0
  · subst hy;have h:=getaction_ev s hs;cases hx:getA (bytesOf s) with
    |some x=>
      obtain⟨⟨k,i⟩,r⟩:=x;rw [hx]at h;refine .inl ⟨k,i,r,rfl,rfl,?_⟩;simp only[api_Action.f];exact Ev.bind h (Ev.now _)
    |none=>
      rw [hx]at h;refine .inr ⟨.inr rfl,0,0,⟨#[]⟩,7,?_,by decide,by decide⟩;simp only[api_Action.f];exact Ev.bind h (Ev.const rfl)
  ·obtain⟨x1,x2,h⟩:=act_bad s hy hs;exact .inr ⟨.inl hy,x1,x2,s,y,h,hy,hs⟩
theorem many_cases (s:ByteArray) (hs:s.size≤281474976710656) (y:Int) {most:Int} (h0:0≤most) (h1:most≤9223372036854775807):(∃ v r,y=0∧rdN most (bytesOf s)=some (v,r)∧Ev (fun k=>num_Reader_Many.f k s y most) (v,strOfNums r,0))∨((y≠0∨rdN most (bytesOf s)=none)∧ ∃ v s' y',Ev (fun k=>num_Reader_Many.f k s y most) (v,s',y')∧y'≠0∧s'.size≤281474976710656):=by
  by_cases hy:y=0
  · subst hy;cases hx:rdN most (bytesOf s) with
    |some x=>obtain⟨v,r⟩:=x;exact .inl ⟨v,r,rfl,rfl,many_ok hs h0 h1 hx⟩
    |none=>exact .inr ⟨.inr rfl,many_bad hs h0 h1 (.inr ⟨rfl,hx⟩)⟩
  · exact .inr ⟨.inl hy,many_bad hs h0 h1 (.inl hy)⟩
def evS : Option E11 → Int × Int × Int × Int × Bool × Int × Int × Int × Int × Int × Int × Int × Int
  | some e => (e.kd, e.ro, e.sq, e.ti, e.six, hi e.n, lo e.n, e.ln, e.ak, e.ai, e.ifc, e.pe, 0)
  | none => (0, 0, 0, 0, false, 0, 0, 0, 0, 0, 0, 0, 7)
theorem gj0_bad (s:ByteArray) {y:Int} (hy:y≠0) (a b c d:Int) (x:Bool) (x1 x2 x3 x4 x5 x6 x7:Int):Ev (fun k=>msg_Get.j0 k s y a b c d x x1 x2 x3 x4 x5 x6 x7) (evS none):=by
  refine Ev.succ ?_;simp only[msg_Get.j0];refine Ev.neg hy (Ev.succ ?_);simp only[msg_Get.j1];exact Ev.pos trivial (Ev.now _)
theorem gj0_ok (r:List Int) (hr:Bytes r) (e:E11) (hn:e.n<340282366920938463463374607431768211456) (hs:0≤e.sq):Ev (fun k=>msg_Get.j0 k (strOfNums r) 0 e.kd e.ro e.sq e.ti e.six (hi e.n) (lo e.n) e.ln e.ak e.ai e.ifc e.pe) (evS (if r= []∧okE e then some e else none)):=by
  refine Ev.succ ?_;simp only[msg_Get.j0];refine Ev.pos trivial ?_;by_cases c:r= []
  · refine Ev.pos ((nil_iff _).2 (by rw [bytes_str hr];exact c)) ?_;have hc:=echeck_ev e hn hs;by_cases h:okE e;·rw [if_pos h]at hc;rw [if_pos ⟨c,h⟩];refine Ev.bind hc (Ev.succ ?_);simp only[msg_Get.j1];exact Ev.neg (by decide) (Ev.now _)
    ·rw [if_neg h]at hc;rw [if_neg (fun g=>h g.2)];refine Ev.bind hc (Ev.succ ?_);simp only[msg_Get.j1];exact Ev.pos (by decide) (Ev.now _)
  ·rw [if_neg (fun g=>c g.1)];refine Ev.neg (fun h=>c (by rw [nil_iff,bytes_str hr]at h;exact h)) (Ev.succ ?_);simp only[msg_Get.j1];exact Ev.pos trivial (Ev.now _)
end Go.Proofs.Ythkdfojmhloofaa.Msg
end
