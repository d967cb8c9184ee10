-- Merged and trimmed by this session's program wip/tools/trim.py.
import Derived.Test.YthkdfojmhloofaaTGramReadsUpto5
section
namespace Go.Proofs.Ythkdfojmhloofaa.Q
open Go.RowKit Go.Proofs.YthkdfojmhloofaaW.PrintWords Go.Proofs.YthkdfojmhloofaaW.PrintLast Go.Proofs.YthkdfojmhloofaaW.PrintMore
attribute [local go_sem] max2_int min2_int max_two min_two max_three min_three max_four min_four   -- for this text's walks alone
set_option linter.unusedVariables false
set_option linter.unusedSimpArgs false
attribute [local go_sem high] eqA35
set_option maxHeartbeats 8000000 in
set_option maxRecDepth 100000 in
theorem spoorref11_Check.calls (k:Nat) (E:Int) (I:Int) (L:Int) (M:Int) (O:Bool) (R:Int) (T:Int) (U:Int) (aa:Int) (ab:Int) (V:Int) (X:Int) (r:Int) (w:World) (h:spoorref11_Check.f k E I L M O R T U aa ab V X=some r):
  Calls Try.prog 50 #[.agg #[.int .u8 E,.int .i64 I,.int .u64 L,.int .i64 M,.bool O,.int .u64 R,.int .u64 T,.int .i64 U,.int .u8 aa,.int .i64 ab,.int .i64 V,.int .i64 X]] w fun e w'=>e= .returned (.int .i64 r)∧Below w.heap.size w w':=by
 have gh:=Try.underlying35;have gi:=Try.underlying30;have gj:=Try.underlying33;have HB:=Ax (Below.refl w.heap.size w);have H:(if I<0 then (spoorref11_Check.j0 k true E I L M O R T U aa ab V X) else (if I > 1048576 then (spoorref11_Check.j0 k true E I L M O R T U aa ab V X) else (if L<1 then (spoorref11_Check.j0 k true E I L M O R T U aa ab V X) else (if L > 1099511627776 then (spoorref11_Check.j0 k true E I L M O R T U aa ab V X) else (if M<0 then (spoorref11_Check.j0 k true E I L M O R T U aa ab V X) else (spoorref11_Check.j0 k (decide (M > 1099511627776)) E I L M O R T U aa ab V X))))))=some r:=h;clear h;have b3:=Ax H;clear H;go_enter Try.func50,Try.ntmps50;go_upto_region 1 with (first|((with_reducible refine gate_dst (N:=1) rfl ?_);refine bX (N:=1) (cs:= #[.int .u8 E,.int .i64 I,.int .u64 L,.int .i64 M,.bool O,.int .u64 R,.int .u64 T,.int .i64 U,.int .u8 aa,.int .i64 ab,.int .i64 V,.int .i64 X]) (t:=35) ?_;intro D hg w3 aT hb;have F:=Ax (aT);have gl:=Gw0 HB hg;have af:=Gw0 HB hg;replace HB:=Bs0 HB hb;clear hb aT hg))
 (try simp only[Act.put,List.setIfInBounds_toArray,List.set_cons_zero,List.set_cons_succ])
 go_cut [32] (fun eb wc=> ∃ (kq:Nat) (aV:Bool),eb= .bool aV∧Aside0 (spoorref11_Check.j0 kq aV E I L M O R T U aa ab V X=some r)∧Aside0 (kq≤k)∧Aside0 (wc.heap[D]? =some (.cells #[.int .u8 E,.int .i64 I,.int .u64 L,.int .i64 M,.bool O,.int .u64 R,.int .u64 T,.int .i64 U,.int .u8 aa,.int .i64 ab,.int .i64 V,.int .i64 X] 35 (0,0)))∧Aside0 (Below w.heap.size w wc))
 case first=>
  have H:=b3.out;clear b3;by_cases c4:I<0
  ·rw [if_pos c4]at H;have az:decide (I<0)=true:=dT c4;clear c4
   (first|rw [az]|(simp only[i64_w,i32_w];rw [az])|skip)
   have H':=Ax H;clear H;obtain⟨bc,bd,bf,bg,bh,bi,bj,bk,bl,bm,bn,bo,bq,br,bu,bv,bx,bz,bA,bB,bC,bD,bE,bF⟩:=cl12 F;go_wp2;go_meet
   case rel=>exact⟨_,(true),rS,H',⟨by first|omega|exact Nat.le_refl _⟩,⟨bf0 F.out⟩,⟨bw1 HB.out af.out⟩⟩
  ·rw [if_neg c4]at H;have az:decide (I<0)=false:=dF c4;clear c4
   (first|rw [az]|(simp only[i64_w,i32_w];rw [az])|skip)
   by_cases c6:I > 1048576
   ·rw [if_pos c6]at H;have b4:decide (1048576<I)=true:=dT c6;clear c6;have H':=Ax H;clear H;obtain⟨bG,bH,bJ,bK,bL,bM,bN,bO,bP,bQ,bR,bS,bT,bU,bV,bW,bY,bZ,cd,ce,cf,cg,ch,ci⟩:=cl12 F;go_wp2;go_meet
    case rel=>exact⟨_,(true),rS,H',⟨by first|omega|exact Nat.le_refl _⟩,⟨bf0 F.out⟩,⟨bw1 HB.out af.out⟩⟩
   ·rw [if_neg c6]at H;have b4:decide (1048576<I)=false:=dF c6;clear c6;by_cases c8:L<1
    ·rw [if_pos c8]at H;have b5:decide (L<1)=true:=dT c8;clear c8;have H':=Ax H;clear H;obtain⟨cj,ck,cl,cm,cn,co,cq,cr,ct,cu,cv,cw,cx,cy,cz,cA,cB,cC,cD,cE,cF,cG,cH,cI⟩:=cl12 F;go_wp2;go_meet
     case rel=>exact⟨_,(true),rS,H',⟨by first|omega|exact Nat.le_refl _⟩,⟨bf0 F.out⟩,⟨bw1 HB.out af.out⟩⟩
    ·rw [if_neg c8]at H;have b5:decide (L<1)=false:=dF c8;clear c8;by_cases c10:L > 1099511627776
     ·rw [if_pos c10]at H;have b6:decide (1099511627776<L)=true:=dT c10;clear c10;have H':=Ax H;clear H;obtain⟨cJ,cK,cL,cM,cN,cO,cP,cQ,cR,cS,cT,cU,cV,cW,cX,cY,cZ,d2,d3,d4,d5,d6,d7,d8⟩:=cl12 F;go_wp2;go_meet
      case rel=>exact⟨_,(true),rS,H',⟨by first|omega|exact Nat.le_refl _⟩,⟨bf0 F.out⟩,⟨bw1 HB.out af.out⟩⟩
     ·rw [if_neg c10]at H;have b6:decide (1099511627776<L)=false:=dF c10;clear c10;by_cases aq:M<0
      ·rw [if_pos aq]at H;have b7:decide (M<0)=true:=dT aq;clear aq;have H':=Ax H;clear H;obtain⟨d9,da,db,dc,dd,de,df,dg,dh,di,dj,dk,dl,dm,dn,dp,dq,dr,dt,du,dv,dw,dx,dy⟩:=cl12 F;go_wp2;go_meet
       case rel=>exact⟨_,(true),rS,H',⟨by first|omega|exact Nat.le_refl _⟩,⟨bf0 F.out⟩,⟨bw1 HB.out af.out⟩⟩
      ·rw [if_neg aq]at H;have b7:decide (M<0)=false:=dF aq;clear aq;have H':=Ax H;clear H;obtain⟨dz,dA,dB,dC,dD,dE,dG,dH,dI,dJ,dK,dL,dM,dN,dO,dP,dQ,dR,dS,dU,dV,dW,dX,dY⟩:=cl12 F;go_wp2;go_meet
       case rel=>exact⟨_,(decide (M > 1099511627776)),rS,H',⟨by first|omega|exact Nat.le_refl _⟩,⟨bf0 F.out⟩,⟨bw1 HB.out af.out⟩⟩
 case rest=>
  clear b3;try clear c1
  try clear p2
  try clear c4
  try clear az
  try clear c5
  try clear c6
  try clear b4
  try clear c8
  try clear b5
  try clear c10
  try clear b6
  try clear aq
  try clear b7
  try clear cJ
  try clear cK
  try clear cT
  try clear cU
  try clear cL
  try clear cM
  try clear cN
  try clear cO
  try clear cP
  try clear cQ
  try clear cR
  try clear cS
  try clear d9
  try clear da
  try clear dj
  try clear dk
  try clear db
  try clear dc
  try clear dd
  try clear de
  try clear df
  try clear dg
  try clear dh
  try clear di
  try clear dz
  try clear dA
  try clear dK
  try clear dL
  try clear dB
  try clear dC
  try clear dD
  try clear dE
  try clear dG
  try clear dH
  try clear dI
  try clear dJ
  try clear bc
  try clear bd
  try clear bn
  try clear bo
  try clear bf
  try clear bg
  try clear bh
  try clear bi
  try clear bj
  try clear bk
  try clear bl
  try clear bm
  try clear bG
  try clear bH
  try clear bR
  try clear bS
  try clear bJ
  try clear bK
  try clear bL
  try clear bM
  try clear bN
  try clear bO
  try clear bP
  try clear bQ
  try clear cj
  try clear ck
  try clear cv
  try clear cw
  try clear cl
  try clear cm
  try clear cn
  try clear co
  try clear cq
  try clear cr
  try clear ct
  try clear cu
  try clear cV
  try clear cW
  try clear d7
  try clear d8
  try clear cX
  try clear cY
  try clear cZ
  try clear d2
  try clear d3
  try clear d4
  try clear d5
  try clear d6
  try clear dl
  try clear dm
  try clear dx
  try clear dy
  try clear dn
  try clear dp
  try clear dq
  try clear dr
  try clear dt
  try clear du
  try clear dv
  try clear dw
  try clear dM
  try clear dN
  try clear dX
  try clear dY
  try clear dO
  try clear dP
  try clear dQ
  try clear dR
  try clear dS
  try clear dU
  try clear dV
  try clear dW
  try clear bq
  try clear br
  try clear bE
  try clear bF
  try clear bu
  try clear bv
  try clear bx
  try clear bz
  try clear bA
  try clear bB
  try clear bC
  try clear bD
  try clear bT
  try clear bU
  try clear ch
  try clear ci
  try clear bV
  try clear bW
  try clear bY
  try clear bZ
  try clear cd
  try clear ce
  try clear cf
  try clear cg
  try clear cx
  try clear cy
  try clear cH
  try clear cI
  try clear cz
  try clear cA
  try clear cB
  try clear cC
  try clear cD
  try clear cE
  try clear cF
  try clear cG
  obtain⟨kq,aV,rfl,HA,dZ,F,HB⟩:=hcut;cases kq with
  |zero=>exact absurd HA.out (by simp [spoorref11_Check.j0])
  |succ kj1=>
   have H:=HA.out;clear HA;simp only[spoorref11_Check.j0]at H;by_cases aU:aV=true
   ·subst aU;have H1:(some 2)=some r:=by rw [if_pos rfl]at H;exact H
    clear H;have H:=H1;clear H1;obtain rfl:=Option.some.inj H;go_wp2;go_ret;exact⟨eS,bw1 HB.out af.out⟩
   ·replace aU:=Bool.eq_false_iff.mpr aU;subst aU;have H1:(if E=1 then (spoorref11_Check.j1 kj1 true E (E==1) E I L M O R T U aa ab V X E I L M false 0 0 0 0 0 0 0) else (spoorref11_Check.j1 kj1 true E (E==2) E I L M O R T U aa ab V X E I L M false 0 0 0 0 0 0 0))=some r:=by rw [if_neg (show ¬ (false=true) by decide)]at H;exact H
    clear H;have H:=H1;clear H1;have b8:=Ax H;clear H;obtain⟨ec,ed,ee,ef,eg,eh,ei,ej,ek,el,en,eo,ep,eq,er,es,et,eu,ev,ex,ey,ez,eA,eB⟩:=cl12 F;go_upto_if 44 with (first|((with_reducible refine gate_dst (N:=3) rfl ?_);refine bX (N:=3) (cs:= #[.int .u8 0,.int .i64 0,.int .u64 0,.int .i64 0,.bool false,.int .u64 0,.int .u64 0,.int .i64 0,.int .u8 0,.int .i64 0,.int .i64 0,.int .i64 0]) (t:=35) ?_;intro ae hg gn aT hb;have C:=Ax (aT);have gq:=Gw1 HB hg af.out;have ag:=Gw1 HB hg af.out;replace HB:=Bs1 HB hb af.out;have A:=Nl0 F hg;have ac:=Nr0 F hg;replace F:=Bx0 F hb;clear hb aT hg;have gt:=ac.out;have gu:=A.out;obtain⟨eC,eD,eE,eF,eG,eH,eI,eJ,eK,eL,eM,eN,eO,eP,eQ,eR,eT,eU,eV,eW,eX,eY,eZ,fb⟩:=cl12 C;obtain⟨fc,fd,fe,fg,fh,fi,fj,fk,fl,fm,fo,fp,fq,ft,fu,fv,fw,fx,fy,fz,fA,fB,fC,fD⟩:=cl12 F))
    (try simp only[Act.put,List.setIfInBounds_toArray,List.set_cons_zero,List.set_cons_succ])
    go_cut [44] (fun fE wc=> ∃ (kq:Nat) (aW:Bool),fE= .bool aW∧Aside0 (spoorref11_Check.j1 kq true E aW E I L M O R T U aa ab V X E I L M false 0 0 0 0 0 0 0=some r)∧Aside0 (kq≤kj1)∧Aside0 (wc.heap[D]? =some (.cells #[.int .u8 E,.int .i64 I,.int .u64 L,.int .i64 M,.bool O,.int .u64 R,.int .u64 T,.int .i64 U,.int .u8 aa,.int .i64 ab,.int .i64 V,.int .i64 X] 35 (0,0)))∧Aside0 (wc.heap[ae]? =some (.cells #[.int .u8 E,.int .i64 I,.int .u64 L,.int .i64 M,.bool false,.int .u64 0,.int .u64 0,.int .i64 0,.int .u8 0,.int .i64 0,.int .i64 0,.int .i64 0] 35 (0,0)))∧Aside0 (Below w.heap.size w wc))
    case first=>
     have H:=b8.out;clear b8;by_cases ar:E=1
     ·rw [if_pos ar]at H;have aI:(E==1)=true:=beq_iff_eq.mpr ar;have e7:(E !=1)=false:=bne_eq_false_iff_eq.mpr ar;clear ar
      (first|rw [aI]|(simp only[i64_w,i32_w];rw [aI])|skip)
      have H':=Ax H;clear H;go_wp2;go_meet
      case rel=>exact⟨_,((E==1)),rS,H',⟨by have:=dZ.out;first|omega|exact Nat.le_refl _⟩,⟨by (repeat (first|(with_reducible first|refine blk_drewN ?_ _|refine blk_drew ?_|refine blk_alloc ?_ _)|refine blk_far ?_ A.out _));exact F.out⟩,⟨gB C.out⟩,⟨bw2 HB.out af.out ag.out⟩⟩
     ·rw [if_neg ar]at H;have aI:(E==1)=false:=beq_eq_false_iff_ne.mpr ar;have e7:(E !=1)=true:=bne_iff_ne.mpr ar
      (first|rw [aI]|(simp only[i64_w,i32_w];rw [aI])|skip)
      have H':=Ax H;clear H;go_wp2;go_meet
      case rel=>exact⟨_,((E==2)),rS,H',⟨by have:=dZ.out;first|omega|exact Nat.le_refl _⟩,⟨by (repeat (first|(with_reducible first|refine blk_drewN ?_ _|refine blk_drew ?_|refine blk_alloc ?_ _)|refine blk_far ?_ A.out _));exact F.out⟩,⟨gB C.out⟩,⟨bw2 HB.out af.out ag.out⟩⟩
    case rest=>
     clear b8;(try clear c1);(try clear c2);(try clear p2 p2);(try clear c4);(try clear az);(try clear c5);(try clear c6);(try clear b4);(try clear c8);(try clear b5);(try clear c10);(try clear b6);(try clear aq);(try clear b7);(try clear aU);(try clear c19);(try clear ar);(try clear aI);(try clear e7);(try clear cJ cK cT cU cL cM cN cO cP cQ cR cS);(try clear d9 da dj dk db dc dd de df dg dh di);(try clear dz dA dK dL dB dC dD dE dG dH dI dJ);(try clear ec ed en eo ee ef eg eh ei ej ek el);(try clear eC eD eM eN eE eF eG eH eI eJ eK eL);(try clear fc fd fo fp fe fg fh fi fj fk fl fm);(try clear bc bd bn bo bf bg bh bi bj bk bl bm);(try clear bG bH bR bS bJ bK bL bM bN bO bP bQ);(try clear cj ck cv cw cl cm cn co cq cr ct cu);(try clear cV cW d7 d8 cX cY cZ d2 d3 d4 d5 d6);(try clear dl dm dx dy dn dp dq dr dt du dv dw);(try clear dM dN dX dY dO dP dQ dR dS dU dV dW);(try clear ep eq eA eB er es et eu ev ex ey ez);(try clear eO eP eZ fb eQ eR eT eU eV eW eX eY);(try clear fq ft fC fD fu fv fw fx fy fz fA fB);(try clear bq br bE bF bu bv bx bz bA bB bC bD);(try clear bT bU ch ci bV bW bY bZ cd ce cf cg);(try clear cx cy cH cI cz cA cB cC cD cE cF cG);obtain⟨kq,aW,rfl,HA,gv,F,C,HB⟩:=hcut;cases kq with
     |zero=>exact absurd HA.out (by simp [spoorref11_Check.j1])
     |succ kj15=>
      have H:=HA.out;clear HA;simp only[spoorref11_Check.j1]at H;by_cases aY:aW=true
      ·subst aY;have H1:(if true=true then (if (!(E==E)||(!(I==I)||(!(L==L)||(!(M==M)||((!(false==O)||((!(0==R)||(!(0==T)))||(!(0==U))))||((!(0==aa)||(!(0==ab)))||(!(0==V)||(!(0==X)))))))))=true then (some 2) else (some 0)) else (some 2))=some r:=by rw [if_pos rfl]at H;exact H
       clear H;have H:=H1;clear H1;replace H:(if (!(E==E)||(!(I==I)||(!(L==L)||(!(M==M)||((!(false==O)||((!(0==R)||(!(0==T)))||(!(0==U))))||((!(0==aa)||(!(0==ab)))||(!(0==V)||(!(0==X)))))))))=true then (some 2) else (some 0))=some r:=by rw [if_pos rfl]at H;exact H
       by_cases au:(!(E==E)||(!(I==I)||(!(L==L)||(!(M==M)||((!(false==O)||((!(0==R)||(!(0==T)))||(!(0==U))))||((!(0==aa)||(!(0==ab)))||(!(0==V)||(!(0==X)))))))))=true
       ·rw [if_pos au]at H;have fF:(!(E==E)||(!(I==I)||(!(L==L)||(!(M==M)||((!(false==O)||((!(0==R)||(!(0==T)))||(!(0==U))))||((!(0==aa)||(!(0==ab)))||(!(0==V)||(!(0==X)))))))))=true:=au
        (try (have fG:((O||((!(0==R)||(!(0==T)))||(!(0==U))))||((!(0==aa)||(!(0==ab)))||(!(0==V)||(!(0==X)))))=true:=by simpa using au))
        clear au;obtain rfl:=Option.some.inj H;have gx:=ac.out;have gy:=A.out;obtain⟨gz,gA,gC,gD,gE,gG,gH,gI,gJ,gM,gN,gO,gP,gQ,gR,gT,gU,gV,gW,gX,gY,gZ,hH,hL⟩:=cl12 C;obtain⟨hO,hP,hU,hX,hZ,i1,i2,i3,i4,i5,i6,i7,i8,i9,ia,ib,ic,ie,ig,ii,ij,ik,il,im⟩:=cl12 F;go_wp2;go_ret;exact⟨eS,bw2 HB.out af.out ag.out⟩
       ·rw [if_neg au]at H;have fF:(!(E==E)||(!(I==I)||(!(L==L)||(!(M==M)||((!(false==O)||((!(0==R)||(!(0==T)))||(!(0==U))))||((!(0==aa)||(!(0==ab)))||(!(0==V)||(!(0==X)))))))))=false:=by simpa using au
        (try (have fG:((O||((!(0==R)||(!(0==T)))||(!(0==U))))||((!(0==aa)||(!(0==ab)))||(!(0==V)||(!(0==X)))))=false:=by simpa using au))
        clear au;obtain rfl:=Option.some.inj H;have io:=ac.out;have ip:=A.out;obtain⟨iq,ir,iu,iv,iw,ix,iy,iz,iA,iB,iC,iD,iE,iF,iG,iH,iI,iJ,iK,iL,iM,iN,iO,iP⟩:=cl12 C;obtain⟨iQ,iR,iS,iT,iU,iV,iW,iX,iY,iZ,j7,j8,j9,ja,jb,jc,jd,je,jf,jg,jh,ji,jj,jk⟩:=cl12 F;go_wp2;go_ret;exact⟨eS,bw2 HB.out af.out ag.out⟩
      ·replace aY:=Bool.eq_false_iff.mpr aY;subst aY;have H1:(if E=3 then ((spoorref09_Check.f kj15 O R T U).bind fun am=>(if am=0 then ((spoorref11_Acts.f aa ab).bind fun b9=>(if b9=true then (if (!(E==E)||(!(I==I)||(!(L==L)||(!(M==M)||(!(0==V)||(!(0==X)))))))=true then (some 2) else (some 0)) else (some 2))) else (some 2))) else (if E=4 then ((spoorref09_Check.f kj15 O R T U).bind fun ap=>(if ap=0 then (if (!(E==E)||(!(I==I)||(!(L==L)||(!(M==M)||((!(0==aa)||(!(0==ab)))||(!(0==V)||(!(0==X))))))))=true then (some 2) else (some 0)) else (some 2))) else (if E=5 then (if V ≥ 0 then (if V≤65536 then (if X ≥ 0 then (if X≤1048576 then (if (!(E==E)||(!(I==I)||(!(L==L)||(!(M==M)||((!(false==O)||((!(0==R)||(!(0==T)))||(!(0==U))))||((!(0==aa)||(!(0==ab)))))))))=true then (some 2) else (some 0)) else (some 2)) else (some 2)) else (some 2)) else (some 2)) else (if E=6 then (if V ≥ 0 then (if V≤65536 then (if (!(E==E)||(!(I==I)||(!(L==L)||(!(M==M)||((!(false==O)||((!(0==R)||(!(0==T)))||(!(0==U))))||((!(0==aa)||(!(0==ab)))||(!(0==X))))))))=true then (some 2) else (some 0)) else (some 2)) else (some 2)) else (some 2)))))=some r:=by rw [if_neg (show ¬ (false=true) by decide)]at H;exact H
       clear H;have H:=H1;clear H1;by_cases aA:E=3
       ·rw [if_pos aA]at H;have fH:(E==3)=true:=beq_iff_eq.mpr aA;have fI:(E !=3)=false:=bne_eq_false_iff_eq.mpr aA;clear aA;replace H:=bI H;obtain⟨am,e8,H⟩:=H;(try dsimp only at H);have aZ:=Ax e8;clear e8;by_cases aC:am=0
        ·rw [if_pos aC]at H;have fJ:(am==0)=true:=beq_iff_eq.mpr aC;have fK:(am !=0)=false:=bne_eq_false_iff_eq.mpr aC;clear aC;replace H:=bI H;obtain⟨b9,e9,H⟩:=H;(try dsimp only at H);have ba:=Ax e9;clear e9;by_cases b2:b9=true
         ·subst b2;have H1:(if (!(E==E)||(!(I==I)||(!(L==L)||(!(M==M)||(!(0==V)||(!(0==X)))))))=true then (some 2) else (some 0))=some r:=by rw [if_pos rfl]at H;exact H
          clear H;have H:=H1;clear H1;by_cases av:(!(E==E)||(!(I==I)||(!(L==L)||(!(M==M)||(!(0==V)||(!(0==X)))))))=true
          ·rw [if_pos av]at H;have fL:(!(E==E)||(!(I==I)||(!(L==L)||(!(M==M)||(!(0==V)||(!(0==X)))))))=true:=av
           (try (have fM:(!(0==V)||(!(0==X)))=true:=by simpa using av))
           clear av;obtain rfl:=Option.some.inj H;try go_wp2
           replace F:=Ax (blk_drew F.out);replace C:=Ax (blk_drew C.out);replace HB:=Ax (below_drew1 HB.out);refine start_ (n:=8) (S:=fun w'=>w'.cell? ⟨D,0,none⟩=some (.int .u8 E)∧w'.cell? ⟨D,1,none⟩=some (.int .i64 I)∧w'.cell? ⟨D,2,none⟩=some (.int .u64 L)∧w'.cell? ⟨D,3,none⟩=some (.int .i64 M)∧w'.cell? ⟨D,4,none⟩=some (.bool O)∧w'.cell? ⟨D,5,none⟩=some (.int .u64 R)∧w'.cell? ⟨D,6,none⟩=some (.int .u64 T)∧w'.cell? ⟨D,7,none⟩=some (.int .i64 U)∧w'.cell? ⟨D,8,none⟩=some (.int .u8 aa)∧w'.cell? ⟨D,9,none⟩=some (.int .i64 ab)∧w'.cell? ⟨D,10,none⟩=some (.int .i64 V)∧w'.cell? ⟨D,11,none⟩=some (.int .i64 X)) (ds:= []) #[Y,Y,Y,Y,Y,Y,Y,Y] (by kernel_rfl) rfl rfl (bqc12 F.out) (fun B=>?_);refine with_tabW spoorref11_Check.tab10 spoorref11_Check.bits10 (fun G ah=>?_);generalize wc.drew=w37 at F C HB B ⊢;refine pz 0 49 #[Z,Y,Y,Y,Y,Y,Y,Y] G.out ?_
           refine pz 2 51 #[Z,Y,Z,Y,Y,Y,Y,Y] G.out ?_
           refine take_ (i:=1) (N:=some 50) (v:=?_) (a':=?_) #[Z,Z,Z,Y,Y,Y,Y,Y] rfl rfl (take_ofW G.out ah.out (by kernel_rfl)) (fun _ _ _ h=>h) (Or.inl ⟨by rfl,?_⟩) B ?_ ?_;rotate_left
           ·rintro w' ⟨s0,s1,s2,s3,s4,s5,s6,s7,s8,s9,aj,al⟩
            go_simp;with_reducible rfl
           rotate_left;·simp only[sP];rfl
           refine pz 4 53 #[Z,Z,Z,Y,Z,Y,Y,Y] G.out ?_
           refine take_ (i:=3) (N:=some 52) (v:=?_) (a':=?_) #[Z,Z,Z,Z,Z,Y,Y,Y] rfl rfl (take_ofW G.out ah.out (by kernel_rfl)) (fun _ _ _ h=>h) (Or.inl ⟨by rfl,?_⟩) B ?_ ?_;rotate_left
           ·rintro w' ⟨s0,s1,s2,s3,s4,s5,s6,s7,s8,s9,aj,al⟩
            go_simp;with_reducible rfl
           rotate_left;·simp only[sP];rfl
           refine one_ (i:=5) (N:=none) #[Z,Z,Z,Z,Z,Z,Y,Y] rfl rfl (one_of G.out (by kernel_rfl)) (by decide) (fun K hK=>?_);have jl:w37.cell? ⟨ae,4,none⟩=some (.bool false):=(blk_cell C.out 4).trans rfl;have jm:=blk_frozen C.out 4;have jn:=A.out;have jo:=ac.out;have jp:w37.cell? ⟨ae,5,none⟩=some (.int .u64 0):=(blk_cell C.out 5).trans rfl;have jq:=blk_frozen C.out 5;have jr:=A.out;have js:=ac.out;have jt:w37.cell? ⟨ae,6,none⟩=some (.int .u64 0):=(blk_cell C.out 6).trans rfl;have ju:=blk_frozen C.out 6;have jv:=A.out;have jw:=ac.out;have jx:w37.cell? ⟨ae,7,none⟩=some (.int .i64 0):=(blk_cell C.out 7).trans rfl;have jy:=blk_frozen C.out 7;have jz:=A.out;have jA:=ac.out;refine skip_ (w1:=?_) (by rfl) rfl ?_ ?_;rotate_left;·go_simp;rfl
           refine hK.out _ _ ⟨(cqf A.out ((cqf A.out ((cqf A.out ((cqf A.out (B.1)))))))),(cqf A.out ((cqf A.out ((cqf A.out ((cqf A.out (B.2.1)))))))),(cqf A.out ((cqf A.out ((cqf A.out ((cqf A.out (B.2.2.1)))))))),(cqf A.out ((cqf A.out ((cqf A.out ((cqf A.out (B.2.2.2.1)))))))),(cqf A.out ((cqf A.out ((cqf A.out ((cqf A.out (B.2.2.2.2.1)))))))),(cqf A.out ((cqf A.out ((cqf A.out ((cqf A.out (B.2.2.2.2.2.1)))))))),(cqf A.out ((cqf A.out ((cqf A.out ((cqf A.out (B.2.2.2.2.2.2.1)))))))),(cqf A.out ((cqf A.out ((cqf A.out ((cqf A.out (B.2.2.2.2.2.2.2.1)))))))),(cqf A.out ((cqf A.out ((cqf A.out ((cqf A.out (B.2.2.2.2.2.2.2.2.1)))))))),(cqf A.out ((cqf A.out ((cqf A.out ((cqf A.out (B.2.2.2.2.2.2.2.2.2.1)))))))),(cqf A.out ((cqf A.out ((cqf A.out ((cqf A.out (B.2.2.2.2.2.2.2.2.2.2.1)))))))),(cqf A.out ((cqf A.out ((cqf A.out ((cqf A.out (B.2.2.2.2.2.2.2.2.2.2.2))))))))⟩ (fun B=>?_);clear hK K;refine pz 6 54 #[Z,Z,Z,Z,Z,Z,Z,Y] G.out ?_
           refine one_ (i:=7) (N:=none) #[Z,Z,Z,Z,Z,Z,Z,Z] rfl rfl (one_of G.out (by kernel_rfl)) (by decide) (fun K hK=>?_);have jB:w37.cell? ⟨ae,8,none⟩=some (.int .u8 0):=(blk_cell C.out 8).trans rfl;have jC:=blk_frozen C.out 8;have jD:=A.out;have jE:=ac.out;have jF:w37.cell? ⟨ae,9,none⟩=some (.int .i64 0):=(blk_cell C.out 9).trans rfl;have jG:=blk_frozen C.out 9;have jH:=A.out;have jI:=ac.out;refine skip_ (w1:=?_) (by rfl) rfl ?_ ?_;rotate_left;·go_simp;rfl
           refine hK.out _ _ ⟨(cqf A.out ((cqf A.out (B.1)))),(cqf A.out ((cqf A.out (B.2.1)))),(cqf A.out ((cqf A.out (B.2.2.1)))),(cqf A.out ((cqf A.out (B.2.2.2.1)))),(cqf A.out ((cqf A.out (B.2.2.2.2.1)))),(cqf A.out ((cqf A.out (B.2.2.2.2.2.1)))),(cqf A.out ((cqf A.out (B.2.2.2.2.2.2.1)))),(cqf A.out ((cqf A.out (B.2.2.2.2.2.2.2.1)))),(cqf A.out ((cqf A.out (B.2.2.2.2.2.2.2.2.1)))),(cqf A.out ((cqf A.out (B.2.2.2.2.2.2.2.2.2.1)))),(cqf A.out ((cqf A.out (B.2.2.2.2.2.2.2.2.2.2.1)))),(cqf A.out ((cqf A.out (B.2.2.2.2.2.2.2.2.2.2.2))))⟩ (fun B=>?_);clear hK K;refine done_ (done_of G.out (by kernel_rfl)) ?_;have jJ:=A.out;have jK:=ac.out;obtain⟨jL,jM,jN,jO,jP,jQ,jR,jS,jT,jU,jV,jW,jX,jY,jZ,k3,k4,k5,k6,k7,k8,k9,ka,kb⟩:=cl12 F;try go_wp2_with (first|((with_reducible refine gate_callee (f:=67) rfl ?_);refine goesL_ (some 57) rfl rfl Try.func67 (by kernel_rfl) rfl #[.agg #[.bool O,.int .u64 R,.int .u64 T,.int .i64 U]] rfl gS ?_;(with_reducible refine (spoorref09_Check.calls kj15 O R T U am _ aZ.out).mono ?_);rintro e kc ⟨rfl,hb⟩;refine⟨_,rfl,?_⟩;replace F:=Bx6 F hb A.out A.out A.out A.out A.out A.out;replace C:=Ax (blk_below (g:=ae) (o:=.cells #[.int .u8 E,.int .i64 I,.int .u64 L,.int .i64 M,.bool O,.int .u64 R,.int .u64 T,.int .i64 U,.int .u8 aa,.int .i64 ab,.int .i64 0,.int .i64 0] 35 (0,0)) (gB C.out) hb);replace HB:=Bs2 HB hb af.out ag.out;(try clear hb);obtain⟨ke,kf,kg,kh,ki,kj,kk,kl,km,kn,ko,kp,kr,ks,kt,ku,kv,kw,kx,ky,kz,kA,kB,kC⟩:=cl12 F)|(go_at_call 68;(with_reducible refine (spoorref11_Acts.calls aa ab true _ ba.out).mono ?_);rintro e kD ⟨rfl,hb⟩;replace F:=Bx0 F hb;replace C:=Bx0 C hb;replace HB:=Bs2 HB hb af.out ag.out;(try clear hb);obtain⟨kE,kF,kG,kH,kI,kJ,kK,kL,kM,kN,kO,kP,kQ,kR,kS,kT,kU,kV,kW,kX,kY,kZ,l3,l4⟩:=cl12 C;obtain⟨l5,l6,l7,l8,l9,ld,le,lf,lg,lh,ll,lm,lp,lq,lr,ls,lu,lv,lw,ly,lz,lA,lB,lC⟩:=cl12 F))
           go_ret;exact⟨eS,bw2 HB.out af.out ag.out⟩
          ·rw [if_neg av]at H;have fL:(!(E==E)||(!(I==I)||(!(L==L)||(!(M==M)||(!(0==V)||(!(0==X)))))))=false:=by simpa using av
           (try (have fM:(!(0==V)||(!(0==X)))=false:=by simpa using av))
           clear av;obtain rfl:=Option.some.inj H;try go_wp2
           replace F:=Ax (blk_drew F.out);replace C:=Ax (blk_drew C.out);replace HB:=Ax (below_drew1 HB.out);refine start_ (n:=8) (S:=fun w'=>w'.cell? ⟨D,0,none⟩=some (.int .u8 E)∧w'.cell? ⟨D,1,none⟩=some (.int .i64 I)∧w'.cell? ⟨D,2,none⟩=some (.int .u64 L)∧w'.cell? ⟨D,3,none⟩=some (.int .i64 M)∧w'.cell? ⟨D,4,none⟩=some (.bool O)∧w'.cell? ⟨D,5,none⟩=some (.int .u64 R)∧w'.cell? ⟨D,6,none⟩=some (.int .u64 T)∧w'.cell? ⟨D,7,none⟩=some (.int .i64 U)∧w'.cell? ⟨D,8,none⟩=some (.int .u8 aa)∧w'.cell? ⟨D,9,none⟩=some (.int .i64 ab)∧w'.cell? ⟨D,10,none⟩=some (.int .i64 V)∧w'.cell? ⟨D,11,none⟩=some (.int .i64 X)) (ds:= []) #[Y,Y,Y,Y,Y,Y,Y,Y] (by kernel_rfl) rfl rfl (bqc12 F.out) (fun B=>?_);refine with_tabW spoorref11_Check.tab10 spoorref11_Check.bits10 (fun G ah=>?_);generalize wc.drew=w51 at F C HB B ⊢;refine pz 0 49 #[Z,Y,Y,Y,Y,Y,Y,Y] G.out ?_
           refine pz 2 51 #[Z,Y,Z,Y,Y,Y,Y,Y] G.out ?_
           refine take_ (i:=1) (N:=some 50) (v:=?_) (a':=?_) #[Z,Z,Z,Y,Y,Y,Y,Y] rfl rfl (take_ofW G.out ah.out (by kernel_rfl)) (fun _ _ _ h=>h) (Or.inl ⟨by rfl,?_⟩) B ?_ ?_;rotate_left
           ·rintro w' ⟨s0,s1,s2,s3,s4,s5,s6,s7,s8,s9,aj,al⟩
            go_simp;with_reducible rfl
           rotate_left;·simp only[sP];rfl
           refine pz 4 53 #[Z,Z,Z,Y,Z,Y,Y,Y] G.out ?_
           refine take_ (i:=3) (N:=some 52) (v:=?_) (a':=?_) #[Z,Z,Z,Z,Z,Y,Y,Y] rfl rfl (take_ofW G.out ah.out (by kernel_rfl)) (fun _ _ _ h=>h) (Or.inl ⟨by rfl,?_⟩) B ?_ ?_;rotate_left
           ·rintro w' ⟨s0,s1,s2,s3,s4,s5,s6,s7,s8,s9,aj,al⟩
            go_simp;with_reducible rfl
           rotate_left;·simp only[sP];rfl
           refine one_ (i:=5) (N:=none) #[Z,Z,Z,Z,Z,Z,Y,Y] rfl rfl (one_of G.out (by kernel_rfl)) (by decide) (fun K hK=>?_);have lD:w51.cell? ⟨ae,4,none⟩=some (.bool false):=(blk_cell C.out 4).trans rfl;have lE:=blk_frozen C.out 4;have lF:=A.out;have lG:=ac.out;have lH:w51.cell? ⟨ae,5,none⟩=some (.int .u64 0):=(blk_cell C.out 5).trans rfl;have lI:=blk_frozen C.out 5;have lJ:=A.out;have lK:=ac.out;have lL:w51.cell? ⟨ae,6,none⟩=some (.int .u64 0):=(blk_cell C.out 6).trans rfl;have lM:=blk_frozen C.out 6;have lN:=A.out;have lO:=ac.out;have lP:w51.cell? ⟨ae,7,none⟩=some (.int .i64 0):=(blk_cell C.out 7).trans rfl;have lQ:=blk_frozen C.out 7;have lR:=A.out;have lS:=ac.out;refine skip_ (w1:=?_) (by rfl) rfl ?_ ?_;rotate_left;·go_simp;rfl
           refine hK.out _ _ ⟨(cqf A.out ((cqf A.out ((cqf A.out ((cqf A.out (B.1)))))))),(cqf A.out ((cqf A.out ((cqf A.out ((cqf A.out (B.2.1)))))))),(cqf A.out ((cqf A.out ((cqf A.out ((cqf A.out (B.2.2.1)))))))),(cqf A.out ((cqf A.out ((cqf A.out ((cqf A.out (B.2.2.2.1)))))))),(cqf A.out ((cqf A.out ((cqf A.out ((cqf A.out (B.2.2.2.2.1)))))))),(cqf A.out ((cqf A.out ((cqf A.out ((cqf A.out (B.2.2.2.2.2.1)))))))),(cqf A.out ((cqf A.out ((cqf A.out ((cqf A.out (B.2.2.2.2.2.2.1)))))))),(cqf A.out ((cqf A.out ((cqf A.out ((cqf A.out (B.2.2.2.2.2.2.2.1)))))))),(cqf A.out ((cqf A.out ((cqf A.out ((cqf A.out (B.2.2.2.2.2.2.2.2.1)))))))),(cqf A.out ((cqf A.out ((cqf A.out ((cqf A.out (B.2.2.2.2.2.2.2.2.2.1)))))))),(cqf A.out ((cqf A.out ((cqf A.out ((cqf A.out (B.2.2.2.2.2.2.2.2.2.2.1)))))))),(cqf A.out ((cqf A.out ((cqf A.out ((cqf A.out (B.2.2.2.2.2.2.2.2.2.2.2))))))))⟩ (fun B=>?_);clear hK K;refine pz 6 54 #[Z,Z,Z,Z,Z,Z,Z,Y] G.out ?_
           refine one_ (i:=7) (N:=none) #[Z,Z,Z,Z,Z,Z,Z,Z] rfl rfl (one_of G.out (by kernel_rfl)) (by decide) (fun K hK=>?_);have lT:w51.cell? ⟨ae,8,none⟩=some (.int .u8 0):=(blk_cell C.out 8).trans rfl;have lU:=blk_frozen C.out 8;have lV:=A.out;have lW:=ac.out;have lX:w51.cell? ⟨ae,9,none⟩=some (.int .i64 0):=(blk_cell C.out 9).trans rfl;have lY:=blk_frozen C.out 9;have lZ:=A.out;have m2:=ac.out;refine skip_ (w1:=?_) (by rfl) rfl ?_ ?_;rotate_left;·go_simp;rfl
           refine hK.out _ _ ⟨(cqf A.out ((cqf A.out (B.1)))),(cqf A.out ((cqf A.out (B.2.1)))),(cqf A.out ((cqf A.out (B.2.2.1)))),(cqf A.out ((cqf A.out (B.2.2.2.1)))),(cqf A.out ((cqf A.out (B.2.2.2.2.1)))),(cqf A.out ((cqf A.out (B.2.2.2.2.2.1)))),(cqf A.out ((cqf A.out (B.2.2.2.2.2.2.1)))),(cqf A.out ((cqf A.out (B.2.2.2.2.2.2.2.1)))),(cqf A.out ((cqf A.out (B.2.2.2.2.2.2.2.2.1)))),(cqf A.out ((cqf A.out (B.2.2.2.2.2.2.2.2.2.1)))),(cqf A.out ((cqf A.out (B.2.2.2.2.2.2.2.2.2.2.1)))),(cqf A.out ((cqf A.out (B.2.2.2.2.2.2.2.2.2.2.2))))⟩ (fun B=>?_);clear hK K;refine done_ (done_of G.out (by kernel_rfl)) ?_;have m3:=A.out;have m4:=ac.out;obtain⟨m5,m6,m7,m8,m9,ma,mb,mc,me,mf,mg,mh,mi,mj,ml,mm,mo,mq,mr,ms,mt,mv,mw,mx⟩:=cl12 F;try go_wp2_with (first|((with_reducible refine gate_callee (f:=67) rfl ?_);refine goesL_ (some 57) rfl rfl Try.func67 (by kernel_rfl) rfl #[.agg #[.bool O,.int .u64 R,.int .u64 T,.int .i64 U]] rfl gS ?_;(with_reducible refine (spoorref09_Check.calls kj15 O R T U am _ aZ.out).mono ?_);rintro e my ⟨rfl,hb⟩;refine⟨_,rfl,?_⟩;replace F:=Bx6 F hb A.out A.out A.out A.out A.out A.out;replace C:=Ax (blk_below (g:=ae) (o:=.cells #[.int .u8 E,.int .i64 I,.int .u64 L,.int .i64 M,.bool O,.int .u64 R,.int .u64 T,.int .i64 U,.int .u8 aa,.int .i64 ab,.int .i64 0,.int .i64 0] 35 (0,0)) (gB C.out) hb);replace HB:=Bs2 HB hb af.out ag.out;(try clear hb);obtain⟨mz,mA,mB,mC,mD,mE,mF,mG,mH,mI,mJ,mK,mL,mM,mN,mO,mP,mQ,mR,mS,mT,mU,mV,mW⟩:=cl12 F)|(go_at_call 68;(with_reducible refine (spoorref11_Acts.calls aa ab true _ ba.out).mono ?_);rintro e mX ⟨rfl,hb⟩;replace F:=Bx0 F hb;replace C:=Bx0 C hb;replace HB:=Bs2 HB hb af.out ag.out;(try clear hb);obtain⟨mY,mZ,n3,n4,n5,n6,n7,n8,n9,na,nc,ne,nf,ng,nh,ni,nj,nk,nl,nm,nn,np,nr,nt⟩:=cl12 C;obtain⟨nu,nv,nw,nx,ny,nz,nA,nB,nC,nD,nE,nF,nG,nH,nI,nJ,nK,nL,nM,nN,nO,nP,nQ,nR⟩:=cl12 F))
           go_ret;exact⟨eS,bw2 HB.out af.out ag.out⟩
         ·replace b2:=Bool.eq_false_iff.mpr b2;subst b2;have H1:(some 2)=some r:=by rw [if_neg (show ¬ (false=true) by decide)]at H;exact H
          clear H;have H:=H1;clear H1;obtain rfl:=Option.some.inj H;try go_wp2
          replace F:=Ax (blk_drew F.out);replace C:=Ax (blk_drew C.out);replace HB:=Ax (below_drew1 HB.out);refine start_ (n:=8) (S:=fun w'=>w'.cell? ⟨D,0,none⟩=some (.int .u8 E)∧w'.cell? ⟨D,1,none⟩=some (.int .i64 I)∧w'.cell? ⟨D,2,none⟩=some (.int .u64 L)∧w'.cell? ⟨D,3,none⟩=some (.int .i64 M)∧w'.cell? ⟨D,4,none⟩=some (.bool O)∧w'.cell? ⟨D,5,none⟩=some (.int .u64 R)∧w'.cell? ⟨D,6,none⟩=some (.int .u64 T)∧w'.cell? ⟨D,7,none⟩=some (.int .i64 U)∧w'.cell? ⟨D,8,none⟩=some (.int .u8 aa)∧w'.cell? ⟨D,9,none⟩=some (.int .i64 ab)∧w'.cell? ⟨D,10,none⟩=some (.int .i64 V)∧w'.cell? ⟨D,11,none⟩=some (.int .i64 X)) (ds:= []) #[Y,Y,Y,Y,Y,Y,Y,Y] (by kernel_rfl) rfl rfl (bqc12 F.out) (fun B=>?_);refine with_tabW spoorref11_Check.tab10 spoorref11_Check.bits10 (fun G ah=>?_);generalize wc.drew=w65 at F C HB B ⊢;refine pz 0 49 #[Z,Y,Y,Y,Y,Y,Y,Y] G.out ?_
          refine pz 2 51 #[Z,Y,Z,Y,Y,Y,Y,Y] G.out ?_
          refine take_ (i:=1) (N:=some 50) (v:=?_) (a':=?_) #[Z,Z,Z,Y,Y,Y,Y,Y] rfl rfl (take_ofW G.out ah.out (by kernel_rfl)) (fun _ _ _ h=>h) (Or.inl ⟨by rfl,?_⟩) B ?_ ?_;rotate_left
          ·rintro w' ⟨s0,s1,s2,s3,s4,s5,s6,s7,s8,s9,aj,al⟩
           go_simp;with_reducible rfl
          rotate_left;·simp only[sP];rfl
          refine pz 4 53 #[Z,Z,Z,Y,Z,Y,Y,Y] G.out ?_
          refine take_ (i:=3) (N:=some 52) (v:=?_) (a':=?_) #[Z,Z,Z,Z,Z,Y,Y,Y] rfl rfl (take_ofW G.out ah.out (by kernel_rfl)) (fun _ _ _ h=>h) (Or.inl ⟨by rfl,?_⟩) B ?_ ?_;rotate_left
          ·rintro w' ⟨s0,s1,s2,s3,s4,s5,s6,s7,s8,s9,aj,al⟩
           go_simp;with_reducible rfl
          rotate_left;·simp only[sP];rfl
          refine one_ (i:=5) (N:=none) #[Z,Z,Z,Z,Z,Z,Y,Y] rfl rfl (one_of G.out (by kernel_rfl)) (by decide) (fun K hK=>?_);have nS:w65.cell? ⟨ae,4,none⟩=some (.bool false):=(blk_cell C.out 4).trans rfl;have nT:=blk_frozen C.out 4;have nU:=A.out;have nV:=ac.out;have nW:w65.cell? ⟨ae,5,none⟩=some (.int .u64 0):=(blk_cell C.out 5).trans rfl;have nX:=blk_frozen C.out 5;have nY:=A.out;have nZ:=ac.out;have o4:w65.cell? ⟨ae,6,none⟩=some (.int .u64 0):=(blk_cell C.out 6).trans rfl;have o5:=blk_frozen C.out 6;have o6:=A.out;have o7:=ac.out;have o8:w65.cell? ⟨ae,7,none⟩=some (.int .i64 0):=(blk_cell C.out 7).trans rfl;have o9:=blk_frozen C.out 7;have oa:=A.out;have ob:=ac.out;refine skip_ (w1:=?_) (by rfl) rfl ?_ ?_;rotate_left;·go_simp;rfl
          refine hK.out _ _ ⟨(cqf A.out ((cqf A.out ((cqf A.out ((cqf A.out (B.1)))))))),(cqf A.out ((cqf A.out ((cqf A.out ((cqf A.out (B.2.1)))))))),(cqf A.out ((cqf A.out ((cqf A.out ((cqf A.out (B.2.2.1)))))))),(cqf A.out ((cqf A.out ((cqf A.out ((cqf A.out (B.2.2.2.1)))))))),(cqf A.out ((cqf A.out ((cqf A.out ((cqf A.out (B.2.2.2.2.1)))))))),(cqf A.out ((cqf A.out ((cqf A.out ((cqf A.out (B.2.2.2.2.2.1)))))))),(cqf A.out ((cqf A.out ((cqf A.out ((cqf A.out (B.2.2.2.2.2.2.1)))))))),(cqf A.out ((cqf A.out ((cqf A.out ((cqf A.out (B.2.2.2.2.2.2.2.1)))))))),(cqf A.out ((cqf A.out ((cqf A.out ((cqf A.out (B.2.2.2.2.2.2.2.2.1)))))))),(cqf A.out ((cqf A.out ((cqf A.out ((cqf A.out (B.2.2.2.2.2.2.2.2.2.1)))))))),(cqf A.out ((cqf A.out ((cqf A.out ((cqf A.out (B.2.2.2.2.2.2.2.2.2.2.1)))))))),(cqf A.out ((cqf A.out ((cqf A.out ((cqf A.out (B.2.2.2.2.2.2.2.2.2.2.2))))))))⟩ (fun B=>?_);clear hK K;refine pz 6 54 #[Z,Z,Z,Z,Z,Z,Z,Y] G.out ?_
          refine one_ (i:=7) (N:=none) #[Z,Z,Z,Z,Z,Z,Z,Z] rfl rfl (one_of G.out (by kernel_rfl)) (by decide) (fun K hK=>?_);have oc:w65.cell? ⟨ae,8,none⟩=some (.int .u8 0):=(blk_cell C.out 8).trans rfl;have od:=blk_frozen C.out 8;have oe:=A.out;have og:=ac.out;have oh:w65.cell? ⟨ae,9,none⟩=some (.int .i64 0):=(blk_cell C.out 9).trans rfl;have ol:=blk_frozen C.out 9;have om:=A.out;have oo:=ac.out;refine skip_ (w1:=?_) (by rfl) rfl ?_ ?_;rotate_left;·go_simp;rfl
          refine hK.out _ _ ⟨(cqf A.out ((cqf A.out (B.1)))),(cqf A.out ((cqf A.out (B.2.1)))),(cqf A.out ((cqf A.out (B.2.2.1)))),(cqf A.out ((cqf A.out (B.2.2.2.1)))),(cqf A.out ((cqf A.out (B.2.2.2.2.1)))),(cqf A.out ((cqf A.out (B.2.2.2.2.2.1)))),(cqf A.out ((cqf A.out (B.2.2.2.2.2.2.1)))),(cqf A.out ((cqf A.out (B.2.2.2.2.2.2.2.1)))),(cqf A.out ((cqf A.out (B.2.2.2.2.2.2.2.2.1)))),(cqf A.out ((cqf A.out (B.2.2.2.2.2.2.2.2.2.1)))),(cqf A.out ((cqf A.out (B.2.2.2.2.2.2.2.2.2.2.1)))),(cqf A.out ((cqf A.out (B.2.2.2.2.2.2.2.2.2.2.2))))⟩ (fun B=>?_);clear hK K;refine done_ (done_of G.out (by kernel_rfl)) ?_;have oq:=A.out;have ot:=ac.out;obtain⟨ou,ov,ow,ox,oy,oz,oA,oC,oD,oE,oF,oG,oH,oI,oJ,oK,oL,oM,oN,oO,oP,oQ,oR,oS⟩:=cl12 F;try go_wp2_with (first|((with_reducible refine gate_callee (f:=67) rfl ?_);refine goesL_ (some 57) rfl rfl Try.func67 (by kernel_rfl) rfl #[.agg #[.bool O,.int .u64 R,.int .u64 T,.int .i64 U]] rfl gS ?_;(with_reducible refine (spoorref09_Check.calls kj15 O R T U am _ aZ.out).mono ?_);rintro e oT ⟨rfl,hb⟩;refine⟨_,rfl,?_⟩;replace F:=Bx6 F hb A.out A.out A.out A.out A.out A.out;replace C:=Ax (blk_below (g:=ae) (o:=.cells #[.int .u8 E,.int .i64 I,.int .u64 L,.int .i64 M,.bool O,.int .u64 R,.int .u64 T,.int .i64 U,.int .u8 aa,.int .i64 ab,.int .i64 0,.int .i64 0] 35 (0,0)) (gB C.out) hb);replace HB:=Bs2 HB hb af.out ag.out;(try clear hb);obtain⟨oU,oV,oW,oX,oY,oZ,p9,pa,pb,pc,pd,pf,pg,ph,pi,pj,pk,pl,pm,pn,po,pp,pq,pr⟩:=cl12 F)|(go_at_call 68;(with_reducible refine (spoorref11_Acts.calls aa ab false _ ba.out).mono ?_);rintro e pt ⟨rfl,hb⟩;replace F:=Bx0 F hb;replace C:=Bx0 C hb;replace HB:=Bs2 HB hb af.out ag.out;(try clear hb)))
          go_ret;exact⟨eS,bw2 HB.out af.out ag.out⟩
        ·rw [if_neg aC]at H;have fJ:(am==0)=false:=beq_eq_false_iff_ne.mpr aC;have fK:(am !=0)=true:=bne_iff_ne.mpr aC;obtain rfl:=Option.some.inj H;try go_wp2
         replace F:=Ax (blk_drew F.out);replace C:=Ax (blk_drew C.out);replace HB:=Ax (below_drew1 HB.out);refine start_ (n:=8) (S:=fun w'=>w'.cell? ⟨D,0,none⟩=some (.int .u8 E)∧w'.cell? ⟨D,1,none⟩=some (.int .i64 I)∧w'.cell? ⟨D,2,none⟩=some (.int .u64 L)∧w'.cell? ⟨D,3,none⟩=some (.int .i64 M)∧w'.cell? ⟨D,4,none⟩=some (.bool O)∧w'.cell? ⟨D,5,none⟩=some (.int .u64 R)∧w'.cell? ⟨D,6,none⟩=some (.int .u64 T)∧w'.cell? ⟨D,7,none⟩=some (.int .i64 U)∧w'.cell? ⟨D,8,none⟩=some (.int .u8 aa)∧w'.cell? ⟨D,9,none⟩=some (.int .i64 ab)∧w'.cell? ⟨D,10,none⟩=some (.int .i64 V)∧w'.cell? ⟨D,11,none⟩=some (.int .i64 X)) (ds:= []) #[Y,Y,Y,Y,Y,Y,Y,Y] (by kernel_rfl) rfl rfl (bqc12 F.out) (fun B=>?_);refine with_tabW spoorref11_Check.tab10 spoorref11_Check.bits10 (fun G ah=>?_);generalize wc.drew=w77 at F C HB B ⊢;refine pz 0 49 #[Z,Y,Y,Y,Y,Y,Y,Y] G.out ?_
         refine pz 2 51 #[Z,Y,Z,Y,Y,Y,Y,Y] G.out ?_
         refine take_ (i:=1) (N:=some 50) (v:=?_) (a':=?_) #[Z,Z,Z,Y,Y,Y,Y,Y] rfl rfl (take_ofW G.out ah.out (by kernel_rfl)) (fun _ _ _ h=>h) (Or.inl ⟨by rfl,?_⟩) B ?_ ?_;rotate_left
         ·rintro w' ⟨s0,s1,s2,s3,s4,s5,s6,s7,s8,s9,aj,al⟩
          go_simp;with_reducible rfl
         rotate_left;·simp only[sP];rfl
         refine pz 4 53 #[Z,Z,Z,Y,Z,Y,Y,Y] G.out ?_
         refine take_ (i:=3) (N:=some 52) (v:=?_) (a':=?_) #[Z,Z,Z,Z,Z,Y,Y,Y] rfl rfl (take_ofW G.out ah.out (by kernel_rfl)) (fun _ _ _ h=>h) (Or.inl ⟨by rfl,?_⟩) B ?_ ?_;rotate_left
         ·rintro w' ⟨s0,s1,s2,s3,s4,s5,s6,s7,s8,s9,aj,al⟩
          go_simp;with_reducible rfl
         rotate_left;·simp only[sP];rfl
         refine one_ (i:=5) (N:=none) #[Z,Z,Z,Z,Z,Z,Y,Y] rfl rfl (one_of G.out (by kernel_rfl)) (by decide) (fun K hK=>?_);have pv:w77.cell? ⟨ae,4,none⟩=some (.bool false):=(blk_cell C.out 4).trans rfl;have pw:=blk_frozen C.out 4;have px:=A.out;have pA:=ac.out;have pB:w77.cell? ⟨ae,5,none⟩=some (.int .u64 0):=(blk_cell C.out 5).trans rfl;have pC:=blk_frozen C.out 5;have pD:=A.out;have pE:=ac.out;have pF:w77.cell? ⟨ae,6,none⟩=some (.int .u64 0):=(blk_cell C.out 6).trans rfl;have pG:=blk_frozen C.out 6;have pH:=A.out;have pI:=ac.out;have pJ:w77.cell? ⟨ae,7,none⟩=some (.int .i64 0):=(blk_cell C.out 7).trans rfl;have pK:=blk_frozen C.out 7;have pL:=A.out;have pM:=ac.out;refine skip_ (w1:=?_) (by rfl) rfl ?_ ?_;rotate_left;·go_simp;rfl
         refine hK.out _ _ ⟨(cqf A.out ((cqf A.out ((cqf A.out ((cqf A.out (B.1)))))))),(cqf A.out ((cqf A.out ((cqf A.out ((cqf A.out (B.2.1)))))))),(cqf A.out ((cqf A.out ((cqf A.out ((cqf A.out (B.2.2.1)))))))),(cqf A.out ((cqf A.out ((cqf A.out ((cqf A.out (B.2.2.2.1)))))))),(cqf A.out ((cqf A.out ((cqf A.out ((cqf A.out (B.2.2.2.2.1)))))))),(cqf A.out ((cqf A.out ((cqf A.out ((cqf A.out (B.2.2.2.2.2.1)))))))),(cqf A.out ((cqf A.out ((cqf A.out ((cqf A.out (B.2.2.2.2.2.2.1)))))))),(cqf A.out ((cqf A.out ((cqf A.out ((cqf A.out (B.2.2.2.2.2.2.2.1)))))))),(cqf A.out ((cqf A.out ((cqf A.out ((cqf A.out (B.2.2.2.2.2.2.2.2.1)))))))),(cqf A.out ((cqf A.out ((cqf A.out ((cqf A.out (B.2.2.2.2.2.2.2.2.2.1)))))))),(cqf A.out ((cqf A.out ((cqf A.out ((cqf A.out (B.2.2.2.2.2.2.2.2.2.2.1)))))))),(cqf A.out ((cqf A.out ((cqf A.out ((cqf A.out (B.2.2.2.2.2.2.2.2.2.2.2))))))))⟩ (fun B=>?_);clear hK K;refine pz 6 54 #[Z,Z,Z,Z,Z,Z,Z,Y] G.out ?_
         refine one_ (i:=7) (N:=none) #[Z,Z,Z,Z,Z,Z,Z,Z] rfl rfl (one_of G.out (by kernel_rfl)) (by decide) (fun K hK=>?_);have pN:w77.cell? ⟨ae,8,none⟩=some (.int .u8 0):=(blk_cell C.out 8).trans rfl;have pO:=blk_frozen C.out 8;have pP:=A.out;have pQ:=ac.out;have pR:w77.cell? ⟨ae,9,none⟩=some (.int .i64 0):=(blk_cell C.out 9).trans rfl;have pS:=blk_frozen C.out 9;have pT:=A.out;have pU:=ac.out;refine skip_ (w1:=?_) (by rfl) rfl ?_ ?_;rotate_left;·go_simp;rfl
         refine hK.out _ _ ⟨(cqf A.out ((cqf A.out (B.1)))),(cqf A.out ((cqf A.out (B.2.1)))),(cqf A.out ((cqf A.out (B.2.2.1)))),(cqf A.out ((cqf A.out (B.2.2.2.1)))),(cqf A.out ((cqf A.out (B.2.2.2.2.1)))),(cqf A.out ((cqf A.out (B.2.2.2.2.2.1)))),(cqf A.out ((cqf A.out (B.2.2.2.2.2.2.1)))),(cqf A.out ((cqf A.out (B.2.2.2.2.2.2.2.1)))),(cqf A.out ((cqf A.out (B.2.2.2.2.2.2.2.2.1)))),(cqf A.out ((cqf A.out (B.2.2.2.2.2.2.2.2.2.1)))),(cqf A.out ((cqf A.out (B.2.2.2.2.2.2.2.2.2.2.1)))),(cqf A.out ((cqf A.out (B.2.2.2.2.2.2.2.2.2.2.2))))⟩ (fun B=>?_);clear hK K;refine done_ (done_of G.out (by kernel_rfl)) ?_;have pV:=A.out;have pW:=ac.out;obtain⟨pX,pY,pZ,q3,q5,q9,qa,qb,qc,qd,qe,qf,qg,qh,qi,qj,qk,ql,qm,qn,qo,qp,qq,qr⟩:=cl12 F;try go_wp2_with (first|((with_reducible refine gate_callee (f:=67) rfl ?_);refine goesL_ (some 57) rfl rfl Try.func67 (by kernel_rfl) rfl #[.agg #[.bool O,.int .u64 R,.int .u64 T,.int .i64 U]] rfl gS ?_;(with_reducible refine (spoorref09_Check.calls kj15 O R T U am _ aZ.out).mono ?_);rintro e qs ⟨rfl,hb⟩;refine⟨_,rfl,?_⟩;replace F:=Bx6 F hb A.out A.out A.out A.out A.out A.out;replace C:=Ax (blk_below (g:=ae) (o:=.cells #[.int .u8 E,.int .i64 I,.int .u64 L,.int .i64 M,.bool O,.int .u64 R,.int .u64 T,.int .i64 U,.int .u8 aa,.int .i64 ab,.int .i64 0,.int .i64 0] 35 (0,0)) (gB C.out) hb);replace HB:=Bs2 HB hb af.out ag.out;(try clear hb)))
         go_ret;exact⟨eS,bw2 HB.out af.out ag.out⟩
       ·rw [if_neg aA]at H;have fH:(E==3)=false:=beq_eq_false_iff_ne.mpr aA;have fI:(E !=3)=true:=bne_iff_ne.mpr aA;by_cases aD:E=4
        ·rw [if_pos aD]at H;have fN:(E==4)=true:=beq_iff_eq.mpr aD;have fO:(E !=4)=false:=bne_eq_false_iff_eq.mpr aD;clear aD;replace H:=bI H;obtain⟨ap,ea,H⟩:=H;(try dsimp only at H);have bb:=Ax ea;clear ea;by_cases aE:ap=0
         ·rw [if_pos aE]at H;have fP:(ap==0)=true:=beq_iff_eq.mpr aE;have fQ:(ap !=0)=false:=bne_eq_false_iff_eq.mpr aE;clear aE;by_cases aw:(!(E==E)||(!(I==I)||(!(L==L)||(!(M==M)||((!(0==aa)||(!(0==ab)))||(!(0==V)||(!(0==X))))))))=true
          ·rw [if_pos aw]at H;have fR:(!(E==E)||(!(I==I)||(!(L==L)||(!(M==M)||((!(0==aa)||(!(0==ab)))||(!(0==V)||(!(0==X))))))))=true:=aw
           (try (have fS:((!(0==aa)||(!(0==ab)))||(!(0==V)||(!(0==X))))=true:=by simpa using aw))
           clear aw;obtain rfl:=Option.some.inj H;have qt:=A.out;have qu:=ac.out;obtain⟨qv,qw,qx,qy,qz,qA,qB,qC,qD,qE,qF,qG,qH,qI,qJ,qK,qL,qM,qN,qO,qP,qQ,qR,qS⟩:=cl12 F;obtain⟨qT,qU,qV,qW,qX,qY,qZ,ra,rb,rc,re,rf,rg,rh,ri,rj,rk,rl,rm,rn,rp,rq,rr,rt⟩:=cl12 C;go_wp2_with (first|((with_reducible refine gate_callee (f:=67) rfl ?_);refine goesL_ (some 71) rfl rfl Try.func67 (by kernel_rfl) rfl #[.agg #[.bool O,.int .u64 R,.int .u64 T,.int .i64 U]] rfl gS ?_;(with_reducible refine (spoorref09_Check.calls kj15 O R T U ap _ bb.out).mono ?_);rintro e ru ⟨rfl,hb⟩;refine⟨_,rfl,?_⟩;replace F:=Bx4 F hb A.out A.out A.out A.out;replace C:=Ax (blk_below (g:=ae) (o:=.cells #[.int .u8 E,.int .i64 I,.int .u64 L,.int .i64 M,.bool O,.int .u64 R,.int .u64 T,.int .i64 U,.int .u8 0,.int .i64 0,.int .i64 0,.int .i64 0] 35 (0,0)) (gB C.out) hb);replace HB:=Bs2 HB hb af.out ag.out;(try clear hb);obtain⟨rv,rx,ry,rz,rA,rB,rC,rD,rE,rF,rG,rH,rI,rJ,rK,rL,rM,rN,rO,rP,rQ,rR,rT,rU⟩:=cl12 C;obtain⟨rV,rW,rX,rY,rZ,sa,sb,sc,sd,se,sf,sg,sh,si,sj,sk,sl,sm,sn,sp,sr,ss,st,su⟩:=cl12 F));go_ret;exact⟨eS,bw2 HB.out af.out ag.out⟩
          ·rw [if_neg aw]at H;have fR:(!(E==E)||(!(I==I)||(!(L==L)||(!(M==M)||((!(0==aa)||(!(0==ab)))||(!(0==V)||(!(0==X))))))))=false:=by simpa using aw
           (try (have fS:((!(0==aa)||(!(0==ab)))||(!(0==V)||(!(0==X))))=false:=by simpa using aw))
           clear aw;obtain rfl:=Option.some.inj H;have sv:=A.out;have sw:=ac.out;obtain⟨sx,sy,sA,sC,sD,sE,sF,sG,sH,sI,sJ,sK,sL,sM,sN,sO,sQ,sR,sS,sT,sU,sV,sW,sX⟩:=cl12 F;obtain⟨sY,sZ,t0,t7,t8,t9,ta,tb,tc,td,te,tf,tg,th,tj,tl,tm,tn,tp,tq,tt,tu,tv,tw⟩:=cl12 C;go_wp2_with (first|((with_reducible refine gate_callee (f:=67) rfl ?_);refine goesL_ (some 71) rfl rfl Try.func67 (by kernel_rfl) rfl #[.agg #[.bool O,.int .u64 R,.int .u64 T,.int .i64 U]] rfl gS ?_;(with_reducible refine (spoorref09_Check.calls kj15 O R T U ap _ bb.out).mono ?_);rintro e tx ⟨rfl,hb⟩;refine⟨_,rfl,?_⟩;replace F:=Bx4 F hb A.out A.out A.out A.out;replace C:=Ax (blk_below (g:=ae) (o:=.cells #[.int .u8 E,.int .i64 I,.int .u64 L,.int .i64 M,.bool O,.int .u64 R,.int .u64 T,.int .i64 U,.int .u8 0,.int .i64 0,.int .i64 0,.int .i64 0] 35 (0,0)) (gB C.out) hb);replace HB:=Bs2 HB hb af.out ag.out;(try clear hb);obtain⟨tz,tA,tB,tC,tD,tE,tF,tG,tH,tI,tJ,tK,tL,tM,tN,tO,tP,tQ,tR,tS,tT,tU,tV,tW⟩:=cl12 C;obtain⟨tX,tY,tZ,ua,ub,uc,ud,ue,uf,ug,uh,ui,uj,uk,ul,um,un,uo,up,uq,ur,us,ut,uu⟩:=cl12 F));go_ret;exact⟨eS,bw2 HB.out af.out ag.out⟩
         ·rw [if_neg aE]at H;have fP:(ap==0)=false:=beq_eq_false_iff_ne.mpr aE;have fQ:(ap !=0)=true:=bne_iff_ne.mpr aE;obtain rfl:=Option.some.inj H;have uv:=A.out;have uw:=ac.out;obtain⟨ux,uy,uz,uA,uB,uC,uD,uE,uF,uG,uH,uI,uJ,uK,uL,uM,uN,uO,uP,uQ,uR,uS,uT,uU⟩:=cl12 F;obtain⟨uV,uW,uX,uY,uZ,vk,vl,vm,vn,vo,vp,vq,vr,vs,vt,vu,vv,vw,vx,vy,vz,vA,vB,vC⟩:=cl12 C;go_wp2_with (first|((with_reducible refine gate_callee (f:=67) rfl ?_);refine goesL_ (some 71) rfl rfl Try.func67 (by kernel_rfl) rfl #[.agg #[.bool O,.int .u64 R,.int .u64 T,.int .i64 U]] rfl gS ?_;(with_reducible refine (spoorref09_Check.calls kj15 O R T U ap _ bb.out).mono ?_);rintro e vD ⟨rfl,hb⟩;refine⟨_,rfl,?_⟩;replace F:=Bx4 F hb A.out A.out A.out A.out;replace C:=Ax (blk_below (g:=ae) (o:=.cells #[.int .u8 E,.int .i64 I,.int .u64 L,.int .i64 M,.bool O,.int .u64 R,.int .u64 T,.int .i64 U,.int .u8 0,.int .i64 0,.int .i64 0,.int .i64 0] 35 (0,0)) (gB C.out) hb);replace HB:=Bs2 HB hb af.out ag.out;(try clear hb)));go_ret;exact⟨eS,bw2 HB.out af.out ag.out⟩
        ·rw [if_neg aD]at H;have fN:(E==4)=false:=beq_eq_false_iff_ne.mpr aD;have fO:(E !=4)=true:=bne_iff_ne.mpr aD;by_cases aG:E=5
         ·rw [if_pos aG]at H;have fT:(E==5)=true:=beq_iff_eq.mpr aG;have fU:(E !=5)=false:=bne_eq_false_iff_eq.mpr aG;clear aG;by_cases aJ:V ≥ 0
          ·rw [if_pos aJ]at H;have fV:decide (0≤V)=true:=dT aJ;clear aJ;by_cases aK:V≤65536
           ·rw [if_pos aK]at H;have fW:decide (V≤65536)=true:=dT aK;clear aK;by_cases aM:X ≥ 0
            ·rw [if_pos aM]at H;have fX:decide (0≤X)=true:=dT aM;clear aM;by_cases aN:X≤1048576
             ·rw [if_pos aN]at H;have fY:decide (X≤1048576)=true:=dT aN;clear aN;by_cases ax:(!(E==E)||(!(I==I)||(!(L==L)||(!(M==M)||((!(false==O)||((!(0==R)||(!(0==T)))||(!(0==U))))||((!(0==aa)||(!(0==ab)))))))))=true
              ·rw [if_pos ax]at H;have fZ:(!(E==E)||(!(I==I)||(!(L==L)||(!(M==M)||((!(false==O)||((!(0==R)||(!(0==T)))||(!(0==U))))||((!(0==aa)||(!(0==ab)))))))))=true:=ax
               (try (have g6:((O||((!(0==R)||(!(0==T)))||(!(0==U))))||((!(0==aa)||(!(0==ab)))))=true:=by simpa using ax))
               clear ax;obtain rfl:=Option.some.inj H;try go_wp2
               replace F:=Ax (blk_drew F.out);replace C:=Ax (blk_drew C.out);replace HB:=Ax (below_drew1 HB.out);refine start_ (n:=8) (S:=fun w'=>w'.cell? ⟨D,0,none⟩=some (.int .u8 E)∧w'.cell? ⟨D,1,none⟩=some (.int .i64 I)∧w'.cell? ⟨D,2,none⟩=some (.int .u64 L)∧w'.cell? ⟨D,3,none⟩=some (.int .i64 M)∧w'.cell? ⟨D,4,none⟩=some (.bool O)∧w'.cell? ⟨D,5,none⟩=some (.int .u64 R)∧w'.cell? ⟨D,6,none⟩=some (.int .u64 T)∧w'.cell? ⟨D,7,none⟩=some (.int .i64 U)∧w'.cell? ⟨D,8,none⟩=some (.int .u8 aa)∧w'.cell? ⟨D,9,none⟩=some (.int .i64 ab)∧w'.cell? ⟨D,10,none⟩=some (.int .i64 V)∧w'.cell? ⟨D,11,none⟩=some (.int .i64 X)) (ds:= []) #[Y,Y,Y,Y,Y,Y,Y,Y] (by kernel_rfl) rfl rfl (bqc12 F.out) (fun B=>?_);refine with_tabW spoorref11_Check.tab16 spoorref11_Check.bits16 (fun G ah=>?_);generalize wc.drew=w113 at F C HB B ⊢;refine pz 0 75 #[Z,Y,Y,Y,Y,Y,Y,Y] G.out ?_
               refine pz 2 77 #[Z,Y,Z,Y,Y,Y,Y,Y] G.out ?_
               refine take_ (i:=1) (N:=some 76) (v:=?_) (a':=?_) #[Z,Z,Z,Y,Y,Y,Y,Y] rfl rfl (take_ofW G.out ah.out (by kernel_rfl)) (fun _ _ _ h=>h) (Or.inl ⟨by rfl,?_⟩) B ?_ ?_;rotate_left
               ·rintro w' ⟨s0,s1,s2,s3,s4,s5,s6,s7,s8,s9,aj,al⟩
                go_simp;with_reducible rfl
               rotate_left;·simp only[sP];rfl
               refine pz 4 79 #[Z,Z,Z,Y,Z,Y,Y,Y] G.out ?_
               refine take_ (i:=3) (N:=some 78) (v:=?_) (a':=?_) #[Z,Z,Z,Z,Z,Y,Y,Y] rfl rfl (take_ofW G.out ah.out (by kernel_rfl)) (fun _ _ _ h=>h) (Or.inl ⟨by rfl,?_⟩) B ?_ ?_;rotate_left
               ·rintro w' ⟨s0,s1,s2,s3,s4,s5,s6,s7,s8,s9,aj,al⟩
                go_simp;with_reducible rfl
               rotate_left;·simp only[sP];rfl
               refine one_ (i:=5) (N:=none) #[Z,Z,Z,Z,Z,Z,Y,Y] rfl rfl (one_of G.out (by kernel_rfl)) (by decide) (fun K hK=>?_);have vE:w113.cell? ⟨ae,10,none⟩=some (.int .i64 0):=(blk_cell C.out 10).trans rfl;have vF:=blk_frozen C.out 10;have vG:=A.out;have vH:=ac.out;refine skip_ (w1:=?_) (by rfl) rfl ?_ ?_;rotate_left;·go_simp;rfl
               refine hK.out _ _ ⟨(cqf A.out (B.1)),(cqf A.out (B.2.1)),(cqf A.out (B.2.2.1)),(cqf A.out (B.2.2.2.1)),(cqf A.out (B.2.2.2.2.1)),(cqf A.out (B.2.2.2.2.2.1)),(cqf A.out (B.2.2.2.2.2.2.1)),(cqf A.out (B.2.2.2.2.2.2.2.1)),(cqf A.out (B.2.2.2.2.2.2.2.2.1)),(cqf A.out (B.2.2.2.2.2.2.2.2.2.1)),(cqf A.out (B.2.2.2.2.2.2.2.2.2.2.1)),(cqf A.out (B.2.2.2.2.2.2.2.2.2.2.2))⟩ (fun B=>?_);clear hK K;refine pz 6 80 #[Z,Z,Z,Z,Z,Z,Z,Y] G.out ?_
               refine one_ (i:=7) (N:=none) #[Z,Z,Z,Z,Z,Z,Z,Z] rfl rfl (one_of G.out (by kernel_rfl)) (by decide) (fun K hK=>?_);have vI:w113.cell? ⟨ae,11,none⟩=some (.int .i64 0):=(blk_cell C.out 11).trans rfl;have vJ:=blk_frozen C.out 11;have vK:=A.out;have vL:=ac.out;refine skip_ (w1:=?_) (by rfl) rfl ?_ ?_;rotate_left;·go_simp;rfl
               refine hK.out _ _ ⟨(cqf A.out (B.1)),(cqf A.out (B.2.1)),(cqf A.out (B.2.2.1)),(cqf A.out (B.2.2.2.1)),(cqf A.out (B.2.2.2.2.1)),(cqf A.out (B.2.2.2.2.2.1)),(cqf A.out (B.2.2.2.2.2.2.1)),(cqf A.out (B.2.2.2.2.2.2.2.1)),(cqf A.out (B.2.2.2.2.2.2.2.2.1)),(cqf A.out (B.2.2.2.2.2.2.2.2.2.1)),(cqf A.out (B.2.2.2.2.2.2.2.2.2.2.1)),(cqf A.out (B.2.2.2.2.2.2.2.2.2.2.2))⟩ (fun B=>?_);clear hK K;refine done_ (done_of G.out (by kernel_rfl)) ?_;have vM:=A.out;have vN:=ac.out;obtain⟨vO,vP,vQ,vR,vS,vT,vU,vV,vW,vX,vY,vZ,wa,wb,we,wg,wh,wi,wj,wk,wl,wm,wn,wo⟩:=cl12 F;obtain⟨wq,ws,wt,wu,wv,ww,wx,wy,wz,wA,wB,wC,wD,wE,wF,wG,wH,wI,wJ,wK,wL,wM,wN,wO⟩:=cl12 C;try go_wp2
               go_ret;exact⟨eS,bw2 HB.out af.out ag.out⟩
              ·rw [if_neg ax]at H;have fZ:(!(E==E)||(!(I==I)||(!(L==L)||(!(M==M)||((!(false==O)||((!(0==R)||(!(0==T)))||(!(0==U))))||((!(0==aa)||(!(0==ab)))))))))=false:=by simpa using ax
               (try (have g6:((O||((!(0==R)||(!(0==T)))||(!(0==U))))||((!(0==aa)||(!(0==ab)))))=false:=by simpa using ax))
               clear ax;obtain rfl:=Option.some.inj H;try go_wp2
               replace F:=Ax (blk_drew F.out);replace C:=Ax (blk_drew C.out);replace HB:=Ax (below_drew1 HB.out);refine start_ (n:=8) (S:=fun w'=>w'.cell? ⟨D,0,none⟩=some (.int .u8 E)∧w'.cell? ⟨D,1,none⟩=some (.int .i64 I)∧w'.cell? ⟨D,2,none⟩=some (.int .u64 L)∧w'.cell? ⟨D,3,none⟩=some (.int .i64 M)∧w'.cell? ⟨D,4,none⟩=some (.bool O)∧w'.cell? ⟨D,5,none⟩=some (.int .u64 R)∧w'.cell? ⟨D,6,none⟩=some (.int .u64 T)∧w'.cell? ⟨D,7,none⟩=some (.int .i64 U)∧w'.cell? ⟨D,8,none⟩=some (.int .u8 aa)∧w'.cell? ⟨D,9,none⟩=some (.int .i64 ab)∧w'.cell? ⟨D,10,none⟩=some (.int .i64 V)∧w'.cell? ⟨D,11,none⟩=some (.int .i64 X)) (ds:= []) #[Y,Y,Y,Y,Y,Y,Y,Y] (by kernel_rfl) rfl rfl (bqc12 F.out) (fun B=>?_);refine with_tabW spoorref11_Check.tab16 spoorref11_Check.bits16 (fun G ah=>?_);generalize wc.drew=w119 at F C HB B ⊢;refine pz 0 75 #[Z,Y,Y,Y,Y,Y,Y,Y] G.out ?_
               refine pz 2 77 #[Z,Y,Z,Y,Y,Y,Y,Y] G.out ?_
               refine take_ (i:=1) (N:=some 76) (v:=?_) (a':=?_) #[Z,Z,Z,Y,Y,Y,Y,Y] rfl rfl (take_ofW G.out ah.out (by kernel_rfl)) (fun _ _ _ h=>h) (Or.inl ⟨by rfl,?_⟩) B ?_ ?_;rotate_left
               ·rintro w' ⟨s0,s1,s2,s3,s4,s5,s6,s7,s8,s9,aj,al⟩
                go_simp;with_reducible rfl
               rotate_left;·simp only[sP];rfl
               refine pz 4 79 #[Z,Z,Z,Y,Z,Y,Y,Y] G.out ?_
               refine take_ (i:=3) (N:=some 78) (v:=?_) (a':=?_) #[Z,Z,Z,Z,Z,Y,Y,Y] rfl rfl (take_ofW G.out ah.out (by kernel_rfl)) (fun _ _ _ h=>h) (Or.inl ⟨by rfl,?_⟩) B ?_ ?_;rotate_left
               ·rintro w' ⟨s0,s1,s2,s3,s4,s5,s6,s7,s8,s9,aj,al⟩
                go_simp;with_reducible rfl
               rotate_left;·simp only[sP];rfl
               refine one_ (i:=5) (N:=none) #[Z,Z,Z,Z,Z,Z,Y,Y] rfl rfl (one_of G.out (by kernel_rfl)) (by decide) (fun K hK=>?_);have wP:w119.cell? ⟨ae,10,none⟩=some (.int .i64 0):=(blk_cell C.out 10).trans rfl;have wQ:=blk_frozen C.out 10;have wR:=A.out;have wS:=ac.out;refine skip_ (w1:=?_) (by rfl) rfl ?_ ?_;rotate_left;·go_simp;rfl
               refine hK.out _ _ ⟨(cqf A.out (B.1)),(cqf A.out (B.2.1)),(cqf A.out (B.2.2.1)),(cqf A.out (B.2.2.2.1)),(cqf A.out (B.2.2.2.2.1)),(cqf A.out (B.2.2.2.2.2.1)),(cqf A.out (B.2.2.2.2.2.2.1)),(cqf A.out (B.2.2.2.2.2.2.2.1)),(cqf A.out (B.2.2.2.2.2.2.2.2.1)),(cqf A.out (B.2.2.2.2.2.2.2.2.2.1)),(cqf A.out (B.2.2.2.2.2.2.2.2.2.2.1)),(cqf A.out (B.2.2.2.2.2.2.2.2.2.2.2))⟩ (fun B=>?_);clear hK K;refine pz 6 80 #[Z,Z,Z,Z,Z,Z,Z,Y] G.out ?_
               refine one_ (i:=7) (N:=none) #[Z,Z,Z,Z,Z,Z,Z,Z] rfl rfl (one_of G.out (by kernel_rfl)) (by decide) (fun K hK=>?_);have wT:w119.cell? ⟨ae,11,none⟩=some (.int .i64 0):=(blk_cell C.out 11).trans rfl;have wU:=blk_frozen C.out 11;have wV:=A.out;have wW:=ac.out;refine skip_ (w1:=?_) (by rfl) rfl ?_ ?_;rotate_left;·go_simp;rfl
               refine hK.out _ _ ⟨(cqf A.out (B.1)),(cqf A.out (B.2.1)),(cqf A.out (B.2.2.1)),(cqf A.out (B.2.2.2.1)),(cqf A.out (B.2.2.2.2.1)),(cqf A.out (B.2.2.2.2.2.1)),(cqf A.out (B.2.2.2.2.2.2.1)),(cqf A.out (B.2.2.2.2.2.2.2.1)),(cqf A.out (B.2.2.2.2.2.2.2.2.1)),(cqf A.out (B.2.2.2.2.2.2.2.2.2.1)),(cqf A.out (B.2.2.2.2.2.2.2.2.2.2.1)),(cqf A.out (B.2.2.2.2.2.2.2.2.2.2.2))⟩ (fun B=>?_);clear hK K;refine done_ (done_of G.out (by kernel_rfl)) ?_;have wX:=A.out;have wY:=ac.out;obtain⟨wZ,xa,xb,xc,xd,xe,xf,xg,xh,xi,xj,xk,xl,xm,xn,xo,xp,xq,xr,xt,xu,xv,xw,xx⟩:=cl12 F;obtain⟨xy,xz,xA,xB,xC,xD,xE,xF,xG,xH,xI,xJ,xK,xL,xM,xN,xO,xP,xQ,xR,xS,xT,xU,xV⟩:=cl12 C;try go_wp2
               go_ret;exact⟨eS,bw2 HB.out af.out ag.out⟩
             ·rw [if_neg aN]at H;have fY:decide (X≤1048576)=false:=dF aN;clear aN;obtain rfl:=Option.some.inj H;try go_wp2
              replace F:=Ax (blk_drew F.out);replace C:=Ax (blk_drew C.out);replace HB:=Ax (below_drew1 HB.out);refine start_ (n:=8) (S:=fun w'=>w'.cell? ⟨D,0,none⟩=some (.int .u8 E)∧w'.cell? ⟨D,1,none⟩=some (.int .i64 I)∧w'.cell? ⟨D,2,none⟩=some (.int .u64 L)∧w'.cell? ⟨D,3,none⟩=some (.int .i64 M)∧w'.cell? ⟨D,4,none⟩=some (.bool O)∧w'.cell? ⟨D,5,none⟩=some (.int .u64 R)∧w'.cell? ⟨D,6,none⟩=some (.int .u64 T)∧w'.cell? ⟨D,7,none⟩=some (.int .i64 U)∧w'.cell? ⟨D,8,none⟩=some (.int .u8 aa)∧w'.cell? ⟨D,9,none⟩=some (.int .i64 ab)∧w'.cell? ⟨D,10,none⟩=some (.int .i64 V)∧w'.cell? ⟨D,11,none⟩=some (.int .i64 X)) (ds:= []) #[Y,Y,Y,Y,Y,Y,Y,Y] (by kernel_rfl) rfl rfl (bqc12 F.out) (fun B=>?_);refine with_tabW spoorref11_Check.tab16 spoorref11_Check.bits16 (fun G ah=>?_);generalize wc.drew=w125 at F C HB B ⊢;refine pz 0 75 #[Z,Y,Y,Y,Y,Y,Y,Y] G.out ?_
              refine pz 2 77 #[Z,Y,Z,Y,Y,Y,Y,Y] G.out ?_
              refine take_ (i:=1) (N:=some 76) (v:=?_) (a':=?_) #[Z,Z,Z,Y,Y,Y,Y,Y] rfl rfl (take_ofW G.out ah.out (by kernel_rfl)) (fun _ _ _ h=>h) (Or.inl ⟨by rfl,?_⟩) B ?_ ?_;rotate_left
              ·rintro w' ⟨s0,s1,s2,s3,s4,s5,s6,s7,s8,s9,aj,al⟩
               go_simp;with_reducible rfl
              rotate_left;·simp only[sP];rfl
              refine pz 4 79 #[Z,Z,Z,Y,Z,Y,Y,Y] G.out ?_
              refine take_ (i:=3) (N:=some 78) (v:=?_) (a':=?_) #[Z,Z,Z,Z,Z,Y,Y,Y] rfl rfl (take_ofW G.out ah.out (by kernel_rfl)) (fun _ _ _ h=>h) (Or.inl ⟨by rfl,?_⟩) B ?_ ?_;rotate_left
              ·rintro w' ⟨s0,s1,s2,s3,s4,s5,s6,s7,s8,s9,aj,al⟩
               go_simp;with_reducible rfl
              rotate_left;·simp only[sP];rfl
              refine one_ (i:=5) (N:=none) #[Z,Z,Z,Z,Z,Z,Y,Y] rfl rfl (one_of G.out (by kernel_rfl)) (by decide) (fun K hK=>?_);have xW:w125.cell? ⟨ae,10,none⟩=some (.int .i64 0):=(blk_cell C.out 10).trans rfl;have xX:=blk_frozen C.out 10;have xY:=A.out;have xZ:=ac.out;refine skip_ (w1:=?_) (by rfl) rfl ?_ ?_;rotate_left;·go_simp;rfl
              refine hK.out _ _ ⟨(cqf A.out (B.1)),(cqf A.out (B.2.1)),(cqf A.out (B.2.2.1)),(cqf A.out (B.2.2.2.1)),(cqf A.out (B.2.2.2.2.1)),(cqf A.out (B.2.2.2.2.2.1)),(cqf A.out (B.2.2.2.2.2.2.1)),(cqf A.out (B.2.2.2.2.2.2.2.1)),(cqf A.out (B.2.2.2.2.2.2.2.2.1)),(cqf A.out (B.2.2.2.2.2.2.2.2.2.1)),(cqf A.out (B.2.2.2.2.2.2.2.2.2.2.1)),(cqf A.out (B.2.2.2.2.2.2.2.2.2.2.2))⟩ (fun B=>?_);clear hK K;refine pz 6 80 #[Z,Z,Z,Z,Z,Z,Z,Y] G.out ?_
              refine one_ (i:=7) (N:=none) #[Z,Z,Z,Z,Z,Z,Z,Z] rfl rfl (one_of G.out (by kernel_rfl)) (by decide) (fun K hK=>?_);have ya:w125.cell? ⟨ae,11,none⟩=some (.int .i64 0):=(blk_cell C.out 11).trans rfl;have yb:=blk_frozen C.out 11;have yc:=A.out;have yd:=ac.out;refine skip_ (w1:=?_) (by rfl) rfl ?_ ?_;rotate_left;·go_simp;rfl
              refine hK.out _ _ ⟨(cqf A.out (B.1)),(cqf A.out (B.2.1)),(cqf A.out (B.2.2.1)),(cqf A.out (B.2.2.2.1)),(cqf A.out (B.2.2.2.2.1)),(cqf A.out (B.2.2.2.2.2.1)),(cqf A.out (B.2.2.2.2.2.2.1)),(cqf A.out (B.2.2.2.2.2.2.2.1)),(cqf A.out (B.2.2.2.2.2.2.2.2.1)),(cqf A.out (B.2.2.2.2.2.2.2.2.2.1)),(cqf A.out (B.2.2.2.2.2.2.2.2.2.2.1)),(cqf A.out (B.2.2.2.2.2.2.2.2.2.2.2))⟩ (fun B=>?_);clear hK K;refine done_ (done_of G.out (by kernel_rfl)) ?_;have ye:=A.out;have yf:=ac.out;obtain⟨yg,yh,yi,yj,yk,yl,ym,yn,yo,yp,yq,yr,yt,yu,yv,yw,yx,yy,yz,yA,yB,yC,yD,yE⟩:=cl12 F;try go_wp2
              go_ret;exact⟨eS,bw2 HB.out af.out ag.out⟩
            ·rw [if_neg aM]at H;have fX:decide (0≤X)=false:=dF aM;clear aM;obtain rfl:=Option.some.inj H;try go_wp2
             replace F:=Ax (blk_drew F.out);replace C:=Ax (blk_drew C.out);replace HB:=Ax (below_drew1 HB.out);refine start_ (n:=8) (S:=fun w'=>w'.cell? ⟨D,0,none⟩=some (.int .u8 E)∧w'.cell? ⟨D,1,none⟩=some (.int .i64 I)∧w'.cell? ⟨D,2,none⟩=some (.int .u64 L)∧w'.cell? ⟨D,3,none⟩=some (.int .i64 M)∧w'.cell? ⟨D,4,none⟩=some (.bool O)∧w'.cell? ⟨D,5,none⟩=some (.int .u64 R)∧w'.cell? ⟨D,6,none⟩=some (.int .u64 T)∧w'.cell? ⟨D,7,none⟩=some (.int .i64 U)∧w'.cell? ⟨D,8,none⟩=some (.int .u8 aa)∧w'.cell? ⟨D,9,none⟩=some (.int .i64 ab)∧w'.cell? ⟨D,10,none⟩=some (.int .i64 V)∧w'.cell? ⟨D,11,none⟩=some (.int .i64 X)) (ds:= []) #[Y,Y,Y,Y,Y,Y,Y,Y] (by kernel_rfl) rfl rfl (bqc12 F.out) (fun B=>?_);refine with_tabW spoorref11_Check.tab16 spoorref11_Check.bits16 (fun G ah=>?_);generalize wc.drew=w130 at F C HB B ⊢;refine pz 0 75 #[Z,Y,Y,Y,Y,Y,Y,Y] G.out ?_
             refine pz 2 77 #[Z,Y,Z,Y,Y,Y,Y,Y] G.out ?_
             refine take_ (i:=1) (N:=some 76) (v:=?_) (a':=?_) #[Z,Z,Z,Y,Y,Y,Y,Y] rfl rfl (take_ofW G.out ah.out (by kernel_rfl)) (fun _ _ _ h=>h) (Or.inl ⟨by rfl,?_⟩) B ?_ ?_;rotate_left
             ·rintro w' ⟨s0,s1,s2,s3,s4,s5,s6,s7,s8,s9,aj,al⟩
              go_simp;with_reducible rfl
             rotate_left;·simp only[sP];rfl
             refine pz 4 79 #[Z,Z,Z,Y,Z,Y,Y,Y] G.out ?_
             refine take_ (i:=3) (N:=some 78) (v:=?_) (a':=?_) #[Z,Z,Z,Z,Z,Y,Y,Y] rfl rfl (take_ofW G.out ah.out (by kernel_rfl)) (fun _ _ _ h=>h) (Or.inl ⟨by rfl,?_⟩) B ?_ ?_;rotate_left
             ·rintro w' ⟨s0,s1,s2,s3,s4,s5,s6,s7,s8,s9,aj,al⟩
              go_simp;with_reducible rfl
             rotate_left;·simp only[sP];rfl
             refine one_ (i:=5) (N:=none) #[Z,Z,Z,Z,Z,Z,Y,Y] rfl rfl (one_of G.out (by kernel_rfl)) (by decide) (fun K hK=>?_);have yF:w130.cell? ⟨ae,10,none⟩=some (.int .i64 0):=(blk_cell C.out 10).trans rfl;have yG:=blk_frozen C.out 10;have yH:=A.out;have yI:=ac.out;refine skip_ (w1:=?_) (by rfl) rfl ?_ ?_;rotate_left;·go_simp;rfl
             refine hK.out _ _ ⟨(cqf A.out (B.1)),(cqf A.out (B.2.1)),(cqf A.out (B.2.2.1)),(cqf A.out (B.2.2.2.1)),(cqf A.out (B.2.2.2.2.1)),(cqf A.out (B.2.2.2.2.2.1)),(cqf A.out (B.2.2.2.2.2.2.1)),(cqf A.out (B.2.2.2.2.2.2.2.1)),(cqf A.out (B.2.2.2.2.2.2.2.2.1)),(cqf A.out (B.2.2.2.2.2.2.2.2.2.1)),(cqf A.out (B.2.2.2.2.2.2.2.2.2.2.1)),(cqf A.out (B.2.2.2.2.2.2.2.2.2.2.2))⟩ (fun B=>?_);clear hK K;refine pz 6 80 #[Z,Z,Z,Z,Z,Z,Z,Y] G.out ?_
             refine one_ (i:=7) (N:=none) #[Z,Z,Z,Z,Z,Z,Z,Z] rfl rfl (one_of G.out (by kernel_rfl)) (by decide) (fun K hK=>?_);have yJ:w130.cell? ⟨ae,11,none⟩=some (.int .i64 0):=(blk_cell C.out 11).trans rfl;have yK:=blk_frozen C.out 11;have yL:=A.out;have yM:=ac.out;refine skip_ (w1:=?_) (by rfl) rfl ?_ ?_;rotate_left;·go_simp;rfl
             refine hK.out _ _ ⟨(cqf A.out (B.1)),(cqf A.out (B.2.1)),(cqf A.out (B.2.2.1)),(cqf A.out (B.2.2.2.1)),(cqf A.out (B.2.2.2.2.1)),(cqf A.out (B.2.2.2.2.2.1)),(cqf A.out (B.2.2.2.2.2.2.1)),(cqf A.out (B.2.2.2.2.2.2.2.1)),(cqf A.out (B.2.2.2.2.2.2.2.2.1)),(cqf A.out (B.2.2.2.2.2.2.2.2.2.1)),(cqf A.out (B.2.2.2.2.2.2.2.2.2.2.1)),(cqf A.out (B.2.2.2.2.2.2.2.2.2.2.2))⟩ (fun B=>?_);clear hK K;refine done_ (done_of G.out (by kernel_rfl)) ?_;have yN:=A.out;have yO:=ac.out;obtain⟨yP,yQ,yR,yS,yT,yU,yV,yW,yX,yY,yZ,z4,z5,z6,z7,z8,z9,za,zb,zc,zd,ze,zf,zg⟩:=cl12 F;try go_wp2
             go_ret;exact⟨eS,bw2 HB.out af.out ag.out⟩
           ·rw [if_neg aK]at H;have fW:decide (V≤65536)=false:=dF aK;clear aK;obtain rfl:=Option.some.inj H;try go_wp2
            replace F:=Ax (blk_drew F.out);replace C:=Ax (blk_drew C.out);replace HB:=Ax (below_drew1 HB.out);refine start_ (n:=8) (S:=fun w'=>w'.cell? ⟨D,0,none⟩=some (.int .u8 E)∧w'.cell? ⟨D,1,none⟩=some (.int .i64 I)∧w'.cell? ⟨D,2,none⟩=some (.int .u64 L)∧w'.cell? ⟨D,3,none⟩=some (.int .i64 M)∧w'.cell? ⟨D,4,none⟩=some (.bool O)∧w'.cell? ⟨D,5,none⟩=some (.int .u64 R)∧w'.cell? ⟨D,6,none⟩=some (.int .u64 T)∧w'.cell? ⟨D,7,none⟩=some (.int .i64 U)∧w'.cell? ⟨D,8,none⟩=some (.int .u8 aa)∧w'.cell? ⟨D,9,none⟩=some (.int .i64 ab)∧w'.cell? ⟨D,10,none⟩=some (.int .i64 V)∧w'.cell? ⟨D,11,none⟩=some (.int .i64 X)) (ds:= []) #[Y,Y,Y,Y,Y,Y,Y,Y] (by kernel_rfl) rfl rfl (bqc12 F.out) (fun B=>?_);refine with_tabW spoorref11_Check.tab16 spoorref11_Check.bits16 (fun G ah=>?_);generalize wc.drew=w135 at F C HB B ⊢;refine pz 0 75 #[Z,Y,Y,Y,Y,Y,Y,Y] G.out ?_
            refine pz 2 77 #[Z,Y,Z,Y,Y,Y,Y,Y] G.out ?_
            refine take_ (i:=1) (N:=some 76) (v:=?_) (a':=?_) #[Z,Z,Z,Y,Y,Y,Y,Y] rfl rfl (take_ofW G.out ah.out (by kernel_rfl)) (fun _ _ _ h=>h) (Or.inl ⟨by rfl,?_⟩) B ?_ ?_;rotate_left
            ·rintro w' ⟨s0,s1,s2,s3,s4,s5,s6,s7,s8,s9,aj,al⟩
             go_simp;with_reducible rfl
            rotate_left;·simp only[sP];rfl
            refine pz 4 79 #[Z,Z,Z,Y,Z,Y,Y,Y] G.out ?_
            refine take_ (i:=3) (N:=some 78) (v:=?_) (a':=?_) #[Z,Z,Z,Z,Z,Y,Y,Y] rfl rfl (take_ofW G.out ah.out (by kernel_rfl)) (fun _ _ _ h=>h) (Or.inl ⟨by rfl,?_⟩) B ?_ ?_;rotate_left
            ·rintro w' ⟨s0,s1,s2,s3,s4,s5,s6,s7,s8,s9,aj,al⟩
             go_simp;with_reducible rfl
            rotate_left;·simp only[sP];rfl
            refine one_ (i:=5) (N:=none) #[Z,Z,Z,Z,Z,Z,Y,Y] rfl rfl (one_of G.out (by kernel_rfl)) (by decide) (fun K hK=>?_);have zh:w135.cell? ⟨ae,10,none⟩=some (.int .i64 0):=(blk_cell C.out 10).trans rfl;have zi:=blk_frozen C.out 10;have zj:=A.out;have zk:=ac.out;refine skip_ (w1:=?_) (by rfl) rfl ?_ ?_;rotate_left;·go_simp;rfl
            refine hK.out _ _ ⟨(cqf A.out (B.1)),(cqf A.out (B.2.1)),(cqf A.out (B.2.2.1)),(cqf A.out (B.2.2.2.1)),(cqf A.out (B.2.2.2.2.1)),(cqf A.out (B.2.2.2.2.2.1)),(cqf A.out (B.2.2.2.2.2.2.1)),(cqf A.out (B.2.2.2.2.2.2.2.1)),(cqf A.out (B.2.2.2.2.2.2.2.2.1)),(cqf A.out (B.2.2.2.2.2.2.2.2.2.1)),(cqf A.out (B.2.2.2.2.2.2.2.2.2.2.1)),(cqf A.out (B.2.2.2.2.2.2.2.2.2.2.2))⟩ (fun B=>?_);clear hK K;refine pz 6 80 #[Z,Z,Z,Z,Z,Z,Z,Y] G.out ?_
            refine one_ (i:=7) (N:=none) #[Z,Z,Z,Z,Z,Z,Z,Z] rfl rfl (one_of G.out (by kernel_rfl)) (by decide) (fun K hK=>?_);have zl:w135.cell? ⟨ae,11,none⟩=some (.int .i64 0):=(blk_cell C.out 11).trans rfl;have zm:=blk_frozen C.out 11;have zn:=A.out;have zo:=ac.out;refine skip_ (w1:=?_) (by rfl) rfl ?_ ?_;rotate_left;·go_simp;rfl
            refine hK.out _ _ ⟨(cqf A.out (B.1)),(cqf A.out (B.2.1)),(cqf A.out (B.2.2.1)),(cqf A.out (B.2.2.2.1)),(cqf A.out (B.2.2.2.2.1)),(cqf A.out (B.2.2.2.2.2.1)),(cqf A.out (B.2.2.2.2.2.2.1)),(cqf A.out (B.2.2.2.2.2.2.2.1)),(cqf A.out (B.2.2.2.2.2.2.2.2.1)),(cqf A.out (B.2.2.2.2.2.2.2.2.2.1)),(cqf A.out (B.2.2.2.2.2.2.2.2.2.2.1)),(cqf A.out (B.2.2.2.2.2.2.2.2.2.2.2))⟩ (fun B=>?_);clear hK K;refine done_ (done_of G.out (by kernel_rfl)) ?_;have zp:=A.out;have zq:=ac.out;obtain⟨zr,zs,zt,zu,zv,zw,zx,zy,zz,zA,zB,zC,zD,zF,zG,zH,zI,zJ,zK,zL,zM,zN,zO,zP⟩:=cl12 F;try go_wp2
            go_ret;exact⟨eS,bw2 HB.out af.out ag.out⟩
          ·rw [if_neg aJ]at H;have fV:decide (0≤V)=false:=dF aJ;clear aJ;obtain rfl:=Option.some.inj H;try go_wp2
           replace F:=Ax (blk_drew F.out);replace C:=Ax (blk_drew C.out);replace HB:=Ax (below_drew1 HB.out);refine start_ (n:=8) (S:=fun w'=>w'.cell? ⟨D,0,none⟩=some (.int .u8 E)∧w'.cell? ⟨D,1,none⟩=some (.int .i64 I)∧w'.cell? ⟨D,2,none⟩=some (.int .u64 L)∧w'.cell? ⟨D,3,none⟩=some (.int .i64 M)∧w'.cell? ⟨D,4,none⟩=some (.bool O)∧w'.cell? ⟨D,5,none⟩=some (.int .u64 R)∧w'.cell? ⟨D,6,none⟩=some (.int .u64 T)∧w'.cell? ⟨D,7,none⟩=some (.int .i64 U)∧w'.cell? ⟨D,8,none⟩=some (.int .u8 aa)∧w'.cell? ⟨D,9,none⟩=some (.int .i64 ab)∧w'.cell? ⟨D,10,none⟩=some (.int .i64 V)∧w'.cell? ⟨D,11,none⟩=some (.int .i64 X)) (ds:= []) #[Y,Y,Y,Y,Y,Y,Y,Y] (by kernel_rfl) rfl rfl (bqc12 F.out) (fun B=>?_);refine with_tabW spoorref11_Check.tab16 spoorref11_Check.bits16 (fun G ah=>?_);generalize wc.drew=w140 at F C HB B ⊢;refine pz 0 75 #[Z,Y,Y,Y,Y,Y,Y,Y] G.out ?_
           refine pz 2 77 #[Z,Y,Z,Y,Y,Y,Y,Y] G.out ?_
           refine take_ (i:=1) (N:=some 76) (v:=?_) (a':=?_) #[Z,Z,Z,Y,Y,Y,Y,Y] rfl rfl (take_ofW G.out ah.out (by kernel_rfl)) (fun _ _ _ h=>h) (Or.inl ⟨by rfl,?_⟩) B ?_ ?_;rotate_left
           ·rintro w' ⟨s0,s1,s2,s3,s4,s5,s6,s7,s8,s9,aj,al⟩
            go_simp;with_reducible rfl
           rotate_left;·simp only[sP];rfl
           refine pz 4 79 #[Z,Z,Z,Y,Z,Y,Y,Y] G.out ?_
           refine take_ (i:=3) (N:=some 78) (v:=?_) (a':=?_) #[Z,Z,Z,Z,Z,Y,Y,Y] rfl rfl (take_ofW G.out ah.out (by kernel_rfl)) (fun _ _ _ h=>h) (Or.inl ⟨by rfl,?_⟩) B ?_ ?_;rotate_left
           ·rintro w' ⟨s0,s1,s2,s3,s4,s5,s6,s7,s8,s9,aj,al⟩
            go_simp;with_reducible rfl
           rotate_left;·simp only[sP];rfl
           refine one_ (i:=5) (N:=none) #[Z,Z,Z,Z,Z,Z,Y,Y] rfl rfl (one_of G.out (by kernel_rfl)) (by decide) (fun K hK=>?_);have zQ:w140.cell? ⟨ae,10,none⟩=some (.int .i64 0):=(blk_cell C.out 10).trans rfl;have zR:=blk_frozen C.out 10;have zS:=A.out;have zT:=ac.out;refine skip_ (w1:=?_) (by rfl) rfl ?_ ?_;rotate_left;·go_simp;rfl
           refine hK.out _ _ ⟨(cqf A.out (B.1)),(cqf A.out (B.2.1)),(cqf A.out (B.2.2.1)),(cqf A.out (B.2.2.2.1)),(cqf A.out (B.2.2.2.2.1)),(cqf A.out (B.2.2.2.2.2.1)),(cqf A.out (B.2.2.2.2.2.2.1)),(cqf A.out (B.2.2.2.2.2.2.2.1)),(cqf A.out (B.2.2.2.2.2.2.2.2.1)),(cqf A.out (B.2.2.2.2.2.2.2.2.2.1)),(cqf A.out (B.2.2.2.2.2.2.2.2.2.2.1)),(cqf A.out (B.2.2.2.2.2.2.2.2.2.2.2))⟩ (fun B=>?_);clear hK K;refine pz 6 80 #[Z,Z,Z,Z,Z,Z,Z,Y] G.out ?_
           refine one_ (i:=7) (N:=none) #[Z,Z,Z,Z,Z,Z,Z,Z] rfl rfl (one_of G.out (by kernel_rfl)) (by decide) (fun K hK=>?_);have zU:w140.cell? ⟨ae,11,none⟩=some (.int .i64 0):=(blk_cell C.out 11).trans rfl;have zV:=blk_frozen C.out 11;have zW:=A.out;have zX:=ac.out;refine skip_ (w1:=?_) (by rfl) rfl ?_ ?_;rotate_left;·go_simp;rfl
           refine hK.out _ _ ⟨(cqf A.out (B.1)),(cqf A.out (B.2.1)),(cqf A.out (B.2.2.1)),(cqf A.out (B.2.2.2.1)),(cqf A.out (B.2.2.2.2.1)),(cqf A.out (B.2.2.2.2.2.1)),(cqf A.out (B.2.2.2.2.2.2.1)),(cqf A.out (B.2.2.2.2.2.2.2.1)),(cqf A.out (B.2.2.2.2.2.2.2.2.1)),(cqf A.out (B.2.2.2.2.2.2.2.2.2.1)),(cqf A.out (B.2.2.2.2.2.2.2.2.2.2.1)),(cqf A.out (B.2.2.2.2.2.2.2.2.2.2.2))⟩ (fun B=>?_);clear hK K;refine done_ (done_of G.out (by kernel_rfl)) ?_;have zY:=A.out;have zZ:=ac.out;obtain⟨Aa,Ab,Ac,Ad,Ae,Af,Ag,Ah,Ai,Aj,Ak,Al,Am,An,Ao,Ap,Aq,Ar,As,At,Au,Av,Aw,Ay⟩:=cl12 F;try go_wp2
           go_ret;exact⟨eS,bw2 HB.out af.out ag.out⟩
         ·rw [if_neg aG]at H;have fT:(E==5)=false:=beq_eq_false_iff_ne.mpr aG;have fU:(E !=5)=true:=bne_iff_ne.mpr aG;by_cases aH:E=6
          ·rw [if_pos aH]at H;have g7:(E==6)=true:=beq_iff_eq.mpr aH;have g8:(E !=6)=false:=bne_eq_false_iff_eq.mpr aH;clear aH;by_cases aQ:V ≥ 0
           ·rw [if_pos aQ]at H;have g9:decide (0≤V)=true:=dT aQ;clear aQ;by_cases aR:V≤65536
            ·rw [if_pos aR]at H;have ga:decide (V≤65536)=true:=dT aR;clear aR;by_cases ay:(!(E==E)||(!(I==I)||(!(L==L)||(!(M==M)||((!(false==O)||((!(0==R)||(!(0==T)))||(!(0==U))))||((!(0==aa)||(!(0==ab)))||(!(0==X))))))))=true
             ·rw [if_pos ay]at H;have gb:(!(E==E)||(!(I==I)||(!(L==L)||(!(M==M)||((!(false==O)||((!(0==R)||(!(0==T)))||(!(0==U))))||((!(0==aa)||(!(0==ab)))||(!(0==X))))))))=true:=ay
              (try (have gc:((O||((!(0==R)||(!(0==T)))||(!(0==U))))||((!(0==aa)||(!(0==ab)))||(!(0==X))))=true:=by simpa using ay))
              clear ay;obtain rfl:=Option.some.inj H;have Az:=A.out;have AA:=ac.out;obtain⟨AB,AC,AD,AE,AF,AG,AH,AJ,AK,AL,AM,AN,AO,AP,AQ,AR,AS,AT,AU,AV,AW,AX,AY,AZ⟩:=cl12 F;obtain⟨B0,B2,B8,Ba,Bb,Bc,Bd,Bf,Bg,Bh,Bi,Bj,Bk,Bl,Bm,Bo,Bp,Bq,Br,Bt,Bu,Bv,Bw,Bz⟩:=cl12 C;go_wp2;go_ret;exact⟨eS,bw2 HB.out af.out ag.out⟩
             ·rw [if_neg ay]at H;have gb:(!(E==E)||(!(I==I)||(!(L==L)||(!(M==M)||((!(false==O)||((!(0==R)||(!(0==T)))||(!(0==U))))||((!(0==aa)||(!(0==ab)))||(!(0==X))))))))=false:=by simpa using ay
              (try (have gc:((O||((!(0==R)||(!(0==T)))||(!(0==U))))||((!(0==aa)||(!(0==ab)))||(!(0==X))))=false:=by simpa using ay))
              clear ay;obtain rfl:=Option.some.inj H;have BA:=A.out;have BB:=ac.out;obtain⟨BC,BD,BE,BF,BG,BH,BI,BJ,BK,BL,BM,BN,BO,BQ,BR,BS,BT,BU,BV,BX,BZ,C0,C1,C2⟩:=cl12 F;obtain⟨C3,C4,C5,C6,C7,C8,C9,Ca,Cb,Cc,Cd,Ce,Cf,Cg,Ch,Ci,Cj,Ck,Cl,Cm,Cn,Co,Cp,Cq⟩:=cl12 C;go_wp2;go_ret;exact⟨eS,bw2 HB.out af.out ag.out⟩
            ·rw [if_neg aR]at H;have ga:decide (V≤65536)=false:=dF aR;clear aR;obtain rfl:=Option.some.inj H;have Cr:=A.out;have Cs:=ac.out;obtain⟨Ct,Cu,Cv,Cw,Cx,Cy,Cz,CA,CB,CC,CD,CE,CF,CG,CH,CI,CJ,CK,CL,CM,CN,CO,CP,CQ⟩:=cl12 F;obtain⟨CR,CS,CT,CU,CV,CW,CX,CY,CZ,D0,D1,D2,D3,D4,D5,D6,D7,D8,D9,Da,Db,Dc,Dd,De⟩:=cl12 C;go_wp2;go_ret;exact⟨eS,bw2 HB.out af.out ag.out⟩
           ·rw [if_neg aQ]at H;have g9:decide (0≤V)=false:=dF aQ;clear aQ;obtain rfl:=Option.some.inj H;have Df:=A.out;have Dg:=ac.out;obtain⟨Dh,Di,Dj,Dk,Dl,Dm,Dn,Do,Dp,Dq,Dr,Ds,Dt,Du,Dv,Dw,Dx,Dy,Dz,DA,DB,DC,DD,DE⟩:=cl12 F;obtain⟨DF,DG,DH,DI,DJ,DK,DL,DM,DN,DO,DP,DQ,DR,DS,DT,DU,DV,DW,DX,DY,DZ,E0,E1,E2⟩:=cl12 C;go_wp2;go_ret;exact⟨eS,bw2 HB.out af.out ag.out⟩
          ·rw [if_neg aH]at H;have g7:(E==6)=false:=beq_eq_false_iff_ne.mpr aH;have g8:(E !=6)=true:=bne_iff_ne.mpr aH;obtain rfl:=Option.some.inj H;go_wp2;go_ret;exact⟨eS,bw2 HB.out af.out ag.out⟩
end Go.Proofs.Ythkdfojmhloofaa.Q
end
