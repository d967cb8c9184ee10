-- Merged and trimmed by this session's program wip/tools/trim.py.
import Derived.Test.YthkdfojmhloofaaTGramReadsUpto7
section
namespace Go.Proofs.Ythkdfojmhloofaa.Q
open Go.RowKit Go.Proofs.YthkdfojmhloofaaW.PrintWords Go.Proofs.YthkdfojmhloofaaW.PrintLast Go.Proofs.YthkdfojmhloofaaW.PrintMore
attribute [local go_sem] max2_int min2_int max_two min_two max_three min_three max_four min_four   -- for this text's walks alone
set_option linter.unusedVariables false
set_option linter.unusedSimpArgs false
set_option maxHeartbeats 8000000 in
set_option maxRecDepth 100000 in
theorem spoorref11_GetPrefix.calls (k:Nat) (a0:ByteArray) (r1:Bool) (r2:Int) (r3:Int) (r4:Int) (r5:ByteArray) (r6:Int) (w:World) (h:spoorref11_GetPrefix.f k a0=some (r1,r2,r3,r4,r5,r6)):
  Calls Try.prog 41 #[.string a0] w fun e w'=>e= .returned (.tuple #[.agg #[.bool r1,.int .u64 r2,.int .u64 r3,.int .i64 r4],.string r5,.int .i64 r6])∧Below w.heap.size w w':=by
 have cM:=Try.underlying30;have HB:=Ax (Below.refl w.heap.size w);have H:(if (a0.size:Int)<2 then (spoorref11_GetPrefix.j0 k a0 true) else (if 0<(a0.size:Int) then (if (bt a0 0)=4 then (spoorref11_GetPrefix.j0 k a0 false) else (spoorref11_GetPrefix.j0 k a0 ((bt a0 0) !=6))) else (none)))=some (r1,r2,r3,r4,r5,r6):=h;clear h;have bd:=Ax H;clear H;go_enter Try.func41,Try.ntmps41;go_upto_region 1 with (first|((with_reducible refine gate_dst (N:=2) rfl ?_);refine bX (N:=2) (cs:= #[.bool false,.int .u64 0,.int .u64 0,.int .i64 0]) (t:=30) ?_;intro V hg w3 b2 hb;have C:=Ax (b2);have cN:=Gw0 HB hg;have R:=Gw0 HB hg;replace HB:=Bs0 HB hb;clear hb b2 hg))
 (try simp only[Act.put,List.setIfInBounds_toArray,List.set_cons_zero,List.set_cons_succ])
 go_cut [20] (fun bN wc=> ∃ (kq:Nat) (b8:Bool),bN= .bool b8∧Aside0 (spoorref11_GetPrefix.j0 kq a0 b8=some (r1,r2,r3,r4,r5,r6))∧Aside0 (kq≤k)∧Aside0 (wc.heap[V]? =some (.cells #[.bool false,.int .u64 0,.int .u64 0,.int .i64 0] 30 (0,0)))∧Aside0 (Below w.heap.size w wc))
 case first=>
  have H:=bd.out;clear bd;by_cases c4:(a0.size:Int)<2
  ·rw [if_pos c4]at H;have aJ:decide ((a0.size:Int)<2)=true:=dT c4;have bf:decide (a0.size<2)=true:=dT (by omega);clear c4
   (first|rw [aJ]|(simp only[i64_w,i32_w];rw [aJ])|skip)
   have H':=Ax H;clear H;go_wp2;go_meet
   case rel=>exact⟨_,(true),rS,H',⟨by first|omega|exact Nat.le_refl _⟩,⟨bf0 C.out⟩,⟨bw1 HB.out R.out⟩⟩
  ·rw [if_neg c4]at H;have aJ:decide ((a0.size:Int)<2)=false:=dF c4;have bf:decide (a0.size<2)=false:=dF (by omega);clear c4
   (first|rw [aJ]|(simp only[i64_w,i32_w];rw [aJ])|skip)
   by_cases c5:0<(a0.size:Int)
   ·rw [if_pos c5]at H;have br:decide (0<(a0.size:Int))=true:=dT c5;have bu:decide (0<a0.size)=true:=dT (by omega);clear c5;by_cases c7:(bt a0 0)=4
    ·rw [if_pos c7]at H;have bg:((bt a0 0)==4)=true:=beq_iff_eq.mpr c7;have bh:((bt a0 0) !=4)=false:=bne_eq_false_iff_eq.mpr c7;clear c7;have H':=Ax H;clear H;have p6:0≤(0:Int):=(by omega);have q6:0<a0.size:=(by have:(0:Int)<(a0.size:Int):=of_decide_eq_true (by first|(with_reducible assumption)|assumption);first|omega|(simp only[ByteArray.size_append];omega));have bi: ∀ h:0<a0.size,((a0[0]'h).toNat:Int)=bt a0 0:=bt_at a0 0;clear p6;have bj:(0<(a0.size:Int))=True:=eq_true (of_decide_eq_true (by first|(with_reducible assumption)|assumption));replace q6:=eq_true q6;go_wp2;go_meet
     case rel=>exact⟨_,(false),rS,H',⟨by first|omega|exact Nat.le_refl _⟩,⟨bf0 C.out⟩,⟨bw1 HB.out R.out⟩⟩
    ·rw [if_neg c7]at H;have bg:((bt a0 0)==4)=false:=beq_eq_false_iff_ne.mpr c7;have bh:((bt a0 0) !=4)=true:=bne_iff_ne.mpr c7;have H':=Ax H;clear H;have p6:0≤(0:Int):=(by omega);have q6:0<a0.size:=(by have:(0:Int)<(a0.size:Int):=of_decide_eq_true (by first|(with_reducible assumption)|assumption);first|omega|(simp only[ByteArray.size_append];omega));have bi: ∀ h:0<a0.size,((a0[0]'h).toNat:Int)=bt a0 0:=bt_at a0 0;clear p6;have bj:(0<(a0.size:Int))=True:=eq_true (of_decide_eq_true (by first|(with_reducible assumption)|assumption));replace q6:=eq_true q6;have p8:0≤(0:Int):=(by omega);have q8:0<a0.size:=(by have:(0:Int)<(a0.size:Int):=of_decide_eq_true (by first|(with_reducible assumption)|assumption);first|omega|(simp only[ByteArray.size_append];omega));have bv: ∀ h:0<a0.size,((a0[0]'h).toNat:Int)=bt a0 0:=bt_at a0 0;clear p8;have bx:(0<(a0.size:Int))=True:=eq_true (of_decide_eq_true (by first|(with_reducible assumption)|assumption));replace q8:=eq_true q8;go_wp2;go_meet
     case rel=>exact⟨_,(((bt a0 0) !=6)),rS,H',⟨by first|omega|exact Nat.le_refl _⟩,⟨bf0 C.out⟩,⟨bw1 HB.out R.out⟩⟩
   ·rw [if_neg c5]at H;exact absurd H (by simp)
 case rest=>
  clear bd;try clear p2
  try clear c4
  try clear aJ
  try clear bf
  try clear c5
  try clear br
  try clear bu
  try clear p6
  try clear q6
  try clear bi
  try clear bj
  try clear c7
  try clear bg
  try clear bh
  try clear p8
  try clear q8
  try clear bv
  try clear bx
  try clear p6
  try clear p8
  try clear q6
  try clear q8
  obtain⟨kq,b8,rfl,HA,bz,C,HB⟩:=hcut;cases kq with
  |zero=>exact absurd HA.out (by simp [spoorref11_GetPrefix.j0])
  |succ kj1=>
   have H:=HA.out;clear HA;simp only[spoorref11_GetPrefix.j0]at H;by_cases c9:b8=true
   ·subst c9;have H1:(some (false,0,0,0,(⟨#[]⟩:ByteArray),7))=some (r1,r2,r3,r4,r5,r6):=by rw [if_pos rfl]at H;exact H
    clear H;have H:=H1;clear H1;simp only[Option.some.injEq,Prod.mk.injEq]at H;obtain⟨rfl,rfl,rfl,rfl,rfl,rfl⟩:=H;obtain⟨bO,bP,bQ,bR,bS,bT,bU,bV⟩:=cl4 C;go_wp2;refine bodyPost_ret (results_ctt rfl _ _ V 30 #[.bool false,.int .u64 0,.int .u64 0,.int .i64 0] (0,0) _ rfl (gB C.out) Try.underlying30 rfl (by kernel_rfl)) rfl ?_;exact⟨eS,bw1 HB.out R.out⟩
   ·replace c9:=Bool.eq_false_iff.mpr c9;subst c9;have H1:(if 0<(a0.size:Int) then (if 1<(a0.size:Int) then ((spoorref09_Wide.f ((bt a0 0)==6)).bind fun aK=>(if (wrap64 (bt a0 1)) > aK then (spoorref11_GetPrefix.j1 kj1 a0 (wrap64 (Int.tdiv (wrap64 ((wrap64 (bt a0 1))+7)) 8)) true ((bt a0 0)==6) 0 0 (wrap64 (bt a0 1))) else (spoorref11_GetPrefix.j1 kj1 a0 (wrap64 (Int.tdiv (wrap64 ((wrap64 (bt a0 1))+7)) 8)) (decide ((a0.size:Int)<(wrap64 (2+(wrap64 (Int.tdiv (wrap64 ((wrap64 (bt a0 1))+7)) 8)))))) ((bt a0 0)==6) 0 0 (wrap64 (bt a0 1))))) else (none)) else (none))=some (r1,r2,r3,r4,r5,r6):=by rw [if_neg (show ¬ (false=true) by decide)]at H;exact H
    clear H;have H:=H1;clear H1;by_cases b3:0<(a0.size:Int)
    ·rw [if_pos b3]at H;have bW:decide (0<(a0.size:Int))=true:=dT b3;have bY:decide (0<a0.size)=true:=dT (by omega);clear b3;by_cases b4:1<(a0.size:Int)
     ·rw [if_pos b4]at H;have bZ:decide (1<(a0.size:Int))=true:=dT b4;have cd:decide (1<a0.size)=true:=dT (by omega);clear b4;have bk:=Ax H;clear H;try go_wp2
      replace C:=Ax (blk_drew C.out);replace HB:=Ax (below_drew1 HB.out);have bl:0≤(0:Int):=(by omega);have b9:0<a0.size:=(by have:(0:Int)<(a0.size:Int):=of_decide_eq_true (by first|(with_reducible assumption)|assumption);first|omega|(simp only[ByteArray.size_append];omega));have ce: ∀ h:0<a0.size,((a0[0]'h).toNat:Int)=bt a0 0:=bt_at a0 0;clear bl;have cf:(0<(a0.size:Int))=True:=eq_true (of_decide_eq_true (by first|(with_reducible assumption)|assumption));replace b9:=eq_true b9;have bm:0≤(1:Int):=(by omega);have ba:1<a0.size:=(by have:(1:Int)<(a0.size:Int):=of_decide_eq_true (by first|(with_reducible assumption)|assumption);first|omega|(simp only[ByteArray.size_append];omega));have cg: ∀ h:1<a0.size,((a0[1]'h).toNat:Int)=bt a0 1:=bt_at a0 1;clear bm;have ch:(1<(a0.size:Int))=True:=eq_true (of_decide_eq_true (by first|(with_reducible assumption)|assumption));replace ba:=eq_true ba;refine start_ (n:=9) (S:=fun w'=>True) (ds:= []) #[Y,Y,Y,Y,Y,Y,Y,Y,Y] (by kernel_rfl) rfl rfl trivial (fun E=>?_);refine with_tabW spoorref11_GetPrefix.tab3 spoorref11_GetPrefix.bits3 (fun A U=>?_);generalize wc.drew=w16 at C HB E ⊢;refine pz 0 22 #[Z,Y,Y,Y,Y,Y,Y,Y,Y] A.out ?_
      refine pz 3 25 #[Z,Y,Y,Z,Y,Y,Y,Y,Y] A.out ?_
      refine take_ (i:=1) (N:=some 23) (v:=?_) (a':=?_) #[Z,Z,Y,Z,Y,Y,Y,Y,Y] rfl rfl (take_ofW A.out U.out (by kernel_rfl)) (fun _ _ _ h=>h) (Or.inl ⟨by rfl,?_⟩) E ?_ ?_;rotate_left;·intro w' _;go_simp;with_reducible rfl
      rotate_left;·simp only[sP];rfl
      refine pz 2 24 #[Z,Z,Z,Z,Y,Y,Y,Y,Y] A.out ?_
      refine take_ (i:=4) (N:=some 26) (v:=?_) (a':=?_) #[Z,Z,Z,Z,Z,Y,Y,Y,Y] rfl rfl (take_ofW A.out U.out (by kernel_rfl)) (fun _ _ _ h=>h) (Or.inl ⟨by rfl,?_⟩) E ?_ ?_;rotate_left;·intro w' _;go_simp;with_reducible rfl
      rotate_left;·simp only[sP];rfl
      refine pz 5 27 #[Z,Z,Z,Z,Z,Z,Y,Y,Y] A.out ?_
      refine pz 6 28 #[Z,Z,Z,Z,Z,Z,Z,Y,Y] A.out ?_
      refine one_ (i:=7) (N:=some 5) #[Z,Z,Z,Z,Z,Z,Z,Z,Y] rfl rfl (one_of A.out (by kernel_rfl)) (by decide) (fun K hK=>?_);refine box_step ?hg (N:=5) ?hd (cs:= #[.bool false,.int .u64 0,.int .u64 0,.int .i64 0]) (t:=30) ?hr ?_;(case hd=>rfl);(case hg=>rfl);(case hr=>first|(go_simp;done)|(go_simp;rfl));intro D hg au b2 hb;have B:=Ax (b2);have cO:=Gw1 HB hg R.out;have X:=Gw1 HB hg R.out;replace HB:=Bs1 HB hb R.out;have L:=Nl0 C hg;have F:=Nr0 C hg;replace C:=Bx0 C hb;clear hb b2 hg;refine hK.out _ _ trivial (fun E=>?_);clear hK K;refine norm_ (a':=?_) ?_ ?_;rotate_left
      ·show Act.put _ (some 5) _=_
       simp only[sP];rfl
      refine one_ (i:=8) (N:=none) #[Z,Z,Z,Z,Z,Z,Z,Z,Z] rfl rfl (one_of A.out (by kernel_rfl)) (by decide) (fun K hK=>?_);have cP:au.cell? ⟨D,0,none⟩=some (.bool false):=(blk_cell B.out 0).trans rfl;have cQ:=blk_frozen B.out 0;have cR:=L.out;have cS:=F.out;have cT:au.cell? ⟨D,1,none⟩=some (.int .u64 0):=(blk_cell B.out 1).trans rfl;have cU:=blk_frozen B.out 1;have cV:=L.out;have cW:=F.out;have cX:au.cell? ⟨D,2,none⟩=some (.int .u64 0):=(blk_cell B.out 2).trans rfl;have cY:=blk_frozen B.out 2;have cZ:=L.out;have d2:=F.out;have d3:au.cell? ⟨D,3,none⟩=some (.int .i64 0):=(blk_cell B.out 3).trans rfl;have d4:=blk_frozen B.out 3;have d5:=L.out;have d6:=F.out;refine skip_ (w1:=?_) (by rfl) rfl ?_ ?_;rotate_left;·go_simp;rfl
      refine hK.out _ _ trivial (fun E=>?_);clear hK K;refine done_ (done_of A.out (by kernel_rfl)) ?_;have d7:=F.out;have d8:=L.out;obtain⟨ci,cj,ck,cl,cm,cn,co,cq⟩:=cl4 B;go_upto_region 5 with (fail)
      go_cut [45] (fun cr wc=> ∃ (kq:Nat) (bb:Bool),cr= .bool bb∧Aside0 (spoorref11_GetPrefix.j1 kq a0 (wrap64 (Int.tdiv (wrap64 ((wrap64 (bt a0 1))+7)) 8)) bb ((bt a0 0)==6) 0 0 (wrap64 (bt a0 1))=some (r1,r2,r3,r4,r5,r6))∧Aside0 (kq≤kj1)∧Aside0 (wc.heap[V]? =some (.cells #[.bool false,.int .u64 0,.int .u64 0,.int .i64 0] 30 (0,0)))∧Aside0 (wc.heap[D]? =some (.cells #[.bool ((bt a0 0)==6),.int .u64 0,.int .u64 0,.int .i64 (wrap64 (bt a0 1))] 30 (0,0)))∧Aside0 (Below w.heap.size w wc))
      case first=>
       have H:=bk.out;clear bk;replace H:=bI H;obtain⟨aK,bA,H⟩:=H;(try dsimp only at H);have av:=Ax bA;clear bA;by_cases aM:(wrap64 (bt a0 1)) > aK
       ·rw [if_pos aM]at H;have aT:decide (aK<(wrap64 (bt a0 1)))=true:=dT aM;clear aM
        (first|rw [aT]|(simp only[i64_w,i32_w];rw [aT])|skip)
        have H':=Ax H;clear H;try go_wp2
        have aj:Aside0 (((((au.setCell ⟨D,0,none⟩ (.bool ((bt a0 0)==6))).setCell ⟨D,1,none⟩ (.int .u64 0)).setCell ⟨D,2,none⟩ (.int .u64 0)).setCell ⟨D,3,none⟩ (.int .i64 (wrap64 (bt a0 1)))).heap[V]? =some (.cells #[.bool false,.int .u64 0,.int .u64 0,.int .i64 0] 30 (0,0))):=⟨bf4 C.out L.out L.out L.out L.out⟩;have al:Aside0 (((((au.setCell ⟨D,0,none⟩ (.bool ((bt a0 0)==6))).setCell ⟨D,1,none⟩ (.int .u64 0)).setCell ⟨D,2,none⟩ (.int .u64 0)).setCell ⟨D,3,none⟩ (.int .i64 (wrap64 (bt a0 1)))).heap[D]? =some (.cells #[.bool ((bt a0 0)==6),.int .u64 0,.int .u64 0,.int .i64 (wrap64 (bt a0 1))] 30 (0,0))):=⟨gB B.out⟩;have am:Aside0 (Below w.heap.size w ((((au.setCell ⟨D,0,none⟩ (.bool ((bt a0 0)==6))).setCell ⟨D,1,none⟩ (.int .u64 0)).setCell ⟨D,2,none⟩ (.int .u64 0)).setCell ⟨D,3,none⟩ (.int .i64 (wrap64 (bt a0 1))))):=⟨bw2 HB.out R.out X.out⟩
        (try clear C)
        (try clear B)
        (try clear HB)
        generalize ((((au.setCell ⟨D,0,none⟩ (.bool ((bt a0 0)==6))).setCell ⟨D,1,none⟩ (.int .u64 0)).setCell ⟨D,2,none⟩ (.int .u64 0)).setCell ⟨D,3,none⟩ (.int .i64 (wrap64 (bt a0 1))))=w26 at aj al am ⊢;have C:=aj;have B:=al;have HB:=am;clear aj al am;replace C:=Ax (blk_drew C.out);replace B:=Ax (blk_drew B.out);replace HB:=Ax (below_drew1 HB.out);refine start_ (n:=13) (S:=fun w'=>w'.cell? ⟨D,0,none⟩=some (.bool ((bt a0 0)==6))∧w'.cell? ⟨D,1,none⟩=some (.int .u64 0)∧w'.cell? ⟨D,2,none⟩=some (.int .u64 0)∧w'.cell? ⟨D,3,none⟩=some (.int .i64 (wrap64 (bt a0 1)))) (ds:= []) #[Y,Y,Y,Y,Y,Y,Y,Y,Y,Y,Y,Y,Y] (by kernel_rfl) rfl rfl (bqc4 B.out) (fun E=>?_);refine with_tabW spoorref11_GetPrefix.tab5 spoorref11_GetPrefix.bits5 (fun A U=>?_);generalize w26.drew=w27 at C B HB E ⊢;refine pz 0 33 #[Z,Y,Y,Y,Y,Y,Y,Y,Y,Y,Y,Y,Y] A.out ?_
        refine pz 2 35 #[Z,Y,Z,Y,Y,Y,Y,Y,Y,Y,Y,Y,Y] A.out ?_
        refine take_ (i:=1) (N:=some 34) (v:=?_) (a':=?_) #[Z,Z,Z,Y,Y,Y,Y,Y,Y,Y,Y,Y,Y] rfl rfl (take_ofW A.out U.out (by kernel_rfl)) (fun _ _ _ h=>h) (Or.inl ⟨by rfl,?_⟩) E ?_ ?_;rotate_left
        ·rintro w' ⟨s0,s1,s2,s3⟩
         go_simp;with_reducible rfl
        rotate_left;·simp only[sP];rfl
        refine take_ (i:=3) (N:=some 36) (v:=?_) (a':=?_) #[Z,Z,Z,Z,Y,Y,Y,Y,Y,Y,Y,Y,Y] rfl rfl (take_ofW A.out U.out (by kernel_rfl)) (fun _ _ _ h=>h) (Or.inl ⟨by rfl,?_⟩) E ?_ ?_;rotate_left
        ·rintro w' ⟨s0,s1,s2,s3⟩
         go_simp;with_reducible rfl
        rotate_left;·simp only[sP];rfl
        refine one_ (i:=4) (N:=some 37) #[Z,Z,Z,Z,Z,Y,Y,Y,Y,Y,Y,Y,Y] rfl rfl (one_of A.out (by kernel_rfl)) (by decide) (fun K hK=>?_);refine goes_ Try.func64 (by kernel_rfl) rfl #[.bool ((bt a0 0)==6)] (by rfl) rfl rfl (by (try simp only[List.map_toArray,List.map_cons,List.map_nil]);first|done|rfl|(simp only[List.length_drop,List.length_take];rfl)|(simp only[*];rfl)) ?_;with_reducible refine (spoorref09_Wide.calls ((bt a0 0)==6) aK _ av.out).mono ?_
        rintro e w' ⟨rfl,⟨nd,rfl⟩⟩
        refine⟨_,rfl,?_⟩;refine hK.out _ _ (bqc4 B.out) (fun E=>?_);clear hK K;refine norm_ (a':=?_) ?_ ?_;rotate_left
        ·show Act.put _ (some 37) _=_
         simp only[sP];rfl
        refine pz 5 38 #[Z,Z,Z,Z,Z,Z,Y,Y,Y,Y,Y,Y,Y] A.out ?_
        refine pz 6 39 #[Z,Z,Z,Z,Z,Z,Z,Y,Y,Y,Y,Y,Y] A.out ?_
        refine pu 7 40 #[Z,Z,Z,Z,Z,Z,Z,Z,Y,Y,Y,Y,Y] A.out ?_
        refine pu 8 41 #[Z,Z,Z,Z,Z,Z,Z,Z,Z,Y,Y,Y,Y] A.out ?_
        refine pu 9 42 #[Z,Z,Z,Z,Z,Z,Z,Z,Z,Z,Y,Y,Y] A.out ?_
        refine pu 10 43 #[Z,Z,Z,Z,Z,Z,Z,Z,Z,Z,Z,Y,Y] A.out ?_
        refine pu 11 44 #[Z,Z,Z,Z,Z,Z,Z,Z,Z,Z,Z,Z,Y] A.out ?_
        refine pz 12 45 #[Z,Z,Z,Z,Z,Z,Z,Z,Z,Z,Z,Z,Z] A.out ?_
        refine done_ (done_of A.out (by kernel_rfl)) ?_;try go_wp2
        go_meet
        case rel=>exact⟨_,(true),rS,H',⟨by have:=bz.out;first|omega|exact Nat.le_refl _⟩,⟨bf0 C.out⟩,⟨bf0 B.out⟩,⟨bw2 HB.out R.out X.out⟩⟩
       ·rw [if_neg aM]at H;have aT:decide (aK<(wrap64 (bt a0 1)))=false:=dF aM;clear aM
        (first|rw [aT]|(simp only[i64_w,i32_w];rw [aT])|skip)
        have H':=Ax H;clear H;try go_wp2
        have aj:Aside0 (((((au.setCell ⟨D,0,none⟩ (.bool ((bt a0 0)==6))).setCell ⟨D,1,none⟩ (.int .u64 0)).setCell ⟨D,2,none⟩ (.int .u64 0)).setCell ⟨D,3,none⟩ (.int .i64 (wrap64 (bt a0 1)))).heap[V]? =some (.cells #[.bool false,.int .u64 0,.int .u64 0,.int .i64 0] 30 (0,0))):=⟨bf4 C.out L.out L.out L.out L.out⟩;have al:Aside0 (((((au.setCell ⟨D,0,none⟩ (.bool ((bt a0 0)==6))).setCell ⟨D,1,none⟩ (.int .u64 0)).setCell ⟨D,2,none⟩ (.int .u64 0)).setCell ⟨D,3,none⟩ (.int .i64 (wrap64 (bt a0 1)))).heap[D]? =some (.cells #[.bool ((bt a0 0)==6),.int .u64 0,.int .u64 0,.int .i64 (wrap64 (bt a0 1))] 30 (0,0))):=⟨gB B.out⟩;have am:Aside0 (Below w.heap.size w ((((au.setCell ⟨D,0,none⟩ (.bool ((bt a0 0)==6))).setCell ⟨D,1,none⟩ (.int .u64 0)).setCell ⟨D,2,none⟩ (.int .u64 0)).setCell ⟨D,3,none⟩ (.int .i64 (wrap64 (bt a0 1))))):=⟨bw2 HB.out R.out X.out⟩
        (try clear C)
        (try clear B)
        (try clear HB)
        generalize ((((au.setCell ⟨D,0,none⟩ (.bool ((bt a0 0)==6))).setCell ⟨D,1,none⟩ (.int .u64 0)).setCell ⟨D,2,none⟩ (.int .u64 0)).setCell ⟨D,3,none⟩ (.int .i64 (wrap64 (bt a0 1))))=w28 at aj al am ⊢;have C:=aj;have B:=al;have HB:=am;clear aj al am;replace C:=Ax (blk_drew C.out);replace B:=Ax (blk_drew B.out);replace HB:=Ax (below_drew1 HB.out);refine start_ (n:=13) (S:=fun w'=>w'.cell? ⟨D,0,none⟩=some (.bool ((bt a0 0)==6))∧w'.cell? ⟨D,1,none⟩=some (.int .u64 0)∧w'.cell? ⟨D,2,none⟩=some (.int .u64 0)∧w'.cell? ⟨D,3,none⟩=some (.int .i64 (wrap64 (bt a0 1)))) (ds:= []) #[Y,Y,Y,Y,Y,Y,Y,Y,Y,Y,Y,Y,Y] (by kernel_rfl) rfl rfl (bqc4 B.out) (fun E=>?_);refine with_tabW spoorref11_GetPrefix.tab5 spoorref11_GetPrefix.bits5 (fun A U=>?_);generalize w28.drew=w29 at C B HB E ⊢;refine pz 0 33 #[Z,Y,Y,Y,Y,Y,Y,Y,Y,Y,Y,Y,Y] A.out ?_
        refine pz 2 35 #[Z,Y,Z,Y,Y,Y,Y,Y,Y,Y,Y,Y,Y] A.out ?_
        refine take_ (i:=1) (N:=some 34) (v:=?_) (a':=?_) #[Z,Z,Z,Y,Y,Y,Y,Y,Y,Y,Y,Y,Y] rfl rfl (take_ofW A.out U.out (by kernel_rfl)) (fun _ _ _ h=>h) (Or.inl ⟨by rfl,?_⟩) E ?_ ?_;rotate_left
        ·rintro w' ⟨s0,s1,s2,s3⟩
         go_simp;with_reducible rfl
        rotate_left;·simp only[sP];rfl
        refine take_ (i:=3) (N:=some 36) (v:=?_) (a':=?_) #[Z,Z,Z,Z,Y,Y,Y,Y,Y,Y,Y,Y,Y] rfl rfl (take_ofW A.out U.out (by kernel_rfl)) (fun _ _ _ h=>h) (Or.inl ⟨by rfl,?_⟩) E ?_ ?_;rotate_left
        ·rintro w' ⟨s0,s1,s2,s3⟩
         go_simp;with_reducible rfl
        rotate_left;·simp only[sP];rfl
        refine one_ (i:=4) (N:=some 37) #[Z,Z,Z,Z,Z,Y,Y,Y,Y,Y,Y,Y,Y] rfl rfl (one_of A.out (by kernel_rfl)) (by decide) (fun K hK=>?_);refine goes_ Try.func64 (by kernel_rfl) rfl #[.bool ((bt a0 0)==6)] (by rfl) rfl rfl (by (try simp only[List.map_toArray,List.map_cons,List.map_nil]);first|done|rfl|(simp only[List.length_drop,List.length_take];rfl)|(simp only[*];rfl)) ?_;with_reducible refine (spoorref09_Wide.calls ((bt a0 0)==6) aK _ av.out).mono ?_
        rintro e w' ⟨rfl,⟨nd,rfl⟩⟩
        refine⟨_,rfl,?_⟩;refine hK.out _ _ (bqc4 B.out) (fun E=>?_);clear hK K;refine norm_ (a':=?_) ?_ ?_;rotate_left
        ·show Act.put _ (some 37) _=_
         simp only[sP];rfl
        refine pz 5 38 #[Z,Z,Z,Z,Z,Z,Y,Y,Y,Y,Y,Y,Y] A.out ?_
        refine pz 6 39 #[Z,Z,Z,Z,Z,Z,Z,Y,Y,Y,Y,Y,Y] A.out ?_
        refine pz 7 40 #[Z,Z,Z,Z,Z,Z,Z,Z,Y,Y,Y,Y,Y] A.out ?_
        refine pz 8 41 #[Z,Z,Z,Z,Z,Z,Z,Z,Z,Y,Y,Y,Y] A.out ?_
        refine pz 9 42 #[Z,Z,Z,Z,Z,Z,Z,Z,Z,Z,Y,Y,Y] A.out ?_
        refine pz 10 43 #[Z,Z,Z,Z,Z,Z,Z,Z,Z,Z,Z,Y,Y] A.out ?_
        refine pz 11 44 #[Z,Z,Z,Z,Z,Z,Z,Z,Z,Z,Z,Z,Y] A.out ?_
        refine pz 12 45 #[Z,Z,Z,Z,Z,Z,Z,Z,Z,Z,Z,Z,Z] A.out ?_
        refine done_ (done_of A.out (by kernel_rfl)) ?_;try go_wp2
        go_meet
        case rel=>exact⟨_,(decide ((a0.size:Int)<(wrap64 (2+(wrap64 (Int.tdiv (wrap64 ((wrap64 (bt a0 1))+7)) 8)))))),rS,H',⟨by have:=bz.out;first|omega|exact Nat.le_refl _⟩,⟨bf0 C.out⟩,⟨bf0 B.out⟩,⟨bw2 HB.out R.out X.out⟩⟩
      case rest=>
       clear bk;(try clear c1);(try clear p1);(try clear q1);(try clear hx1);(try clear qi1);(try clear c2);(try clear p2 p2);(try clear c4);(try clear aJ);(try clear bf);(try clear c5);(try clear br);(try clear bu);(try clear c6);(try clear p6 p6);(try clear q6 q6);(try clear bi);(try clear bj);(try clear c7);(try clear bg);(try clear bh);(try clear p8 p8);(try clear q8 q8);(try clear bv);(try clear bx);(try clear c9);(try clear b3);(try clear bW);(try clear bY);(try clear bl bl);(try clear b9 b9);(try clear ce);(try clear cf);(try clear b4);(try clear bZ);(try clear cd);(try clear bm bm);(try clear ba ba);(try clear cg);(try clear ch);(try clear c22);(try clear aM);(try clear aT);(try clear bO bP bQ bR);(try clear ci cj ck cl);(try clear bS bT bU bV);(try clear cm cn co cq);obtain⟨kq,bb,rfl,HA,d9,C,B,HB⟩:=hcut;cases kq with
       |zero=>exact absurd HA.out (by simp [spoorref11_GetPrefix.j1])
       |succ kj14=>
        have H:=HA.out;clear HA;simp only[spoorref11_GetPrefix.j1]at H;by_cases bc:bb=true
        ·subst bc;have H1:(some (false,0,0,0,(⟨#[]⟩:ByteArray),7))=some (r1,r2,r3,r4,r5,r6):=by rw [if_pos rfl]at H;exact H
         clear H;have H:=H1;clear H1;simp only[Option.some.injEq,Prod.mk.injEq]at H;obtain⟨rfl,rfl,rfl,rfl,rfl,rfl⟩:=H;have da:=L.out;have db:=F.out;obtain⟨dc,dd,de,df,dg,dh,di,dj⟩:=cl4 C;go_wp2;refine bodyPost_ret (results_ctt rfl _ _ V 30 #[.bool false,.int .u64 0,.int .u64 0,.int .i64 0] (0,0) _ rfl (gB C.out) Try.underlying30 rfl (by kernel_rfl)) rfl ?_;exact⟨eS,bw2 HB.out R.out X.out⟩
        ·replace bc:=Bool.eq_false_iff.mpr bc;subst bc;have H1:(if 2≤(wrap64 (2+(wrap64 (Int.tdiv (wrap64 ((wrap64 (bt a0 1))+7)) 8)))) then (if (wrap64 (2+(wrap64 (Int.tdiv (wrap64 ((wrap64 (bt a0 1))+7)) 8))))≤(a0.size:Int) then ((spoorref09_Wide.f ((bt a0 0)==6)).bind fun ae=>((spoorref05_Zeros.f (wrap64 ((wrap64 (Int.tdiv ae 8)) - (wrap64 (Int.tdiv (wrap64 ((wrap64 (bt a0 1))+7)) 8))))).bind fun T=>(if (a0.extract 2 ((wrap64 (2+(wrap64 (Int.tdiv (wrap64 ((wrap64 (bt a0 1))+7)) 8)))):Int).toNat).size+T.size≤9223372036854775807 then (if ((bt a0 0)==6)=true then (if 8≤(((a0.extract 2 ((wrap64 (2+(wrap64 (Int.tdiv (wrap64 ((wrap64 (bt a0 1))+7)) 8)))):Int).toNat)++T).size:Int) then ((spoorref05_Number.f kj14 (((a0.extract 2 ((wrap64 (2+(wrap64 (Int.tdiv (wrap64 ((wrap64 (bt a0 1))+7)) 8)))):Int).toNat)++T).extract 0 8)).bind fun af=>((spoorref05_Number.f kj14 (((a0.extract 2 ((wrap64 (2+(wrap64 (Int.tdiv (wrap64 ((wrap64 (bt a0 1))+7)) 8)))):Int).toNat)++T).extract 8 ((a0.extract 2 ((wrap64 (2+(wrap64 (Int.tdiv (wrap64 ((wrap64 (bt a0 1))+7)) 8)))):Int).toNat)++T).size)).bind fun ag=>((spoorref09_Check.f kj14 ((bt a0 0)==6) af ag (wrap64 (bt a0 1))).bind fun aA=>(if aA=0 then (if 0≤(wrap64 (2+(wrap64 (Int.tdiv (wrap64 ((wrap64 (bt a0 1))+7)) 8)))) then (some (((bt a0 0)==6),af,ag,(wrap64 (bt a0 1)),a0.extract ((wrap64 (2+(wrap64 (Int.tdiv (wrap64 ((wrap64 (bt a0 1))+7)) 8)))):Int).toNat a0.size,0)) else (none)) else (some (false,0,0,0,(⟨#[]⟩:ByteArray),7)))))) else (none)) else ((spoorref05_Number.f kj14 ((a0.extract 2 ((wrap64 (2+(wrap64 (Int.tdiv (wrap64 ((wrap64 (bt a0 1))+7)) 8)))):Int).toNat)++T)).bind fun ah=>((spoorref09_Check.f kj14 ((bt a0 0)==6) 0 ah (wrap64 (bt a0 1))).bind fun aC=>(if aC=0 then (if 0≤(wrap64 (2+(wrap64 (Int.tdiv (wrap64 ((wrap64 (bt a0 1))+7)) 8)))) then (some (((bt a0 0)==6),0,ah,(wrap64 (bt a0 1)),a0.extract ((wrap64 (2+(wrap64 (Int.tdiv (wrap64 ((wrap64 (bt a0 1))+7)) 8)))):Int).toNat a0.size,0)) else (none)) else (some (false,0,0,0,(⟨#[]⟩:ByteArray),7)))))) else (none)))) else (none)) else (none))=some (r1,r2,r3,r4,r5,r6):=by rw [if_neg (show ¬ (false=true) by decide)]at H;exact H
         clear H;have H:=H1;clear H1;by_cases aU:2≤(wrap64 (2+(wrap64 (Int.tdiv (wrap64 ((wrap64 (bt a0 1))+7)) 8))))
         ·rw [if_pos aU]at H;have bB:=eq_true aU;have bC:decide (2≤(wrap64 (2+(wrap64 (Int.tdiv (wrap64 ((wrap64 (bt a0 1))+7)) 8)))))=true:=dT aU;by_cases aV:(wrap64 (2+(wrap64 (Int.tdiv (wrap64 ((wrap64 (bt a0 1))+7)) 8))))≤(a0.size:Int)
          ·rw [if_pos aV]at H;have bD:=eq_true aV;have aW:decide ((wrap64 (2+(wrap64 (Int.tdiv (wrap64 ((wrap64 (bt a0 1))+7)) 8))))≤(a0.size:Int))=true:=dT aV;replace H:=bI H;obtain⟨ae,bE,H⟩:=H;(try dsimp only at H);have ab:=Ax bE;clear bE;replace H:=bI H;obtain⟨T,bF,H⟩:=H;(try dsimp only at H);have ac:=Ax bF;clear bF;by_cases aD:(a0.extract 2 ((wrap64 (2+(wrap64 (Int.tdiv (wrap64 ((wrap64 (bt a0 1))+7)) 8)))):Int).toNat).size+T.size≤9223372036854775807
           ·rw [if_pos aD]at H;have bG:=eq_true aD;have aw:decide ((a0.extract 2 ((wrap64 (2+(wrap64 (Int.tdiv (wrap64 ((wrap64 (bt a0 1))+7)) 8)))):Int).toNat).size+T.size≤9223372036854775807)=true:=dT aD;try have aY:(9223372036854775807<(a0.extract 2 ((wrap64 (2+(wrap64 (Int.tdiv (wrap64 ((wrap64 (bt a0 1))+7)) 8)))):Int).toNat).size+T.size)=False:=eq_false (Nat.not_lt.2 aD)
            try (have bn:=aD;simp [go_sem, *]at bn;have dk:=eq_false (Nat.not_lt.2 bn);clear bn)
            by_cases ax:((bt a0 0)==6)=true
            ·rw [if_pos ax]at H;have I:((bt a0 0)==6)=true:=ax
             (try (have ct:decide ((bt a0 0)=6)=true:=by simpa using ax))
             (try (have cu:((bt a0 0)==6)=true:=by simpa using ax))
             clear ax;by_cases b5:8≤(((a0.extract 2 ((wrap64 (2+(wrap64 (Int.tdiv (wrap64 ((wrap64 (bt a0 1))+7)) 8)))):Int).toNat)++T).size:Int)
             ·rw [if_pos b5]at H;have cv:=eq_true b5;have aN:decide (8≤(((a0.extract 2 ((wrap64 (2+(wrap64 (Int.tdiv (wrap64 ((wrap64 (bt a0 1))+7)) 8)))):Int).toNat)++T).size:Int))=true:=dT b5;replace H:=bI H;obtain⟨af,bH,H⟩:=H;(try dsimp only at H);have ap:=Ax bH;clear bH;have aZ:=eq_true (of_decide_eq_true (by first|(with_reducible assumption)|assumption):8≤(((a0.extract 2 ((wrap64 (2+(wrap64 (Int.tdiv (wrap64 ((wrap64 (bt a0 1))+7)) 8)))):Int).toNat)++T).size:Int));replace H:=bI H;obtain⟨ag,bJ,H⟩:=H;(try dsimp only at H);have aq:=Ax bJ;clear bJ;replace H:=bI H;obtain⟨aA,bK,H⟩:=H;(try dsimp only at H);have ar:=Ax bK;clear bK;by_cases aQ:aA=0
              ·rw [if_pos aQ]at H;have cw:(aA==0)=true:=beq_iff_eq.mpr aQ;have cx:(aA !=0)=false:=bne_eq_false_iff_eq.mpr aQ;clear aQ;obtain⟨aE,M⟩: ∃ j_:Int,(wrap64 (2+(wrap64 (Int.tdiv (wrap64 ((wrap64 (bt a0 1))+7)) 8))))=j_:=⟨_,rfl⟩;replace H:(if 0≤(aE) then (some (((bt a0 0)==6),af,ag,(wrap64 (bt a0 1)),a0.extract ((aE):Int).toNat a0.size,0)) else (none))=some (r1,r2,r3,r4,r5,r6):=by first|(rw [M]at H;exact H)|(simp only[M]at H ⊢;exact H)
               (try rw [M]at bB)
               (try rw [M]at bC)
               (try rw [M]at aU)
               (try rw [M]at bD)
               (try rw [M]at aW)
               (try rw [M]at aV)
               (try rw [M]at bG)
               (try rw [M]at aw)
               (try rw [M]at aD)
               (try rw [M]at cv)
               (try rw [M]at aN)
               (try rw [M]at b5)
               (try rw [M]at ab)
               (try rw [M]at ac)
               (try rw [M]at ap)
               (try rw [M]at aq)
               (try rw [M]at ar)
               have dl:(IntKind.i64.wrap (2+(wrap64 (Int.tdiv (wrap64 ((wrap64 (bt a0 1))+7)) 8))))=aE:=(i64_w _).trans M;by_cases b6:0≤(aE)
               ·rw [if_pos b6]at H;have dm:=eq_true b6;have dn:decide (0≤(aE))=true:=dT b6;clear b6;have dp:=eq_true (of_decide_eq_true (by first|(with_reducible assumption)|assumption):(aE)≤(a0.size:Int));simp only[Option.some.injEq,Prod.mk.injEq]at H;obtain⟨rfl,rfl,rfl,rfl,rfl,rfl⟩:=H;obtain⟨aa,G⟩: ∃ X_:ByteArray,a0.extract 2 (aE:Int).toNat++T=X_:=⟨_,rfl⟩
                (try rw [M]at av)
                (try rw [M]at ab)
                (try rw [M]at ac)
                (try rw [M]at ap)
                (try rw [M]at aq)
                (try rw [M]at ar)
                (try rw [M]at aw)
                (try rw [M]at aY)
                (try rw [M]at aN)
                (try rw [M]at aZ)
                (try rw [G]at av)
                (try rw [G]at ab)
                (try rw [G]at ac)
                (try rw [G]at ap)
                (try rw [G]at aq)
                (try rw [G]at ar)
                (try rw [G]at aw)
                (try rw [G]at aY)
                (try rw [G]at aN)
                (try rw [G]at aZ)
                (try have bo:(9223372036854775807<(aE:Int).toNat - 2+T.size)=False:=eq_false (by have h_:=of_decide_eq_true aw;have bq:=of_decide_eq_true aW;rw [ByteArray.size_extract]at h_;omega))
                (try rw [I]at av)
                (try rw [I]at ab)
                (try rw [I]at ac)
                (try rw [I]at ap)
                (try rw [I]at aq)
                (try rw [I]at ar)
                (try rw [I]at C)
                (try rw [I]at B)
                try go_wp2
                replace C:=Ax (blk_drew C.out);replace B:=Ax (blk_drew B.out);replace HB:=Ax (below_drew1 HB.out);refine start_ (n:=13) (S:=fun w'=>w'.cell? ⟨D,0,none⟩=some (.bool true)∧w'.cell? ⟨D,1,none⟩=some (.int .u64 0)∧w'.cell? ⟨D,2,none⟩=some (.int .u64 0)∧w'.cell? ⟨D,3,none⟩=some (.int .i64 (wrap64 (bt a0 1)))) (ds:= []) #[Y,Y,Y,Y,Y,Y,Y,Y,Y,Y,Y,Y,Y] (by kernel_rfl) rfl rfl (bqc4 B.out) (fun E=>?_);refine with_tabW spoorref11_GetPrefix.tab7 spoorref11_GetPrefix.bits7 (fun A U=>?_);generalize wc.drew=w48 at C B HB E ⊢;refine pz 0 47 #[Z,Y,Y,Y,Y,Y,Y,Y,Y,Y,Y,Y,Y] A.out ?_
                refine pz 1 48 #[Z,Z,Y,Y,Y,Y,Y,Y,Y,Y,Y,Y,Y] A.out ?_
                refine pz 2 49 #[Z,Z,Z,Y,Y,Y,Y,Y,Y,Y,Y,Y,Y] A.out ?_
                refine pz 3 50 #[Z,Z,Z,Z,Y,Y,Y,Y,Y,Y,Y,Y,Y] A.out ?_
                refine pz 4 51 #[Z,Z,Z,Z,Z,Y,Y,Y,Y,Y,Y,Y,Y] A.out ?_
                refine pz 8 55 #[Z,Z,Z,Z,Z,Y,Y,Y,Z,Y,Y,Y,Y] A.out ?_
                refine take_ (i:=5) (N:=some 52) (v:=?_) (a':=?_) #[Z,Z,Z,Z,Z,Z,Y,Y,Z,Y,Y,Y,Y] rfl rfl (take_ofW A.out U.out (by kernel_rfl)) (fun _ _ _ h=>h) (Or.inl ⟨by rfl,?_⟩) E ?_ ?_;rotate_left
                ·rintro w' ⟨s0,s1,s2,s3⟩
                 go_simp;with_reducible rfl
                rotate_left;·simp only[sP];rfl
                refine one_ (i:=6) (N:=some 53) #[Z,Z,Z,Z,Z,Z,Z,Y,Z,Y,Y,Y,Y] rfl rfl (one_of A.out (by kernel_rfl)) (by decide) (fun K hK=>?_);refine goes_ Try.func64 (by kernel_rfl) rfl #[.bool true] (by rfl) rfl rfl (by (try simp only[List.map_toArray,List.map_cons,List.map_nil]);first|done|rfl|(simp only[List.length_drop,List.length_take];rfl)|(simp only[*];rfl)) ?_;with_reducible refine (spoorref09_Wide.calls true ae _ ab.out).mono ?_
                rintro e w' ⟨rfl,⟨nd,rfl⟩⟩
                refine⟨_,rfl,?_⟩;refine hK.out _ _ (bqc4 B.out) (fun E=>?_);clear hK K;refine norm_ (a':=?_) ?_ ?_;rotate_left
                ·show Act.put _ (some 53) _=_
                 simp only[sP];rfl
                refine pz 7 54 #[Z,Z,Z,Z,Z,Z,Z,Z,Z,Y,Y,Y,Y] A.out ?_
                refine pz 9 56 #[Z,Z,Z,Z,Z,Z,Z,Z,Z,Z,Y,Y,Y] A.out ?_
                refine one_ (i:=10) (N:=some 57) #[Z,Z,Z,Z,Z,Z,Z,Z,Z,Z,Z,Y,Y] rfl rfl (one_of A.out (by kernel_rfl)) (by decide) (fun K hK=>?_);refine goes_ Try.func65 (by kernel_rfl) rfl #[.int .i64 (wrap64 ((wrap64 (Int.tdiv ae 8)) - (wrap64 (Int.tdiv (wrap64 ((wrap64 (bt a0 1))+7)) 8))))] (by rfl) rfl rfl (by (try simp only[List.map_toArray,List.map_cons,List.map_nil]);first|done|rfl|(simp only[List.length_drop,List.length_take];rfl)|(simp only[*];rfl)) ?_;with_reducible refine (spoorref05_Zeros.calls (wrap64 ((wrap64 (Int.tdiv ae 8)) - (wrap64 (Int.tdiv (wrap64 ((wrap64 (bt a0 1))+7)) 8)))) T _ ac.out).mono ?_
                rintro e cy ⟨rfl,hb⟩
                refine⟨_,rfl,?_⟩;replace C:=Bx0 C hb;replace B:=Bx0 B hb;replace HB:=Bs2 HB hb R.out X.out
                (try clear hb)
                refine hK.out _ _ (bqc4 B.out) (fun E=>?_);clear hK K;refine norm_ (a':=?_) ?_ ?_;rotate_left
                ·show Act.put _ (some 57) _=_
                 simp only[sP];rfl
                refine pz 11 58 #[Z,Z,Z,Z,Z,Z,Z,Z,Z,Z,Z,Z,Y] A.out ?_
                refine pz 12 7 #[Z,Z,Z,Z,Z,Z,Z,Z,Z,Z,Z,Z,Z] A.out ?_
                refine done_ (done_of A.out (by kernel_rfl)) ?_;have dq:=F.out;have dr:=L.out;obtain⟨dt,du,dv,dw,dx,dy,dz,dA⟩:=cl4 B;try go_wp2
                replace C:=Ax (blk_drew C.out);replace B:=Ax (blk_drew B.out);replace HB:=Ax (below_drew1 HB.out);refine start_ (n:=12) (S:=fun w'=>True) (ds:= []) #[Y,Y,Y,Y,Y,Y,Y,Y,Y,Y,Y,Y] (by kernel_rfl) rfl rfl trivial (fun E=>?_);refine with_tabW spoorref11_GetPrefix.tab9 spoorref11_GetPrefix.bits9 (fun A U=>?_);generalize cy.drew=w52 at C B HB E ⊢;refine pz 0 61 #[Z,Y,Y,Y,Y,Y,Y,Y,Y,Y,Y,Y] A.out ?_
                refine pz 1 62 #[Z,Z,Y,Y,Y,Y,Y,Y,Y,Y,Y,Y] A.out ?_
                refine pz 3 64 #[Z,Z,Y,Z,Y,Y,Y,Y,Y,Y,Y,Y] A.out ?_
                refine pz 4 65 #[Z,Z,Y,Z,Z,Y,Y,Y,Y,Y,Y,Y] A.out ?_
                refine one_ (i:=2) (N:=some 63) #[Z,Z,Z,Z,Z,Y,Y,Y,Y,Y,Y,Y] rfl rfl (one_of A.out (by kernel_rfl)) (by decide) (fun K hK=>?_);refine goes_ Try.func66 (by kernel_rfl) rfl #[.string (aa.extract 0 8)] (by rfl) rfl rfl (by (try simp only[List.map_toArray,List.map_cons,List.map_nil]);first|done|(simp only[M];rfl)|rfl|(simp only[List.length_drop,List.length_take];rfl)) ?_;with_reducible refine (spoorref05_Number.calls kj14 (aa.extract 0 8) af _ ap.out).mono ?_
                rintro e w' ⟨rfl,⟨nd,rfl⟩⟩
                refine⟨_,rfl,?_⟩;refine hK.out _ _ trivial (fun E=>?_);clear hK K;refine norm_ (a':=?_) ?_ ?_;rotate_left
                ·show Act.put _ (some 63) _=_
                 simp only[sP];rfl
                refine pz 6 67 #[Z,Z,Z,Z,Z,Y,Z,Y,Y,Y,Y,Y] A.out ?_
                refine pz 7 68 #[Z,Z,Z,Z,Z,Y,Z,Z,Y,Y,Y,Y] A.out ?_
                refine one_ (i:=5) (N:=some 66) #[Z,Z,Z,Z,Z,Z,Z,Z,Y,Y,Y,Y] rfl rfl (one_of A.out (by kernel_rfl)) (by decide) (fun K hK=>?_);refine goes_ Try.func66 (by kernel_rfl) rfl #[.string (aa.extract 8 aa.size)] (by rfl) rfl rfl (by (try simp only[List.map_toArray,List.map_cons,List.map_nil]);first|done|(simp only[M];rfl)|rfl|(simp only[List.length_drop,List.length_take];rfl)) ?_;with_reducible refine (spoorref05_Number.calls kj14 (aa.extract 8 aa.size) ag _ aq.out).mono ?_
                rintro e w' ⟨rfl,⟨nd,rfl⟩⟩
                refine⟨_,rfl,?_⟩;refine hK.out _ _ trivial (fun E=>?_);clear hK K;refine norm_ (a':=?_) ?_ ?_;rotate_left
                ·show Act.put _ (some 66) _=_
                 simp only[sP];rfl
                refine one_ (i:=8) (N:=none) #[Z,Z,Z,Z,Z,Z,Z,Z,Z,Y,Y,Y] rfl rfl (one_of A.out (by kernel_rfl)) (by decide) (fun K hK=>?_);have dB:w52.cell? ⟨D,1,none⟩=some (.int .u64 0):=(blk_cell B.out 1).trans rfl;have dC:=blk_frozen B.out 1;have dD:=L.out;have dE:=F.out;refine skip_ (w1:=?_) (by rfl) rfl ?_ ?_;rotate_left;·go_simp;rfl
                refine hK.out _ _ trivial (fun E=>?_);clear hK K;refine pz 9 69 #[Z,Z,Z,Z,Z,Z,Z,Z,Z,Z,Y,Y] A.out ?_
                refine pz 10 70 #[Z,Z,Z,Z,Z,Z,Z,Z,Z,Z,Z,Y] A.out ?_
                refine one_ (i:=11) (N:=none) #[Z,Z,Z,Z,Z,Z,Z,Z,Z,Z,Z,Z] rfl rfl (one_of A.out (by kernel_rfl)) (by decide) (fun K hK=>?_);have dG:w52.cell? ⟨D,2,none⟩=some (.int .u64 0):=(blk_cell B.out 2).trans rfl;have dH:=blk_frozen B.out 2;have dI:=L.out;have dJ:=F.out;refine skip_ (w1:=?_) (by rfl) rfl ?_ ?_;rotate_left;·go_simp;rfl
                refine hK.out _ _ trivial (fun E=>?_);clear hK K;refine done_ (done_of A.out (by kernel_rfl)) ?_;obtain⟨dK,dL,dM,dN,dO,dP,dQ,dR⟩:=cl4 B;try go_wp2_with (first|((with_reducible refine gate_callee (f:=67) rfl ?_);refine goesL_ (some 76) rfl rfl Try.func67 (by kernel_rfl) rfl #[.agg #[.bool true,.int .u64 af,.int .u64 ag,.int .i64 (wrap64 (bt a0 1))]] rfl (by (try simp only[List.map_toArray,List.map_cons,List.map_nil]);first|done|rfl|(simp only[List.length_drop,List.length_take];rfl)|(simp only[*];rfl)) ?_;(with_reducible refine (spoorref09_Check.calls kj14 true af ag (wrap64 (bt a0 1)) aA _ ar.out).mono ?_);rintro e cz ⟨rfl,hb⟩;refine⟨_,rfl,?_⟩;replace C:=Bx2 C hb L.out L.out;replace B:=Ax (blk_below (g:=D) (o:=.cells #[.bool true,.int .u64 af,.int .u64 ag,.int .i64 (wrap64 (bt a0 1))] 30 (0,0)) (gB B.out) hb);replace HB:=Bs2 HB hb R.out X.out;(try clear hb)))
                replace C:=Ax (blk_drew C.out);replace B:=Ax (blk_drew B.out);replace HB:=Ax (below_drew1 HB.out);refine start_ (n:=8) (S:=fun w'=>w'.cell? ⟨D,0,none⟩=some (.bool true)∧w'.cell? ⟨D,1,none⟩=some (.int .u64 af)∧w'.cell? ⟨D,2,none⟩=some (.int .u64 ag)∧w'.cell? ⟨D,3,none⟩=some (.int .i64 (wrap64 (bt a0 1)))) (ds:= []) #[Y,Y,Y,Y,Y,Y,Y,Y] (by kernel_rfl) rfl rfl (bqc4 B.out) (fun E=>?_);refine with_tabW spoorref11_GetPrefix.tab13 spoorref11_GetPrefix.bits13 (fun A U=>?_);generalize cz.drew=w57 at C B HB E ⊢;refine pz 1 80 #[Y,Z,Y,Y,Y,Y,Y,Y] A.out ?_
                refine pz 2 81 #[Y,Z,Z,Y,Y,Y,Y,Y] A.out ?_
                refine pz 3 82 #[Y,Z,Z,Z,Y,Y,Y,Y] A.out ?_
                refine pz 4 83 #[Y,Z,Z,Z,Z,Y,Y,Y] A.out ?_
                refine take_ (i:=0) (N:=some 79) (v:=?_) (a':=?_) #[Z,Z,Z,Z,Z,Y,Y,Y] rfl rfl (take_ofW A.out U.out (by kernel_rfl)) (fun _ _ _ h=>h) (Or.inl ⟨by rfl,?_⟩) E ?_ ?_;rotate_left
                ·rintro w' ⟨s0,s1,s2,s3⟩
                 go_simp;with_reducible rfl
                rotate_left;·simp only[sP];rfl
                refine one_ (i:=5) (N:=none) #[Z,Z,Z,Z,Z,Z,Y,Y] rfl rfl (one_of A.out (by kernel_rfl)) (by decide) (fun K hK=>?_);have dS:w57.cell? ⟨V,0,none⟩=some (.bool false):=(blk_cell C.out 0).trans rfl;have dU:=blk_frozen C.out 0;have dV:=F.out;have dW:=L.out;have dX:w57.cell? ⟨V,1,none⟩=some (.int .u64 0):=(blk_cell C.out 1).trans rfl;have dY:=blk_frozen C.out 1;have dZ:=F.out;have e7:=L.out;have e8:w57.cell? ⟨V,2,none⟩=some (.int .u64 0):=(blk_cell C.out 2).trans rfl;have e9:=blk_frozen C.out 2;have ea:=F.out;have eb:=L.out;have ec:w57.cell? ⟨V,3,none⟩=some (.int .i64 0):=(blk_cell C.out 3).trans rfl;have ed:=blk_frozen C.out 3;have ee:=F.out;have ef:=L.out;refine skip_ (w1:=?_) (by rfl) rfl ?_ ?_;rotate_left;·go_simp;rfl
                refine hK.out _ _ ⟨(cqf F.out ((cqf F.out ((cqf F.out ((cqf F.out (E.1)))))))),(cqf F.out ((cqf F.out ((cqf F.out ((cqf F.out (E.2.1)))))))),(cqf F.out ((cqf F.out ((cqf F.out ((cqf F.out (E.2.2.1)))))))),(cqf F.out ((cqf F.out ((cqf F.out ((cqf F.out (E.2.2.2))))))))⟩ (fun E=>?_);clear hK K;refine pz 6 3 #[Z,Z,Z,Z,Z,Z,Z,Y] A.out ?_
                refine pz 7 4 #[Z,Z,Z,Z,Z,Z,Z,Z] A.out ?_
                refine done_ (done_of A.out (by kernel_rfl)) ?_;try go_wp2
                refine bodyPost_ret (results_ctt rfl _ _ V 30 #[.bool true,.int .u64 af,.int .u64 ag,.int .i64 (wrap64 (bt a0 1))] (0,0) _ rfl (gB C.out) Try.underlying30 rfl (by kernel_rfl)) rfl ?_;exact⟨by first|rfl|(simp [errW_none,errW_some] <;> rfl)|(simp only[← M];first|rfl|(simp [errW_none,errW_some] <;> rfl))|(simp [*,errW_none,errW_some] <;> rfl),bw2 HB.out R.out X.out⟩
               ·rw [if_neg b6]at H;exact absurd H (by simp)
              ·rw [if_neg aQ]at H;have cw:(aA==0)=false:=beq_eq_false_iff_ne.mpr aQ;have cx:(aA !=0)=true:=bne_iff_ne.mpr aQ;simp only[Option.some.injEq,Prod.mk.injEq]at H;obtain⟨rfl,rfl,rfl,rfl,rfl,rfl⟩:=H;obtain⟨aa,G⟩: ∃ X_:ByteArray,a0.extract 2 (wrap64 (2+(wrap64 (Int.tdiv (wrap64 ((wrap64 (bt a0 1))+7)) 8))):Int).toNat++T=X_:=⟨_,rfl⟩
               (try rw [G]at av)
               (try rw [G]at ab)
               (try rw [G]at ac)
               (try rw [G]at ap)
               (try rw [G]at aq)
               (try rw [G]at ar)
               (try rw [G]at aw)
               (try rw [G]at aY)
               (try rw [G]at aN)
               (try rw [G]at aZ)
               (try have bo:(9223372036854775807<(wrap64 (2+(wrap64 (Int.tdiv (wrap64 ((wrap64 (bt a0 1))+7)) 8))):Int).toNat - 2+T.size)=False:=eq_false (by have h_:=of_decide_eq_true aw;have bq:=of_decide_eq_true aW;rw [ByteArray.size_extract]at h_;omega))
               (try rw [I]at av)
               (try rw [I]at ab)
               (try rw [I]at ac)
               (try rw [I]at ap)
               (try rw [I]at aq)
               (try rw [I]at ar)
               (try rw [I]at C)
               (try rw [I]at B)
               try go_wp2
               replace C:=Ax (blk_drew C.out);replace B:=Ax (blk_drew B.out);replace HB:=Ax (below_drew1 HB.out);refine start_ (n:=13) (S:=fun w'=>w'.cell? ⟨D,0,none⟩=some (.bool true)∧w'.cell? ⟨D,1,none⟩=some (.int .u64 0)∧w'.cell? ⟨D,2,none⟩=some (.int .u64 0)∧w'.cell? ⟨D,3,none⟩=some (.int .i64 (wrap64 (bt a0 1)))) (ds:= []) #[Y,Y,Y,Y,Y,Y,Y,Y,Y,Y,Y,Y,Y] (by kernel_rfl) rfl rfl (bqc4 B.out) (fun E=>?_);refine with_tabW spoorref11_GetPrefix.tab7 spoorref11_GetPrefix.bits7 (fun A U=>?_);generalize wc.drew=w62 at C B HB E ⊢;refine pz 0 47 #[Z,Y,Y,Y,Y,Y,Y,Y,Y,Y,Y,Y,Y] A.out ?_
               refine pz 1 48 #[Z,Z,Y,Y,Y,Y,Y,Y,Y,Y,Y,Y,Y] A.out ?_
               refine pz 2 49 #[Z,Z,Z,Y,Y,Y,Y,Y,Y,Y,Y,Y,Y] A.out ?_
               refine pz 3 50 #[Z,Z,Z,Z,Y,Y,Y,Y,Y,Y,Y,Y,Y] A.out ?_
               refine pz 4 51 #[Z,Z,Z,Z,Z,Y,Y,Y,Y,Y,Y,Y,Y] A.out ?_
               refine pz 8 55 #[Z,Z,Z,Z,Z,Y,Y,Y,Z,Y,Y,Y,Y] A.out ?_
               refine take_ (i:=5) (N:=some 52) (v:=?_) (a':=?_) #[Z,Z,Z,Z,Z,Z,Y,Y,Z,Y,Y,Y,Y] rfl rfl (take_ofW A.out U.out (by kernel_rfl)) (fun _ _ _ h=>h) (Or.inl ⟨by rfl,?_⟩) E ?_ ?_;rotate_left
               ·rintro w' ⟨s0,s1,s2,s3⟩
                go_simp;with_reducible rfl
               rotate_left;·simp only[sP];rfl
               refine one_ (i:=6) (N:=some 53) #[Z,Z,Z,Z,Z,Z,Z,Y,Z,Y,Y,Y,Y] rfl rfl (one_of A.out (by kernel_rfl)) (by decide) (fun K hK=>?_);refine goes_ Try.func64 (by kernel_rfl) rfl #[.bool true] (by rfl) rfl rfl (by (try simp only[List.map_toArray,List.map_cons,List.map_nil]);first|done|rfl|(simp only[List.length_drop,List.length_take];rfl)|(simp only[*];rfl)) ?_;with_reducible refine (spoorref09_Wide.calls true ae _ ab.out).mono ?_
               rintro e w' ⟨rfl,⟨nd,rfl⟩⟩
               refine⟨_,rfl,?_⟩;refine hK.out _ _ (bqc4 B.out) (fun E=>?_);clear hK K;refine norm_ (a':=?_) ?_ ?_;rotate_left
               ·show Act.put _ (some 53) _=_
                simp only[sP];rfl
               refine pz 7 54 #[Z,Z,Z,Z,Z,Z,Z,Z,Z,Y,Y,Y,Y] A.out ?_
               refine pz 9 56 #[Z,Z,Z,Z,Z,Z,Z,Z,Z,Z,Y,Y,Y] A.out ?_
               refine one_ (i:=10) (N:=some 57) #[Z,Z,Z,Z,Z,Z,Z,Z,Z,Z,Z,Y,Y] rfl rfl (one_of A.out (by kernel_rfl)) (by decide) (fun K hK=>?_);refine goes_ Try.func65 (by kernel_rfl) rfl #[.int .i64 (wrap64 ((wrap64 (Int.tdiv ae 8)) - (wrap64 (Int.tdiv (wrap64 ((wrap64 (bt a0 1))+7)) 8))))] (by rfl) rfl rfl (by (try simp only[List.map_toArray,List.map_cons,List.map_nil]);first|done|rfl|(simp only[List.length_drop,List.length_take];rfl)|(simp only[*];rfl)) ?_;with_reducible refine (spoorref05_Zeros.calls (wrap64 ((wrap64 (Int.tdiv ae 8)) - (wrap64 (Int.tdiv (wrap64 ((wrap64 (bt a0 1))+7)) 8)))) T _ ac.out).mono ?_
               rintro e cA ⟨rfl,hb⟩
               refine⟨_,rfl,?_⟩;replace C:=Bx0 C hb;replace B:=Bx0 B hb;replace HB:=Bs2 HB hb R.out X.out
               (try clear hb)
               refine hK.out _ _ (bqc4 B.out) (fun E=>?_);clear hK K;refine norm_ (a':=?_) ?_ ?_;rotate_left
               ·show Act.put _ (some 57) _=_
                simp only[sP];rfl
               refine pz 11 58 #[Z,Z,Z,Z,Z,Z,Z,Z,Z,Z,Z,Z,Y] A.out ?_
               refine pz 12 7 #[Z,Z,Z,Z,Z,Z,Z,Z,Z,Z,Z,Z,Z] A.out ?_
               refine done_ (done_of A.out (by kernel_rfl)) ?_;have eg:=F.out;have eh:=L.out;obtain⟨ei,ej,ek,el,en,eo,ep,eq⟩:=cl4 B;try go_wp2
               replace C:=Ax (blk_drew C.out);replace B:=Ax (blk_drew B.out);replace HB:=Ax (below_drew1 HB.out);refine start_ (n:=12) (S:=fun w'=>True) (ds:= []) #[Y,Y,Y,Y,Y,Y,Y,Y,Y,Y,Y,Y] (by kernel_rfl) rfl rfl trivial (fun E=>?_);refine with_tabW spoorref11_GetPrefix.tab9 spoorref11_GetPrefix.bits9 (fun A U=>?_);generalize cA.drew=w66 at C B HB E ⊢;refine pz 0 61 #[Z,Y,Y,Y,Y,Y,Y,Y,Y,Y,Y,Y] A.out ?_
               refine pz 1 62 #[Z,Z,Y,Y,Y,Y,Y,Y,Y,Y,Y,Y] A.out ?_
               refine pz 3 64 #[Z,Z,Y,Z,Y,Y,Y,Y,Y,Y,Y,Y] A.out ?_
               refine pz 4 65 #[Z,Z,Y,Z,Z,Y,Y,Y,Y,Y,Y,Y] A.out ?_
               refine one_ (i:=2) (N:=some 63) #[Z,Z,Z,Z,Z,Y,Y,Y,Y,Y,Y,Y] rfl rfl (one_of A.out (by kernel_rfl)) (by decide) (fun K hK=>?_);refine goes_ Try.func66 (by kernel_rfl) rfl #[.string (aa.extract 0 8)] (by rfl) rfl rfl (by (try simp only[List.map_toArray,List.map_cons,List.map_nil]);first|done|rfl|(simp only[List.length_drop,List.length_take];rfl)|(simp only[*];rfl)) ?_;with_reducible refine (spoorref05_Number.calls kj14 (aa.extract 0 8) af _ ap.out).mono ?_
               rintro e w' ⟨rfl,⟨nd,rfl⟩⟩
               refine⟨_,rfl,?_⟩;refine hK.out _ _ trivial (fun E=>?_);clear hK K;refine norm_ (a':=?_) ?_ ?_;rotate_left
               ·show Act.put _ (some 63) _=_
                simp only[sP];rfl
               refine pz 6 67 #[Z,Z,Z,Z,Z,Y,Z,Y,Y,Y,Y,Y] A.out ?_
               refine pz 7 68 #[Z,Z,Z,Z,Z,Y,Z,Z,Y,Y,Y,Y] A.out ?_
               refine one_ (i:=5) (N:=some 66) #[Z,Z,Z,Z,Z,Z,Z,Z,Y,Y,Y,Y] rfl rfl (one_of A.out (by kernel_rfl)) (by decide) (fun K hK=>?_);refine goes_ Try.func66 (by kernel_rfl) rfl #[.string (aa.extract 8 aa.size)] (by rfl) rfl rfl (by (try simp only[List.map_toArray,List.map_cons,List.map_nil]);first|done|rfl|(simp only[List.length_drop,List.length_take];rfl)|(simp only[*];rfl)) ?_;with_reducible refine (spoorref05_Number.calls kj14 (aa.extract 8 aa.size) ag _ aq.out).mono ?_
               rintro e w' ⟨rfl,⟨nd,rfl⟩⟩
               refine⟨_,rfl,?_⟩;refine hK.out _ _ trivial (fun E=>?_);clear hK K;refine norm_ (a':=?_) ?_ ?_;rotate_left
               ·show Act.put _ (some 66) _=_
                simp only[sP];rfl
               refine one_ (i:=8) (N:=none) #[Z,Z,Z,Z,Z,Z,Z,Z,Z,Y,Y,Y] rfl rfl (one_of A.out (by kernel_rfl)) (by decide) (fun K hK=>?_);have er:w66.cell? ⟨D,1,none⟩=some (.int .u64 0):=(blk_cell B.out 1).trans rfl;have es:=blk_frozen B.out 1;have et:=L.out;have eu:=F.out;refine skip_ (w1:=?_) (by rfl) rfl ?_ ?_;rotate_left;·go_simp;rfl
               refine hK.out _ _ trivial (fun E=>?_);clear hK K;refine pz 9 69 #[Z,Z,Z,Z,Z,Z,Z,Z,Z,Z,Y,Y] A.out ?_
               refine pz 10 70 #[Z,Z,Z,Z,Z,Z,Z,Z,Z,Z,Z,Y] A.out ?_
               refine one_ (i:=11) (N:=none) #[Z,Z,Z,Z,Z,Z,Z,Z,Z,Z,Z,Z] rfl rfl (one_of A.out (by kernel_rfl)) (by decide) (fun K hK=>?_);have ev:w66.cell? ⟨D,2,none⟩=some (.int .u64 0):=(blk_cell B.out 2).trans rfl;have ex:=blk_frozen B.out 2;have ey:=L.out;have ez:=F.out;refine skip_ (w1:=?_) (by rfl) rfl ?_ ?_;rotate_left;·go_simp;rfl
               refine hK.out _ _ trivial (fun E=>?_);clear hK K;refine done_ (done_of A.out (by kernel_rfl)) ?_;obtain⟨eA,eB,eC,eD,eE,eF,eG,eH⟩:=cl4 B;try go_wp2_with (first|((with_reducible refine gate_callee (f:=67) rfl ?_);refine goesL_ (some 76) rfl rfl Try.func67 (by kernel_rfl) rfl #[.agg #[.bool true,.int .u64 af,.int .u64 ag,.int .i64 (wrap64 (bt a0 1))]] rfl (by (try simp only[List.map_toArray,List.map_cons,List.map_nil]);first|done|rfl|(simp only[List.length_drop,List.length_take];rfl)|(simp only[*];rfl)) ?_;(with_reducible refine (spoorref09_Check.calls kj14 true af ag (wrap64 (bt a0 1)) aA _ ar.out).mono ?_);rintro e eI ⟨rfl,hb⟩;refine⟨_,rfl,?_⟩;replace C:=Bx2 C hb L.out L.out;replace B:=Ax (blk_below (g:=D) (o:=.cells #[.bool true,.int .u64 af,.int .u64 ag,.int .i64 (wrap64 (bt a0 1))] 30 (0,0)) (gB B.out) hb);replace HB:=Bs2 HB hb R.out X.out;(try clear hb);obtain⟨eJ,eK,eL,eM,eN,eO,eP,eQ⟩:=cl4 C))
               refine bodyPost_ret (results_ctt rfl _ _ V 30 #[.bool false,.int .u64 0,.int .u64 0,.int .i64 0] (0,0) _ rfl (gB C.out) Try.underlying30 rfl (by kernel_rfl)) rfl ?_;exact⟨eS,bw2 HB.out R.out X.out⟩
             ·rw [if_neg b5]at H;exact absurd H (by simp)
            ·rw [if_neg ax]at H;have I:((bt a0 0)==6)=false:=by simpa using ax
             (try (have ct:decide ((bt a0 0)=6)=false:=by simpa using ax))
             (try (have cu:((bt a0 0)==6)=false:=by simpa using ax))
             (try (have eR: ¬ ((bt a0 0)=6):=by simpa using ax))
             clear ax;replace H:=bI H;obtain⟨ah,bL,H⟩:=H;(try dsimp only at H);have aG:=Ax bL;clear bL;replace H:=bI H;obtain⟨aC,bM,H⟩:=H;(try dsimp only at H);have aH:=Ax bM;clear bM;by_cases aR:aC=0
             ·rw [if_pos aR]at H;have cB:(aC==0)=true:=beq_iff_eq.mpr aR;have cC:(aC !=0)=false:=bne_eq_false_iff_eq.mpr aR;clear aR;obtain⟨aI,O⟩: ∃ j_:Int,(wrap64 (2+(wrap64 (Int.tdiv (wrap64 ((wrap64 (bt a0 1))+7)) 8))))=j_:=⟨_,rfl⟩;replace H:(if 0≤(aI) then (some (((bt a0 0)==6),0,ah,(wrap64 (bt a0 1)),a0.extract ((aI):Int).toNat a0.size,0)) else (none))=some (r1,r2,r3,r4,r5,r6):=by first|(rw [O]at H;exact H)|(simp only[O]at H ⊢;exact H)
              (try rw [O]at bB)
              (try rw [O]at bC)
              (try rw [O]at aU)
              (try rw [O]at bD)
              (try rw [O]at aW)
              (try rw [O]at aV)
              (try rw [O]at bG)
              (try rw [O]at aw)
              (try rw [O]at aD)
              (try rw [O]at ab)
              (try rw [O]at ac)
              (try rw [O]at aG)
              (try rw [O]at aH)
              have eT:(IntKind.i64.wrap (2+(wrap64 (Int.tdiv (wrap64 ((wrap64 (bt a0 1))+7)) 8))))=aI:=(i64_w _).trans O;by_cases b7:0≤(aI)
              ·rw [if_pos b7]at H;have eU:=eq_true b7;have eV:decide (0≤(aI))=true:=dT b7;clear b7;have eW:=eq_true (of_decide_eq_true (by first|(with_reducible assumption)|assumption):(aI)≤(a0.size:Int));simp only[Option.some.injEq,Prod.mk.injEq]at H;obtain⟨rfl,rfl,rfl,rfl,rfl,rfl⟩:=H;obtain⟨aa,G⟩: ∃ X_:ByteArray,a0.extract 2 (aI:Int).toNat++T=X_:=⟨_,rfl⟩
               (try rw [O]at av)
               (try rw [O]at ab)
               (try rw [O]at ac)
               (try rw [O]at ap)
               (try rw [O]at aq)
               (try rw [O]at ar)
               (try rw [O]at aG)
               (try rw [O]at aH)
               (try rw [O]at aw)
               (try rw [O]at aY)
               (try rw [O]at aN)
               (try rw [O]at aZ)
               (try rw [G]at av)
               (try rw [G]at ab)
               (try rw [G]at ac)
               (try rw [G]at ap)
               (try rw [G]at aq)
               (try rw [G]at ar)
               (try rw [G]at aG)
               (try rw [G]at aH)
               (try rw [G]at aw)
               (try rw [G]at aY)
               (try rw [G]at aN)
               (try rw [G]at aZ)
               (try have bo:(9223372036854775807<(aI:Int).toNat - 2+T.size)=False:=eq_false (by have h_:=of_decide_eq_true aw;have bq:=of_decide_eq_true aW;rw [ByteArray.size_extract]at h_;omega))
               (try rw [I]at av)
               (try rw [I]at ab)
               (try rw [I]at ac)
               (try rw [I]at ap)
               (try rw [I]at aq)
               (try rw [I]at ar)
               (try rw [I]at aG)
               (try rw [I]at aH)
               (try rw [I]at C)
               (try rw [I]at B)
               try go_wp2
               replace C:=Ax (blk_drew C.out);replace B:=Ax (blk_drew B.out);replace HB:=Ax (below_drew1 HB.out);refine start_ (n:=13) (S:=fun w'=>w'.cell? ⟨D,0,none⟩=some (.bool false)∧w'.cell? ⟨D,1,none⟩=some (.int .u64 0)∧w'.cell? ⟨D,2,none⟩=some (.int .u64 0)∧w'.cell? ⟨D,3,none⟩=some (.int .i64 (wrap64 (bt a0 1)))) (ds:= []) #[Y,Y,Y,Y,Y,Y,Y,Y,Y,Y,Y,Y,Y] (by kernel_rfl) rfl rfl (bqc4 B.out) (fun E=>?_);refine with_tabW spoorref11_GetPrefix.tab7 spoorref11_GetPrefix.bits7 (fun A U=>?_);generalize wc.drew=w78 at C B HB E ⊢;refine pz 0 47 #[Z,Y,Y,Y,Y,Y,Y,Y,Y,Y,Y,Y,Y] A.out ?_
               refine pz 1 48 #[Z,Z,Y,Y,Y,Y,Y,Y,Y,Y,Y,Y,Y] A.out ?_
               refine pz 2 49 #[Z,Z,Z,Y,Y,Y,Y,Y,Y,Y,Y,Y,Y] A.out ?_
               refine pz 3 50 #[Z,Z,Z,Z,Y,Y,Y,Y,Y,Y,Y,Y,Y] A.out ?_
               refine pz 4 51 #[Z,Z,Z,Z,Z,Y,Y,Y,Y,Y,Y,Y,Y] A.out ?_
               refine pz 8 55 #[Z,Z,Z,Z,Z,Y,Y,Y,Z,Y,Y,Y,Y] A.out ?_
               refine take_ (i:=5) (N:=some 52) (v:=?_) (a':=?_) #[Z,Z,Z,Z,Z,Z,Y,Y,Z,Y,Y,Y,Y] rfl rfl (take_ofW A.out U.out (by kernel_rfl)) (fun _ _ _ h=>h) (Or.inl ⟨by rfl,?_⟩) E ?_ ?_;rotate_left
               ·rintro w' ⟨s0,s1,s2,s3⟩
                go_simp;with_reducible rfl
               rotate_left;·simp only[sP];rfl
               refine one_ (i:=6) (N:=some 53) #[Z,Z,Z,Z,Z,Z,Z,Y,Z,Y,Y,Y,Y] rfl rfl (one_of A.out (by kernel_rfl)) (by decide) (fun K hK=>?_);refine goes_ Try.func64 (by kernel_rfl) rfl #[.bool false] (by rfl) rfl rfl (by (try simp only[List.map_toArray,List.map_cons,List.map_nil]);first|done|rfl|(simp only[List.length_drop,List.length_take];rfl)|(simp only[*];rfl)) ?_;with_reducible refine (spoorref09_Wide.calls false ae _ ab.out).mono ?_
               rintro e w' ⟨rfl,⟨nd,rfl⟩⟩
               refine⟨_,rfl,?_⟩;refine hK.out _ _ (bqc4 B.out) (fun E=>?_);clear hK K;refine norm_ (a':=?_) ?_ ?_;rotate_left
               ·show Act.put _ (some 53) _=_
                simp only[sP];rfl
               refine pz 7 54 #[Z,Z,Z,Z,Z,Z,Z,Z,Z,Y,Y,Y,Y] A.out ?_
               refine pz 9 56 #[Z,Z,Z,Z,Z,Z,Z,Z,Z,Z,Y,Y,Y] A.out ?_
               refine one_ (i:=10) (N:=some 57) #[Z,Z,Z,Z,Z,Z,Z,Z,Z,Z,Z,Y,Y] rfl rfl (one_of A.out (by kernel_rfl)) (by decide) (fun K hK=>?_);refine goes_ Try.func65 (by kernel_rfl) rfl #[.int .i64 (wrap64 ((wrap64 (Int.tdiv ae 8)) - (wrap64 (Int.tdiv (wrap64 ((wrap64 (bt a0 1))+7)) 8))))] (by rfl) rfl rfl (by (try simp only[List.map_toArray,List.map_cons,List.map_nil]);first|done|rfl|(simp only[List.length_drop,List.length_take];rfl)|(simp only[*];rfl)) ?_;with_reducible refine (spoorref05_Zeros.calls (wrap64 ((wrap64 (Int.tdiv ae 8)) - (wrap64 (Int.tdiv (wrap64 ((wrap64 (bt a0 1))+7)) 8)))) T _ ac.out).mono ?_
               rintro e ay ⟨rfl,hb⟩
               refine⟨_,rfl,?_⟩;replace C:=Bx0 C hb;replace B:=Bx0 B hb;replace HB:=Bs2 HB hb R.out X.out
               (try clear hb)
               refine hK.out _ _ (bqc4 B.out) (fun E=>?_);clear hK K;refine norm_ (a':=?_) ?_ ?_;rotate_left
               ·show Act.put _ (some 57) _=_
                simp only[sP];rfl
               refine pz 11 58 #[Z,Z,Z,Z,Z,Z,Z,Z,Z,Z,Z,Z,Y] A.out ?_
               refine pz 12 7 #[Z,Z,Z,Z,Z,Z,Z,Z,Z,Z,Z,Z,Z] A.out ?_
               refine done_ (done_of A.out (by kernel_rfl)) ?_;have eX:=F.out;have eY:=L.out;obtain⟨eZ,fb,fc,fd,fe,fg,fh,fi⟩:=cl4 B;try go_wp2_with (first|((with_reducible refine gate_callee (f:=66) rfl ?_);refine goesL_ (some 72) rfl rfl Try.func66 (by kernel_rfl) rfl #[.string aa] rfl (by (try simp only[List.map_toArray,List.map_cons,List.map_nil]);first|done|(simp only[O];rfl)|rfl|(simp only[List.length_drop,List.length_take];rfl)) ?_;(with_reducible refine (spoorref05_Number.calls kj14 aa ah _ aG.out).mono ?_);rintro e w' ⟨rfl,⟨nd,rfl⟩⟩;refine⟨_,rfl,?_⟩;(try (rw [drewN_self ay];generalize hq_:World.drewN ay _=ay;have aj:Aside0 (ay.heap[V]? =some (.cells #[.bool false,.int .u64 0,.int .u64 0,.int .i64 0] 30 (0,0))):=⟨by rw [← hq_];exact (bf0 C.out)⟩;have al:Aside0 (ay.heap[D]? =some (.cells #[.bool false,.int .u64 0,.int .u64 0,.int .i64 (wrap64 (bt a0 1))] 30 (0,0))):=⟨by rw [← hq_];exact (bf0 B.out)⟩;have am:Aside0 (Below w.heap.size w ay):=⟨by rw [← hq_];exact (bw2 HB.out R.out X.out)⟩;clear C B HB hq_;have C:=aj;have B:=al;have HB:=am;clear aj al am));(try (have cD:ay.cell? ⟨D,0,none⟩=some (.bool false):=(blk_cell B.out 0).trans rfl;have cE:=blk_frozen B.out 0;have cF:ay.cell? ⟨D,1,none⟩=some (.int .u64 0):=(blk_cell B.out 1).trans rfl;have cG:=blk_frozen B.out 1;have cH:ay.cell? ⟨D,2,none⟩=some (.int .u64 0):=(blk_cell B.out 2).trans rfl;have cI:=blk_frozen B.out 2;have cJ:ay.cell? ⟨D,3,none⟩=some (.int .i64 (wrap64 (bt a0 1))):=(blk_cell B.out 3).trans rfl;have cK:=blk_frozen B.out 3)))|((with_reducible refine gate_callee (f:=67) rfl ?_);refine goesL_ (some 76) rfl rfl Try.func67 (by kernel_rfl) rfl #[.agg #[.bool false,.int .u64 0,.int .u64 ah,.int .i64 (wrap64 (bt a0 1))]] rfl (by (try simp only[List.map_toArray,List.map_cons,List.map_nil]);first|done|rfl|(simp only[List.length_drop,List.length_take];rfl)|(simp only[*];rfl)) ?_;(with_reducible refine (spoorref09_Check.calls kj14 false 0 ah (wrap64 (bt a0 1)) aC _ aH.out).mono ?_);rintro e cL ⟨rfl,hb⟩;refine⟨_,rfl,?_⟩;replace C:=Bx1 C hb L.out;replace B:=Ax (blk_below (g:=D) (o:=.cells #[.bool false,.int .u64 0,.int .u64 ah,.int .i64 (wrap64 (bt a0 1))] 30 (0,0)) (gB B.out) hb);replace HB:=Bs2 HB hb R.out X.out;(try clear hb)))
               replace C:=Ax (blk_drew C.out);replace B:=Ax (blk_drew B.out);replace HB:=Ax (below_drew1 HB.out);refine start_ (n:=8) (S:=fun w'=>w'.cell? ⟨D,0,none⟩=some (.bool false)∧w'.cell? ⟨D,1,none⟩=some (.int .u64 0)∧w'.cell? ⟨D,2,none⟩=some (.int .u64 ah)∧w'.cell? ⟨D,3,none⟩=some (.int .i64 (wrap64 (bt a0 1)))) (ds:= []) #[Y,Y,Y,Y,Y,Y,Y,Y] (by kernel_rfl) rfl rfl (bqc4 B.out) (fun E=>?_);refine with_tabW spoorref11_GetPrefix.tab13 spoorref11_GetPrefix.bits13 (fun A U=>?_);generalize cL.drew=w83 at C B HB E ⊢;refine pz 1 80 #[Y,Z,Y,Y,Y,Y,Y,Y] A.out ?_
               refine pz 2 81 #[Y,Z,Z,Y,Y,Y,Y,Y] A.out ?_
               refine pz 3 82 #[Y,Z,Z,Z,Y,Y,Y,Y] A.out ?_
               refine pz 4 83 #[Y,Z,Z,Z,Z,Y,Y,Y] A.out ?_
               refine take_ (i:=0) (N:=some 79) (v:=?_) (a':=?_) #[Z,Z,Z,Z,Z,Y,Y,Y] rfl rfl (take_ofW A.out U.out (by kernel_rfl)) (fun _ _ _ h=>h) (Or.inl ⟨by rfl,?_⟩) E ?_ ?_;rotate_left
               ·rintro w' ⟨s0,s1,s2,s3⟩
                go_simp;with_reducible rfl
               rotate_left;·simp only[sP];rfl
               refine one_ (i:=5) (N:=none) #[Z,Z,Z,Z,Z,Z,Y,Y] rfl rfl (one_of A.out (by kernel_rfl)) (by decide) (fun K hK=>?_);have fj:w83.cell? ⟨V,0,none⟩=some (.bool false):=(blk_cell C.out 0).trans rfl;have fk:=blk_frozen C.out 0;have fl:=F.out;have fm:=L.out;have fo:w83.cell? ⟨V,1,none⟩=some (.int .u64 0):=(blk_cell C.out 1).trans rfl;have fp:=blk_frozen C.out 1;have fq:=F.out;have ft:=L.out;have fu:w83.cell? ⟨V,2,none⟩=some (.int .u64 0):=(blk_cell C.out 2).trans rfl;have fv:=blk_frozen C.out 2;have fw:=F.out;have fx:=L.out;have fy:w83.cell? ⟨V,3,none⟩=some (.int .i64 0):=(blk_cell C.out 3).trans rfl;have fz:=blk_frozen C.out 3;have fA:=F.out;have fB:=L.out;refine skip_ (w1:=?_) (by rfl) rfl ?_ ?_;rotate_left;·go_simp;rfl
               refine hK.out _ _ ⟨(cqf F.out ((cqf F.out ((cqf F.out ((cqf F.out (E.1)))))))),(cqf F.out ((cqf F.out ((cqf F.out ((cqf F.out (E.2.1)))))))),(cqf F.out ((cqf F.out ((cqf F.out ((cqf F.out (E.2.2.1)))))))),(cqf F.out ((cqf F.out ((cqf F.out ((cqf F.out (E.2.2.2))))))))⟩ (fun E=>?_);clear hK K;refine pz 6 3 #[Z,Z,Z,Z,Z,Z,Z,Y] A.out ?_
               refine pz 7 4 #[Z,Z,Z,Z,Z,Z,Z,Z] A.out ?_
               refine done_ (done_of A.out (by kernel_rfl)) ?_;try go_wp2
               refine bodyPost_ret (results_ctt rfl _ _ V 30 #[.bool false,.int .u64 0,.int .u64 ah,.int .i64 (wrap64 (bt a0 1))] (0,0) _ rfl (gB C.out) Try.underlying30 rfl (by kernel_rfl)) rfl ?_;exact⟨by first|rfl|(simp [errW_none,errW_some] <;> rfl)|(simp only[← O];first|rfl|(simp [errW_none,errW_some] <;> rfl))|(simp [*,errW_none,errW_some] <;> rfl),bw2 HB.out R.out X.out⟩
              ·rw [if_neg b7]at H;exact absurd H (by simp)
             ·rw [if_neg aR]at H;have cB:(aC==0)=false:=beq_eq_false_iff_ne.mpr aR;have cC:(aC !=0)=true:=bne_iff_ne.mpr aR;simp only[Option.some.injEq,Prod.mk.injEq]at H;obtain⟨rfl,rfl,rfl,rfl,rfl,rfl⟩:=H;obtain⟨aa,G⟩: ∃ X_:ByteArray,a0.extract 2 (wrap64 (2+(wrap64 (Int.tdiv (wrap64 ((wrap64 (bt a0 1))+7)) 8))):Int).toNat++T=X_:=⟨_,rfl⟩
              (try rw [G]at av)
              (try rw [G]at ab)
              (try rw [G]at ac)
              (try rw [G]at ap)
              (try rw [G]at aq)
              (try rw [G]at ar)
              (try rw [G]at aG)
              (try rw [G]at aH)
              (try rw [G]at aw)
              (try rw [G]at aY)
              (try rw [G]at aN)
              (try rw [G]at aZ)
              (try have bo:(9223372036854775807<(wrap64 (2+(wrap64 (Int.tdiv (wrap64 ((wrap64 (bt a0 1))+7)) 8))):Int).toNat - 2+T.size)=False:=eq_false (by have h_:=of_decide_eq_true aw;have bq:=of_decide_eq_true aW;rw [ByteArray.size_extract]at h_;omega))
              (try rw [I]at av)
              (try rw [I]at ab)
              (try rw [I]at ac)
              (try rw [I]at ap)
              (try rw [I]at aq)
              (try rw [I]at ar)
              (try rw [I]at aG)
              (try rw [I]at aH)
              (try rw [I]at C)
              (try rw [I]at B)
              try go_wp2
              replace C:=Ax (blk_drew C.out);replace B:=Ax (blk_drew B.out);replace HB:=Ax (below_drew1 HB.out);refine start_ (n:=13) (S:=fun w'=>w'.cell? ⟨D,0,none⟩=some (.bool false)∧w'.cell? ⟨D,1,none⟩=some (.int .u64 0)∧w'.cell? ⟨D,2,none⟩=some (.int .u64 0)∧w'.cell? ⟨D,3,none⟩=some (.int .i64 (wrap64 (bt a0 1)))) (ds:= []) #[Y,Y,Y,Y,Y,Y,Y,Y,Y,Y,Y,Y,Y] (by kernel_rfl) rfl rfl (bqc4 B.out) (fun E=>?_);refine with_tabW spoorref11_GetPrefix.tab7 spoorref11_GetPrefix.bits7 (fun A U=>?_);generalize wc.drew=w88 at C B HB E ⊢;refine pz 0 47 #[Z,Y,Y,Y,Y,Y,Y,Y,Y,Y,Y,Y,Y] A.out ?_
              refine pz 1 48 #[Z,Z,Y,Y,Y,Y,Y,Y,Y,Y,Y,Y,Y] A.out ?_
              refine pz 2 49 #[Z,Z,Z,Y,Y,Y,Y,Y,Y,Y,Y,Y,Y] A.out ?_
              refine pz 3 50 #[Z,Z,Z,Z,Y,Y,Y,Y,Y,Y,Y,Y,Y] A.out ?_
              refine pz 4 51 #[Z,Z,Z,Z,Z,Y,Y,Y,Y,Y,Y,Y,Y] A.out ?_
              refine pz 8 55 #[Z,Z,Z,Z,Z,Y,Y,Y,Z,Y,Y,Y,Y] A.out ?_
              refine take_ (i:=5) (N:=some 52) (v:=?_) (a':=?_) #[Z,Z,Z,Z,Z,Z,Y,Y,Z,Y,Y,Y,Y] rfl rfl (take_ofW A.out U.out (by kernel_rfl)) (fun _ _ _ h=>h) (Or.inl ⟨by rfl,?_⟩) E ?_ ?_;rotate_left
              ·rintro w' ⟨s0,s1,s2,s3⟩
               go_simp;with_reducible rfl
              rotate_left;·simp only[sP];rfl
              refine one_ (i:=6) (N:=some 53) #[Z,Z,Z,Z,Z,Z,Z,Y,Z,Y,Y,Y,Y] rfl rfl (one_of A.out (by kernel_rfl)) (by decide) (fun K hK=>?_);refine goes_ Try.func64 (by kernel_rfl) rfl #[.bool false] (by rfl) rfl rfl (by (try simp only[List.map_toArray,List.map_cons,List.map_nil]);first|done|rfl|(simp only[List.length_drop,List.length_take];rfl)|(simp only[*];rfl)) ?_;with_reducible refine (spoorref09_Wide.calls false ae _ ab.out).mono ?_
              rintro e w' ⟨rfl,⟨nd,rfl⟩⟩
              refine⟨_,rfl,?_⟩;refine hK.out _ _ (bqc4 B.out) (fun E=>?_);clear hK K;refine norm_ (a':=?_) ?_ ?_;rotate_left
              ·show Act.put _ (some 53) _=_
               simp only[sP];rfl
              refine pz 7 54 #[Z,Z,Z,Z,Z,Z,Z,Z,Z,Y,Y,Y,Y] A.out ?_
              refine pz 9 56 #[Z,Z,Z,Z,Z,Z,Z,Z,Z,Z,Y,Y,Y] A.out ?_
              refine one_ (i:=10) (N:=some 57) #[Z,Z,Z,Z,Z,Z,Z,Z,Z,Z,Z,Y,Y] rfl rfl (one_of A.out (by kernel_rfl)) (by decide) (fun K hK=>?_);refine goes_ Try.func65 (by kernel_rfl) rfl #[.int .i64 (wrap64 ((wrap64 (Int.tdiv ae 8)) - (wrap64 (Int.tdiv (wrap64 ((wrap64 (bt a0 1))+7)) 8))))] (by rfl) rfl rfl (by (try simp only[List.map_toArray,List.map_cons,List.map_nil]);first|done|rfl|(simp only[List.length_drop,List.length_take];rfl)|(simp only[*];rfl)) ?_;with_reducible refine (spoorref05_Zeros.calls (wrap64 ((wrap64 (Int.tdiv ae 8)) - (wrap64 (Int.tdiv (wrap64 ((wrap64 (bt a0 1))+7)) 8)))) T _ ac.out).mono ?_
              rintro e az ⟨rfl,hb⟩
              refine⟨_,rfl,?_⟩;replace C:=Bx0 C hb;replace B:=Bx0 B hb;replace HB:=Bs2 HB hb R.out X.out
              (try clear hb)
              refine hK.out _ _ (bqc4 B.out) (fun E=>?_);clear hK K;refine norm_ (a':=?_) ?_ ?_;rotate_left
              ·show Act.put _ (some 57) _=_
               simp only[sP];rfl
              refine pz 11 58 #[Z,Z,Z,Z,Z,Z,Z,Z,Z,Z,Z,Z,Y] A.out ?_
              refine pz 12 7 #[Z,Z,Z,Z,Z,Z,Z,Z,Z,Z,Z,Z,Z] A.out ?_
              refine done_ (done_of A.out (by kernel_rfl)) ?_;have fC:=F.out;have fD:=L.out;obtain⟨fE,fF,fG,fH,fI,fJ,fK,fL⟩:=cl4 B;try go_wp2_with (first|((with_reducible refine gate_callee (f:=66) rfl ?_);refine goesL_ (some 72) rfl rfl Try.func66 (by kernel_rfl) rfl #[.string aa] rfl (by (try simp only[List.map_toArray,List.map_cons,List.map_nil]);first|done|rfl|(simp only[List.length_drop,List.length_take];rfl)|(simp only[*];rfl)) ?_;(with_reducible refine (spoorref05_Number.calls kj14 aa ah _ aG.out).mono ?_);rintro e w' ⟨rfl,⟨nd,rfl⟩⟩;refine⟨_,rfl,?_⟩;(try (rw [drewN_self az];generalize hq_:World.drewN az _=az;have aj:Aside0 (az.heap[V]? =some (.cells #[.bool false,.int .u64 0,.int .u64 0,.int .i64 0] 30 (0,0))):=⟨by rw [← hq_];exact (bf0 C.out)⟩;have al:Aside0 (az.heap[D]? =some (.cells #[.bool false,.int .u64 0,.int .u64 0,.int .i64 (wrap64 (bt a0 1))] 30 (0,0))):=⟨by rw [← hq_];exact (bf0 B.out)⟩;have am:Aside0 (Below w.heap.size w az):=⟨by rw [← hq_];exact (bw2 HB.out R.out X.out)⟩;clear C B HB hq_;have C:=aj;have B:=al;have HB:=am;clear aj al am));(try (have cD:az.cell? ⟨D,0,none⟩=some (.bool false):=(blk_cell B.out 0).trans rfl;have cE:=blk_frozen B.out 0;have cF:az.cell? ⟨D,1,none⟩=some (.int .u64 0):=(blk_cell B.out 1).trans rfl;have cG:=blk_frozen B.out 1;have cH:az.cell? ⟨D,2,none⟩=some (.int .u64 0):=(blk_cell B.out 2).trans rfl;have cI:=blk_frozen B.out 2;have cJ:az.cell? ⟨D,3,none⟩=some (.int .i64 (wrap64 (bt a0 1))):=(blk_cell B.out 3).trans rfl;have cK:=blk_frozen B.out 3)))|((with_reducible refine gate_callee (f:=67) rfl ?_);refine goesL_ (some 76) rfl rfl Try.func67 (by kernel_rfl) rfl #[.agg #[.bool false,.int .u64 0,.int .u64 ah,.int .i64 (wrap64 (bt a0 1))]] rfl (by (try simp only[List.map_toArray,List.map_cons,List.map_nil]);first|done|rfl|(simp only[List.length_drop,List.length_take];rfl)|(simp only[*];rfl)) ?_;(with_reducible refine (spoorref09_Check.calls kj14 false 0 ah (wrap64 (bt a0 1)) aC _ aH.out).mono ?_);rintro e fM ⟨rfl,hb⟩;refine⟨_,rfl,?_⟩;replace C:=Bx1 C hb L.out;replace B:=Ax (blk_below (g:=D) (o:=.cells #[.bool false,.int .u64 0,.int .u64 ah,.int .i64 (wrap64 (bt a0 1))] 30 (0,0)) (gB B.out) hb);replace HB:=Bs2 HB hb R.out X.out;(try clear hb);obtain⟨fN,fO,fP,fQ,fR,fS,fT,fU⟩:=cl4 C))
              refine bodyPost_ret (results_ctt rfl _ _ V 30 #[.bool false,.int .u64 0,.int .u64 0,.int .i64 0] (0,0) _ rfl (gB C.out) Try.underlying30 rfl (by kernel_rfl)) rfl ?_;exact⟨eS,bw2 HB.out R.out X.out⟩
           ·rw [if_neg aD]at H;exact absurd H (by simp)
          ·rw [if_neg aV]at H;exact absurd H (by simp)
         ·rw [if_neg aU]at H;exact absurd H (by simp)
     ·rw [if_neg b4]at H;exact absurd H (by simp)
    ·rw [if_neg b3]at H;exact absurd H (by simp)
end Go.Proofs.Ythkdfojmhloofaa.Q
end
