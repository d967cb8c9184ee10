-- Merged and trimmed by this session's program wip/tools/trim.py.
import Derived.Test.YtodgadhegcjbhaaTMsgPuts6
section
namespace Go.Proofs.Ytodgadhegcjbhaa.Q
open Go.RowKit Go.Proofs.YtodgadhegcjbhaaW.PrintWords Go.Proofs.YtodgadhegcjbhaaW.PrintLast Go.Proofs.YtodgadhegcjbhaaW.PrintMore
attribute [local go_sem] max2_int min2_int max_two min_two max_three min_three max_four min_four   -- for this text's walks alone
set_option linter.unusedVariables false
set_option linter.unusedSimpArgs false
set_option maxHeartbeats 8000000 in
set_option maxRecDepth 100000 in
theorem spoorref11_GetPrefix.calls (k:Nat) (a0:ByteArray) (r1:Bool) (r2:Int) (r3:Int) (r4:Int) (r5:ByteArray) (r6:Int) (w:World) (h:spoorref11_GetPrefix.f k a0=some (r1,r2,r3,r4,r5,r6)):
  Calls Try.prog 18 #[.string a0] w fun e w'=>e= .returned (.tuple #[.agg #[.bool r1,.int .u64 r2,.int .u64 r3,.int .i64 r4],.string r5,.int .i64 r6])∧Below w.heap.size w w':=by
 have hu27:=Try.underlying27;have HB:=Ax (Below.refl w.heap.size w);have H:(if (a0.size:Int)<2 then (spoorref11_GetPrefix.j0 k a0 true) else (if 0<(a0.size:Int) then (if (bt a0 0)=4 then (spoorref11_GetPrefix.j0 k a0 false) else (spoorref11_GetPrefix.j0 k a0 ((bt a0 0) !=6))) else (none)))=some (r1,r2,r3,r4,r5,r6):=h;clear h;have HC2:=Ax H;clear H;go_enter Try.func18,Try.ntmps18;go_upto_region 1 with (first|((with_reducible refine gate_dst (N:=2) rfl ?_);refine box_event ?hg (N:=2) ?hd (cs:= #[.bool false,.int .u64 0,.int .u64 0,.int .i64 0]) (t:=27) ?hr ?_;(case hd=>rfl);(case hg=>rfl);(case hr=>first|(go_simp;done)|(go_simp;rfl));intro gb299 hg w3 hbox hb;have n0_:=Bs0 HB hb;have n1_:=Ax (hbox);have n2_:=Gw0 HB hg;have n3_:=Gw0 HB hg;clear HB;have HB:=n0_;have BK299:=n1_;have GW299:=n2_;have GE299:=n3_;clear n0_ n1_ n2_ n3_;clear hb hbox hg))
 (try simp only[Act.put,List.setIfInBounds_toArray,List.set_cons_zero,List.set_cons_succ])
 go_cut [20] (fun v20 wc=> ∃ (kq:Nat) (x20_1:Bool),v20= .bool x20_1∧Aside0 (spoorref11_GetPrefix.j0 kq a0 x20_1=some (r1,r2,r3,r4,r5,r6))∧Aside0 (kq≤k)∧Aside0 (wc.heap[gb299]? =some (.cells #[.bool false,.int .u64 0,.int .u64 0,.int .i64 0] 27 (0,0)))∧Aside0 (Below w.heap.size w wc))
 case first=>
  have H:=HC2.out;clear HC2;by_cases c4:(a0.size:Int)<2
  ·rw [if_pos c4]at H;have c4b0:decide ((a0.size:Int)<2)=true:=decide_eq_true c4;have c4b1:decide (a0.size<2)=true:=decide_eq_true (by omega);clear c4
   (first|rw [c4b0]|(simp only[i64_w,i32_w];rw [c4b0])|skip)
   have H':=Ax H;clear H;go_wp2;go_meet
   case rel=>exact⟨_,(true),rS,H',⟨by first|omega|exact Nat.le_refl _⟩,⟨bf0 BK299.out⟩,⟨bw1 HB.out GE299.out⟩⟩
  ·rw [if_neg c4]at H;have c4b0:decide ((a0.size:Int)<2)=false:=decide_eq_false c4;have c4b1:decide (a0.size<2)=false:=decide_eq_false (by omega);clear c4
   (first|rw [c4b0]|(simp only[i64_w,i32_w];rw [c4b0])|skip)
   by_cases c5:0<(a0.size:Int)
   ·rw [if_pos c5]at H;have c5b0:decide (0<(a0.size:Int))=true:=decide_eq_true c5;have c5b1:decide (0<a0.size)=true:=decide_eq_true (by omega);clear c5;by_cases c7:(bt a0 0)=4
    ·rw [if_pos c7]at H;have c7b0:((bt a0 0)==4)=true:=beq_iff_eq.mpr c7;have c7b1:((bt a0 0) !=4)=false:=bne_eq_false_iff_eq.mpr c7;clear c7;have H':=Ax H;clear H;have p6:0≤(0:Int):=(by omega);have q6:0<a0.size:=(by have:(0:Int)<(a0.size:Int):=of_decide_eq_true (by first|(with_reducible assumption)|assumption);first|omega|(simp only[ByteArray.size_append];omega));have hx6: ∀ h:0<a0.size,((a0[0]'h).toNat:Int)=bt a0 0:=bt_at a0 0;clear p6;have qi6:(0<(a0.size:Int))=True:=eq_true (of_decide_eq_true (by first|(with_reducible assumption)|assumption));replace q6:=eq_true q6;go_wp2;go_meet
     case rel=>exact⟨_,(false),rS,H',⟨by first|omega|exact Nat.le_refl _⟩,⟨bf0 BK299.out⟩,⟨bw1 HB.out GE299.out⟩⟩
    ·rw [if_neg c7]at H;have c7b0:((bt a0 0)==4)=false:=beq_eq_false_iff_ne.mpr c7;have c7b1:((bt a0 0) !=4)=true:=bne_iff_ne.mpr c7;have H':=Ax H;clear H;have p6:0≤(0:Int):=(by omega);have q6:0<a0.size:=(by have:(0:Int)<(a0.size:Int):=of_decide_eq_true (by first|(with_reducible assumption)|assumption);first|omega|(simp only[ByteArray.size_append];omega));have hx6: ∀ h:0<a0.size,((a0[0]'h).toNat:Int)=bt a0 0:=bt_at a0 0;clear p6;have qi6:(0<(a0.size:Int))=True:=eq_true (of_decide_eq_true (by first|(with_reducible assumption)|assumption));replace q6:=eq_true q6;have p8:0≤(0:Int):=(by omega);have q8:0<a0.size:=(by have:(0:Int)<(a0.size:Int):=of_decide_eq_true (by first|(with_reducible assumption)|assumption);first|omega|(simp only[ByteArray.size_append];omega));have hx8: ∀ h:0<a0.size,((a0[0]'h).toNat:Int)=bt a0 0:=bt_at a0 0;clear p8;have qi8:(0<(a0.size:Int))=True:=eq_true (of_decide_eq_true (by first|(with_reducible assumption)|assumption));replace q8:=eq_true q8;go_wp2;go_meet
     case rel=>exact⟨_,(((bt a0 0) !=6)),rS,H',⟨by first|omega|exact Nat.le_refl _⟩,⟨bf0 BK299.out⟩,⟨bw1 HB.out GE299.out⟩⟩
   ·rw [if_neg c5]at H;exact absurd H (by simp)
 case rest=>
  clear HC2;try clear c1
  try clear p2
  try clear c4
  try clear c4b0
  try clear c4b1
  try clear c5
  try clear c5b0
  try clear c5b1
  try clear p6
  try clear q6
  try clear hx6
  try clear qi6
  try clear c7
  try clear c7b0
  try clear c7b1
  try clear p8
  try clear q8
  try clear hx8
  try clear qi8
  try clear p6
  try clear p8
  try clear q6
  try clear q8
  obtain⟨kq,x20_1,rfl,HA,HJ1,BK299,HB⟩:=hcut;cases kq with
  |zero=>exact absurd HA.out (by simp [spoorref11_GetPrefix.j0])
  |succ kj1=>
   have H:=HA.out;clear HA;simp only[spoorref11_GetPrefix.j0]at H;by_cases c9:x20_1=true
   ·subst c9;have H1:(some (false,0,0,0,(⟨#[]⟩:ByteArray),7))=some (r1,r2,r3,r4,r5,r6):=by rw [if_pos rfl]at H;exact H
    clear H;have H:=H1;clear H1;simp only[Option.some.injEq,Prod.mk.injEq]at H;obtain⟨rfl,rfl,rfl,rfl,rfl,rfl⟩:=H;obtain⟨hcz10_0,hcz10_1,hcz10_2,hcz10_3,hfz10_0,hfz10_1,hfz10_2,hfz10_3⟩:=cl4 BK299;go_wp2;refine bodyPost_ret (results_ctt rfl _ _ gb299 27 #[.bool false,.int .u64 0,.int .u64 0,.int .i64 0] (0,0) _ rfl (gB BK299.out) Try.underlying27 rfl (by kernel_rfl)) rfl ?_;exact⟨eS,bw1 HB.out GE299.out⟩
   ·replace c9:=Bool.eq_false_iff.mpr c9;subst c9;have H1:(if 0<(a0.size:Int) then (if 1<(a0.size:Int) then ((spoorref09_Wide.f ((bt a0 0)==6)).bind fun t301=>(if (wrap64 (bt a0 1)) > t301 then (spoorref11_GetPrefix.j1 kj1 a0 (wrap64 (Int.tdiv (wrap64 ((wrap64 (bt a0 1))+7)) 8)) true ((bt a0 0)==6) 0 0 (wrap64 (bt a0 1))) else (spoorref11_GetPrefix.j1 kj1 a0 (wrap64 (Int.tdiv (wrap64 ((wrap64 (bt a0 1))+7)) 8)) (decide ((a0.size:Int)<(wrap64 (2+(wrap64 (Int.tdiv (wrap64 ((wrap64 (bt a0 1))+7)) 8)))))) ((bt a0 0)==6) 0 0 (wrap64 (bt a0 1))))) else (none)) else (none))=some (r1,r2,r3,r4,r5,r6):=by rw [if_neg (show ¬ (false=true) by decide)]at H;exact H
    clear H;have H:=H1;clear H1;by_cases c11:0<(a0.size:Int)
    ·rw [if_pos c11]at H;have c11b0:decide (0<(a0.size:Int))=true:=decide_eq_true c11;have c11b1:decide (0<a0.size)=true:=decide_eq_true (by omega);clear c11;by_cases c13:1<(a0.size:Int)
     ·rw [if_pos c13]at H;have c13b0:decide (1<(a0.size:Int))=true:=decide_eq_true c13;have c13b1:decide (1<a0.size)=true:=decide_eq_true (by omega);clear c13;have HC15:=Ax H;clear H;try go_wp2
      replace BK299:=Ax (blk_drew BK299.out);replace HB:=Ax (below_drew1 HB.out);have p12:0≤(0:Int):=(by omega);have q12:0<a0.size:=(by have:(0:Int)<(a0.size:Int):=of_decide_eq_true (by first|(with_reducible assumption)|assumption);first|omega|(simp only[ByteArray.size_append];omega));have hx12: ∀ h:0<a0.size,((a0[0]'h).toNat:Int)=bt a0 0:=bt_at a0 0;clear p12;have qi12:(0<(a0.size:Int))=True:=eq_true (of_decide_eq_true (by first|(with_reducible assumption)|assumption));replace q12:=eq_true q12;have p14:0≤(1:Int):=(by omega);have q14:1<a0.size:=(by have:(1:Int)<(a0.size:Int):=of_decide_eq_true (by first|(with_reducible assumption)|assumption);first|omega|(simp only[ByteArray.size_append];omega));have hx14: ∀ h:1<a0.size,((a0[1]'h).toNat:Int)=bt a0 1:=bt_at a0 1;clear p14;have qi14:(1<(a0.size:Int))=True:=eq_true (of_decide_eq_true (by first|(with_reducible assumption)|assumption));replace q14:=eq_true q14;refine start_ (n:=9) (S:=fun w'=>True) (ds:= []) #[Y,Y,Y,Y,Y,Y,Y,Y,Y] (by kernel_rfl) rfl rfl trivial (fun hHeld=>?_);refine with_tabW spoorref11_GetPrefix.tab3 spoorref11_GetPrefix.bits3 (fun HT_ HW_=>?_);generalize wc.drew=w16 at BK299 HB hHeld ⊢;refine pz 0 22 #[Z,Y,Y,Y,Y,Y,Y,Y,Y] HT_.out ?_
      refine pz 3 25 #[Z,Y,Y,Z,Y,Y,Y,Y,Y] HT_.out ?_
      refine take_ (i:=1) (N:=some 23) (v:=?_) (a':=?_) #[Z,Z,Y,Z,Y,Y,Y,Y,Y] rfl rfl (take_ofW HT_.out HW_.out (by kernel_rfl)) (fun _ _ _ h=>h) (Or.inl ⟨by rfl,?_⟩) hHeld ?_ ?_;rotate_left;·intro w' _;go_simp;with_reducible rfl
      rotate_left;·simp only[sP];rfl
      refine pz 2 24 #[Z,Z,Z,Z,Y,Y,Y,Y,Y] HT_.out ?_
      refine take_ (i:=4) (N:=some 26) (v:=?_) (a':=?_) #[Z,Z,Z,Z,Z,Y,Y,Y,Y] rfl rfl (take_ofW HT_.out HW_.out (by kernel_rfl)) (fun _ _ _ h=>h) (Or.inl ⟨by rfl,?_⟩) hHeld ?_ ?_;rotate_left;·intro w' _;go_simp;with_reducible rfl
      rotate_left;·simp only[sP];rfl
      refine pz 5 27 #[Z,Z,Z,Z,Z,Z,Y,Y,Y] HT_.out ?_
      refine pz 6 28 #[Z,Z,Z,Z,Z,Z,Z,Y,Y] HT_.out ?_
      refine one_ (i:=7) (N:=some 5) #[Z,Z,Z,Z,Z,Z,Z,Z,Y] rfl rfl (one_of HT_.out (by kernel_rfl)) (by decide) (fun K hK=>?_);refine box_step ?hg (N:=5) ?hd (cs:= #[.bool false,.int .u64 0,.int .u64 0,.int .i64 0]) (t:=27) ?hr ?_;(case hd=>rfl);(case hg=>rfl);(case hr=>first|(go_simp;done)|(go_simp;rfl));intro gb300 hg w17 hbox hb;have n0_:=Bx0 BK299 hb;have n1_:=Bs1 HB hb GE299.out;have n2_:=Ax (hbox);have n3_:=Gw1 HB hg GE299.out;have n4_:=Gw1 HB hg GE299.out;have n5_:=Nl0 BK299 hg;have n6_:=Nr0 BK299 hg;clear BK299;clear HB;have BK299:=n0_;have HB:=n1_;have BK300:=n2_;have GW300:=n3_;have GE300:=n4_;have NB299_300:=n5_;have NB300_299:=n6_;clear n0_ n1_ n2_ n3_ n4_ n5_ n6_;clear hb hbox hg;refine hK.out _ _ trivial (fun hHeld=>?_);clear hK K;refine norm_ (a':=?_) ?_ ?_;rotate_left
      ·show Act.put _ (some 5) _=_
       simp only[sP];rfl
      refine one_ (i:=8) (N:=none) #[Z,Z,Z,Z,Z,Z,Z,Z,Z] rfl rfl (one_of HT_.out (by kernel_rfl)) (by decide) (fun K hK=>?_);have hs18:w17.cell? ⟨gb300,0,none⟩=some (.bool false):=(blk_cell BK300.out 0).trans rfl;have hfs18:=blk_frozen BK300.out 0;have hns18_0:=NB299_300.out;have hms18_0:=NB300_299.out;have hs19:w17.cell? ⟨gb300,1,none⟩=some (.int .u64 0):=(blk_cell BK300.out 1).trans rfl;have hfs19:=blk_frozen BK300.out 1;have hns19_0:=NB299_300.out;have hms19_0:=NB300_299.out;have hs20:w17.cell? ⟨gb300,2,none⟩=some (.int .u64 0):=(blk_cell BK300.out 2).trans rfl;have hfs20:=blk_frozen BK300.out 2;have hns20_0:=NB299_300.out;have hms20_0:=NB300_299.out;have hs21:w17.cell? ⟨gb300,3,none⟩=some (.int .i64 0):=(blk_cell BK300.out 3).trans rfl;have hfs21:=blk_frozen BK300.out 3;have hns21_0:=NB299_300.out;have hms21_0:=NB300_299.out;refine skip_ (w1:=?_) (by rfl) rfl ?_ ?_;rotate_left;·go_simp;rfl
      refine hK.out _ _ trivial (fun hHeld=>?_);clear hK K;refine done_ (done_of HT_.out (by kernel_rfl)) ?_;have hnb22:=NB300_299.out;have hnc22:=NB299_300.out;obtain⟨hcz23_0,hcz23_1,hcz23_2,hcz23_3,hfz23_0,hfz23_1,hfz23_2,hfz23_3⟩:=cl4 BK300;go_upto_region 5 with (fail)
      go_cut [45] (fun v45 wc=> ∃ (kq:Nat) (x45_14:Bool),v45= .bool x45_14∧Aside0 (spoorref11_GetPrefix.j1 kq a0 (wrap64 (Int.tdiv (wrap64 ((wrap64 (bt a0 1))+7)) 8)) x45_14 ((bt a0 0)==6) 0 0 (wrap64 (bt a0 1))=some (r1,r2,r3,r4,r5,r6))∧Aside0 (kq≤kj1)∧Aside0 (wc.heap[gb299]? =some (.cells #[.bool false,.int .u64 0,.int .u64 0,.int .i64 0] 27 (0,0)))∧Aside0 (wc.heap[gb300]? =some (.cells #[.bool ((bt a0 0)==6),.int .u64 0,.int .u64 0,.int .i64 (wrap64 (bt a0 1))] 27 (0,0)))∧Aside0 (Below w.heap.size w wc))
      case first=>
       have H:=HC15.out;clear HC15;replace H:=Option.bind_eq_some_iff.mp H;obtain⟨t301,A240,H⟩:=H;replace H:(if (wrap64 (bt a0 1)) > t301 then (spoorref11_GetPrefix.j1 kj1 a0 (wrap64 (Int.tdiv (wrap64 ((wrap64 (bt a0 1))+7)) 8)) true ((bt a0 0)==6) 0 0 (wrap64 (bt a0 1))) else (spoorref11_GetPrefix.j1 kj1 a0 (wrap64 (Int.tdiv (wrap64 ((wrap64 (bt a0 1))+7)) 8)) (decide ((a0.size:Int)<(wrap64 (2+(wrap64 (Int.tdiv (wrap64 ((wrap64 (bt a0 1))+7)) 8)))))) ((bt a0 0)==6) 0 0 (wrap64 (bt a0 1))))=some (r1,r2,r3,r4,r5,r6):=H;have A24:=Ax A240;clear A240;by_cases c25:(wrap64 (bt a0 1)) > t301
       ·rw [if_pos c25]at H;have c25b0:decide (t301<(wrap64 (bt a0 1)))=true:=decide_eq_true c25;clear c25
        (first|rw [c25b0]|(simp only[i64_w,i32_w];rw [c25b0])|skip)
        have H':=Ax H;clear H;try go_wp2
        have n0_:Aside0 (((((w17.setCell ⟨gb300,0,none⟩ (.bool ((bt a0 0)==6))).setCell ⟨gb300,1,none⟩ (.int .u64 0)).setCell ⟨gb300,2,none⟩ (.int .u64 0)).setCell ⟨gb300,3,none⟩ (.int .i64 (wrap64 (bt a0 1)))).heap[gb299]? =some (.cells #[.bool false,.int .u64 0,.int .u64 0,.int .i64 0] 27 (0,0))):=⟨bf4 BK299.out NB299_300.out NB299_300.out NB299_300.out NB299_300.out⟩;have n1_:Aside0 (((((w17.setCell ⟨gb300,0,none⟩ (.bool ((bt a0 0)==6))).setCell ⟨gb300,1,none⟩ (.int .u64 0)).setCell ⟨gb300,2,none⟩ (.int .u64 0)).setCell ⟨gb300,3,none⟩ (.int .i64 (wrap64 (bt a0 1)))).heap[gb300]? =some (.cells #[.bool ((bt a0 0)==6),.int .u64 0,.int .u64 0,.int .i64 (wrap64 (bt a0 1))] 27 (0,0))):=⟨gB BK300.out⟩;have n2_:Aside0 (Below w.heap.size w ((((w17.setCell ⟨gb300,0,none⟩ (.bool ((bt a0 0)==6))).setCell ⟨gb300,1,none⟩ (.int .u64 0)).setCell ⟨gb300,2,none⟩ (.int .u64 0)).setCell ⟨gb300,3,none⟩ (.int .i64 (wrap64 (bt a0 1))))):=⟨bw2 HB.out GE299.out GE300.out⟩
        (try clear BK299)
        (try clear BK300)
        (try clear HB)
        generalize ((((w17.setCell ⟨gb300,0,none⟩ (.bool ((bt a0 0)==6))).setCell ⟨gb300,1,none⟩ (.int .u64 0)).setCell ⟨gb300,2,none⟩ (.int .u64 0)).setCell ⟨gb300,3,none⟩ (.int .i64 (wrap64 (bt a0 1))))=w26 at n0_ n1_ n2_ ⊢;have BK299:=n0_;have BK300:=n1_;have HB:=n2_;clear n0_ n1_ n2_;replace BK299:=Ax (blk_drew BK299.out);replace BK300:=Ax (blk_drew BK300.out);replace HB:=Ax (below_drew1 HB.out);refine start_ (n:=13) (S:=fun w'=>w'.cell? ⟨gb300,0,none⟩=some (.bool ((bt a0 0)==6))∧w'.cell? ⟨gb300,1,none⟩=some (.int .u64 0)∧w'.cell? ⟨gb300,2,none⟩=some (.int .u64 0)∧w'.cell? ⟨gb300,3,none⟩=some (.int .i64 (wrap64 (bt a0 1)))) (ds:= []) #[Y,Y,Y,Y,Y,Y,Y,Y,Y,Y,Y,Y,Y] (by kernel_rfl) rfl rfl (bqc4 BK300.out) (fun hHeld=>?_);refine with_tabW spoorref11_GetPrefix.tab5 spoorref11_GetPrefix.bits5 (fun HT_ HW_=>?_);generalize w26.drew=w27 at BK299 BK300 HB hHeld ⊢;refine pz 0 33 #[Z,Y,Y,Y,Y,Y,Y,Y,Y,Y,Y,Y,Y] HT_.out ?_
        refine pz 2 35 #[Z,Y,Z,Y,Y,Y,Y,Y,Y,Y,Y,Y,Y] HT_.out ?_
        refine take_ (i:=1) (N:=some 34) (v:=?_) (a':=?_) #[Z,Z,Z,Y,Y,Y,Y,Y,Y,Y,Y,Y,Y] rfl rfl (take_ofW HT_.out HW_.out (by kernel_rfl)) (fun _ _ _ h=>h) (Or.inl ⟨by rfl,?_⟩) hHeld ?_ ?_;rotate_left
        ·rintro w' ⟨s0,s1,s2,s3⟩
         go_simp;with_reducible rfl
        rotate_left;·simp only[sP];rfl
        refine take_ (i:=3) (N:=some 36) (v:=?_) (a':=?_) #[Z,Z,Z,Z,Y,Y,Y,Y,Y,Y,Y,Y,Y] rfl rfl (take_ofW HT_.out HW_.out (by kernel_rfl)) (fun _ _ _ h=>h) (Or.inl ⟨by rfl,?_⟩) hHeld ?_ ?_;rotate_left
        ·rintro w' ⟨s0,s1,s2,s3⟩
         go_simp;with_reducible rfl
        rotate_left;·simp only[sP];rfl
        refine one_ (i:=4) (N:=some 37) #[Z,Z,Z,Z,Z,Y,Y,Y,Y,Y,Y,Y,Y] rfl rfl (one_of HT_.out (by kernel_rfl)) (by decide) (fun K hK=>?_);refine goes_ Try.func40 (by kernel_rfl) rfl #[.bool ((bt a0 0)==6)] (by rfl) rfl rfl (by (try simp only[List.map_toArray,List.map_cons,List.map_nil]);first|done|rfl|(simp only[List.length_drop,List.length_take];rfl)|(simp only[*];rfl)) ?_;with_reducible refine (spoorref09_Wide.calls ((bt a0 0)==6) t301 _ A24.out).mono ?_
        rintro e w' ⟨rfl,⟨nd,rfl⟩⟩
        refine⟨_,rfl,?_⟩;refine hK.out _ _ (bqc4 BK300.out) (fun hHeld=>?_);clear hK K;refine norm_ (a':=?_) ?_ ?_;rotate_left
        ·show Act.put _ (some 37) _=_
         simp only[sP];rfl
        refine pz 5 38 #[Z,Z,Z,Z,Z,Z,Y,Y,Y,Y,Y,Y,Y] HT_.out ?_
        refine pz 6 39 #[Z,Z,Z,Z,Z,Z,Z,Y,Y,Y,Y,Y,Y] HT_.out ?_
        refine pu 7 40 #[Z,Z,Z,Z,Z,Z,Z,Z,Y,Y,Y,Y,Y] HT_.out ?_
        refine pu 8 41 #[Z,Z,Z,Z,Z,Z,Z,Z,Z,Y,Y,Y,Y] HT_.out ?_
        refine pu 9 42 #[Z,Z,Z,Z,Z,Z,Z,Z,Z,Z,Y,Y,Y] HT_.out ?_
        refine pu 10 43 #[Z,Z,Z,Z,Z,Z,Z,Z,Z,Z,Z,Y,Y] HT_.out ?_
        refine pu 11 44 #[Z,Z,Z,Z,Z,Z,Z,Z,Z,Z,Z,Z,Y] HT_.out ?_
        refine pz 12 45 #[Z,Z,Z,Z,Z,Z,Z,Z,Z,Z,Z,Z,Z] HT_.out ?_
        refine done_ (done_of HT_.out (by kernel_rfl)) ?_;try go_wp2
        go_meet
        case rel=>exact⟨_,(true),rS,H',⟨by have:=HJ1.out;first|omega|exact Nat.le_refl _⟩,⟨bf0 BK299.out⟩,⟨bf0 BK300.out⟩,⟨bw2 HB.out GE299.out GE300.out⟩⟩
       ·rw [if_neg c25]at H;have c25b0:decide (t301<(wrap64 (bt a0 1)))=false:=decide_eq_false c25;clear c25
        (first|rw [c25b0]|(simp only[i64_w,i32_w];rw [c25b0])|skip)
        have H':=Ax H;clear H;try go_wp2
        have n0_:Aside0 (((((w17.setCell ⟨gb300,0,none⟩ (.bool ((bt a0 0)==6))).setCell ⟨gb300,1,none⟩ (.int .u64 0)).setCell ⟨gb300,2,none⟩ (.int .u64 0)).setCell ⟨gb300,3,none⟩ (.int .i64 (wrap64 (bt a0 1)))).heap[gb299]? =some (.cells #[.bool false,.int .u64 0,.int .u64 0,.int .i64 0] 27 (0,0))):=⟨bf4 BK299.out NB299_300.out NB299_300.out NB299_300.out NB299_300.out⟩;have n1_:Aside0 (((((w17.setCell ⟨gb300,0,none⟩ (.bool ((bt a0 0)==6))).setCell ⟨gb300,1,none⟩ (.int .u64 0)).setCell ⟨gb300,2,none⟩ (.int .u64 0)).setCell ⟨gb300,3,none⟩ (.int .i64 (wrap64 (bt a0 1)))).heap[gb300]? =some (.cells #[.bool ((bt a0 0)==6),.int .u64 0,.int .u64 0,.int .i64 (wrap64 (bt a0 1))] 27 (0,0))):=⟨gB BK300.out⟩;have n2_:Aside0 (Below w.heap.size w ((((w17.setCell ⟨gb300,0,none⟩ (.bool ((bt a0 0)==6))).setCell ⟨gb300,1,none⟩ (.int .u64 0)).setCell ⟨gb300,2,none⟩ (.int .u64 0)).setCell ⟨gb300,3,none⟩ (.int .i64 (wrap64 (bt a0 1))))):=⟨bw2 HB.out GE299.out GE300.out⟩
        (try clear BK299)
        (try clear BK300)
        (try clear HB)
        generalize ((((w17.setCell ⟨gb300,0,none⟩ (.bool ((bt a0 0)==6))).setCell ⟨gb300,1,none⟩ (.int .u64 0)).setCell ⟨gb300,2,none⟩ (.int .u64 0)).setCell ⟨gb300,3,none⟩ (.int .i64 (wrap64 (bt a0 1))))=w28 at n0_ n1_ n2_ ⊢;have BK299:=n0_;have BK300:=n1_;have HB:=n2_;clear n0_ n1_ n2_;replace BK299:=Ax (blk_drew BK299.out);replace BK300:=Ax (blk_drew BK300.out);replace HB:=Ax (below_drew1 HB.out);refine start_ (n:=13) (S:=fun w'=>w'.cell? ⟨gb300,0,none⟩=some (.bool ((bt a0 0)==6))∧w'.cell? ⟨gb300,1,none⟩=some (.int .u64 0)∧w'.cell? ⟨gb300,2,none⟩=some (.int .u64 0)∧w'.cell? ⟨gb300,3,none⟩=some (.int .i64 (wrap64 (bt a0 1)))) (ds:= []) #[Y,Y,Y,Y,Y,Y,Y,Y,Y,Y,Y,Y,Y] (by kernel_rfl) rfl rfl (bqc4 BK300.out) (fun hHeld=>?_);refine with_tabW spoorref11_GetPrefix.tab5 spoorref11_GetPrefix.bits5 (fun HT_ HW_=>?_);generalize w28.drew=w29 at BK299 BK300 HB hHeld ⊢;refine pz 0 33 #[Z,Y,Y,Y,Y,Y,Y,Y,Y,Y,Y,Y,Y] HT_.out ?_
        refine pz 2 35 #[Z,Y,Z,Y,Y,Y,Y,Y,Y,Y,Y,Y,Y] HT_.out ?_
        refine take_ (i:=1) (N:=some 34) (v:=?_) (a':=?_) #[Z,Z,Z,Y,Y,Y,Y,Y,Y,Y,Y,Y,Y] rfl rfl (take_ofW HT_.out HW_.out (by kernel_rfl)) (fun _ _ _ h=>h) (Or.inl ⟨by rfl,?_⟩) hHeld ?_ ?_;rotate_left
        ·rintro w' ⟨s0,s1,s2,s3⟩
         go_simp;with_reducible rfl
        rotate_left;·simp only[sP];rfl
        refine take_ (i:=3) (N:=some 36) (v:=?_) (a':=?_) #[Z,Z,Z,Z,Y,Y,Y,Y,Y,Y,Y,Y,Y] rfl rfl (take_ofW HT_.out HW_.out (by kernel_rfl)) (fun _ _ _ h=>h) (Or.inl ⟨by rfl,?_⟩) hHeld ?_ ?_;rotate_left
        ·rintro w' ⟨s0,s1,s2,s3⟩
         go_simp;with_reducible rfl
        rotate_left;·simp only[sP];rfl
        refine one_ (i:=4) (N:=some 37) #[Z,Z,Z,Z,Z,Y,Y,Y,Y,Y,Y,Y,Y] rfl rfl (one_of HT_.out (by kernel_rfl)) (by decide) (fun K hK=>?_);refine goes_ Try.func40 (by kernel_rfl) rfl #[.bool ((bt a0 0)==6)] (by rfl) rfl rfl (by (try simp only[List.map_toArray,List.map_cons,List.map_nil]);first|done|rfl|(simp only[List.length_drop,List.length_take];rfl)|(simp only[*];rfl)) ?_;with_reducible refine (spoorref09_Wide.calls ((bt a0 0)==6) t301 _ A24.out).mono ?_
        rintro e w' ⟨rfl,⟨nd,rfl⟩⟩
        refine⟨_,rfl,?_⟩;refine hK.out _ _ (bqc4 BK300.out) (fun hHeld=>?_);clear hK K;refine norm_ (a':=?_) ?_ ?_;rotate_left
        ·show Act.put _ (some 37) _=_
         simp only[sP];rfl
        refine pz 5 38 #[Z,Z,Z,Z,Z,Z,Y,Y,Y,Y,Y,Y,Y] HT_.out ?_
        refine pz 6 39 #[Z,Z,Z,Z,Z,Z,Z,Y,Y,Y,Y,Y,Y] HT_.out ?_
        refine pz 7 40 #[Z,Z,Z,Z,Z,Z,Z,Z,Y,Y,Y,Y,Y] HT_.out ?_
        refine pz 8 41 #[Z,Z,Z,Z,Z,Z,Z,Z,Z,Y,Y,Y,Y] HT_.out ?_
        refine pz 9 42 #[Z,Z,Z,Z,Z,Z,Z,Z,Z,Z,Y,Y,Y] HT_.out ?_
        refine pz 10 43 #[Z,Z,Z,Z,Z,Z,Z,Z,Z,Z,Z,Y,Y] HT_.out ?_
        refine pz 11 44 #[Z,Z,Z,Z,Z,Z,Z,Z,Z,Z,Z,Z,Y] HT_.out ?_
        refine pz 12 45 #[Z,Z,Z,Z,Z,Z,Z,Z,Z,Z,Z,Z,Z] HT_.out ?_
        refine done_ (done_of HT_.out (by kernel_rfl)) ?_;try go_wp2
        go_meet
        case rel=>exact⟨_,(decide ((a0.size:Int)<(wrap64 (2+(wrap64 (Int.tdiv (wrap64 ((wrap64 (bt a0 1))+7)) 8)))))),rS,H',⟨by have:=HJ1.out;first|omega|exact Nat.le_refl _⟩,⟨bf0 BK299.out⟩,⟨bf0 BK300.out⟩,⟨bw2 HB.out GE299.out GE300.out⟩⟩
      case rest=>
       clear HC15;(try clear c1);(try clear p1);(try clear q1);(try clear hx1);(try clear qi1);(try clear c2);(try clear p2 p2);(try clear c4);(try clear c4b0);(try clear c4b1);(try clear c5);(try clear c5b0);(try clear c5b1);(try clear p6 p6);(try clear q6 q6);(try clear hx6);(try clear qi6);(try clear c7);(try clear c7b0);(try clear c7b1);(try clear p8 p8);(try clear q8 q8);(try clear hx8);(try clear qi8);(try clear c9);(try clear c11);(try clear c11b0);(try clear c11b1);(try clear p12 p12);(try clear q12 q12);(try clear hx12);(try clear qi12);(try clear c13);(try clear c13b0);(try clear c13b1);(try clear p14 p14);(try clear q14 q14);(try clear hx14);(try clear qi14);(try clear c18);(try clear c22);(try clear c25);(try clear c25b0);(try clear hcz10_0 hcz10_1 hcz10_2 hcz10_3);(try clear hcz23_0 hcz23_1 hcz23_2 hcz23_3);(try clear hfz10_0 hfz10_1 hfz10_2 hfz10_3);(try clear hfz23_0 hfz23_1 hfz23_2 hfz23_3);obtain⟨kq,x45_14,rfl,HA,HJ14,BK299,BK300,HB⟩:=hcut;cases kq with
       |zero=>exact absurd HA.out (by simp [spoorref11_GetPrefix.j1])
       |succ kj14=>
        have H:=HA.out;clear HA;simp only[spoorref11_GetPrefix.j1]at H;by_cases c30:x45_14=true
        ·subst c30;have H1:(some (false,0,0,0,(⟨#[]⟩:ByteArray),7))=some (r1,r2,r3,r4,r5,r6):=by rw [if_pos rfl]at H;exact H
         clear H;have H:=H1;clear H1;simp only[Option.some.injEq,Prod.mk.injEq]at H;obtain⟨rfl,rfl,rfl,rfl,rfl,rfl⟩:=H;have hnb31:=NB299_300.out;have hnc31:=NB300_299.out;obtain⟨hcz32_0,hcz32_1,hcz32_2,hcz32_3,hfz32_0,hfz32_1,hfz32_2,hfz32_3⟩:=cl4 BK299;go_wp2;refine bodyPost_ret (results_ctt rfl _ _ gb299 27 #[.bool false,.int .u64 0,.int .u64 0,.int .i64 0] (0,0) _ rfl (gB BK299.out) Try.underlying27 rfl (by kernel_rfl)) rfl ?_;exact⟨eS,bw2 HB.out GE299.out GE300.out⟩
        ·replace c30:=Bool.eq_false_iff.mpr c30;subst c30;have H1:(if 2≤(wrap64 (2+(wrap64 (Int.tdiv (wrap64 ((wrap64 (bt a0 1))+7)) 8)))) then (if (wrap64 (2+(wrap64 (Int.tdiv (wrap64 ((wrap64 (bt a0 1))+7)) 8))))≤(a0.size:Int) then ((spoorref09_Wide.f ((bt a0 0)==6)).bind fun t302=>((spoorref05_Zeros.f (wrap64 ((wrap64 (Int.tdiv t302 8)) - (wrap64 (Int.tdiv (wrap64 ((wrap64 (bt a0 1))+7)) 8))))).bind fun t303=>(if (a0.extract 2 ((wrap64 (2+(wrap64 (Int.tdiv (wrap64 ((wrap64 (bt a0 1))+7)) 8)))):Int).toNat).size+t303.size≤9223372036854775807 then (if ((bt a0 0)==6)=true then (if 8≤(((a0.extract 2 ((wrap64 (2+(wrap64 (Int.tdiv (wrap64 ((wrap64 (bt a0 1))+7)) 8)))):Int).toNat)++t303).size:Int) then ((spoorref05_Number.f kj14 (((a0.extract 2 ((wrap64 (2+(wrap64 (Int.tdiv (wrap64 ((wrap64 (bt a0 1))+7)) 8)))):Int).toNat)++t303).extract 0 8)).bind fun t304=>((spoorref05_Number.f kj14 (((a0.extract 2 ((wrap64 (2+(wrap64 (Int.tdiv (wrap64 ((wrap64 (bt a0 1))+7)) 8)))):Int).toNat)++t303).extract 8 ((a0.extract 2 ((wrap64 (2+(wrap64 (Int.tdiv (wrap64 ((wrap64 (bt a0 1))+7)) 8)))):Int).toNat)++t303).size)).bind fun t305=>((spoorref09_Check.f kj14 ((bt a0 0)==6) t304 t305 (wrap64 (bt a0 1))).bind fun t306=>(if t306=0 then (if 0≤(wrap64 (2+(wrap64 (Int.tdiv (wrap64 ((wrap64 (bt a0 1))+7)) 8)))) then (some (((bt a0 0)==6),t304,t305,(wrap64 (bt a0 1)),a0.extract ((wrap64 (2+(wrap64 (Int.tdiv (wrap64 ((wrap64 (bt a0 1))+7)) 8)))):Int).toNat a0.size,0)) else (none)) else (some (false,0,0,0,(⟨#[]⟩:ByteArray),7)))))) else (none)) else ((spoorref05_Number.f kj14 ((a0.extract 2 ((wrap64 (2+(wrap64 (Int.tdiv (wrap64 ((wrap64 (bt a0 1))+7)) 8)))):Int).toNat)++t303)).bind fun t307=>((spoorref09_Check.f kj14 ((bt a0 0)==6) 0 t307 (wrap64 (bt a0 1))).bind fun t308=>(if t308=0 then (if 0≤(wrap64 (2+(wrap64 (Int.tdiv (wrap64 ((wrap64 (bt a0 1))+7)) 8)))) then (some (((bt a0 0)==6),0,t307,(wrap64 (bt a0 1)),a0.extract ((wrap64 (2+(wrap64 (Int.tdiv (wrap64 ((wrap64 (bt a0 1))+7)) 8)))):Int).toNat a0.size,0)) else (none)) else (some (false,0,0,0,(⟨#[]⟩:ByteArray),7)))))) else (none)))) else (none)) else (none))=some (r1,r2,r3,r4,r5,r6):=by rw [if_neg (show ¬ (false=true) by decide)]at H;exact H
         clear H;have H:=H1;clear H1;by_cases c33:2≤(wrap64 (2+(wrap64 (Int.tdiv (wrap64 ((wrap64 (bt a0 1))+7)) 8))))
         ·rw [if_pos c33]at H;have c33b0:=eq_true c33;have c33b1:decide (2≤(wrap64 (2+(wrap64 (Int.tdiv (wrap64 ((wrap64 (bt a0 1))+7)) 8)))))=true:=decide_eq_true c33;by_cases c34:(wrap64 (2+(wrap64 (Int.tdiv (wrap64 ((wrap64 (bt a0 1))+7)) 8))))≤(a0.size:Int)
          ·rw [if_pos c34]at H;have c34b0:=eq_true c34;have c34b1:decide ((wrap64 (2+(wrap64 (Int.tdiv (wrap64 ((wrap64 (bt a0 1))+7)) 8))))≤(a0.size:Int))=true:=decide_eq_true c34;replace H:=Option.bind_eq_some_iff.mp H;obtain⟨t302,A350,H⟩:=H;replace H:((spoorref05_Zeros.f (wrap64 ((wrap64 (Int.tdiv t302 8)) - (wrap64 (Int.tdiv (wrap64 ((wrap64 (bt a0 1))+7)) 8))))).bind fun t303=>(if (a0.extract 2 ((wrap64 (2+(wrap64 (Int.tdiv (wrap64 ((wrap64 (bt a0 1))+7)) 8)))):Int).toNat).size+t303.size≤9223372036854775807 then (if ((bt a0 0)==6)=true then (if 8≤(((a0.extract 2 ((wrap64 (2+(wrap64 (Int.tdiv (wrap64 ((wrap64 (bt a0 1))+7)) 8)))):Int).toNat)++t303).size:Int) then ((spoorref05_Number.f kj14 (((a0.extract 2 ((wrap64 (2+(wrap64 (Int.tdiv (wrap64 ((wrap64 (bt a0 1))+7)) 8)))):Int).toNat)++t303).extract 0 8)).bind fun t304=>((spoorref05_Number.f kj14 (((a0.extract 2 ((wrap64 (2+(wrap64 (Int.tdiv (wrap64 ((wrap64 (bt a0 1))+7)) 8)))):Int).toNat)++t303).extract 8 ((a0.extract 2 ((wrap64 (2+(wrap64 (Int.tdiv (wrap64 ((wrap64 (bt a0 1))+7)) 8)))):Int).toNat)++t303).size)).bind fun t305=>((spoorref09_Check.f kj14 ((bt a0 0)==6) t304 t305 (wrap64 (bt a0 1))).bind fun t306=>(if t306=0 then (if 0≤(wrap64 (2+(wrap64 (Int.tdiv (wrap64 ((wrap64 (bt a0 1))+7)) 8)))) then (some (((bt a0 0)==6),t304,t305,(wrap64 (bt a0 1)),a0.extract ((wrap64 (2+(wrap64 (Int.tdiv (wrap64 ((wrap64 (bt a0 1))+7)) 8)))):Int).toNat a0.size,0)) else (none)) else (some (false,0,0,0,(⟨#[]⟩:ByteArray),7)))))) else (none)) else ((spoorref05_Number.f kj14 ((a0.extract 2 ((wrap64 (2+(wrap64 (Int.tdiv (wrap64 ((wrap64 (bt a0 1))+7)) 8)))):Int).toNat)++t303)).bind fun t307=>((spoorref09_Check.f kj14 ((bt a0 0)==6) 0 t307 (wrap64 (bt a0 1))).bind fun t308=>(if t308=0 then (if 0≤(wrap64 (2+(wrap64 (Int.tdiv (wrap64 ((wrap64 (bt a0 1))+7)) 8)))) then (some (((bt a0 0)==6),0,t307,(wrap64 (bt a0 1)),a0.extract ((wrap64 (2+(wrap64 (Int.tdiv (wrap64 ((wrap64 (bt a0 1))+7)) 8)))):Int).toNat a0.size,0)) else (none)) else (some (false,0,0,0,(⟨#[]⟩:ByteArray),7)))))) else (none)))=some (r1,r2,r3,r4,r5,r6):=H;have A35:=Ax A350;clear A350;replace H:=Option.bind_eq_some_iff.mp H;obtain⟨t303,A360,H⟩:=H;replace H:(if (a0.extract 2 ((wrap64 (2+(wrap64 (Int.tdiv (wrap64 ((wrap64 (bt a0 1))+7)) 8)))):Int).toNat).size+t303.size≤9223372036854775807 then (if ((bt a0 0)==6)=true then (if 8≤(((a0.extract 2 ((wrap64 (2+(wrap64 (Int.tdiv (wrap64 ((wrap64 (bt a0 1))+7)) 8)))):Int).toNat)++t303).size:Int) then ((spoorref05_Number.f kj14 (((a0.extract 2 ((wrap64 (2+(wrap64 (Int.tdiv (wrap64 ((wrap64 (bt a0 1))+7)) 8)))):Int).toNat)++t303).extract 0 8)).bind fun t304=>((spoorref05_Number.f kj14 (((a0.extract 2 ((wrap64 (2+(wrap64 (Int.tdiv (wrap64 ((wrap64 (bt a0 1))+7)) 8)))):Int).toNat)++t303).extract 8 ((a0.extract 2 ((wrap64 (2+(wrap64 (Int.tdiv (wrap64 ((wrap64 (bt a0 1))+7)) 8)))):Int).toNat)++t303).size)).bind fun t305=>((spoorref09_Check.f kj14 ((bt a0 0)==6) t304 t305 (wrap64 (bt a0 1))).bind fun t306=>(if t306=0 then (if 0≤(wrap64 (2+(wrap64 (Int.tdiv (wrap64 ((wrap64 (bt a0 1))+7)) 8)))) then (some (((bt a0 0)==6),t304,t305,(wrap64 (bt a0 1)),a0.extract ((wrap64 (2+(wrap64 (Int.tdiv (wrap64 ((wrap64 (bt a0 1))+7)) 8)))):Int).toNat a0.size,0)) else (none)) else (some (false,0,0,0,(⟨#[]⟩:ByteArray),7)))))) else (none)) else ((spoorref05_Number.f kj14 ((a0.extract 2 ((wrap64 (2+(wrap64 (Int.tdiv (wrap64 ((wrap64 (bt a0 1))+7)) 8)))):Int).toNat)++t303)).bind fun t307=>((spoorref09_Check.f kj14 ((bt a0 0)==6) 0 t307 (wrap64 (bt a0 1))).bind fun t308=>(if t308=0 then (if 0≤(wrap64 (2+(wrap64 (Int.tdiv (wrap64 ((wrap64 (bt a0 1))+7)) 8)))) then (some (((bt a0 0)==6),0,t307,(wrap64 (bt a0 1)),a0.extract ((wrap64 (2+(wrap64 (Int.tdiv (wrap64 ((wrap64 (bt a0 1))+7)) 8)))):Int).toNat a0.size,0)) else (none)) else (some (false,0,0,0,(⟨#[]⟩:ByteArray),7)))))) else (none))=some (r1,r2,r3,r4,r5,r6):=H;have A36:=Ax A360;clear A360;by_cases c37:(a0.extract 2 ((wrap64 (2+(wrap64 (Int.tdiv (wrap64 ((wrap64 (bt a0 1))+7)) 8)))):Int).toNat).size+t303.size≤9223372036854775807
           ·rw [if_pos c37]at H;have c37b0:=eq_true c37;have c37b1:decide ((a0.extract 2 ((wrap64 (2+(wrap64 (Int.tdiv (wrap64 ((wrap64 (bt a0 1))+7)) 8)))):Int).toNat).size+t303.size≤9223372036854775807)=true:=decide_eq_true c37;try have c37b2:(9223372036854775807<(a0.extract 2 ((wrap64 (2+(wrap64 (Int.tdiv (wrap64 ((wrap64 (bt a0 1))+7)) 8)))):Int).toNat).size+t303.size)=False:=eq_false (Nat.not_lt.2 c37)
            try (have h5_:=c37;simp [go_sem, *]at h5_;have c37b5:=eq_false (Nat.not_lt.2 h5_);clear h5_)
            by_cases c38:((bt a0 0)==6)=true
            ·rw [if_pos c38]at H;have c38b0:((bt a0 0)==6)=true:=c38
             (try (have c38b1:decide ((bt a0 0)=6)=true:=by simpa using c38))
             (try (have c38b2:((bt a0 0)==6)=true:=by simpa using c38))
             clear c38;by_cases c39:8≤(((a0.extract 2 ((wrap64 (2+(wrap64 (Int.tdiv (wrap64 ((wrap64 (bt a0 1))+7)) 8)))):Int).toNat)++t303).size:Int)
             ·rw [if_pos c39]at H;have c39b0:=eq_true c39;have c39b1:decide (8≤(((a0.extract 2 ((wrap64 (2+(wrap64 (Int.tdiv (wrap64 ((wrap64 (bt a0 1))+7)) 8)))):Int).toNat)++t303).size:Int))=true:=decide_eq_true c39;replace H:=Option.bind_eq_some_iff.mp H;obtain⟨t304,A400,H⟩:=H;replace H:((spoorref05_Number.f kj14 (((a0.extract 2 ((wrap64 (2+(wrap64 (Int.tdiv (wrap64 ((wrap64 (bt a0 1))+7)) 8)))):Int).toNat)++t303).extract 8 ((a0.extract 2 ((wrap64 (2+(wrap64 (Int.tdiv (wrap64 ((wrap64 (bt a0 1))+7)) 8)))):Int).toNat)++t303).size)).bind fun t305=>((spoorref09_Check.f kj14 ((bt a0 0)==6) t304 t305 (wrap64 (bt a0 1))).bind fun t306=>(if t306=0 then (if 0≤(wrap64 (2+(wrap64 (Int.tdiv (wrap64 ((wrap64 (bt a0 1))+7)) 8)))) then (some (((bt a0 0)==6),t304,t305,(wrap64 (bt a0 1)),a0.extract ((wrap64 (2+(wrap64 (Int.tdiv (wrap64 ((wrap64 (bt a0 1))+7)) 8)))):Int).toNat a0.size,0)) else (none)) else (some (false,0,0,0,(⟨#[]⟩:ByteArray),7)))))=some (r1,r2,r3,r4,r5,r6):=H;have A40:=Ax A400;clear A400;have c41b0:=eq_true (of_decide_eq_true (by first|(with_reducible assumption)|assumption):8≤(((a0.extract 2 ((wrap64 (2+(wrap64 (Int.tdiv (wrap64 ((wrap64 (bt a0 1))+7)) 8)))):Int).toNat)++t303).size:Int));replace H:=Option.bind_eq_some_iff.mp H;obtain⟨t305,A420,H⟩:=H;replace H:((spoorref09_Check.f kj14 ((bt a0 0)==6) t304 t305 (wrap64 (bt a0 1))).bind fun t306=>(if t306=0 then (if 0≤(wrap64 (2+(wrap64 (Int.tdiv (wrap64 ((wrap64 (bt a0 1))+7)) 8)))) then (some (((bt a0 0)==6),t304,t305,(wrap64 (bt a0 1)),a0.extract ((wrap64 (2+(wrap64 (Int.tdiv (wrap64 ((wrap64 (bt a0 1))+7)) 8)))):Int).toNat a0.size,0)) else (none)) else (some (false,0,0,0,(⟨#[]⟩:ByteArray),7))))=some (r1,r2,r3,r4,r5,r6):=H;have A42:=Ax A420;clear A420;replace H:=Option.bind_eq_some_iff.mp H;obtain⟨t306,A430,H⟩:=H;replace H:(if t306=0 then (if 0≤(wrap64 (2+(wrap64 (Int.tdiv (wrap64 ((wrap64 (bt a0 1))+7)) 8)))) then (some (((bt a0 0)==6),t304,t305,(wrap64 (bt a0 1)),a0.extract ((wrap64 (2+(wrap64 (Int.tdiv (wrap64 ((wrap64 (bt a0 1))+7)) 8)))):Int).toNat a0.size,0)) else (none)) else (some (false,0,0,0,(⟨#[]⟩:ByteArray),7)))=some (r1,r2,r3,r4,r5,r6):=H;have A43:=Ax A430;clear A430;by_cases c44:t306=0
              ·rw [if_pos c44]at H;have c44b0:(t306==0)=true:=beq_iff_eq.mpr c44;have c44b1:(t306 !=0)=false:=bne_eq_false_iff_eq.mpr c44;clear c44;obtain⟨ji45,hji45⟩: ∃ j_:Int,(wrap64 (2+(wrap64 (Int.tdiv (wrap64 ((wrap64 (bt a0 1))+7)) 8))))=j_:=⟨_,rfl⟩;replace H:(if 0≤(ji45) then (some (((bt a0 0)==6),t304,t305,(wrap64 (bt a0 1)),a0.extract ((ji45):Int).toNat a0.size,0)) else (none))=some (r1,r2,r3,r4,r5,r6):=by first|(rw [hji45]at H;exact H)|(simp only[hji45]at H ⊢;exact H)
               (try rw [hji45]at c33b0)
               (try rw [hji45]at c33b1)
               (try rw [hji45]at c33)
               (try rw [hji45]at c34b0)
               (try rw [hji45]at c34b1)
               (try rw [hji45]at c34)
               (try rw [hji45]at c37b0)
               (try rw [hji45]at c37b1)
               (try rw [hji45]at c37)
               (try rw [hji45]at c39b0)
               (try rw [hji45]at c39b1)
               (try rw [hji45]at c39)
               (try rw [hji45]at A35)
               (try rw [hji45]at A36)
               (try rw [hji45]at A40)
               (try rw [hji45]at A42)
               (try rw [hji45]at A43)
               have hji45w:(IntKind.i64.wrap (2+(wrap64 (Int.tdiv (wrap64 ((wrap64 (bt a0 1))+7)) 8))))=ji45:=(i64_w _).trans hji45;by_cases c46:0≤(ji45)
               ·rw [if_pos c46]at H;have c46b0:=eq_true c46;have c46b1:decide (0≤(ji45))=true:=decide_eq_true c46;clear c46;have c47b0:=eq_true (of_decide_eq_true (by first|(with_reducible assumption)|assumption):(ji45)≤(a0.size:Int));simp only[Option.some.injEq,Prod.mk.injEq]at H;obtain⟨rfl,rfl,rfl,rfl,rfl,rfl⟩:=H;obtain⟨jcx,hjcx⟩: ∃ X_:ByteArray,a0.extract 2 (ji45:Int).toNat++t303=X_:=⟨_,rfl⟩
                (try rw [hji45]at A24)
                (try rw [hji45]at A35)
                (try rw [hji45]at A36)
                (try rw [hji45]at A40)
                (try rw [hji45]at A42)
                (try rw [hji45]at A43)
                (try rw [hji45]at c37b1)
                (try rw [hji45]at c37b2)
                (try rw [hji45]at c39b1)
                (try rw [hji45]at c41b0)
                (try rw [hjcx]at A24)
                (try rw [hjcx]at A35)
                (try rw [hjcx]at A36)
                (try rw [hjcx]at A40)
                (try rw [hjcx]at A42)
                (try rw [hjcx]at A43)
                (try rw [hjcx]at c37b1)
                (try rw [hjcx]at c37b2)
                (try rw [hjcx]at c39b1)
                (try rw [hjcx]at c41b0)
                (try have hqx1:(9223372036854775807<(ji45:Int).toNat - 2+t303.size)=False:=eq_false (by have h_:=of_decide_eq_true c37b1;have h2_:=of_decide_eq_true c34b1;rw [ByteArray.size_extract]at h_;omega))
                (try rw [c38b0]at A24)
                (try rw [c38b0]at A35)
                (try rw [c38b0]at A36)
                (try rw [c38b0]at A40)
                (try rw [c38b0]at A42)
                (try rw [c38b0]at A43)
                (try rw [c38b0]at BK299)
                (try rw [c38b0]at BK300)
                try go_wp2
                replace BK299:=Ax (blk_drew BK299.out);replace BK300:=Ax (blk_drew BK300.out);replace HB:=Ax (below_drew1 HB.out);refine start_ (n:=13) (S:=fun w'=>w'.cell? ⟨gb300,0,none⟩=some (.bool true)∧w'.cell? ⟨gb300,1,none⟩=some (.int .u64 0)∧w'.cell? ⟨gb300,2,none⟩=some (.int .u64 0)∧w'.cell? ⟨gb300,3,none⟩=some (.int .i64 (wrap64 (bt a0 1)))) (ds:= []) #[Y,Y,Y,Y,Y,Y,Y,Y,Y,Y,Y,Y,Y] (by kernel_rfl) rfl rfl (bqc4 BK300.out) (fun hHeld=>?_);refine with_tabW spoorref11_GetPrefix.tab7 spoorref11_GetPrefix.bits7 (fun HT_ HW_=>?_);generalize wc.drew=w48 at BK299 BK300 HB hHeld ⊢;refine pz 0 47 #[Z,Y,Y,Y,Y,Y,Y,Y,Y,Y,Y,Y,Y] HT_.out ?_
                refine pz 1 48 #[Z,Z,Y,Y,Y,Y,Y,Y,Y,Y,Y,Y,Y] HT_.out ?_
                refine pz 2 49 #[Z,Z,Z,Y,Y,Y,Y,Y,Y,Y,Y,Y,Y] HT_.out ?_
                refine pz 3 50 #[Z,Z,Z,Z,Y,Y,Y,Y,Y,Y,Y,Y,Y] HT_.out ?_
                refine pz 4 51 #[Z,Z,Z,Z,Z,Y,Y,Y,Y,Y,Y,Y,Y] HT_.out ?_
                refine pz 8 55 #[Z,Z,Z,Z,Z,Y,Y,Y,Z,Y,Y,Y,Y] HT_.out ?_
                refine take_ (i:=5) (N:=some 52) (v:=?_) (a':=?_) #[Z,Z,Z,Z,Z,Z,Y,Y,Z,Y,Y,Y,Y] rfl rfl (take_ofW HT_.out HW_.out (by kernel_rfl)) (fun _ _ _ h=>h) (Or.inl ⟨by rfl,?_⟩) hHeld ?_ ?_;rotate_left
                ·rintro w' ⟨s0,s1,s2,s3⟩
                 go_simp;with_reducible rfl
                rotate_left;·simp only[sP];rfl
                refine one_ (i:=6) (N:=some 53) #[Z,Z,Z,Z,Z,Z,Z,Y,Z,Y,Y,Y,Y] rfl rfl (one_of HT_.out (by kernel_rfl)) (by decide) (fun K hK=>?_);refine goes_ Try.func40 (by kernel_rfl) rfl #[.bool true] (by rfl) rfl rfl (by (try simp only[List.map_toArray,List.map_cons,List.map_nil]);first|done|rfl|(simp only[List.length_drop,List.length_take];rfl)|(simp only[*];rfl)) ?_;with_reducible refine (spoorref09_Wide.calls true t302 _ A35.out).mono ?_
                rintro e w' ⟨rfl,⟨nd,rfl⟩⟩
                refine⟨_,rfl,?_⟩;refine hK.out _ _ (bqc4 BK300.out) (fun hHeld=>?_);clear hK K;refine norm_ (a':=?_) ?_ ?_;rotate_left
                ·show Act.put _ (some 53) _=_
                 simp only[sP];rfl
                refine pz 7 54 #[Z,Z,Z,Z,Z,Z,Z,Z,Z,Y,Y,Y,Y] HT_.out ?_
                refine pz 9 56 #[Z,Z,Z,Z,Z,Z,Z,Z,Z,Z,Y,Y,Y] HT_.out ?_
                refine one_ (i:=10) (N:=some 57) #[Z,Z,Z,Z,Z,Z,Z,Z,Z,Z,Z,Y,Y] rfl rfl (one_of HT_.out (by kernel_rfl)) (by decide) (fun K hK=>?_);refine goes_ Try.func41 (by kernel_rfl) rfl #[.int .i64 (wrap64 ((wrap64 (Int.tdiv t302 8)) - (wrap64 (Int.tdiv (wrap64 ((wrap64 (bt a0 1))+7)) 8))))] (by rfl) rfl rfl (by (try simp only[List.map_toArray,List.map_cons,List.map_nil]);first|done|rfl|(simp only[List.length_drop,List.length_take];rfl)|(simp only[*];rfl)) ?_;with_reducible refine (spoorref05_Zeros.calls (wrap64 ((wrap64 (Int.tdiv t302 8)) - (wrap64 (Int.tdiv (wrap64 ((wrap64 (bt a0 1))+7)) 8)))) t303 _ A36.out).mono ?_
                rintro e w49 ⟨rfl,hb⟩
                refine⟨_,rfl,?_⟩;replace BK299:=Bx0 BK299 hb;replace BK300:=Bx0 BK300 hb;replace HB:=Bs2 HB hb GE299.out GE300.out
                (try clear hb)
                refine hK.out _ _ (bqc4 BK300.out) (fun hHeld=>?_);clear hK K;refine norm_ (a':=?_) ?_ ?_;rotate_left
                ·show Act.put _ (some 57) _=_
                 simp only[sP];rfl
                refine pz 11 58 #[Z,Z,Z,Z,Z,Z,Z,Z,Z,Z,Z,Z,Y] HT_.out ?_
                refine pz 12 7 #[Z,Z,Z,Z,Z,Z,Z,Z,Z,Z,Z,Z,Z] HT_.out ?_
                refine done_ (done_of HT_.out (by kernel_rfl)) ?_;have hnb50:=NB300_299.out;have hnc50:=NB299_300.out;obtain⟨hcz51_0,hcz51_1,hcz51_2,hcz51_3,hfz51_0,hfz51_1,hfz51_2,hfz51_3⟩:=cl4 BK300;try go_wp2
                replace BK299:=Ax (blk_drew BK299.out);replace BK300:=Ax (blk_drew BK300.out);replace HB:=Ax (below_drew1 HB.out);refine start_ (n:=12) (S:=fun w'=>True) (ds:= []) #[Y,Y,Y,Y,Y,Y,Y,Y,Y,Y,Y,Y] (by kernel_rfl) rfl rfl trivial (fun hHeld=>?_);refine with_tabW spoorref11_GetPrefix.tab9 spoorref11_GetPrefix.bits9 (fun HT_ HW_=>?_);generalize w49.drew=w52 at BK299 BK300 HB hHeld ⊢;refine pz 0 61 #[Z,Y,Y,Y,Y,Y,Y,Y,Y,Y,Y,Y] HT_.out ?_
                refine pz 1 62 #[Z,Z,Y,Y,Y,Y,Y,Y,Y,Y,Y,Y] HT_.out ?_
                refine pz 3 64 #[Z,Z,Y,Z,Y,Y,Y,Y,Y,Y,Y,Y] HT_.out ?_
                refine pz 4 65 #[Z,Z,Y,Z,Z,Y,Y,Y,Y,Y,Y,Y] HT_.out ?_
                refine one_ (i:=2) (N:=some 63) #[Z,Z,Z,Z,Z,Y,Y,Y,Y,Y,Y,Y] rfl rfl (one_of HT_.out (by kernel_rfl)) (by decide) (fun K hK=>?_);refine goes_ Try.func42 (by kernel_rfl) rfl #[.string (jcx.extract 0 8)] (by rfl) rfl rfl (by (try simp only[List.map_toArray,List.map_cons,List.map_nil]);first|done|(simp only[hji45];rfl)|rfl|(simp only[List.length_drop,List.length_take];rfl)) ?_;with_reducible refine (spoorref05_Number.calls kj14 (jcx.extract 0 8) t304 _ A40.out).mono ?_
                rintro e w' ⟨rfl,⟨nd,rfl⟩⟩
                refine⟨_,rfl,?_⟩;refine hK.out _ _ trivial (fun hHeld=>?_);clear hK K;refine norm_ (a':=?_) ?_ ?_;rotate_left
                ·show Act.put _ (some 63) _=_
                 simp only[sP];rfl
                refine pz 6 67 #[Z,Z,Z,Z,Z,Y,Z,Y,Y,Y,Y,Y] HT_.out ?_
                refine pz 7 68 #[Z,Z,Z,Z,Z,Y,Z,Z,Y,Y,Y,Y] HT_.out ?_
                refine one_ (i:=5) (N:=some 66) #[Z,Z,Z,Z,Z,Z,Z,Z,Y,Y,Y,Y] rfl rfl (one_of HT_.out (by kernel_rfl)) (by decide) (fun K hK=>?_);refine goes_ Try.func42 (by kernel_rfl) rfl #[.string (jcx.extract 8 jcx.size)] (by rfl) rfl rfl (by (try simp only[List.map_toArray,List.map_cons,List.map_nil]);first|done|(simp only[hji45];rfl)|rfl|(simp only[List.length_drop,List.length_take];rfl)) ?_;with_reducible refine (spoorref05_Number.calls kj14 (jcx.extract 8 jcx.size) t305 _ A42.out).mono ?_
                rintro e w' ⟨rfl,⟨nd,rfl⟩⟩
                refine⟨_,rfl,?_⟩;refine hK.out _ _ trivial (fun hHeld=>?_);clear hK K;refine norm_ (a':=?_) ?_ ?_;rotate_left
                ·show Act.put _ (some 66) _=_
                 simp only[sP];rfl
                refine one_ (i:=8) (N:=none) #[Z,Z,Z,Z,Z,Z,Z,Z,Z,Y,Y,Y] rfl rfl (one_of HT_.out (by kernel_rfl)) (by decide) (fun K hK=>?_);have hs53:w52.cell? ⟨gb300,1,none⟩=some (.int .u64 0):=(blk_cell BK300.out 1).trans rfl;have hfs53:=blk_frozen BK300.out 1;have hns53_0:=NB299_300.out;have hms53_0:=NB300_299.out;refine skip_ (w1:=?_) (by rfl) rfl ?_ ?_;rotate_left;·go_simp;rfl
                refine hK.out _ _ trivial (fun hHeld=>?_);clear hK K;refine pz 9 69 #[Z,Z,Z,Z,Z,Z,Z,Z,Z,Z,Y,Y] HT_.out ?_
                refine pz 10 70 #[Z,Z,Z,Z,Z,Z,Z,Z,Z,Z,Z,Y] HT_.out ?_
                refine one_ (i:=11) (N:=none) #[Z,Z,Z,Z,Z,Z,Z,Z,Z,Z,Z,Z] rfl rfl (one_of HT_.out (by kernel_rfl)) (by decide) (fun K hK=>?_);have hs54:w52.cell? ⟨gb300,2,none⟩=some (.int .u64 0):=(blk_cell BK300.out 2).trans rfl;have hfs54:=blk_frozen BK300.out 2;have hns54_0:=NB299_300.out;have hms54_0:=NB300_299.out;refine skip_ (w1:=?_) (by rfl) rfl ?_ ?_;rotate_left;·go_simp;rfl
                refine hK.out _ _ trivial (fun hHeld=>?_);clear hK K;refine done_ (done_of HT_.out (by kernel_rfl)) ?_;obtain⟨hcz55_0,hcz55_1,hcz55_2,hcz55_3,hfz55_0,hfz55_1,hfz55_2,hfz55_3⟩:=cl4 BK300;try go_wp2_with (first|((with_reducible refine gate_callee (f:=36) rfl ?_);refine goesL_ (some 76) rfl rfl Try.func36 (by kernel_rfl) rfl #[.agg #[.bool true,.int .u64 t304,.int .u64 t305,.int .i64 (wrap64 (bt a0 1))]] rfl (by (try simp only[List.map_toArray,List.map_cons,List.map_nil]);first|done|rfl|(simp only[List.length_drop,List.length_take];rfl)|(simp only[*];rfl)) ?_;(with_reducible refine (spoorref09_Check.calls kj14 true t304 t305 (wrap64 (bt a0 1)) t306 _ A43.out).mono ?_);rintro e w56 ⟨rfl,hb⟩;refine⟨_,rfl,?_⟩;have n0_:=Bx2 BK299 hb NB299_300.out NB299_300.out;have n1_:=Ax (blk_below (g:=gb300) (o:=.cells #[.bool true,.int .u64 t304,.int .u64 t305,.int .i64 (wrap64 (bt a0 1))] 27 (0,0)) (gB BK300.out) hb);have n2_:=Bs2 HB hb GE299.out GE300.out;clear BK299;clear BK300;clear HB;have BK299:=n0_;have BK300:=n1_;have HB:=n2_;clear n0_ n1_ n2_;(try clear hb)))
                replace BK299:=Ax (blk_drew BK299.out);replace BK300:=Ax (blk_drew BK300.out);replace HB:=Ax (below_drew1 HB.out);refine start_ (n:=8) (S:=fun w'=>w'.cell? ⟨gb300,0,none⟩=some (.bool true)∧w'.cell? ⟨gb300,1,none⟩=some (.int .u64 t304)∧w'.cell? ⟨gb300,2,none⟩=some (.int .u64 t305)∧w'.cell? ⟨gb300,3,none⟩=some (.int .i64 (wrap64 (bt a0 1)))) (ds:= []) #[Y,Y,Y,Y,Y,Y,Y,Y] (by kernel_rfl) rfl rfl (bqc4 BK300.out) (fun hHeld=>?_);refine with_tabW spoorref11_GetPrefix.tab13 spoorref11_GetPrefix.bits13 (fun HT_ HW_=>?_);generalize w56.drew=w57 at BK299 BK300 HB hHeld ⊢;refine pz 1 80 #[Y,Z,Y,Y,Y,Y,Y,Y] HT_.out ?_
                refine pz 2 81 #[Y,Z,Z,Y,Y,Y,Y,Y] HT_.out ?_
                refine pz 3 82 #[Y,Z,Z,Z,Y,Y,Y,Y] HT_.out ?_
                refine pz 4 83 #[Y,Z,Z,Z,Z,Y,Y,Y] HT_.out ?_
                refine take_ (i:=0) (N:=some 79) (v:=?_) (a':=?_) #[Z,Z,Z,Z,Z,Y,Y,Y] rfl rfl (take_ofW HT_.out HW_.out (by kernel_rfl)) (fun _ _ _ h=>h) (Or.inl ⟨by rfl,?_⟩) hHeld ?_ ?_;rotate_left
                ·rintro w' ⟨s0,s1,s2,s3⟩
                 go_simp;with_reducible rfl
                rotate_left;·simp only[sP];rfl
                refine one_ (i:=5) (N:=none) #[Z,Z,Z,Z,Z,Z,Y,Y] rfl rfl (one_of HT_.out (by kernel_rfl)) (by decide) (fun K hK=>?_);have hs58:w57.cell? ⟨gb299,0,none⟩=some (.bool false):=(blk_cell BK299.out 0).trans rfl;have hfs58:=blk_frozen BK299.out 0;have hns58_1:=NB300_299.out;have hms58_1:=NB299_300.out;have hs59:w57.cell? ⟨gb299,1,none⟩=some (.int .u64 0):=(blk_cell BK299.out 1).trans rfl;have hfs59:=blk_frozen BK299.out 1;have hns59_1:=NB300_299.out;have hms59_1:=NB299_300.out;have hs60:w57.cell? ⟨gb299,2,none⟩=some (.int .u64 0):=(blk_cell BK299.out 2).trans rfl;have hfs60:=blk_frozen BK299.out 2;have hns60_1:=NB300_299.out;have hms60_1:=NB299_300.out;have hs61:w57.cell? ⟨gb299,3,none⟩=some (.int .i64 0):=(blk_cell BK299.out 3).trans rfl;have hfs61:=blk_frozen BK299.out 3;have hns61_1:=NB300_299.out;have hms61_1:=NB299_300.out;refine skip_ (w1:=?_) (by rfl) rfl ?_ ?_;rotate_left;·go_simp;rfl
                refine hK.out _ _ ⟨(cqf NB300_299.out ((cqf NB300_299.out ((cqf NB300_299.out ((cqf NB300_299.out (hHeld.1)))))))),(cqf NB300_299.out ((cqf NB300_299.out ((cqf NB300_299.out ((cqf NB300_299.out (hHeld.2.1)))))))),(cqf NB300_299.out ((cqf NB300_299.out ((cqf NB300_299.out ((cqf NB300_299.out (hHeld.2.2.1)))))))),(cqf NB300_299.out ((cqf NB300_299.out ((cqf NB300_299.out ((cqf NB300_299.out (hHeld.2.2.2))))))))⟩ (fun hHeld=>?_);clear hK K;refine pz 6 3 #[Z,Z,Z,Z,Z,Z,Z,Y] HT_.out ?_
                refine pz 7 4 #[Z,Z,Z,Z,Z,Z,Z,Z] HT_.out ?_
                refine done_ (done_of HT_.out (by kernel_rfl)) ?_;try go_wp2
                refine bodyPost_ret (results_ctt rfl _ _ gb299 27 #[.bool true,.int .u64 t304,.int .u64 t305,.int .i64 (wrap64 (bt a0 1))] (0,0) _ rfl (gB BK299.out) Try.underlying27 rfl (by kernel_rfl)) rfl ?_;exact⟨by first|rfl|(simp [errW_none,errW_some] <;> rfl)|(simp only[← hji45];first|rfl|(simp [errW_none,errW_some] <;> rfl))|(simp [*,errW_none,errW_some] <;> rfl),bw2 HB.out GE299.out GE300.out⟩
               ·rw [if_neg c46]at H;exact absurd H (by simp)
              ·rw [if_neg c44]at H;have c44b0:(t306==0)=false:=beq_eq_false_iff_ne.mpr c44;have c44b1:(t306 !=0)=true:=bne_iff_ne.mpr c44;simp only[Option.some.injEq,Prod.mk.injEq]at H;obtain⟨rfl,rfl,rfl,rfl,rfl,rfl⟩:=H;obtain⟨jcx,hjcx⟩: ∃ X_:ByteArray,a0.extract 2 (wrap64 (2+(wrap64 (Int.tdiv (wrap64 ((wrap64 (bt a0 1))+7)) 8))):Int).toNat++t303=X_:=⟨_,rfl⟩
               (try rw [hjcx]at A24)
               (try rw [hjcx]at A35)
               (try rw [hjcx]at A36)
               (try rw [hjcx]at A40)
               (try rw [hjcx]at A42)
               (try rw [hjcx]at A43)
               (try rw [hjcx]at c37b1)
               (try rw [hjcx]at c37b2)
               (try rw [hjcx]at c39b1)
               (try rw [hjcx]at c41b0)
               (try have hqx1:(9223372036854775807<(wrap64 (2+(wrap64 (Int.tdiv (wrap64 ((wrap64 (bt a0 1))+7)) 8))):Int).toNat - 2+t303.size)=False:=eq_false (by have h_:=of_decide_eq_true c37b1;have h2_:=of_decide_eq_true c34b1;rw [ByteArray.size_extract]at h_;omega))
               (try rw [c38b0]at A24)
               (try rw [c38b0]at A35)
               (try rw [c38b0]at A36)
               (try rw [c38b0]at A40)
               (try rw [c38b0]at A42)
               (try rw [c38b0]at A43)
               (try rw [c38b0]at BK299)
               (try rw [c38b0]at BK300)
               try go_wp2
               replace BK299:=Ax (blk_drew BK299.out);replace BK300:=Ax (blk_drew BK300.out);replace HB:=Ax (below_drew1 HB.out);refine start_ (n:=13) (S:=fun w'=>w'.cell? ⟨gb300,0,none⟩=some (.bool true)∧w'.cell? ⟨gb300,1,none⟩=some (.int .u64 0)∧w'.cell? ⟨gb300,2,none⟩=some (.int .u64 0)∧w'.cell? ⟨gb300,3,none⟩=some (.int .i64 (wrap64 (bt a0 1)))) (ds:= []) #[Y,Y,Y,Y,Y,Y,Y,Y,Y,Y,Y,Y,Y] (by kernel_rfl) rfl rfl (bqc4 BK300.out) (fun hHeld=>?_);refine with_tabW spoorref11_GetPrefix.tab7 spoorref11_GetPrefix.bits7 (fun HT_ HW_=>?_);generalize wc.drew=w62 at BK299 BK300 HB hHeld ⊢;refine pz 0 47 #[Z,Y,Y,Y,Y,Y,Y,Y,Y,Y,Y,Y,Y] HT_.out ?_
               refine pz 1 48 #[Z,Z,Y,Y,Y,Y,Y,Y,Y,Y,Y,Y,Y] HT_.out ?_
               refine pz 2 49 #[Z,Z,Z,Y,Y,Y,Y,Y,Y,Y,Y,Y,Y] HT_.out ?_
               refine pz 3 50 #[Z,Z,Z,Z,Y,Y,Y,Y,Y,Y,Y,Y,Y] HT_.out ?_
               refine pz 4 51 #[Z,Z,Z,Z,Z,Y,Y,Y,Y,Y,Y,Y,Y] HT_.out ?_
               refine pz 8 55 #[Z,Z,Z,Z,Z,Y,Y,Y,Z,Y,Y,Y,Y] HT_.out ?_
               refine take_ (i:=5) (N:=some 52) (v:=?_) (a':=?_) #[Z,Z,Z,Z,Z,Z,Y,Y,Z,Y,Y,Y,Y] rfl rfl (take_ofW HT_.out HW_.out (by kernel_rfl)) (fun _ _ _ h=>h) (Or.inl ⟨by rfl,?_⟩) hHeld ?_ ?_;rotate_left
               ·rintro w' ⟨s0,s1,s2,s3⟩
                go_simp;with_reducible rfl
               rotate_left;·simp only[sP];rfl
               refine one_ (i:=6) (N:=some 53) #[Z,Z,Z,Z,Z,Z,Z,Y,Z,Y,Y,Y,Y] rfl rfl (one_of HT_.out (by kernel_rfl)) (by decide) (fun K hK=>?_);refine goes_ Try.func40 (by kernel_rfl) rfl #[.bool true] (by rfl) rfl rfl (by (try simp only[List.map_toArray,List.map_cons,List.map_nil]);first|done|rfl|(simp only[List.length_drop,List.length_take];rfl)|(simp only[*];rfl)) ?_;with_reducible refine (spoorref09_Wide.calls true t302 _ A35.out).mono ?_
               rintro e w' ⟨rfl,⟨nd,rfl⟩⟩
               refine⟨_,rfl,?_⟩;refine hK.out _ _ (bqc4 BK300.out) (fun hHeld=>?_);clear hK K;refine norm_ (a':=?_) ?_ ?_;rotate_left
               ·show Act.put _ (some 53) _=_
                simp only[sP];rfl
               refine pz 7 54 #[Z,Z,Z,Z,Z,Z,Z,Z,Z,Y,Y,Y,Y] HT_.out ?_
               refine pz 9 56 #[Z,Z,Z,Z,Z,Z,Z,Z,Z,Z,Y,Y,Y] HT_.out ?_
               refine one_ (i:=10) (N:=some 57) #[Z,Z,Z,Z,Z,Z,Z,Z,Z,Z,Z,Y,Y] rfl rfl (one_of HT_.out (by kernel_rfl)) (by decide) (fun K hK=>?_);refine goes_ Try.func41 (by kernel_rfl) rfl #[.int .i64 (wrap64 ((wrap64 (Int.tdiv t302 8)) - (wrap64 (Int.tdiv (wrap64 ((wrap64 (bt a0 1))+7)) 8))))] (by rfl) rfl rfl (by (try simp only[List.map_toArray,List.map_cons,List.map_nil]);first|done|rfl|(simp only[List.length_drop,List.length_take];rfl)|(simp only[*];rfl)) ?_;with_reducible refine (spoorref05_Zeros.calls (wrap64 ((wrap64 (Int.tdiv t302 8)) - (wrap64 (Int.tdiv (wrap64 ((wrap64 (bt a0 1))+7)) 8)))) t303 _ A36.out).mono ?_
               rintro e w63 ⟨rfl,hb⟩
               refine⟨_,rfl,?_⟩;replace BK299:=Bx0 BK299 hb;replace BK300:=Bx0 BK300 hb;replace HB:=Bs2 HB hb GE299.out GE300.out
               (try clear hb)
               refine hK.out _ _ (bqc4 BK300.out) (fun hHeld=>?_);clear hK K;refine norm_ (a':=?_) ?_ ?_;rotate_left
               ·show Act.put _ (some 57) _=_
                simp only[sP];rfl
               refine pz 11 58 #[Z,Z,Z,Z,Z,Z,Z,Z,Z,Z,Z,Z,Y] HT_.out ?_
               refine pz 12 7 #[Z,Z,Z,Z,Z,Z,Z,Z,Z,Z,Z,Z,Z] HT_.out ?_
               refine done_ (done_of HT_.out (by kernel_rfl)) ?_;have hnb64:=NB300_299.out;have hnc64:=NB299_300.out;obtain⟨hcz65_0,hcz65_1,hcz65_2,hcz65_3,hfz65_0,hfz65_1,hfz65_2,hfz65_3⟩:=cl4 BK300;try go_wp2
               replace BK299:=Ax (blk_drew BK299.out);replace BK300:=Ax (blk_drew BK300.out);replace HB:=Ax (below_drew1 HB.out);refine start_ (n:=12) (S:=fun w'=>True) (ds:= []) #[Y,Y,Y,Y,Y,Y,Y,Y,Y,Y,Y,Y] (by kernel_rfl) rfl rfl trivial (fun hHeld=>?_);refine with_tabW spoorref11_GetPrefix.tab9 spoorref11_GetPrefix.bits9 (fun HT_ HW_=>?_);generalize w63.drew=w66 at BK299 BK300 HB hHeld ⊢;refine pz 0 61 #[Z,Y,Y,Y,Y,Y,Y,Y,Y,Y,Y,Y] HT_.out ?_
               refine pz 1 62 #[Z,Z,Y,Y,Y,Y,Y,Y,Y,Y,Y,Y] HT_.out ?_
               refine pz 3 64 #[Z,Z,Y,Z,Y,Y,Y,Y,Y,Y,Y,Y] HT_.out ?_
               refine pz 4 65 #[Z,Z,Y,Z,Z,Y,Y,Y,Y,Y,Y,Y] HT_.out ?_
               refine one_ (i:=2) (N:=some 63) #[Z,Z,Z,Z,Z,Y,Y,Y,Y,Y,Y,Y] rfl rfl (one_of HT_.out (by kernel_rfl)) (by decide) (fun K hK=>?_);refine goes_ Try.func42 (by kernel_rfl) rfl #[.string (jcx.extract 0 8)] (by rfl) rfl rfl (by (try simp only[List.map_toArray,List.map_cons,List.map_nil]);first|done|rfl|(simp only[List.length_drop,List.length_take];rfl)|(simp only[*];rfl)) ?_;with_reducible refine (spoorref05_Number.calls kj14 (jcx.extract 0 8) t304 _ A40.out).mono ?_
               rintro e w' ⟨rfl,⟨nd,rfl⟩⟩
               refine⟨_,rfl,?_⟩;refine hK.out _ _ trivial (fun hHeld=>?_);clear hK K;refine norm_ (a':=?_) ?_ ?_;rotate_left
               ·show Act.put _ (some 63) _=_
                simp only[sP];rfl
               refine pz 6 67 #[Z,Z,Z,Z,Z,Y,Z,Y,Y,Y,Y,Y] HT_.out ?_
               refine pz 7 68 #[Z,Z,Z,Z,Z,Y,Z,Z,Y,Y,Y,Y] HT_.out ?_
               refine one_ (i:=5) (N:=some 66) #[Z,Z,Z,Z,Z,Z,Z,Z,Y,Y,Y,Y] rfl rfl (one_of HT_.out (by kernel_rfl)) (by decide) (fun K hK=>?_);refine goes_ Try.func42 (by kernel_rfl) rfl #[.string (jcx.extract 8 jcx.size)] (by rfl) rfl rfl (by (try simp only[List.map_toArray,List.map_cons,List.map_nil]);first|done|rfl|(simp only[List.length_drop,List.length_take];rfl)|(simp only[*];rfl)) ?_;with_reducible refine (spoorref05_Number.calls kj14 (jcx.extract 8 jcx.size) t305 _ A42.out).mono ?_
               rintro e w' ⟨rfl,⟨nd,rfl⟩⟩
               refine⟨_,rfl,?_⟩;refine hK.out _ _ trivial (fun hHeld=>?_);clear hK K;refine norm_ (a':=?_) ?_ ?_;rotate_left
               ·show Act.put _ (some 66) _=_
                simp only[sP];rfl
               refine one_ (i:=8) (N:=none) #[Z,Z,Z,Z,Z,Z,Z,Z,Z,Y,Y,Y] rfl rfl (one_of HT_.out (by kernel_rfl)) (by decide) (fun K hK=>?_);have hs67:w66.cell? ⟨gb300,1,none⟩=some (.int .u64 0):=(blk_cell BK300.out 1).trans rfl;have hfs67:=blk_frozen BK300.out 1;have hns67_0:=NB299_300.out;have hms67_0:=NB300_299.out;refine skip_ (w1:=?_) (by rfl) rfl ?_ ?_;rotate_left;·go_simp;rfl
               refine hK.out _ _ trivial (fun hHeld=>?_);clear hK K;refine pz 9 69 #[Z,Z,Z,Z,Z,Z,Z,Z,Z,Z,Y,Y] HT_.out ?_
               refine pz 10 70 #[Z,Z,Z,Z,Z,Z,Z,Z,Z,Z,Z,Y] HT_.out ?_
               refine one_ (i:=11) (N:=none) #[Z,Z,Z,Z,Z,Z,Z,Z,Z,Z,Z,Z] rfl rfl (one_of HT_.out (by kernel_rfl)) (by decide) (fun K hK=>?_);have hs68:w66.cell? ⟨gb300,2,none⟩=some (.int .u64 0):=(blk_cell BK300.out 2).trans rfl;have hfs68:=blk_frozen BK300.out 2;have hns68_0:=NB299_300.out;have hms68_0:=NB300_299.out;refine skip_ (w1:=?_) (by rfl) rfl ?_ ?_;rotate_left;·go_simp;rfl
               refine hK.out _ _ trivial (fun hHeld=>?_);clear hK K;refine done_ (done_of HT_.out (by kernel_rfl)) ?_;obtain⟨hcz69_0,hcz69_1,hcz69_2,hcz69_3,hfz69_0,hfz69_1,hfz69_2,hfz69_3⟩:=cl4 BK300;try go_wp2_with (first|((with_reducible refine gate_callee (f:=36) rfl ?_);refine goesL_ (some 76) rfl rfl Try.func36 (by kernel_rfl) rfl #[.agg #[.bool true,.int .u64 t304,.int .u64 t305,.int .i64 (wrap64 (bt a0 1))]] rfl (by (try simp only[List.map_toArray,List.map_cons,List.map_nil]);first|done|rfl|(simp only[List.length_drop,List.length_take];rfl)|(simp only[*];rfl)) ?_;(with_reducible refine (spoorref09_Check.calls kj14 true t304 t305 (wrap64 (bt a0 1)) t306 _ A43.out).mono ?_);rintro e w70 ⟨rfl,hb⟩;refine⟨_,rfl,?_⟩;have n0_:=Bx2 BK299 hb NB299_300.out NB299_300.out;have n1_:=Ax (blk_below (g:=gb300) (o:=.cells #[.bool true,.int .u64 t304,.int .u64 t305,.int .i64 (wrap64 (bt a0 1))] 27 (0,0)) (gB BK300.out) hb);have n2_:=Bs2 HB hb GE299.out GE300.out;clear BK299;clear BK300;clear HB;have BK299:=n0_;have BK300:=n1_;have HB:=n2_;clear n0_ n1_ n2_;(try clear hb);obtain⟨hcz71_0,hcz71_1,hcz71_2,hcz71_3,hfz71_0,hfz71_1,hfz71_2,hfz71_3⟩:=cl4 BK299))
               refine bodyPost_ret (results_ctt rfl _ _ gb299 27 #[.bool false,.int .u64 0,.int .u64 0,.int .i64 0] (0,0) _ rfl (gB BK299.out) Try.underlying27 rfl (by kernel_rfl)) rfl ?_;exact⟨eS,bw2 HB.out GE299.out GE300.out⟩
             ·rw [if_neg c39]at H;exact absurd H (by simp)
            ·rw [if_neg c38]at H;have c38b0:((bt a0 0)==6)=false:=by simpa using c38
             (try (have c38b1:decide ((bt a0 0)=6)=false:=by simpa using c38))
             (try (have c38b2:((bt a0 0)==6)=false:=by simpa using c38))
             (try (have c38b3: ¬ ((bt a0 0)=6):=by simpa using c38))
             clear c38;replace H:=Option.bind_eq_some_iff.mp H;obtain⟨t307,A720,H⟩:=H;replace H:((spoorref09_Check.f kj14 ((bt a0 0)==6) 0 t307 (wrap64 (bt a0 1))).bind fun t308=>(if t308=0 then (if 0≤(wrap64 (2+(wrap64 (Int.tdiv (wrap64 ((wrap64 (bt a0 1))+7)) 8)))) then (some (((bt a0 0)==6),0,t307,(wrap64 (bt a0 1)),a0.extract ((wrap64 (2+(wrap64 (Int.tdiv (wrap64 ((wrap64 (bt a0 1))+7)) 8)))):Int).toNat a0.size,0)) else (none)) else (some (false,0,0,0,(⟨#[]⟩:ByteArray),7))))=some (r1,r2,r3,r4,r5,r6):=H;have A72:=Ax A720;clear A720;replace H:=Option.bind_eq_some_iff.mp H;obtain⟨t308,A730,H⟩:=H;replace H:(if t308=0 then (if 0≤(wrap64 (2+(wrap64 (Int.tdiv (wrap64 ((wrap64 (bt a0 1))+7)) 8)))) then (some (((bt a0 0)==6),0,t307,(wrap64 (bt a0 1)),a0.extract ((wrap64 (2+(wrap64 (Int.tdiv (wrap64 ((wrap64 (bt a0 1))+7)) 8)))):Int).toNat a0.size,0)) else (none)) else (some (false,0,0,0,(⟨#[]⟩:ByteArray),7)))=some (r1,r2,r3,r4,r5,r6):=H;have A73:=Ax A730;clear A730;by_cases c74:t308=0
             ·rw [if_pos c74]at H;have c74b0:(t308==0)=true:=beq_iff_eq.mpr c74;have c74b1:(t308 !=0)=false:=bne_eq_false_iff_eq.mpr c74;clear c74;obtain⟨ji75,hji75⟩: ∃ j_:Int,(wrap64 (2+(wrap64 (Int.tdiv (wrap64 ((wrap64 (bt a0 1))+7)) 8))))=j_:=⟨_,rfl⟩;replace H:(if 0≤(ji75) then (some (((bt a0 0)==6),0,t307,(wrap64 (bt a0 1)),a0.extract ((ji75):Int).toNat a0.size,0)) else (none))=some (r1,r2,r3,r4,r5,r6):=by first|(rw [hji75]at H;exact H)|(simp only[hji75]at H ⊢;exact H)
              (try rw [hji75]at c33b0)
              (try rw [hji75]at c33b1)
              (try rw [hji75]at c33)
              (try rw [hji75]at c34b0)
              (try rw [hji75]at c34b1)
              (try rw [hji75]at c34)
              (try rw [hji75]at c37b0)
              (try rw [hji75]at c37b1)
              (try rw [hji75]at c37)
              (try rw [hji75]at A35)
              (try rw [hji75]at A36)
              (try rw [hji75]at A72)
              (try rw [hji75]at A73)
              have hji75w:(IntKind.i64.wrap (2+(wrap64 (Int.tdiv (wrap64 ((wrap64 (bt a0 1))+7)) 8))))=ji75:=(i64_w _).trans hji75;by_cases c76:0≤(ji75)
              ·rw [if_pos c76]at H;have c76b0:=eq_true c76;have c76b1:decide (0≤(ji75))=true:=decide_eq_true c76;clear c76;have c77b0:=eq_true (of_decide_eq_true (by first|(with_reducible assumption)|assumption):(ji75)≤(a0.size:Int));simp only[Option.some.injEq,Prod.mk.injEq]at H;obtain⟨rfl,rfl,rfl,rfl,rfl,rfl⟩:=H;obtain⟨jcx,hjcx⟩: ∃ X_:ByteArray,a0.extract 2 (ji75:Int).toNat++t303=X_:=⟨_,rfl⟩
               (try rw [hji75]at A24)
               (try rw [hji75]at A35)
               (try rw [hji75]at A36)
               (try rw [hji75]at A40)
               (try rw [hji75]at A42)
               (try rw [hji75]at A43)
               (try rw [hji75]at A72)
               (try rw [hji75]at A73)
               (try rw [hji75]at c37b1)
               (try rw [hji75]at c37b2)
               (try rw [hji75]at c39b1)
               (try rw [hji75]at c41b0)
               (try rw [hjcx]at A24)
               (try rw [hjcx]at A35)
               (try rw [hjcx]at A36)
               (try rw [hjcx]at A40)
               (try rw [hjcx]at A42)
               (try rw [hjcx]at A43)
               (try rw [hjcx]at A72)
               (try rw [hjcx]at A73)
               (try rw [hjcx]at c37b1)
               (try rw [hjcx]at c37b2)
               (try rw [hjcx]at c39b1)
               (try rw [hjcx]at c41b0)
               (try have hqx1:(9223372036854775807<(ji75:Int).toNat - 2+t303.size)=False:=eq_false (by have h_:=of_decide_eq_true c37b1;have h2_:=of_decide_eq_true c34b1;rw [ByteArray.size_extract]at h_;omega))
               (try rw [c38b0]at A24)
               (try rw [c38b0]at A35)
               (try rw [c38b0]at A36)
               (try rw [c38b0]at A40)
               (try rw [c38b0]at A42)
               (try rw [c38b0]at A43)
               (try rw [c38b0]at A72)
               (try rw [c38b0]at A73)
               (try rw [c38b0]at BK299)
               (try rw [c38b0]at BK300)
               try go_wp2
               replace BK299:=Ax (blk_drew BK299.out);replace BK300:=Ax (blk_drew BK300.out);replace HB:=Ax (below_drew1 HB.out);refine start_ (n:=13) (S:=fun w'=>w'.cell? ⟨gb300,0,none⟩=some (.bool false)∧w'.cell? ⟨gb300,1,none⟩=some (.int .u64 0)∧w'.cell? ⟨gb300,2,none⟩=some (.int .u64 0)∧w'.cell? ⟨gb300,3,none⟩=some (.int .i64 (wrap64 (bt a0 1)))) (ds:= []) #[Y,Y,Y,Y,Y,Y,Y,Y,Y,Y,Y,Y,Y] (by kernel_rfl) rfl rfl (bqc4 BK300.out) (fun hHeld=>?_);refine with_tabW spoorref11_GetPrefix.tab7 spoorref11_GetPrefix.bits7 (fun HT_ HW_=>?_);generalize wc.drew=w78 at BK299 BK300 HB hHeld ⊢;refine pz 0 47 #[Z,Y,Y,Y,Y,Y,Y,Y,Y,Y,Y,Y,Y] HT_.out ?_
               refine pz 1 48 #[Z,Z,Y,Y,Y,Y,Y,Y,Y,Y,Y,Y,Y] HT_.out ?_
               refine pz 2 49 #[Z,Z,Z,Y,Y,Y,Y,Y,Y,Y,Y,Y,Y] HT_.out ?_
               refine pz 3 50 #[Z,Z,Z,Z,Y,Y,Y,Y,Y,Y,Y,Y,Y] HT_.out ?_
               refine pz 4 51 #[Z,Z,Z,Z,Z,Y,Y,Y,Y,Y,Y,Y,Y] HT_.out ?_
               refine pz 8 55 #[Z,Z,Z,Z,Z,Y,Y,Y,Z,Y,Y,Y,Y] HT_.out ?_
               refine take_ (i:=5) (N:=some 52) (v:=?_) (a':=?_) #[Z,Z,Z,Z,Z,Z,Y,Y,Z,Y,Y,Y,Y] rfl rfl (take_ofW HT_.out HW_.out (by kernel_rfl)) (fun _ _ _ h=>h) (Or.inl ⟨by rfl,?_⟩) hHeld ?_ ?_;rotate_left
               ·rintro w' ⟨s0,s1,s2,s3⟩
                go_simp;with_reducible rfl
               rotate_left;·simp only[sP];rfl
               refine one_ (i:=6) (N:=some 53) #[Z,Z,Z,Z,Z,Z,Z,Y,Z,Y,Y,Y,Y] rfl rfl (one_of HT_.out (by kernel_rfl)) (by decide) (fun K hK=>?_);refine goes_ Try.func40 (by kernel_rfl) rfl #[.bool false] (by rfl) rfl rfl (by (try simp only[List.map_toArray,List.map_cons,List.map_nil]);first|done|rfl|(simp only[List.length_drop,List.length_take];rfl)|(simp only[*];rfl)) ?_;with_reducible refine (spoorref09_Wide.calls false t302 _ A35.out).mono ?_
               rintro e w' ⟨rfl,⟨nd,rfl⟩⟩
               refine⟨_,rfl,?_⟩;refine hK.out _ _ (bqc4 BK300.out) (fun hHeld=>?_);clear hK K;refine norm_ (a':=?_) ?_ ?_;rotate_left
               ·show Act.put _ (some 53) _=_
                simp only[sP];rfl
               refine pz 7 54 #[Z,Z,Z,Z,Z,Z,Z,Z,Z,Y,Y,Y,Y] HT_.out ?_
               refine pz 9 56 #[Z,Z,Z,Z,Z,Z,Z,Z,Z,Z,Y,Y,Y] HT_.out ?_
               refine one_ (i:=10) (N:=some 57) #[Z,Z,Z,Z,Z,Z,Z,Z,Z,Z,Z,Y,Y] rfl rfl (one_of HT_.out (by kernel_rfl)) (by decide) (fun K hK=>?_);refine goes_ Try.func41 (by kernel_rfl) rfl #[.int .i64 (wrap64 ((wrap64 (Int.tdiv t302 8)) - (wrap64 (Int.tdiv (wrap64 ((wrap64 (bt a0 1))+7)) 8))))] (by rfl) rfl rfl (by (try simp only[List.map_toArray,List.map_cons,List.map_nil]);first|done|rfl|(simp only[List.length_drop,List.length_take];rfl)|(simp only[*];rfl)) ?_;with_reducible refine (spoorref05_Zeros.calls (wrap64 ((wrap64 (Int.tdiv t302 8)) - (wrap64 (Int.tdiv (wrap64 ((wrap64 (bt a0 1))+7)) 8)))) t303 _ A36.out).mono ?_
               rintro e w79 ⟨rfl,hb⟩
               refine⟨_,rfl,?_⟩;replace BK299:=Bx0 BK299 hb;replace BK300:=Bx0 BK300 hb;replace HB:=Bs2 HB hb GE299.out GE300.out
               (try clear hb)
               refine hK.out _ _ (bqc4 BK300.out) (fun hHeld=>?_);clear hK K;refine norm_ (a':=?_) ?_ ?_;rotate_left
               ·show Act.put _ (some 57) _=_
                simp only[sP];rfl
               refine pz 11 58 #[Z,Z,Z,Z,Z,Z,Z,Z,Z,Z,Z,Z,Y] HT_.out ?_
               refine pz 12 7 #[Z,Z,Z,Z,Z,Z,Z,Z,Z,Z,Z,Z,Z] HT_.out ?_
               refine done_ (done_of HT_.out (by kernel_rfl)) ?_;have hnb80:=NB300_299.out;have hnc80:=NB299_300.out;obtain⟨hcz81_0,hcz81_1,hcz81_2,hcz81_3,hfz81_0,hfz81_1,hfz81_2,hfz81_3⟩:=cl4 BK300;try go_wp2_with (first|((with_reducible refine gate_callee (f:=42) rfl ?_);refine goesL_ (some 72) rfl rfl Try.func42 (by kernel_rfl) rfl #[.string jcx] rfl (by (try simp only[List.map_toArray,List.map_cons,List.map_nil]);first|done|(simp only[hji75];rfl)|rfl|(simp only[List.length_drop,List.length_take];rfl)) ?_;(with_reducible refine (spoorref05_Number.calls kj14 jcx t307 _ A72.out).mono ?_);rintro e w' ⟨rfl,⟨nd,rfl⟩⟩;refine⟨_,rfl,?_⟩;(try (rw [drewN_self w79];generalize hq_:World.drewN w79 _=w79;have n0_:Aside0 (w79.heap[gb299]? =some (.cells #[.bool false,.int .u64 0,.int .u64 0,.int .i64 0] 27 (0,0))):=⟨by rw [← hq_];exact (bf0 BK299.out)⟩;have n1_:Aside0 (w79.heap[gb300]? =some (.cells #[.bool false,.int .u64 0,.int .u64 0,.int .i64 (wrap64 (bt a0 1))] 27 (0,0))):=⟨by rw [← hq_];exact (bf0 BK300.out)⟩;have n2_:Aside0 (Below w.heap.size w w79):=⟨by rw [← hq_];exact (bw2 HB.out GE299.out GE300.out)⟩;clear BK299 BK300 HB hq_;have BK299:=n0_;have BK300:=n1_;have HB:=n2_;clear n0_ n1_ n2_));(try (have hcq0_300:w79.cell? ⟨gb300,0,none⟩=some (.bool false):=(blk_cell BK300.out 0).trans rfl;have hfq0_300:=blk_frozen BK300.out 0;have hcq1_300:w79.cell? ⟨gb300,1,none⟩=some (.int .u64 0):=(blk_cell BK300.out 1).trans rfl;have hfq1_300:=blk_frozen BK300.out 1;have hcq2_300:w79.cell? ⟨gb300,2,none⟩=some (.int .u64 0):=(blk_cell BK300.out 2).trans rfl;have hfq2_300:=blk_frozen BK300.out 2;have hcq3_300:w79.cell? ⟨gb300,3,none⟩=some (.int .i64 (wrap64 (bt a0 1))):=(blk_cell BK300.out 3).trans rfl;have hfq3_300:=blk_frozen BK300.out 3)))|((with_reducible refine gate_callee (f:=36) rfl ?_);refine goesL_ (some 76) rfl rfl Try.func36 (by kernel_rfl) rfl #[.agg #[.bool false,.int .u64 0,.int .u64 t307,.int .i64 (wrap64 (bt a0 1))]] rfl (by (try simp only[List.map_toArray,List.map_cons,List.map_nil]);first|done|rfl|(simp only[List.length_drop,List.length_take];rfl)|(simp only[*];rfl)) ?_;(with_reducible refine (spoorref09_Check.calls kj14 false 0 t307 (wrap64 (bt a0 1)) t308 _ A73.out).mono ?_);rintro e w82 ⟨rfl,hb⟩;refine⟨_,rfl,?_⟩;have n0_:=Bx1 BK299 hb NB299_300.out;have n1_:=Ax (blk_below (g:=gb300) (o:=.cells #[.bool false,.int .u64 0,.int .u64 t307,.int .i64 (wrap64 (bt a0 1))] 27 (0,0)) (gB BK300.out) hb);have n2_:=Bs2 HB hb GE299.out GE300.out;clear BK299;clear BK300;clear HB;have BK299:=n0_;have BK300:=n1_;have HB:=n2_;clear n0_ n1_ n2_;(try clear hb)))
               replace BK299:=Ax (blk_drew BK299.out);replace BK300:=Ax (blk_drew BK300.out);replace HB:=Ax (below_drew1 HB.out);refine start_ (n:=8) (S:=fun w'=>w'.cell? ⟨gb300,0,none⟩=some (.bool false)∧w'.cell? ⟨gb300,1,none⟩=some (.int .u64 0)∧w'.cell? ⟨gb300,2,none⟩=some (.int .u64 t307)∧w'.cell? ⟨gb300,3,none⟩=some (.int .i64 (wrap64 (bt a0 1)))) (ds:= []) #[Y,Y,Y,Y,Y,Y,Y,Y] (by kernel_rfl) rfl rfl (bqc4 BK300.out) (fun hHeld=>?_);refine with_tabW spoorref11_GetPrefix.tab13 spoorref11_GetPrefix.bits13 (fun HT_ HW_=>?_);generalize w82.drew=w83 at BK299 BK300 HB hHeld ⊢;refine pz 1 80 #[Y,Z,Y,Y,Y,Y,Y,Y] HT_.out ?_
               refine pz 2 81 #[Y,Z,Z,Y,Y,Y,Y,Y] HT_.out ?_
               refine pz 3 82 #[Y,Z,Z,Z,Y,Y,Y,Y] HT_.out ?_
               refine pz 4 83 #[Y,Z,Z,Z,Z,Y,Y,Y] HT_.out ?_
               refine take_ (i:=0) (N:=some 79) (v:=?_) (a':=?_) #[Z,Z,Z,Z,Z,Y,Y,Y] rfl rfl (take_ofW HT_.out HW_.out (by kernel_rfl)) (fun _ _ _ h=>h) (Or.inl ⟨by rfl,?_⟩) hHeld ?_ ?_;rotate_left
               ·rintro w' ⟨s0,s1,s2,s3⟩
                go_simp;with_reducible rfl
               rotate_left;·simp only[sP];rfl
               refine one_ (i:=5) (N:=none) #[Z,Z,Z,Z,Z,Z,Y,Y] rfl rfl (one_of HT_.out (by kernel_rfl)) (by decide) (fun K hK=>?_);have hs84:w83.cell? ⟨gb299,0,none⟩=some (.bool false):=(blk_cell BK299.out 0).trans rfl;have hfs84:=blk_frozen BK299.out 0;have hns84_1:=NB300_299.out;have hms84_1:=NB299_300.out;have hs85:w83.cell? ⟨gb299,1,none⟩=some (.int .u64 0):=(blk_cell BK299.out 1).trans rfl;have hfs85:=blk_frozen BK299.out 1;have hns85_1:=NB300_299.out;have hms85_1:=NB299_300.out;have hs86:w83.cell? ⟨gb299,2,none⟩=some (.int .u64 0):=(blk_cell BK299.out 2).trans rfl;have hfs86:=blk_frozen BK299.out 2;have hns86_1:=NB300_299.out;have hms86_1:=NB299_300.out;have hs87:w83.cell? ⟨gb299,3,none⟩=some (.int .i64 0):=(blk_cell BK299.out 3).trans rfl;have hfs87:=blk_frozen BK299.out 3;have hns87_1:=NB300_299.out;have hms87_1:=NB299_300.out;refine skip_ (w1:=?_) (by rfl) rfl ?_ ?_;rotate_left;·go_simp;rfl
               refine hK.out _ _ ⟨(cqf NB300_299.out ((cqf NB300_299.out ((cqf NB300_299.out ((cqf NB300_299.out (hHeld.1)))))))),(cqf NB300_299.out ((cqf NB300_299.out ((cqf NB300_299.out ((cqf NB300_299.out (hHeld.2.1)))))))),(cqf NB300_299.out ((cqf NB300_299.out ((cqf NB300_299.out ((cqf NB300_299.out (hHeld.2.2.1)))))))),(cqf NB300_299.out ((cqf NB300_299.out ((cqf NB300_299.out ((cqf NB300_299.out (hHeld.2.2.2))))))))⟩ (fun hHeld=>?_);clear hK K;refine pz 6 3 #[Z,Z,Z,Z,Z,Z,Z,Y] HT_.out ?_
               refine pz 7 4 #[Z,Z,Z,Z,Z,Z,Z,Z] HT_.out ?_
               refine done_ (done_of HT_.out (by kernel_rfl)) ?_;try go_wp2
               refine bodyPost_ret (results_ctt rfl _ _ gb299 27 #[.bool false,.int .u64 0,.int .u64 t307,.int .i64 (wrap64 (bt a0 1))] (0,0) _ rfl (gB BK299.out) Try.underlying27 rfl (by kernel_rfl)) rfl ?_;exact⟨by first|rfl|(simp [errW_none,errW_some] <;> rfl)|(simp only[← hji75];first|rfl|(simp [errW_none,errW_some] <;> rfl))|(simp [*,errW_none,errW_some] <;> rfl),bw2 HB.out GE299.out GE300.out⟩
              ·rw [if_neg c76]at H;exact absurd H (by simp)
             ·rw [if_neg c74]at H;have c74b0:(t308==0)=false:=beq_eq_false_iff_ne.mpr c74;have c74b1:(t308 !=0)=true:=bne_iff_ne.mpr c74;simp only[Option.some.injEq,Prod.mk.injEq]at H;obtain⟨rfl,rfl,rfl,rfl,rfl,rfl⟩:=H;obtain⟨jcx,hjcx⟩: ∃ X_:ByteArray,a0.extract 2 (wrap64 (2+(wrap64 (Int.tdiv (wrap64 ((wrap64 (bt a0 1))+7)) 8))):Int).toNat++t303=X_:=⟨_,rfl⟩
              (try rw [hjcx]at A24)
              (try rw [hjcx]at A35)
              (try rw [hjcx]at A36)
              (try rw [hjcx]at A40)
              (try rw [hjcx]at A42)
              (try rw [hjcx]at A43)
              (try rw [hjcx]at A72)
              (try rw [hjcx]at A73)
              (try rw [hjcx]at c37b1)
              (try rw [hjcx]at c37b2)
              (try rw [hjcx]at c39b1)
              (try rw [hjcx]at c41b0)
              (try have hqx1:(9223372036854775807<(wrap64 (2+(wrap64 (Int.tdiv (wrap64 ((wrap64 (bt a0 1))+7)) 8))):Int).toNat - 2+t303.size)=False:=eq_false (by have h_:=of_decide_eq_true c37b1;have h2_:=of_decide_eq_true c34b1;rw [ByteArray.size_extract]at h_;omega))
              (try rw [c38b0]at A24)
              (try rw [c38b0]at A35)
              (try rw [c38b0]at A36)
              (try rw [c38b0]at A40)
              (try rw [c38b0]at A42)
              (try rw [c38b0]at A43)
              (try rw [c38b0]at A72)
              (try rw [c38b0]at A73)
              (try rw [c38b0]at BK299)
              (try rw [c38b0]at BK300)
              try go_wp2
              replace BK299:=Ax (blk_drew BK299.out);replace BK300:=Ax (blk_drew BK300.out);replace HB:=Ax (below_drew1 HB.out);refine start_ (n:=13) (S:=fun w'=>w'.cell? ⟨gb300,0,none⟩=some (.bool false)∧w'.cell? ⟨gb300,1,none⟩=some (.int .u64 0)∧w'.cell? ⟨gb300,2,none⟩=some (.int .u64 0)∧w'.cell? ⟨gb300,3,none⟩=some (.int .i64 (wrap64 (bt a0 1)))) (ds:= []) #[Y,Y,Y,Y,Y,Y,Y,Y,Y,Y,Y,Y,Y] (by kernel_rfl) rfl rfl (bqc4 BK300.out) (fun hHeld=>?_);refine with_tabW spoorref11_GetPrefix.tab7 spoorref11_GetPrefix.bits7 (fun HT_ HW_=>?_);generalize wc.drew=w88 at BK299 BK300 HB hHeld ⊢;refine pz 0 47 #[Z,Y,Y,Y,Y,Y,Y,Y,Y,Y,Y,Y,Y] HT_.out ?_
              refine pz 1 48 #[Z,Z,Y,Y,Y,Y,Y,Y,Y,Y,Y,Y,Y] HT_.out ?_
              refine pz 2 49 #[Z,Z,Z,Y,Y,Y,Y,Y,Y,Y,Y,Y,Y] HT_.out ?_
              refine pz 3 50 #[Z,Z,Z,Z,Y,Y,Y,Y,Y,Y,Y,Y,Y] HT_.out ?_
              refine pz 4 51 #[Z,Z,Z,Z,Z,Y,Y,Y,Y,Y,Y,Y,Y] HT_.out ?_
              refine pz 8 55 #[Z,Z,Z,Z,Z,Y,Y,Y,Z,Y,Y,Y,Y] HT_.out ?_
              refine take_ (i:=5) (N:=some 52) (v:=?_) (a':=?_) #[Z,Z,Z,Z,Z,Z,Y,Y,Z,Y,Y,Y,Y] rfl rfl (take_ofW HT_.out HW_.out (by kernel_rfl)) (fun _ _ _ h=>h) (Or.inl ⟨by rfl,?_⟩) hHeld ?_ ?_;rotate_left
              ·rintro w' ⟨s0,s1,s2,s3⟩
               go_simp;with_reducible rfl
              rotate_left;·simp only[sP];rfl
              refine one_ (i:=6) (N:=some 53) #[Z,Z,Z,Z,Z,Z,Z,Y,Z,Y,Y,Y,Y] rfl rfl (one_of HT_.out (by kernel_rfl)) (by decide) (fun K hK=>?_);refine goes_ Try.func40 (by kernel_rfl) rfl #[.bool false] (by rfl) rfl rfl (by (try simp only[List.map_toArray,List.map_cons,List.map_nil]);first|done|rfl|(simp only[List.length_drop,List.length_take];rfl)|(simp only[*];rfl)) ?_;with_reducible refine (spoorref09_Wide.calls false t302 _ A35.out).mono ?_
              rintro e w' ⟨rfl,⟨nd,rfl⟩⟩
              refine⟨_,rfl,?_⟩;refine hK.out _ _ (bqc4 BK300.out) (fun hHeld=>?_);clear hK K;refine norm_ (a':=?_) ?_ ?_;rotate_left
              ·show Act.put _ (some 53) _=_
               simp only[sP];rfl
              refine pz 7 54 #[Z,Z,Z,Z,Z,Z,Z,Z,Z,Y,Y,Y,Y] HT_.out ?_
              refine pz 9 56 #[Z,Z,Z,Z,Z,Z,Z,Z,Z,Z,Y,Y,Y] HT_.out ?_
              refine one_ (i:=10) (N:=some 57) #[Z,Z,Z,Z,Z,Z,Z,Z,Z,Z,Z,Y,Y] rfl rfl (one_of HT_.out (by kernel_rfl)) (by decide) (fun K hK=>?_);refine goes_ Try.func41 (by kernel_rfl) rfl #[.int .i64 (wrap64 ((wrap64 (Int.tdiv t302 8)) - (wrap64 (Int.tdiv (wrap64 ((wrap64 (bt a0 1))+7)) 8))))] (by rfl) rfl rfl (by (try simp only[List.map_toArray,List.map_cons,List.map_nil]);first|done|rfl|(simp only[List.length_drop,List.length_take];rfl)|(simp only[*];rfl)) ?_;with_reducible refine (spoorref05_Zeros.calls (wrap64 ((wrap64 (Int.tdiv t302 8)) - (wrap64 (Int.tdiv (wrap64 ((wrap64 (bt a0 1))+7)) 8)))) t303 _ A36.out).mono ?_
              rintro e w89 ⟨rfl,hb⟩
              refine⟨_,rfl,?_⟩;replace BK299:=Bx0 BK299 hb;replace BK300:=Bx0 BK300 hb;replace HB:=Bs2 HB hb GE299.out GE300.out
              (try clear hb)
              refine hK.out _ _ (bqc4 BK300.out) (fun hHeld=>?_);clear hK K;refine norm_ (a':=?_) ?_ ?_;rotate_left
              ·show Act.put _ (some 57) _=_
               simp only[sP];rfl
              refine pz 11 58 #[Z,Z,Z,Z,Z,Z,Z,Z,Z,Z,Z,Z,Y] HT_.out ?_
              refine pz 12 7 #[Z,Z,Z,Z,Z,Z,Z,Z,Z,Z,Z,Z,Z] HT_.out ?_
              refine done_ (done_of HT_.out (by kernel_rfl)) ?_;have hnb90:=NB300_299.out;have hnc90:=NB299_300.out;obtain⟨hcz91_0,hcz91_1,hcz91_2,hcz91_3,hfz91_0,hfz91_1,hfz91_2,hfz91_3⟩:=cl4 BK300;try go_wp2_with (first|((with_reducible refine gate_callee (f:=42) rfl ?_);refine goesL_ (some 72) rfl rfl Try.func42 (by kernel_rfl) rfl #[.string jcx] rfl (by (try simp only[List.map_toArray,List.map_cons,List.map_nil]);first|done|rfl|(simp only[List.length_drop,List.length_take];rfl)|(simp only[*];rfl)) ?_;(with_reducible refine (spoorref05_Number.calls kj14 jcx t307 _ A72.out).mono ?_);rintro e w' ⟨rfl,⟨nd,rfl⟩⟩;refine⟨_,rfl,?_⟩;(try (rw [drewN_self w89];generalize hq_:World.drewN w89 _=w89;have n0_:Aside0 (w89.heap[gb299]? =some (.cells #[.bool false,.int .u64 0,.int .u64 0,.int .i64 0] 27 (0,0))):=⟨by rw [← hq_];exact (bf0 BK299.out)⟩;have n1_:Aside0 (w89.heap[gb300]? =some (.cells #[.bool false,.int .u64 0,.int .u64 0,.int .i64 (wrap64 (bt a0 1))] 27 (0,0))):=⟨by rw [← hq_];exact (bf0 BK300.out)⟩;have n2_:Aside0 (Below w.heap.size w w89):=⟨by rw [← hq_];exact (bw2 HB.out GE299.out GE300.out)⟩;clear BK299 BK300 HB hq_;have BK299:=n0_;have BK300:=n1_;have HB:=n2_;clear n0_ n1_ n2_));(try (have hcq0_300:w89.cell? ⟨gb300,0,none⟩=some (.bool false):=(blk_cell BK300.out 0).trans rfl;have hfq0_300:=blk_frozen BK300.out 0;have hcq1_300:w89.cell? ⟨gb300,1,none⟩=some (.int .u64 0):=(blk_cell BK300.out 1).trans rfl;have hfq1_300:=blk_frozen BK300.out 1;have hcq2_300:w89.cell? ⟨gb300,2,none⟩=some (.int .u64 0):=(blk_cell BK300.out 2).trans rfl;have hfq2_300:=blk_frozen BK300.out 2;have hcq3_300:w89.cell? ⟨gb300,3,none⟩=some (.int .i64 (wrap64 (bt a0 1))):=(blk_cell BK300.out 3).trans rfl;have hfq3_300:=blk_frozen BK300.out 3)))|((with_reducible refine gate_callee (f:=36) rfl ?_);refine goesL_ (some 76) rfl rfl Try.func36 (by kernel_rfl) rfl #[.agg #[.bool false,.int .u64 0,.int .u64 t307,.int .i64 (wrap64 (bt a0 1))]] rfl (by (try simp only[List.map_toArray,List.map_cons,List.map_nil]);first|done|rfl|(simp only[List.length_drop,List.length_take];rfl)|(simp only[*];rfl)) ?_;(with_reducible refine (spoorref09_Check.calls kj14 false 0 t307 (wrap64 (bt a0 1)) t308 _ A73.out).mono ?_);rintro e w92 ⟨rfl,hb⟩;refine⟨_,rfl,?_⟩;have n0_:=Bx1 BK299 hb NB299_300.out;have n1_:=Ax (blk_below (g:=gb300) (o:=.cells #[.bool false,.int .u64 0,.int .u64 t307,.int .i64 (wrap64 (bt a0 1))] 27 (0,0)) (gB BK300.out) hb);have n2_:=Bs2 HB hb GE299.out GE300.out;clear BK299;clear BK300;clear HB;have BK299:=n0_;have BK300:=n1_;have HB:=n2_;clear n0_ n1_ n2_;(try clear hb);obtain⟨hcz93_0,hcz93_1,hcz93_2,hcz93_3,hfz93_0,hfz93_1,hfz93_2,hfz93_3⟩:=cl4 BK299))
              refine bodyPost_ret (results_ctt rfl _ _ gb299 27 #[.bool false,.int .u64 0,.int .u64 0,.int .i64 0] (0,0) _ rfl (gB BK299.out) Try.underlying27 rfl (by kernel_rfl)) rfl ?_;exact⟨eS,bw2 HB.out GE299.out GE300.out⟩
           ·rw [if_neg c37]at H;exact absurd H (by simp)
          ·rw [if_neg c34]at H;exact absurd H (by simp)
         ·rw [if_neg c33]at H;exact absurd H (by simp)
     ·rw [if_neg c13]at H;exact absurd H (by simp)
    ·rw [if_neg c11]at H;exact absurd H (by simp)
end Go.Proofs.Ytodgadhegcjbhaa.Q
end
section
namespace Go.Proofs.Ytodgadhegcjbhaa.Q
open Go.RowKit Go.Proofs.YtodgadhegcjbhaaW.PrintWords Go.Proofs.YtodgadhegcjbhaaW.PrintLast Go.Proofs.YtodgadhegcjbhaaW.PrintMore
attribute [local go_sem] max2_int min2_int max_two min_two max_three min_three max_four min_four   -- for this text's walks alone
set_option linter.unusedVariables false
set_option linter.unusedSimpArgs false
mutual
def spoorref01_Get.l0 : Nat → ByteArray → Int → Int → Int → Option (Int × ByteArray × Int)
 | 0, _, _, _, _ => none
 | k + 1, x0, x5, x6, x7 => if x7 < (x0.size : Int) then (if 0 ≤ x7 then (if x7 = 9 then (spoorref01_Get.j1 k x0 x5 x6 x7 (bt x0 x7) (decide ((bt x0 x7) > 1))) else (spoorref01_Get.j1 k x0 x5 x6 x7 (bt x0 x7) false)) else (none)) else (some (0, (⟨#[]⟩ : ByteArray), 5))
def spoorref01_Get.j1 : Nat → ByteArray → Int → Int → Int → Int → Bool → Option (Int × ByteArray × Int)
 | 0, _, _, _, _, _, _ => none
 | k + 1, x0, x5, x6, x7, x8, x23 => if x23 = true then (some (0, (⟨#[]⟩ : ByteArray), 7)) else (if x8 ≥ 128 then (spoorref01_Get.l0 k x0 (IntKind.u64.wrap (x5 + (IntKind.u64.wrap ((IntKind.u64.wrap (Int.tmod x8 128)) * x6)))) (IntKind.u64.wrap (x6 * 128)) (wrap64 (x7 + 1))) else (if x8 = 0 then (if x7 > 0 then (some (0, (⟨#[]⟩ : ByteArray), 7)) else (if 0 ≤ (wrap64 (x7 + 1)) then (if (wrap64 (x7 + 1)) ≤ (x0.size : Int) then (some (IntKind.u64.wrap (x5 + (IntKind.u64.wrap ((IntKind.u64.wrap (Int.tmod x8 128)) * x6))), x0.extract ((wrap64 (x7 + 1)) : Int).toNat x0.size, 0)) else (none)) else (none))) else (if 0 ≤ (wrap64 (x7 + 1)) then (if (wrap64 (x7 + 1)) ≤ (x0.size : Int) then (some (IntKind.u64.wrap (x5 + (IntKind.u64.wrap ((IntKind.u64.wrap (Int.tmod x8 128)) * x6))), x0.extract ((wrap64 (x7 + 1)) : Int).toNat x0.size, 0)) else (none)) else (none))))
end
def spoorref01_Get.f (k:Nat) (a0:ByteArray):Option (Int × ByteArray × Int):=spoorref01_Get.l0 k a0 0 1 0
set_option maxHeartbeats 8000000 in
set_option maxRecDepth 100000 in
theorem spoorref01_Get.calls (k:Nat) (a0:ByteArray) (r1:Int) (r2:ByteArray) (r3:Int) (w:World) (h:spoorref01_Get.f k a0=some (r1,r2,r3)):
  Calls Try.prog 43 #[.string a0] w fun e w'=>e= .returned (.tuple #[.int .u64 r1,.string r2,.int .i64 r3])∧Drawn0 w w':=by
 have H:(spoorref01_Get.l0 k a0 0 1 0)=some (r1,r2,r3):=h;clear h;have H':=Ax H;clear H;go_enter Try.func43,Try.ntmps43;go_wp2
 repeat (go_quiet (fail);try go_wp2)
 go_loopg [5,6,7] k (fun kq v5 v6 v7 w'=> ∃ (x5_1:Int) (x6_1:Int) (x7_1:Int),v5= .int .u64 x5_1∧v6= .int .u64 x6_1∧v7= .int .i64 x7_1∧Aside0 (spoorref01_Get.l0 kq a0 x5_1 x6_1 x7_1=some (r1,r2,r3))∧Aside0 (kq≤k)∧Drawn0 w w')
 case atStart=>exact⟨(0),(1),(0),rS,rS,rS,H',⟨Nat.le_refl _⟩,by repeat (first|exact Drawn0.refl _|apply Drawn0.step)⟩
 case round=>
  clear H';obtain⟨x5_1,x6_1,x7_1,rfl,rfl,rfl,HA,HK1,⟨m1,rfl⟩⟩:=hrel;cases gk with
  |zero=>exact absurd HA.out (by simp [spoorref01_Get.l0])
  |succ k1=>
   have H:=HA.out;clear HA;simp only[spoorref01_Get.l0]at H;by_cases c2:x7_1<(a0.size:Int)
   ·rw [if_pos c2]at H;have c2b0:decide (x7_1<(a0.size:Int))=true:=decide_eq_true c2;clear c2;by_cases c3:0≤x7_1
    ·rw [if_pos c3]at H;have c3b0:decide (0≤x7_1)=true:=decide_eq_true c3;clear c3;have HC5:=Ax H;clear H;have p4:0≤(x7_1:Int):=of_decide_eq_true (by first|(with_reducible assumption)|assumption);have q4:x7_1<(a0.size:Int):=of_decide_eq_true (by first|(with_reducible assumption)|assumption);have hx4:=bt_at a0 x7_1;replace p4:=eq_true p4;replace q4:=eq_true q4;go_upto_region 7 with (fail)
     repeat (go_quiet (fail);go_upto_region 7 with (fail))
     go_cut [23] (fun v23 wc=> ∃ (kq:Nat) (x23_4:Bool),v23= .bool x23_4∧Aside0 (spoorref01_Get.j1 kq a0 x5_1 x6_1 x7_1 (bt a0 x7_1) x23_4=some (r1,r2,r3))∧Aside0 (kq≤k1)∧Drawn0 w wc)
     case first=>
      have H:=HC5.out;clear HC5;by_cases c6:x7_1=9
      ·rw [if_pos c6]at H;have c6b0:(x7_1==9)=true:=beq_iff_eq.mpr c6;have c6b1:(x7_1 !=9)=false:=bne_eq_false_iff_eq.mpr c6;clear c6
       (first|rw [c6b0]|(simp only[i64_w,i32_w];rw [c6b0])|skip)
       have H':=Ax H;clear H;go_wp2
       repeat (go_quiet (fail);try go_wp2)
       go_meet
       case rel=>exact⟨_,(decide ((bt a0 x7_1) > 1)),rS,H',⟨by have:=HK1.out;first|omega|exact Nat.le_refl _⟩,by repeat (first|exact Drawn0.refl _|apply Drawn0.step)⟩
      ·rw [if_neg c6]at H;have c6b0:(x7_1==9)=false:=beq_eq_false_iff_ne.mpr c6;have c6b1:(x7_1 !=9)=true:=bne_iff_ne.mpr c6
       (first|rw [c6b0]|(simp only[i64_w,i32_w];rw [c6b0])|skip)
       have H':=Ax H;clear H;go_wp2
       repeat (go_quiet (fail);try go_wp2)
       go_meet
       case rel=>exact⟨_,(false),rS,H',⟨by have:=HK1.out;first|omega|exact Nat.le_refl _⟩,by repeat (first|exact Drawn0.refl _|apply Drawn0.step)⟩
     case rest=>
      clear HC5;(try clear c2);(try clear c2b0);(try clear p2);(try clear c3);(try clear c3b0);(try clear c4);(try clear p4 p4);(try clear q4 q4);(try clear hx4);(try clear c6);(try clear c6b0);(try clear c6b1);obtain⟨kq,x23_4,rfl,HA,HJ4,⟨mc4,rfl⟩⟩:=hcut;cases kq with
      |zero=>exact absurd HA.out (by simp [spoorref01_Get.j1])
      |succ kj4=>
       have H:=HA.out;clear HA;simp only[spoorref01_Get.j1]at H;by_cases c7:x23_4=true
       ·subst c7;have H1:(some (0,(⟨#[]⟩:ByteArray),7))=some (r1,r2,r3):=by rw [if_pos rfl]at H;exact H
        clear H;have H:=H1;clear H1;simp only[Option.some.injEq,Prod.mk.injEq]at H;obtain⟨rfl,rfl,rfl⟩:=H;go_wp2
        repeat (go_quiet (fail);try go_wp2)
        go_ret3;exact⟨by first|rfl|(simp;done)|(simp [*];done),by repeat (first|exact Drawn0.refl _|apply Drawn0.step)⟩
       ·replace c7:=Bool.eq_false_iff.mpr c7;subst c7;have H1:(if (bt a0 x7_1) ≥ 128 then (spoorref01_Get.l0 kj4 a0 (IntKind.u64.wrap (x5_1+(IntKind.u64.wrap ((IntKind.u64.wrap (Int.tmod (bt a0 x7_1) 128)) * x6_1)))) (IntKind.u64.wrap (x6_1 * 128)) (wrap64 (x7_1+1))) else (if (bt a0 x7_1)=0 then (if x7_1 > 0 then (some (0,(⟨#[]⟩:ByteArray),7)) else (if 0≤(wrap64 (x7_1+1)) then (if (wrap64 (x7_1+1))≤(a0.size:Int) then (some (IntKind.u64.wrap (x5_1+(IntKind.u64.wrap ((IntKind.u64.wrap (Int.tmod (bt a0 x7_1) 128)) * x6_1))),a0.extract ((wrap64 (x7_1+1)):Int).toNat a0.size,0)) else (none)) else (none))) else (if 0≤(wrap64 (x7_1+1)) then (if (wrap64 (x7_1+1))≤(a0.size:Int) then (some (IntKind.u64.wrap (x5_1+(IntKind.u64.wrap ((IntKind.u64.wrap (Int.tmod (bt a0 x7_1) 128)) * x6_1))),a0.extract ((wrap64 (x7_1+1)):Int).toNat a0.size,0)) else (none)) else (none))))=some (r1,r2,r3):=by rw [if_neg (show ¬ (false=true) by decide)]at H;exact H
        clear H;have H:=H1;clear H1;by_cases c8:(bt a0 x7_1) ≥ 128
        ·rw [if_pos c8]at H;have c8b0:decide (128≤(bt a0 x7_1))=true:=decide_eq_true c8;clear c8;have H':=Ax H;clear H;go_wp2
         repeat (go_quiet (fail);try go_wp2)
         go_roundg kj4
         case measure=>have:=HK1.out;have:=HJ4.out;omega
         case rel=>exact⟨(IntKind.u64.wrap (x5_1+(IntKind.u64.wrap ((IntKind.u64.wrap (Int.tmod (bt a0 x7_1) 128)) * x6_1)))),(IntKind.u64.wrap (x6_1 * 128)),(wrap64 (x7_1+1)),rS,rS,rS,H',⟨by have:=HK1.out;have:=HJ4.out;omega⟩,by repeat (first|exact Drawn0.refl _|apply Drawn0.step)⟩
        ·rw [if_neg c8]at H;have c8b0:decide (128≤(bt a0 x7_1))=false:=decide_eq_false c8;clear c8;by_cases c9:(bt a0 x7_1)=0
         ·rw [if_pos c9]at H;have c9b0:((bt a0 x7_1)==0)=true:=beq_iff_eq.mpr c9;have c9b1:((bt a0 x7_1) !=0)=false:=bne_eq_false_iff_eq.mpr c9;clear c9;by_cases c10:x7_1 > 0
          ·rw [if_pos c10]at H;have c10b0:decide (0<x7_1)=true:=decide_eq_true c10;clear c10;simp only[Option.some.injEq,Prod.mk.injEq]at H;obtain⟨rfl,rfl,rfl⟩:=H;go_wp2
           repeat (go_quiet (fail);try go_wp2)
           go_ret3;exact⟨by first|rfl|(simp;done)|(simp [*];done),by repeat (first|exact Drawn0.refl _|apply Drawn0.step)⟩
          ·rw [if_neg c10]at H;have c10b0:decide (0<x7_1)=false:=decide_eq_false c10;clear c10;obtain⟨ji11,hji11⟩: ∃ j_:Int,(wrap64 (x7_1+1))=j_:=⟨_,rfl⟩;replace H:(if 0≤(ji11) then (if (ji11)≤(a0.size:Int) then (some (IntKind.u64.wrap (x5_1+(IntKind.u64.wrap ((IntKind.u64.wrap (Int.tmod (bt a0 x7_1) 128)) * x6_1))),a0.extract ((ji11):Int).toNat a0.size,0)) else (none)) else (none))=some (r1,r2,r3):=by first|(rw [hji11]at H;exact H)|(simp only[hji11]at H ⊢;exact H)
           have hji11w:(IntKind.i64.wrap (x7_1+1))=ji11:=(i64_w _).trans hji11;by_cases c12:0≤(ji11)
           ·rw [if_pos c12]at H;have c12b0:=eq_true c12;have c12b1:decide (0≤(ji11))=true:=decide_eq_true c12;clear c12;by_cases c13:(ji11)≤(a0.size:Int)
            ·rw [if_pos c13]at H;have c13b0:=eq_true c13;have c13b1:decide ((ji11)≤(a0.size:Int))=true:=decide_eq_true c13;clear c13;simp only[Option.some.injEq,Prod.mk.injEq]at H;obtain⟨rfl,rfl,rfl⟩:=H;go_wp2
             repeat (go_quiet (fail);try go_wp2)
             go_ret3;exact⟨by first|rfl|(simp;done)|(simp only[← hji11] <;> (first|rfl|simp))|(simp [*];done),by repeat (first|exact Drawn0.refl _|apply Drawn0.step)⟩
            ·rw [if_neg c13]at H;exact absurd H (by simp)
           ·rw [if_neg c12]at H;exact absurd H (by simp)
         ·rw [if_neg c9]at H;have c9b0:((bt a0 x7_1)==0)=false:=beq_eq_false_iff_ne.mpr c9;have c9b1:((bt a0 x7_1) !=0)=true:=bne_iff_ne.mpr c9;obtain⟨ji14,hji14⟩: ∃ j_:Int,(wrap64 (x7_1+1))=j_:=⟨_,rfl⟩;replace H:(if 0≤(ji14) then (if (ji14)≤(a0.size:Int) then (some (IntKind.u64.wrap (x5_1+(IntKind.u64.wrap ((IntKind.u64.wrap (Int.tmod (bt a0 x7_1) 128)) * x6_1))),a0.extract ((ji14):Int).toNat a0.size,0)) else (none)) else (none))=some (r1,r2,r3):=by first|(rw [hji14]at H;exact H)|(simp only[hji14]at H ⊢;exact H)
          have hji14w:(IntKind.i64.wrap (x7_1+1))=ji14:=(i64_w _).trans hji14;by_cases c15:0≤(ji14)
          ·rw [if_pos c15]at H;have c15b0:=eq_true c15;have c15b1:decide (0≤(ji14))=true:=decide_eq_true c15;clear c15;by_cases c16:(ji14)≤(a0.size:Int)
           ·rw [if_pos c16]at H;have c16b0:=eq_true c16;have c16b1:decide ((ji14)≤(a0.size:Int))=true:=decide_eq_true c16;clear c16;simp only[Option.some.injEq,Prod.mk.injEq]at H;obtain⟨rfl,rfl,rfl⟩:=H;go_wp2
            repeat (go_quiet (fail);try go_wp2)
            go_ret3;exact⟨by first|rfl|(simp;done)|(simp only[← hji14] <;> (first|rfl|simp))|(simp [*];done),by repeat (first|exact Drawn0.refl _|apply Drawn0.step)⟩
           ·rw [if_neg c16]at H;exact absurd H (by simp)
          ·rw [if_neg c15]at H;exact absurd H (by simp)
    ·rw [if_neg c3]at H;exact absurd H (by simp)
   ·rw [if_neg c2]at H;have c2b0:decide (x7_1<(a0.size:Int))=false:=decide_eq_false c2;clear c2;simp only[Option.some.injEq,Prod.mk.injEq]at H;obtain⟨rfl,rfl,rfl⟩:=H;go_wp2
    repeat (go_quiet (fail);try go_wp2)
    go_ret3;exact⟨by first|rfl|(simp;done)|(simp [*];done),by repeat (first|exact Drawn0.refl _|apply Drawn0.step)⟩
def spoorref11_GetAction.j0 : Nat → Int → ByteArray → Bool → Int → Int → Option (Int × Int × ByteArray × Int)
 | 0, _, _, _, _, _ => none
 | k + 1, x7, x8, x32, x311000, x311001 => if x32 = true then (some (0, 0, (⟨#[]⟩ : ByteArray), 7)) else ((spoorref11_Acts.f x311000 (wrap64 (x7))).bind fun t314 => (if t314 = true then (some (x311000, wrap64 (x7), x8, 0)) else (some (0, 0, (⟨#[]⟩ : ByteArray), 7))))
def spoorref11_GetAction.f (k:Nat) (a0:ByteArray):Option (Int × Int × ByteArray × Int):=if a0.toList=([]:List UInt8) then (some (0,0,(⟨#[]⟩:ByteArray),7)) else (if 0<(a0.size:Int) then (if 1≤(a0.size:Int) then (if (bt a0 0)=1 then ((spoorref01_Get.f k (a0.extract 1 a0.size)).bind fun bt311=>(if bt311.2.2=0 then (spoorref11_GetAction.j0 k bt311.1 bt311.2.1 (decide (bt311.1 > 65536)) (bt a0 0) 0) else (spoorref11_GetAction.j0 k bt311.1 bt311.2.1 true (bt a0 0) 0))) else ((spoorref11_Acts.f (bt a0 0) 0).bind fun t315=>(if t315=true then (some (bt a0 0,0,a0.extract 1 a0.size,0)) else (some (0,0,(⟨#[]⟩:ByteArray),7))))) else (none)) else (none))
set_option maxHeartbeats 8000000 in
set_option maxRecDepth 100000 in
theorem spoorref11_GetAction.calls (k:Nat) (a0:ByteArray) (r1:Int) (r2:Int) (r3:ByteArray) (r4:Int) (w:World) (h:spoorref11_GetAction.f k a0=some (r1,r2,r3,r4)):
  Calls Try.prog 22 #[.string a0] w fun e w'=>e= .returned (.tuple #[.agg #[.int .u8 r1,.int .i64 r2],.string r3,.int .i64 r4])∧Below w.heap.size w w':=by
 have hu30:=Try.underlying30;have HB:=Ax (Below.refl w.heap.size w);have H:(if a0.toList=([]:List UInt8) then (some (0,0,(⟨#[]⟩:ByteArray),7)) else (if 0<(a0.size:Int) then (if 1≤(a0.size:Int) then (if (bt a0 0)=1 then ((spoorref01_Get.f k (a0.extract 1 a0.size)).bind fun bt311=>(if bt311.2.2=0 then (spoorref11_GetAction.j0 k bt311.1 bt311.2.1 (decide (bt311.1 > 65536)) (bt a0 0) 0) else (spoorref11_GetAction.j0 k bt311.1 bt311.2.1 true (bt a0 0) 0))) else ((spoorref11_Acts.f (bt a0 0) 0).bind fun t315=>(if t315=true then (some (bt a0 0,0,a0.extract 1 a0.size,0)) else (some (0,0,(⟨#[]⟩:ByteArray),7))))) else (none)) else (none)))=some (r1,r2,r3,r4):=h;clear h;by_cases c2:a0.toList=([]:List UInt8);·rw [if_pos c2]at H;have c2b0:(a0.toList==([]:List UInt8))=true:=beq_iff_eq.mpr c2;have c2b1:(a0.toList !=([]:List UInt8))=false:=bne_eq_false_iff_eq.mpr c2;clear c2;simp only[Option.some.injEq,Prod.mk.injEq]at H;obtain⟨rfl,rfl,rfl,rfl⟩:=H;go_enter Try.func22,Try.ntmps22;go_wp2_with (first|((with_reducible refine gate_dst (N:=2) rfl ?_);refine box_event ?hg (N:=2) ?hd (cs:= #[.int .u8 0,.int .i64 0]) (t:=30) ?hr ?_;(case hd=>rfl);(case hg=>rfl);(case hr=>first|(go_simp;done)|(go_simp;rfl));intro gb309 hg w3 hbox hb;have n0_:=Bs0 HB hb;have n1_:=Ax (hbox);have n2_:=Gw0 HB hg;have n3_:=Gw0 HB hg;clear HB;have HB:=n0_;have BK309:=n1_;have GW309:=n2_;have GE309:=n3_;clear n0_ n1_ n2_ n3_;clear hb hbox hg;obtain⟨hcz4_0,hcz4_1,hfz4_0,hfz4_1⟩:=cl2 BK309));refine bodyPost_ret (results_ctt rfl _ _ gb309 30 #[.int .u8 0,.int .i64 0] (0,0) _ rfl (gB BK309.out) Try.underlying30 rfl (by kernel_rfl)) rfl ?_;exact⟨eS,bw1 HB.out GE309.out⟩
 ·rw [if_neg c2]at H;have c2b0:(a0.toList==([]:List UInt8))=false:=beq_eq_false_iff_ne.mpr c2;have c2b1:(a0.toList !=([]:List UInt8))=true:=bne_iff_ne.mpr c2;by_cases c5:0<(a0.size:Int)
  ·rw [if_pos c5]at H;have c5b0:decide (0<(a0.size:Int))=true:=decide_eq_true c5;have c5b1:decide (0<a0.size)=true:=decide_eq_true (by omega);clear c5;by_cases c7:1≤(a0.size:Int)
   ·rw [if_pos c7]at H;have c7b0:=eq_true c7;have c7b1:decide (1≤(a0.size:Int))=true:=decide_eq_true c7;clear c7;by_cases c8:(bt a0 0)=1
    ·rw [if_pos c8]at H;have c8b0:((bt a0 0)==1)=true:=beq_iff_eq.mpr c8;have c8b1:((bt a0 0) !=1)=false:=bne_eq_false_iff_eq.mpr c8;clear c8;replace H:=Option.bind_eq_some_iff.mp H;obtain⟨⟨t311,t312,t313⟩,A90,H⟩:=H;replace H:(if t313=0 then (spoorref11_GetAction.j0 k t311 t312 (decide (t311 > 65536)) (bt a0 0) 0) else (spoorref11_GetAction.j0 k t311 t312 true (bt a0 0) 0))=some (r1,r2,r3,r4):=H;have A9:=Ax A90;clear A90;have HC10:=Ax H;clear H;go_enter Try.func22,Try.ntmps22;go_upto_region 7 with (first|((with_reducible refine gate_dst (N:=2) rfl ?_);refine box_event ?hg (N:=2) ?hd (cs:= #[.int .u8 0,.int .i64 0]) (t:=30) ?hr ?_;(case hd=>rfl);(case hg=>rfl);(case hr=>first|(go_simp;done)|(go_simp;rfl));intro gb309 hg w11 hbox hb;have n0_:=Bs0 HB hb;have n1_:=Ax (hbox);have n2_:=Gw0 HB hg;have n3_:=Gw0 HB hg;clear HB;have HB:=n0_;have BK309:=n1_;have GW309:=n2_;have GE309:=n3_;clear n0_ n1_ n2_ n3_;clear hb hbox hg;have p6:0≤(0:Int):=(by omega);have q6:0<a0.size:=(by have:(0:Int)<(a0.size:Int):=of_decide_eq_true (by first|(with_reducible assumption)|assumption);first|omega|(simp only[ByteArray.size_append];omega));have hx6: ∀ h:0<a0.size,((a0[0]'h).toNat:Int)=bt a0 0:=bt_at a0 0;clear p6;have qi6:(0<(a0.size:Int))=True:=eq_true (of_decide_eq_true (by first|(with_reducible assumption)|assumption));replace q6:=eq_true q6)|((with_reducible refine gate_dst (N:=5) rfl ?_);refine box_event ?hg (N:=5) ?hd (cs:= #[.int .u8 0,.int .i64 0]) (t:=30) ?hr ?_;(case hd=>rfl);(case hg=>rfl);(case hr=>first|(go_simp;done)|(go_simp;rfl));intro gb310 hg w12 hbox hb;have n0_:=Bx0 BK309 hb;have n1_:=Bs1 HB hb GE309.out;have n2_:=Ax (hbox);have n3_:=Gw1 HB hg GE309.out;have n4_:=Gw1 HB hg GE309.out;have n5_:=Nl0 BK309 hg;have n6_:=Nr0 BK309 hg;clear BK309;clear HB;have BK309:=n0_;have HB:=n1_;have BK310:=n2_;have GW310:=n3_;have GE310:=n4_;have NB309_310:=n5_;have NB310_309:=n6_;clear n0_ n1_ n2_ n3_ n4_ n5_ n6_;clear hb hbox hg;have hnb13:=NB310_309.out;have hnc13:=NB309_310.out;obtain⟨hcz14_0,hcz14_1,hfz14_0,hfz14_1⟩:=cl2 BK310)|((with_reducible refine gate_callee (f:=43) rfl ?_);refine goesL_ (some 23) rfl rfl Try.func43 (by kernel_rfl) rfl #[.string (a0.extract 1 a0.size)] rfl gS ?_;(with_reducible refine (spoorref01_Get.calls k (a0.extract 1 a0.size) t311 t312 t313 _ A9.out).mono ?_);rintro e w' ⟨rfl,⟨nd,rfl⟩⟩;refine⟨_,rfl,?_⟩))
     (try simp only[Act.put,List.setIfInBounds_toArray,List.set_cons_zero,List.set_cons_succ])
     go_cut [32] (fun v32 wc=> ∃ (kq:Nat) (x32_9:Bool),v32= .bool x32_9∧Aside0 (spoorref11_GetAction.j0 kq t311 t312 x32_9 (bt a0 0) 0=some (r1,r2,r3,r4))∧Aside0 (kq≤k)∧Aside0 (wc.heap[gb309]? =some (.cells #[.int .u8 0,.int .i64 0] 30 (0,0)))∧Aside0 (wc.heap[gb310]? =some (.cells #[.int .u8 (bt a0 0),.int .i64 0] 30 (0,0)))∧Aside0 (Below w.heap.size w wc))
     case first=>
      have H:=HC10.out;clear HC10;by_cases c15:t313=0
      ·rw [if_pos c15]at H;have c15b0:(t313==0)=true:=beq_iff_eq.mpr c15;have c15b1:(t313 !=0)=false:=bne_eq_false_iff_eq.mpr c15;clear c15
       (first|rw [c15b0]|(simp only[i64_w,i32_w];rw [c15b0])|skip)
       have H':=Ax H;clear H;go_wp2;go_meet
       case rel=>exact⟨_,(decide (t311 > 65536)),rS,H',⟨by first|omega|exact Nat.le_refl _⟩,⟨bf2 BK309.out NB309_310.out NB309_310.out⟩,⟨gB BK310.out⟩,⟨bw2 HB.out GE309.out GE310.out⟩⟩
      ·rw [if_neg c15]at H;have c15b0:(t313==0)=false:=beq_eq_false_iff_ne.mpr c15;have c15b1:(t313 !=0)=true:=bne_iff_ne.mpr c15
       (first|rw [c15b0]|(simp only[i64_w,i32_w];rw [c15b0])|skip)
       have H':=Ax H;clear H;go_wp2;go_meet
       case rel=>exact⟨_,(true),rS,H',⟨by first|omega|exact Nat.le_refl _⟩,⟨bf2 BK309.out NB309_310.out NB309_310.out⟩,⟨gB BK310.out⟩,⟨bw2 HB.out GE309.out GE310.out⟩⟩
     case rest=>
      clear HC10;(try clear c1);(try clear c2);(try clear c2b0);(try clear c2b1);(try clear p2);(try clear c4);(try clear c5);(try clear c5b0);(try clear c5b1);(try clear p6 p6);(try clear q6 q6);(try clear hx6);(try clear qi6);(try clear c7);(try clear c7b0);(try clear c7b1);(try clear c8);(try clear c8b0);(try clear c8b1);(try clear c13);(try clear c15);(try clear c15b0);(try clear c15b1);(try clear hcz14_0 hcz14_1);(try clear hcz4_0 hcz4_1);(try clear hfz14_0 hfz14_1);(try clear hfz4_0 hfz4_1);obtain⟨kq,x32_9,rfl,HA,HJ9,BK309,BK310,HB⟩:=hcut;cases kq with
      |zero=>exact absurd HA.out (by simp [spoorref11_GetAction.j0])
      |succ kj9=>
       have H:=HA.out;clear HA;simp only[spoorref11_GetAction.j0]at H;by_cases c16:x32_9=true
       ·subst c16;have H1:(some (0,0,(⟨#[]⟩:ByteArray),7))=some (r1,r2,r3,r4):=by rw [if_pos rfl]at H;exact H
        clear H;have H:=H1;clear H1;simp only[Option.some.injEq,Prod.mk.injEq]at H;obtain⟨rfl,rfl,rfl,rfl⟩:=H;have hnb17:=NB309_310.out;have hnc17:=NB310_309.out;obtain⟨hcz18_0,hcz18_1,hfz18_0,hfz18_1⟩:=cl2 BK309;go_wp2;refine bodyPost_ret (results_ctt rfl _ _ gb309 30 #[.int .u8 0,.int .i64 0] (0,0) _ rfl (gB BK309.out) Try.underlying30 rfl (by kernel_rfl)) rfl ?_;exact⟨eS,bw2 HB.out GE309.out GE310.out⟩
       ·replace c16:=Bool.eq_false_iff.mpr c16;subst c16;have H1:((spoorref11_Acts.f (bt a0 0) (wrap64 (t311))).bind fun t314=>(if t314=true then (some ((bt a0 0),wrap64 (t311),t312,0)) else (some (0,0,(⟨#[]⟩:ByteArray),7))))=some (r1,r2,r3,r4):=by rw [if_neg (show ¬ (false=true) by decide)]at H;exact H
        clear H;have H:=H1;clear H1;replace H:=Option.bind_eq_some_iff.mp H;obtain⟨t314,A190,H⟩:=H;replace H:(if t314=true then (some ((bt a0 0),wrap64 (t311),t312,0)) else (some (0,0,(⟨#[]⟩:ByteArray),7)))=some (r1,r2,r3,r4):=H;have A19:=Ax A190;clear A190;by_cases c20:t314=true
        ·subst c20;have H1:(some ((bt a0 0),wrap64 (t311),t312,0))=some (r1,r2,r3,r4):=by rw [if_pos rfl]at H;exact H
         clear H;have H:=H1;clear H1;simp only[Option.some.injEq,Prod.mk.injEq]at H;obtain⟨rfl,rfl,rfl,rfl⟩:=H;have hnb21:=NB310_309.out;have hnc21:=NB309_310.out;obtain⟨hcz22_0,hcz22_1,hfz22_0,hfz22_1⟩:=cl2 BK310;go_wp2_with (first|((with_reducible refine gate_callee (f:=37) rfl ?_);refine goesL_ (some 39) rfl rfl Try.func37 (by kernel_rfl) rfl #[.agg #[.int .u8 (bt a0 0),.int .i64 (wrap64 (t311))]] rfl gS ?_;(with_reducible refine (spoorref11_Acts.calls (bt a0 0) (wrap64 (t311)) true _ A19.out).mono ?_);rintro e w23 ⟨rfl,hb⟩;refine⟨_,rfl,?_⟩;have n0_:=Bx1 BK309 hb NB309_310.out;have n1_:=Ax (blk_below (g:=gb310) (o:=.cells #[.int .u8 (bt a0 0),.int .i64 (wrap64 (t311))] 30 (0,0)) (gB BK310.out) hb);have n2_:=Bs2 HB hb GE309.out GE310.out;clear BK309;clear BK310;clear HB;have BK309:=n0_;have BK310:=n1_;have HB:=n2_;clear n0_ n1_ n2_;(try clear hb);obtain⟨hcz24_0,hcz24_1,hfz24_0,hfz24_1⟩:=cl2 BK310;obtain⟨hcz25_0,hcz25_1,hfz25_0,hfz25_1⟩:=cl2 BK309));refine bodyPost_ret (results_ctt rfl _ _ gb309 30 #[.int .u8 (bt a0 0),.int .i64 (wrap64 (t311))] (0,0) _ rfl (gB BK309.out) Try.underlying30 rfl (by kernel_rfl)) rfl ?_;exact⟨eS,bw2 HB.out GE309.out GE310.out⟩
        ·replace c20:=Bool.eq_false_iff.mpr c20;subst c20;have H1:(some (0,0,(⟨#[]⟩:ByteArray),7))=some (r1,r2,r3,r4):=by rw [if_neg (show ¬ (false=true) by decide)]at H;exact H
         clear H;have H:=H1;clear H1;simp only[Option.some.injEq,Prod.mk.injEq]at H;obtain⟨rfl,rfl,rfl,rfl⟩:=H;have hnb26:=NB310_309.out;have hnc26:=NB309_310.out;obtain⟨hcz27_0,hcz27_1,hfz27_0,hfz27_1⟩:=cl2 BK310;go_wp2_with (first|((with_reducible refine gate_callee (f:=37) rfl ?_);refine goesL_ (some 39) rfl rfl Try.func37 (by kernel_rfl) rfl #[.agg #[.int .u8 (bt a0 0),.int .i64 (wrap64 (t311))]] rfl gS ?_;(with_reducible refine (spoorref11_Acts.calls (bt a0 0) (wrap64 (t311)) false _ A19.out).mono ?_);rintro e w28 ⟨rfl,hb⟩;refine⟨_,rfl,?_⟩;have n0_:=Bx1 BK309 hb NB309_310.out;have n1_:=Ax (blk_below (g:=gb310) (o:=.cells #[.int .u8 (bt a0 0),.int .i64 (wrap64 (t311))] 30 (0,0)) (gB BK310.out) hb);have n2_:=Bs2 HB hb GE309.out GE310.out;clear BK309;clear BK310;clear HB;have BK309:=n0_;have BK310:=n1_;have HB:=n2_;clear n0_ n1_ n2_;(try clear hb);obtain⟨hcz29_0,hcz29_1,hfz29_0,hfz29_1⟩:=cl2 BK309));refine bodyPost_ret (results_ctt rfl _ _ gb309 30 #[.int .u8 0,.int .i64 0] (0,0) _ rfl (gB BK309.out) Try.underlying30 rfl (by kernel_rfl)) rfl ?_;exact⟨eS,bw2 HB.out GE309.out GE310.out⟩
    ·rw [if_neg c8]at H;have c8b0:((bt a0 0)==1)=false:=beq_eq_false_iff_ne.mpr c8;have c8b1:((bt a0 0) !=1)=true:=bne_iff_ne.mpr c8;replace H:=Option.bind_eq_some_iff.mp H;obtain⟨t315,A300,H⟩:=H;replace H:(if t315=true then (some (bt a0 0,0,a0.extract 1 a0.size,0)) else (some (0,0,(⟨#[]⟩:ByteArray),7)))=some (r1,r2,r3,r4):=H;have A30:=Ax A300;clear A300;by_cases c31:t315=true
     ·subst c31;have H1:(some (bt a0 0,0,a0.extract 1 a0.size,0))=some (r1,r2,r3,r4):=by rw [if_pos rfl]at H;exact H
      clear H;have H:=H1;clear H1;simp only[Option.some.injEq,Prod.mk.injEq]at H;obtain⟨rfl,rfl,rfl,rfl⟩:=H;go_enter Try.func22,Try.ntmps22;go_wp2_with (first|((with_reducible refine gate_dst (N:=2) rfl ?_);refine box_event ?hg (N:=2) ?hd (cs:= #[.int .u8 0,.int .i64 0]) (t:=30) ?hr ?_;(case hd=>rfl);(case hg=>rfl);(case hr=>first|(go_simp;done)|(go_simp;rfl));intro gb309 hg w32 hbox hb;have n0_:=Bs0 HB hb;have n1_:=Ax (hbox);have n2_:=Gw0 HB hg;have n3_:=Gw0 HB hg;clear HB;have HB:=n0_;have BK309:=n1_;have GW309:=n2_;have GE309:=n3_;clear n0_ n1_ n2_ n3_;clear hb hbox hg;have p6:0≤(0:Int):=(by omega);have q6:0<a0.size:=(by have:(0:Int)<(a0.size:Int):=of_decide_eq_true (by first|(with_reducible assumption)|assumption);first|omega|(simp only[ByteArray.size_append];omega));have hx6: ∀ h:0<a0.size,((a0[0]'h).toNat:Int)=bt a0 0:=bt_at a0 0;clear p6;have qi6:(0<(a0.size:Int))=True:=eq_true (of_decide_eq_true (by first|(with_reducible assumption)|assumption));replace q6:=eq_true q6)|((with_reducible refine gate_dst (N:=5) rfl ?_);refine box_event ?hg (N:=5) ?hd (cs:= #[.int .u8 0,.int .i64 0]) (t:=30) ?hr ?_;(case hd=>rfl);(case hg=>rfl);(case hr=>first|(go_simp;done)|(go_simp;rfl));intro gb310 hg w33 hbox hb;have n0_:=Bx0 BK309 hb;have n1_:=Bs1 HB hb GE309.out;have n2_:=Ax (hbox);have n3_:=Gw1 HB hg GE309.out;have n4_:=Gw1 HB hg GE309.out;have n5_:=Nl0 BK309 hg;have n6_:=Nr0 BK309 hg;clear BK309;clear HB;have BK309:=n0_;have HB:=n1_;have BK310:=n2_;have GW310:=n3_;have GE310:=n4_;have NB309_310:=n5_;have NB310_309:=n6_;clear n0_ n1_ n2_ n3_ n4_ n5_ n6_;clear hb hbox hg;have hnb34:=NB310_309.out;have hnc34:=NB309_310.out;obtain⟨hcz35_0,hcz35_1,hfz35_0,hfz35_1⟩:=cl2 BK310)|((with_reducible refine gate_callee (f:=37) rfl ?_);refine goesL_ (some 39) rfl rfl Try.func37 (by kernel_rfl) rfl #[.agg #[.int .u8 (bt a0 0),.int .i64 0]] rfl gS ?_;(with_reducible refine (spoorref11_Acts.calls (bt a0 0) 0 true _ A30.out).mono ?_);rintro e w36 ⟨rfl,hb⟩;refine⟨_,rfl,?_⟩;have n0_:=Bx2 BK309 hb NB309_310.out NB309_310.out;have n1_:=Ax (blk_below (g:=gb310) (o:=.cells #[.int .u8 (bt a0 0),.int .i64 0] 30 (0,0)) (gB BK310.out) hb);have n2_:=Bs2 HB hb GE309.out GE310.out;clear BK309;clear BK310;clear HB;have BK309:=n0_;have BK310:=n1_;have HB:=n2_;clear n0_ n1_ n2_;(try clear hb);obtain⟨hcz37_0,hcz37_1,hfz37_0,hfz37_1⟩:=cl2 BK310;obtain⟨hcz38_0,hcz38_1,hfz38_0,hfz38_1⟩:=cl2 BK309));refine bodyPost_ret (results_ctt rfl _ _ gb309 30 #[.int .u8 (bt a0 0),.int .i64 0] (0,0) _ rfl (gB BK309.out) Try.underlying30 rfl (by kernel_rfl)) rfl ?_;exact⟨eS,bw2 HB.out GE309.out GE310.out⟩
     ·replace c31:=Bool.eq_false_iff.mpr c31;subst c31;have H1:(some (0,0,(⟨#[]⟩:ByteArray),7))=some (r1,r2,r3,r4):=by rw [if_neg (show ¬ (false=true) by decide)]at H;exact H
      clear H;have H:=H1;clear H1;simp only[Option.some.injEq,Prod.mk.injEq]at H;obtain⟨rfl,rfl,rfl,rfl⟩:=H;go_enter Try.func22,Try.ntmps22;go_wp2_with (first|((with_reducible refine gate_dst (N:=2) rfl ?_);refine box_event ?hg (N:=2) ?hd (cs:= #[.int .u8 0,.int .i64 0]) (t:=30) ?hr ?_;(case hd=>rfl);(case hg=>rfl);(case hr=>first|(go_simp;done)|(go_simp;rfl));intro gb309 hg w39 hbox hb;have n0_:=Bs0 HB hb;have n1_:=Ax (hbox);have n2_:=Gw0 HB hg;have n3_:=Gw0 HB hg;clear HB;have HB:=n0_;have BK309:=n1_;have GW309:=n2_;have GE309:=n3_;clear n0_ n1_ n2_ n3_;clear hb hbox hg;have p6:0≤(0:Int):=(by omega);have q6:0<a0.size:=(by have:(0:Int)<(a0.size:Int):=of_decide_eq_true (by first|(with_reducible assumption)|assumption);first|omega|(simp only[ByteArray.size_append];omega));have hx6: ∀ h:0<a0.size,((a0[0]'h).toNat:Int)=bt a0 0:=bt_at a0 0;clear p6;have qi6:(0<(a0.size:Int))=True:=eq_true (of_decide_eq_true (by first|(with_reducible assumption)|assumption));replace q6:=eq_true q6)|((with_reducible refine gate_dst (N:=5) rfl ?_);refine box_event ?hg (N:=5) ?hd (cs:= #[.int .u8 0,.int .i64 0]) (t:=30) ?hr ?_;(case hd=>rfl);(case hg=>rfl);(case hr=>first|(go_simp;done)|(go_simp;rfl));intro gb310 hg w40 hbox hb;have n0_:=Bx0 BK309 hb;have n1_:=Bs1 HB hb GE309.out;have n2_:=Ax (hbox);have n3_:=Gw1 HB hg GE309.out;have n4_:=Gw1 HB hg GE309.out;have n5_:=Nl0 BK309 hg;have n6_:=Nr0 BK309 hg;clear BK309;clear HB;have BK309:=n0_;have HB:=n1_;have BK310:=n2_;have GW310:=n3_;have GE310:=n4_;have NB309_310:=n5_;have NB310_309:=n6_;clear n0_ n1_ n2_ n3_ n4_ n5_ n6_;clear hb hbox hg;have hnb41:=NB310_309.out;have hnc41:=NB309_310.out;obtain⟨hcz42_0,hcz42_1,hfz42_0,hfz42_1⟩:=cl2 BK310)|((with_reducible refine gate_callee (f:=37) rfl ?_);refine goesL_ (some 39) rfl rfl Try.func37 (by kernel_rfl) rfl #[.agg #[.int .u8 (bt a0 0),.int .i64 0]] rfl gS ?_;(with_reducible refine (spoorref11_Acts.calls (bt a0 0) 0 false _ A30.out).mono ?_);rintro e w43 ⟨rfl,hb⟩;refine⟨_,rfl,?_⟩;have n0_:=Bx2 BK309 hb NB309_310.out NB309_310.out;have n1_:=Ax (blk_below (g:=gb310) (o:=.cells #[.int .u8 (bt a0 0),.int .i64 0] 30 (0,0)) (gB BK310.out) hb);have n2_:=Bs2 HB hb GE309.out GE310.out;clear BK309;clear BK310;clear HB;have BK309:=n0_;have BK310:=n1_;have HB:=n2_;clear n0_ n1_ n2_;(try clear hb);obtain⟨hcz44_0,hcz44_1,hfz44_0,hfz44_1⟩:=cl2 BK309));refine bodyPost_ret (results_ctt rfl _ _ gb309 30 #[.int .u8 0,.int .i64 0] (0,0) _ rfl (gB BK309.out) Try.underlying30 rfl (by kernel_rfl)) rfl ?_;exact⟨eS,bw2 HB.out GE309.out GE310.out⟩
   ·rw [if_neg c7]at H;exact absurd H (by simp)
  ·rw [if_neg c5]at H;exact absurd H (by simp)
def IsS65 (w0 W:World) (g:Nat) (f0:ByteArray) (f1:Bool):Prop:=W.heap[g]? =some (.cells #[.string f0,.bool f1] 65 (0,0))∧w0.heap.size≤g
theorem IsS65.grown {w0 W:World}{g:Nat}{f0:ByteArray}{f1:Bool}{W1:World}{row:Option Nat} (h:IsS65 w0 W g f0 f1) (hw:W.grownBy W1 row) (hne:some g≠row):IsS65 w0 W1 g f0 f1:=by
 obtain⟨hb,hg⟩:=h;exact⟨blk_grown hb hw hne,hg⟩
theorem IsS65.kept {w0 W:World}{g:Nat}{f0:ByteArray}{f1:Bool}{W1:World}{S:Nat→Prop} (h:IsS65 w0 W g f0 f1) (hk:Kept W W1 S) (hne: ¬ S g):IsS65 w0 W1 g f0 f1:=by
 obtain⟨hb,hg⟩:=h;exact⟨blk_kept hb hk hne,hg⟩
theorem IsS65.below {w0 W:World}{g:Nat}{f0:ByteArray}{f1:Bool}{W1:World} (h:IsS65 w0 W g f0 f1) (hw:Below W.heap.size W W1):IsS65 w0 W1 g f0 f1:=h.grown (grown_of_below hw none) (by simp)
theorem IsS65.alloc {w0 W:World}{g:Nat}{f0:ByteArray}{f1:Bool} (h:IsS65 w0 W g f0 f1) (o:Obj):IsS65 w0 (W.alloc o) g f0 f1:=h.below (below_alloc (Below.refl _ _) o)
theorem IsS65.drewN {w0 W:World}{g:Nat}{f0:ByteArray}{f1:Bool} (h:IsS65 w0 W g f0 f1) (m:Nat):IsS65 w0 (W.drewN m) g f0 f1:=h
theorem IsS65.drew {w0 W:World}{g:Nat}{f0:ByteArray}{f1:Bool} (h:IsS65 w0 W g f0 f1):IsS65 w0 W.drew g f0 f1:=h
theorem IsS65.at_ {w0 W:World}{g:Nat}{f0:ByteArray}{f1:Bool}{w':World}{m:Nat} (hq:W.drewN m=w') (h:IsS65 w0 W g f0 f1):IsS65 w0 w' g f0 f1:=by subst hq;exact IsS65.drewN h m
theorem IsS65.apart {w0 W:World}{g:Nat}{f0:ByteArray}{f1:Bool}{α:Type}{d:Kd α}{e:Nat}{base:Nat}{ok:Nat→Prop}{v:Value}{xs:List α} (h:IsS65 w0 W g f0 f1) (ho:d.R e W base ok v xs) (ht: ∀ q,q∈e :: d.E→q≠65):d.R e W base (fun k=>ok k∧k≠g) v xs:=by
 obtain⟨hb,hg⟩:=h;exact Kd.R_types ho hb ht
theorem IsS65.own_ne {w0 W:World}{g:Nat}{f0:ByteArray}{f1:Bool}{α:Type}{d:Kd α}{e:Nat}{base:Nat}{ok:Nat→Prop}{v:Value}{xs:List α} (h:IsS65 w0 W g f0 f1) (ho:d.R e W base ok v xs) (ht:e≠65):some g≠v.ownBlock:=by
 obtain⟨hb,hg⟩:=h;exact Kd.R_ne ho hb ht
theorem IsS65.lt {w0 W:World}{g:Nat}{f0:ByteArray}{f1:Bool} (h:IsS65 w0 W g f0 f1):g<W.heap.size:=by
 obtain⟨hb,hg⟩:=h;exact blk_lt hb
theorem IsS65.ge {w0 W:World}{g:Nat}{f0:ByteArray}{f1:Bool} (h:IsS65 w0 W g f0 f1):w0.heap.size≤g:=by
 obtain⟨hb,hg⟩:=h;exact hg
theorem IsS65.far {w0 W:World}{g:Nat}{f0:ByteArray}{f1:Bool}{p:Addr} (h:IsS65 w0 W g f0 f1) (hne:g≠p.block) (u:Value):IsS65 w0 (W.setCell p u) g f0 f1:=by
 obtain⟨hb,hg⟩:=h;exact⟨blk_far hb hne u,hg⟩
theorem cellS65_0 {W:World}{g:Nat}{f0:ByteArray}{f1:Bool} (h:W.heap[g]? =some (.cells #[.string f0,.bool f1] 65 (0,0))):W.cell? ⟨g,0,none⟩=some (.string f0):=(blk_cell h 0).trans rfl
theorem IsS65.set_0 {w0 W:World}{g:Nat}{f0:ByteArray}{f1:Bool} (h:IsS65 w0 W g f0 f1) (x:ByteArray):IsS65 w0 (W.setCell ⟨g,0,none⟩ (.string x)) g x f1:=by
 obtain⟨hb,hg⟩:=h;exact⟨by simpa using blk_set hb 0 (.string x),hg⟩
theorem cellS65_1 {W:World}{g:Nat}{f0:ByteArray}{f1:Bool} (h:W.heap[g]? =some (.cells #[.string f0,.bool f1] 65 (0,0))):W.cell? ⟨g,1,none⟩=some (.bool f1):=(blk_cell h 1).trans rfl
theorem IsS65.set_1 {w0 W:World}{g:Nat}{f0:ByteArray}{f1:Bool} (h:IsS65 w0 W g f0 f1) (x:Bool):IsS65 w0 (W.setCell ⟨g,1,none⟩ (.bool x)) g f0 x:=by
 obtain⟨hb,hg⟩:=h;exact⟨by simpa using blk_set hb 1 (.bool x),hg⟩
def spoorref11_reader_num.f (k:Nat) (s0_0:ByteArray) (s0_1:Bool) (a1:Int):Option (Int × ByteArray × Bool):=(spoorref01_Get.f k s0_0).bind fun bt316=>(if bt316.2.2=0 then (if bt316.1 > a1 then (some (0,s0_0,false)) else (some (bt316.1,bt316.2.1,s0_1))) else (some (0,s0_0,false)))
set_option maxHeartbeats 8000000 in
set_option maxRecDepth 100000 in
theorem spoorref11_reader_num.calls (k:Nat) (g:Nat) (s0_0:ByteArray) (s0_1:Bool) (a1:Int) (r1:Int) (r2:ByteArray) (r3:Bool) (w0 w:World) (hI:IsS65 w0 w g s0_0 s0_1) (hB:Below w0.heap.size w0 w) (h:spoorref11_reader_num.f k s0_0 s0_1 a1=some (r1,r2,r3)):
  Calls Try.prog 31 #[.pointer (some ⟨g,0,none⟩),.int .u64 a1] w fun e w'=>e= .returned (.int .u64 r1)∧IsS65 w0 w' g r2 r3∧Below w0.heap.size w0 w'∧KeepBut w w' g none:=by
 have HI0:=Ax hI;have HK:=Ax (KeepBut.refl w g none);have HL:=Ax hB.size;clear hI;have HW0:=Ax hB.size;have HB:=Ax hB;clear hB;have H:((spoorref01_Get.f k s0_0).bind fun bt316=>(if bt316.2.2=0 then (if bt316.1 > a1 then (some (0,s0_0,false)) else (some (bt316.1,bt316.2.1,s0_1))) else (some (0,s0_0,false))))=some (r1,r2,r3):=h;clear h;replace H:=Option.bind_eq_some_iff.mp H;obtain⟨⟨t316,t317,t318⟩,A30,H⟩:=H;replace H:(if t318=0 then (if t316 > a1 then (some (0,s0_0,false)) else (some (t316,t317,s0_1))) else (some (0,s0_0,false)))=some (r1,r2,r3):=H;have A3:=Ax A30;clear A30;by_cases c4:t318=0
 ·rw [if_pos c4]at H;have c4b0:(t318==0)=true:=beq_iff_eq.mpr c4;have c4b1:(t318 !=0)=false:=bne_eq_false_iff_eq.mpr c4;clear c4;by_cases c5:t316 > a1;·rw [if_pos c5]at H;have c5b0:decide (a1<t316)=true:=decide_eq_true c5;clear c5;simp only[Option.some.injEq,Prod.mk.injEq]at H;obtain⟨rfl,rfl,rfl⟩:=H;obtain⟨HGz6,hgz6⟩:=HI0.out;have hcz6_0:=cellS65_0 HGz6;have hcz6_1:=cellS65_1 HGz6;have hfz6_0:=blk_frozen HGz6 0;have hfz6_1:=blk_frozen HGz6 1;clear HGz6 hgz6;go_enter Try.func31,Try.ntmps31;go_wp2_with (first|((with_reducible refine gate_callee (f:=43) rfl ?_);refine goesL_ (some 13) rfl rfl Try.func43 (by kernel_rfl) rfl #[.string s0_0] rfl gS ?_;(with_reducible refine (spoorref01_Get.calls k s0_0 t316 t317 t318 _ A3.out).mono ?_);rintro e w' ⟨rfl,⟨nd,rfl⟩⟩;refine⟨_,rfl,?_⟩;rw [drewN_self w];generalize hq_:World.drewN w _=w7;replace HI0:=Ax (IsS65.at_ hq_ HI0.out);replace HK:=Ax (keep_at hq_ HK.out);replace HB:=Ax (below_at hq_ HB.out);clear hq_;(try (have HGz_:=HI0.out.1;have hcq0_0:=cellS65_0 HGz_;have hfq0_0:=blk_frozen HGz_ 0;have hcq1_0:=cellS65_1 HGz_;have hfq1_0:=blk_frozen HGz_ 1;clear HGz_));obtain⟨HGz8,hgz8⟩:=HI0.out;have hcz8_0:=cellS65_0 HGz8;have hcz8_1:=cellS65_1 HGz8;have hfz8_0:=blk_frozen HGz8 0;have hfz8_1:=blk_frozen HGz8 1;clear HGz8 hgz8));go_ret;exact⟨eS,by repeat (first|(with_reducible first|exact HI0.out|apply IsS65.alloc|apply IsS65.drewN|apply IsS65.drew|apply IsS65.set_0|apply IsS65.set_1)|exact HI0.out),bw1 HB.out (IsS65.ge HI0.out),by repeat (first|(with_reducible first|exact HK.out|apply KeepBut.set_|apply keep_drewN|apply keep_drew|apply keep_alloc)|exact HK.out)⟩
  ·rw [if_neg c5]at H;have c5b0:decide (a1<t316)=false:=decide_eq_false c5;clear c5;simp only[Option.some.injEq,Prod.mk.injEq]at H;obtain⟨rfl,rfl,rfl⟩:=H;obtain⟨HGz9,hgz9⟩:=HI0.out;have hcz9_0:=cellS65_0 HGz9;have hcz9_1:=cellS65_1 HGz9;have hfz9_0:=blk_frozen HGz9 0;have hfz9_1:=blk_frozen HGz9 1;clear HGz9 hgz9;go_enter Try.func31,Try.ntmps31;go_wp2_with (first|((with_reducible refine gate_callee (f:=43) rfl ?_);refine goesL_ (some 13) rfl rfl Try.func43 (by kernel_rfl) rfl #[.string s0_0] rfl gS ?_;(with_reducible refine (spoorref01_Get.calls k s0_0 t316 t317 t318 _ A3.out).mono ?_);rintro e w' ⟨rfl,⟨nd,rfl⟩⟩;refine⟨_,rfl,?_⟩;rw [drewN_self w];generalize hq_:World.drewN w _=w10;replace HI0:=Ax (IsS65.at_ hq_ HI0.out);replace HK:=Ax (keep_at hq_ HK.out);replace HB:=Ax (below_at hq_ HB.out);clear hq_;(try (have HGz_:=HI0.out.1;have hcq0_0:=cellS65_0 HGz_;have hfq0_0:=blk_frozen HGz_ 0;have hcq1_0:=cellS65_1 HGz_;have hfq1_0:=blk_frozen HGz_ 1;clear HGz_));obtain⟨HGz11,hgz11⟩:=HI0.out;have hcz11_0:=cellS65_0 HGz11;have hcz11_1:=cellS65_1 HGz11;have hfz11_0:=blk_frozen HGz11 0;have hfz11_1:=blk_frozen HGz11 1;clear HGz11 hgz11));go_ret;exact⟨eS,by repeat (first|(with_reducible first|exact HI0.out|apply IsS65.alloc|apply IsS65.drewN|apply IsS65.drew|apply IsS65.set_0|apply IsS65.set_1)|exact HI0.out),bw1 HB.out (IsS65.ge HI0.out),by repeat (first|(with_reducible first|exact HK.out|apply KeepBut.set_|apply keep_drewN|apply keep_drew|apply keep_alloc)|exact HK.out)⟩
 ·rw [if_neg c4]at H;have c4b0:(t318==0)=false:=beq_eq_false_iff_ne.mpr c4;have c4b1:(t318 !=0)=true:=bne_iff_ne.mpr c4;simp only[Option.some.injEq,Prod.mk.injEq]at H;obtain⟨rfl,rfl,rfl⟩:=H;obtain⟨HGz12,hgz12⟩:=HI0.out;have hcz12_0:=cellS65_0 HGz12;have hcz12_1:=cellS65_1 HGz12;have hfz12_0:=blk_frozen HGz12 0;have hfz12_1:=blk_frozen HGz12 1;clear HGz12 hgz12;go_enter Try.func31,Try.ntmps31;go_wp2_with (first|((with_reducible refine gate_callee (f:=43) rfl ?_);refine goesL_ (some 13) rfl rfl Try.func43 (by kernel_rfl) rfl #[.string s0_0] rfl gS ?_;(with_reducible refine (spoorref01_Get.calls k s0_0 t316 t317 t318 _ A3.out).mono ?_);rintro e w' ⟨rfl,⟨nd,rfl⟩⟩;refine⟨_,rfl,?_⟩;rw [drewN_self w];generalize hq_:World.drewN w _=w13;replace HI0:=Ax (IsS65.at_ hq_ HI0.out);replace HK:=Ax (keep_at hq_ HK.out);replace HB:=Ax (below_at hq_ HB.out);clear hq_;(try (have HGz_:=HI0.out.1;have hcq0_0:=cellS65_0 HGz_;have hfq0_0:=blk_frozen HGz_ 0;have hcq1_0:=cellS65_1 HGz_;have hfq1_0:=blk_frozen HGz_ 1;clear HGz_));obtain⟨HGz14,hgz14⟩:=HI0.out;have hcz14_0:=cellS65_0 HGz14;have hcz14_1:=cellS65_1 HGz14;have hfz14_0:=blk_frozen HGz14 0;have hfz14_1:=blk_frozen HGz14 1;clear HGz14 hgz14));go_ret;exact⟨eS,by repeat (first|(with_reducible first|exact HI0.out|apply IsS65.alloc|apply IsS65.drewN|apply IsS65.drew|apply IsS65.set_0|apply IsS65.set_1)|exact HI0.out),bw1 HB.out (IsS65.ge HI0.out),by repeat (first|(with_reducible first|exact HK.out|apply KeepBut.set_|apply keep_drewN|apply keep_drew|apply keep_alloc)|exact HK.out)⟩
mutual
def spoorref11_Get.j0 : Nat → ByteArray → Bool → ByteArray → Bool → Int → Int → Int → Int → Bool → Int → Int → Int → Int → Int → Int → Int → Option (Int × Int × Int × Int × Bool × Int × Int × Int × Int × Int × Int × Int × Int)
 | 0, _, _, _, _, _, _, _, _, _, _, _, _, _, _, _, _ => none
 | k + 1, x0, x42, x321000, x321001, x322000, x322001, x322002, x322003, x322004, x322005, x322006, x322007, x322008, x322009, x322010, x322011 => if x42 = true then ((spoorref11_GetPrefix.f k x321000).bind fun bt331 => (if x321001 = true then (spoorref11_Get.j1 k x0 bt331.2.2.2.2.1 (bt331.2.2.2.2.2 == 0) x322000 x322001 x322002 x322003 bt331.1 bt331.2.1 bt331.2.2.1 bt331.2.2.2.1 x322008 x322009 x322010 x322011) else (spoorref11_Get.j1 k x0 bt331.2.2.2.2.1 false x322000 x322001 x322002 x322003 bt331.1 bt331.2.1 bt331.2.2.1 bt331.2.2.2.1 x322008 x322009 x322010 x322011))) else (spoorref11_Get.j1 k x0 x321000 x321001 x322000 x322001 x322002 x322003 x322004 x322005 x322006 x322007 x322008 x322009 x322010 x322011)
def spoorref11_Get.j1 : Nat → ByteArray → ByteArray → Bool → Int → Int → Int → Int → Bool → Int → Int → Int → Int → Int → Int → Int → Option (Int × Int × Int × Int × Bool × Int × Int × Int × Int × Int × Int × Int × Int)
 | 0, _, _, _, _, _, _, _, _, _, _, _, _, _, _, _ => none
 | k + 1, x0, x321000, x321001, x322000, x322001, x322002, x322003, x322004, x322005, x322006, x322007, x322008, x322009, x322010, x322011 => if x322000 = 3 then ((spoorref11_GetAction.f k x321000).bind fun bt338 => (if x321001 = true then (spoorref11_Get.j2 k x0 bt338.2.2.1 (bt338.2.2.2 == 0) x322000 x322001 x322002 x322003 x322004 x322005 x322006 x322007 bt338.1 bt338.2.1 x322010 x322011) else (spoorref11_Get.j2 k x0 bt338.2.2.1 false x322000 x322001 x322002 x322003 x322004 x322005 x322006 x322007 bt338.1 bt338.2.1 x322010 x322011))) else (spoorref11_Get.j2 k x0 x321000 x321001 x322000 x322001 x322002 x322003 x322004 x322005 x322006 x322007 x322008 x322009 x322010 x322011)
def spoorref11_Get.j2 : Nat → ByteArray → ByteArray → Bool → Int → Int → Int → Int → Bool → Int → Int → Int → Int → Int → Int → Int → Option (Int × Int × Int × Int × Bool × Int × Int × Int × Int × Int × Int × Int × Int)
 | 0, _, _, _, _, _, _, _, _, _, _, _, _, _, _, _ => none
 | k + 1, x0, x321000, x321001, x322000, x322001, x322002, x322003, x322004, x322005, x322006, x322007, x322008, x322009, x322010, x322011 => if x322000 = 5 then (spoorref11_Get.j3 k x0 true x321000 x321001 x322000 x322001 x322002 x322003 x322004 x322005 x322006 x322007 x322008 x322009 x322010 x322011) else (spoorref11_Get.j3 k x0 (x322000 == 6) x321000 x321001 x322000 x322001 x322002 x322003 x322004 x322005 x322006 x322007 x322008 x322009 x322010 x322011)
def spoorref11_Get.j3 : Nat → ByteArray → Bool → ByteArray → Bool → Int → Int → Int → Int → Bool → Int → Int → Int → Int → Int → Int → Int → Option (Int × Int × Int × Int × Bool × Int × Int × Int × Int × Int × Int × Int × Int)
 | 0, _, _, _, _, _, _, _, _, _, _, _, _, _, _, _, _ => none
 | k + 1, x0, x105, x321000, x321001, x322000, x322001, x322002, x322003, x322004, x322005, x322006, x322007, x322008, x322009, x322010, x322011 => if x105 = true then ((spoorref11_reader_num.f k x321000 x321001 65536).bind fun bt343 => (spoorref11_Get.j4 k x0 bt343.2.1 bt343.2.2 x322000 x322001 x322002 x322003 x322004 x322005 x322006 x322007 x322008 x322009 (wrap64 (bt343.1)) x322011)) else (spoorref11_Get.j4 k x0 x321000 x321001 x322000 x322001 x322002 x322003 x322004 x322005 x322006 x322007 x322008 x322009 x322010 x322011)
def spoorref11_Get.j4 : Nat → ByteArray → ByteArray → Bool → Int → Int → Int → Int → Bool → Int → Int → Int → Int → Int → Int → Int → Option (Int × Int × Int × Int × Bool × Int × Int × Int × Int × Int × Int × Int × Int)
 | 0, _, _, _, _, _, _, _, _, _, _, _, _, _, _, _ => none
 | k + 1, x0, x321000, x321001, x322000, x322001, x322002, x322003, x322004, x322005, x322006, x322007, x322008, x322009, x322010, x322011 => if x322000 = 5 then ((spoorref11_reader_num.f k x321000 x321001 1048576).bind fun bt346 => ((spoorref11_Put.f k x322000 x322001 x322002 x322003 x322004 x322005 x322006 x322007 x322008 x322009 x322010 (wrap64 (bt346.1))).bind fun bt349 => (if bt346.2.2 = true then (if bt349.2 = 0 then (if bt349.1.toList = x0.toList then (some (x322000, x322001, x322002, x322003, x322004, x322005, x322006, x322007, x322008, x322009, x322010, wrap64 (bt346.1), 0)) else (some (0, 0, 0, 0, false, 0, 0, 0, 0, 0, 0, 0, 7))) else (some (0, 0, 0, 0, false, 0, 0, 0, 0, 0, 0, 0, 7))) else (some (0, 0, 0, 0, false, 0, 0, 0, 0, 0, 0, 0, 7))))) else ((spoorref11_Put.f k x322000 x322001 x322002 x322003 x322004 x322005 x322006 x322007 x322008 x322009 x322010 x322011).bind fun bt351 => (if x321001 = true then (if bt351.2 = 0 then (if bt351.1.toList = x0.toList then (some (x322000, x322001, x322002, x322003, x322004, x322005, x322006, x322007, x322008, x322009, x322010, x322011, 0)) else (some (0, 0, 0, 0, false, 0, 0, 0, 0, 0, 0, 0, 7))) else (some (0, 0, 0, 0, false, 0, 0, 0, 0, 0, 0, 0, 7))) else (some (0, 0, 0, 0, false, 0, 0, 0, 0, 0, 0, 0, 7))))
end
def spoorref11_Get.f (k:Nat) (a0:ByteArray):Option (Int × Int × Int × Int × Bool × Int × Int × Int × Int × Int × Int × Int × Int):=if a0.toList=([]:List UInt8) then (some (0,0,0,0,false,0,0,0,0,0,0,0,7)) else (if 1≤(a0.size:Int) then (if 0<(a0.size:Int) then ((spoorref11_reader_num.f k (a0.extract 1 a0.size) true 1048576).bind fun bt322=>((spoorref11_reader_num.f k bt322.2.1 bt322.2.2 1099511627776).bind fun bt325=>((spoorref11_reader_num.f k bt325.2.1 bt325.2.2 1099511627776).bind fun bt328=>(if (bt a0 0)=3 then (spoorref11_Get.j0 k a0 true bt328.2.1 bt328.2.2 (bt a0 0) (wrap64 (bt322.1)) bt325.1 (wrap64 (bt328.1)) false 0 0 0 0 0 0 0) else (spoorref11_Get.j0 k a0 ((bt a0 0)==4) bt328.2.1 bt328.2.2 (bt a0 0) (wrap64 (bt322.1)) bt325.1 (wrap64 (bt328.1)) false 0 0 0 0 0 0 0))))) else (none)) else (none))
def spoorref11_Get.T10:Bool × List (List Nat × List Nat):=(true, [([], []),([], []),([], []),([], []),([], []),([4], [4]),([5], [5]),([6], [6]),([7], [7]),([8], [8]),([9,8], [8,9]),([8,10], [8,10]),([2,7], []),([12,2,8,2,7], [2,12]),([0,0,2,3,7,12,13], [0]),([14,0,2,3,7,12,13], [14]),([15,3,13,0,2,3,7,12,13], [3,15]),([1,0,1,2,3,4,5,6,7,8,9,10,11,12,13,14,15,16], [1]),([17,0,1,2,3,4,5,6,7,8,9,10,11,12,13,14,15,16], [17]),([18,11,16,0,1,2,3,4,5,6,7,8,9,10,11,12,13,14,15,16], [11,18])])
def spoorref11_Get.B10:List Nat:= [0,0,0,0,0,16,48,112,240,496,1008,2032,244,4596,12797,29181,61949,131071,262143,524287]
theorem spoorref11_Get.tab10:rtab .any (opsOf Try.f11 10)=spoorref11_Get.T10:=by kernel_rfl
theorem spoorref11_Get.bits10:waitsOk spoorref11_Get.T10.2 spoorref11_Get.B10=true:=by kernel_rfl
def spoorref11_Get.T13:Bool × List (List Nat × List Nat):=(true, [([], []),([], []),([], []),([], []),([], []),([4], [4]),([5], [5]),([6], [6]),([7], [7]),([8], [8]),([9,8], [8,9]),([8,10], [8,10]),([2,7], []),([12,2,8,2,7], [2,12]),([0,0,2,3,7,12,13], [0]),([14,0,2,3,7,12,13], [14]),([15,3,13,0,2,3,7,12,13], [3,15]),([1,0,1,2,3,4,5,6,7,8,9,10,11,12,13,14,15,16], [1]),([17,0,1,2,3,4,5,6,7,8,9,10,11,12,13,14,15,16], [17]),([18,11,16,0,1,2,3,4,5,6,7,8,9,10,11,12,13,14,15,16], [11,18])])
def spoorref11_Get.B13:List Nat:= [0,0,0,0,0,16,48,112,240,496,1008,2032,244,4596,12797,29181,61949,131071,262143,524287]
theorem spoorref11_Get.tab13:rtab .any (opsOf Try.f11 13)=spoorref11_Get.T13:=by kernel_rfl
theorem spoorref11_Get.bits13:waitsOk spoorref11_Get.T13.2 spoorref11_Get.B13=true:=by kernel_rfl
end Go.Proofs.Ytodgadhegcjbhaa.Q
end
