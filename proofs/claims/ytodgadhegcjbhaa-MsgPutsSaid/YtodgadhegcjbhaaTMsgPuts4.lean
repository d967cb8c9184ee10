-- Merged and trimmed by this session's program wip/tools/trim.py.
import Derived.Test.YtodgadhegcjbhaaTMsgPuts3
section
namespace Go.Proofs.Ytodgadhegcjbhaa.Q
open Go.RowKit Go.Proofs.YtodgadhegcjbhaaW.PrintWords Go.Proofs.YtodgadhegcjbhaaW.PrintLast Go.Proofs.YtodgadhegcjbhaaW.PrintMore
attribute [local go_sem] max2_int min2_int max_two min_two max_three min_three max_four min_four   -- for this text's walks alone
set_option linter.unusedVariables false
set_option linter.unusedSimpArgs false
attribute [local go_sem high] eqA32
set_option maxHeartbeats 8000000 in
set_option maxRecDepth 100000 in
theorem spoorref11_Check.calls (k:Nat) (a0_0:Int) (a0_1:Int) (a0_2:Int) (a0_3:Int) (a0_4:Bool) (a0_5:Int) (a0_6:Int) (a0_7:Int) (a0_8:Int) (a0_9:Int) (a0_10:Int) (a0_11:Int) (r:Int) (w:World) (h:spoorref11_Check.f k a0_0 a0_1 a0_2 a0_3 a0_4 a0_5 a0_6 a0_7 a0_8 a0_9 a0_10 a0_11=some r):
  Calls Try.prog 14 #[.agg #[.int .u8 a0_0,.int .i64 a0_1,.int .u64 a0_2,.int .i64 a0_3,.bool a0_4,.int .u64 a0_5,.int .u64 a0_6,.int .i64 a0_7,.int .u8 a0_8,.int .i64 a0_9,.int .i64 a0_10,.int .i64 a0_11]] w fun e w'=>e= .returned (.int .i64 r)∧Below w.heap.size w w':=by
 have hu32:=Try.underlying32;have hu27:=Try.underlying27;have hu30:=Try.underlying30;have HB:=Ax (Below.refl w.heap.size w);have H:(if a0_1<0 then (spoorref11_Check.j0 k true a0_0 a0_1 a0_2 a0_3 a0_4 a0_5 a0_6 a0_7 a0_8 a0_9 a0_10 a0_11) else (if a0_1 > 1048576 then (spoorref11_Check.j0 k true a0_0 a0_1 a0_2 a0_3 a0_4 a0_5 a0_6 a0_7 a0_8 a0_9 a0_10 a0_11) else (if a0_2<1 then (spoorref11_Check.j0 k true a0_0 a0_1 a0_2 a0_3 a0_4 a0_5 a0_6 a0_7 a0_8 a0_9 a0_10 a0_11) else (if a0_2 > 1099511627776 then (spoorref11_Check.j0 k true a0_0 a0_1 a0_2 a0_3 a0_4 a0_5 a0_6 a0_7 a0_8 a0_9 a0_10 a0_11) else (if a0_3<0 then (spoorref11_Check.j0 k true a0_0 a0_1 a0_2 a0_3 a0_4 a0_5 a0_6 a0_7 a0_8 a0_9 a0_10 a0_11) else (spoorref11_Check.j0 k (decide (a0_3 > 1099511627776)) a0_0 a0_1 a0_2 a0_3 a0_4 a0_5 a0_6 a0_7 a0_8 a0_9 a0_10 a0_11))))))=some r:=h;clear h;have HC2:=Ax H;clear H;go_enter Try.func14,Try.ntmps14;go_upto_region 1 with (first|((with_reducible refine gate_dst (N:=1) rfl ?_);refine box_event ?hg (N:=1) ?hd (cs:= #[.int .u8 a0_0,.int .i64 a0_1,.int .u64 a0_2,.int .i64 a0_3,.bool a0_4,.int .u64 a0_5,.int .u64 a0_6,.int .i64 a0_7,.int .u8 a0_8,.int .i64 a0_9,.int .i64 a0_10,.int .i64 a0_11]) (t:=32) ?hr ?_;(case hd=>rfl);(case hg=>rfl);(case hr=>first|(go_simp;done)|(go_simp;rfl));intro gb194 hg w3 hbox hb;have n0_:=Bs0 HB hb;have n1_:=Ax (hbox);have n2_:=Gw0 HB hg;have n3_:=Gw0 HB hg;clear HB;have HB:=n0_;have BK194:=n1_;have GW194:=n2_;have GE194:=n3_;clear n0_ n1_ n2_ n3_;clear hb hbox hg))
 (try simp only[Act.put,List.setIfInBounds_toArray,List.set_cons_zero,List.set_cons_succ])
 go_cut [32] (fun v32 wc=> ∃ (kq:Nat) (x32_1:Bool),v32= .bool x32_1∧Aside0 (spoorref11_Check.j0 kq x32_1 a0_0 a0_1 a0_2 a0_3 a0_4 a0_5 a0_6 a0_7 a0_8 a0_9 a0_10 a0_11=some r)∧Aside0 (kq≤k)∧Aside0 (wc.heap[gb194]? =some (.cells #[.int .u8 a0_0,.int .i64 a0_1,.int .u64 a0_2,.int .i64 a0_3,.bool a0_4,.int .u64 a0_5,.int .u64 a0_6,.int .i64 a0_7,.int .u8 a0_8,.int .i64 a0_9,.int .i64 a0_10,.int .i64 a0_11] 32 (0,0)))∧Aside0 (Below w.heap.size w wc))
 case first=>
  have H:=HC2.out;clear HC2;by_cases c4:a0_1<0
  ·rw [if_pos c4]at H;have c4b0:decide (a0_1<0)=true:=decide_eq_true c4;clear c4
   (first|rw [c4b0]|(simp only[i64_w,i32_w];rw [c4b0])|skip)
   have H':=Ax H;clear H;obtain⟨hcz5_0,hcz5_1,hcz5_2,hcz5_3,hcz5_4,hcz5_5,hcz5_6,hcz5_7,hcz5_8,hcz5_9,hcz5_10,hcz5_11,hfz5_0,hfz5_1,hfz5_2,hfz5_3,hfz5_4,hfz5_5,hfz5_6,hfz5_7,hfz5_8,hfz5_9,hfz5_10,hfz5_11⟩:=cl12 BK194;go_wp2;go_meet
   case rel=>exact⟨_,(true),rS,H',⟨by first|omega|exact Nat.le_refl _⟩,⟨bf0 BK194.out⟩,⟨bw1 HB.out GE194.out⟩⟩
  ·rw [if_neg c4]at H;have c4b0:decide (a0_1<0)=false:=decide_eq_false c4;clear c4
   (first|rw [c4b0]|(simp only[i64_w,i32_w];rw [c4b0])|skip)
   by_cases c6:a0_1 > 1048576
   ·rw [if_pos c6]at H;have c6b0:decide (1048576<a0_1)=true:=decide_eq_true c6;clear c6;have H':=Ax H;clear H;obtain⟨hcz7_0,hcz7_1,hcz7_2,hcz7_3,hcz7_4,hcz7_5,hcz7_6,hcz7_7,hcz7_8,hcz7_9,hcz7_10,hcz7_11,hfz7_0,hfz7_1,hfz7_2,hfz7_3,hfz7_4,hfz7_5,hfz7_6,hfz7_7,hfz7_8,hfz7_9,hfz7_10,hfz7_11⟩:=cl12 BK194;go_wp2;go_meet
    case rel=>exact⟨_,(true),rS,H',⟨by first|omega|exact Nat.le_refl _⟩,⟨bf0 BK194.out⟩,⟨bw1 HB.out GE194.out⟩⟩
   ·rw [if_neg c6]at H;have c6b0:decide (1048576<a0_1)=false:=decide_eq_false c6;clear c6;by_cases c8:a0_2<1
    ·rw [if_pos c8]at H;have c8b0:decide (a0_2<1)=true:=decide_eq_true c8;clear c8;have H':=Ax H;clear H;obtain⟨hcz9_0,hcz9_1,hcz9_2,hcz9_3,hcz9_4,hcz9_5,hcz9_6,hcz9_7,hcz9_8,hcz9_9,hcz9_10,hcz9_11,hfz9_0,hfz9_1,hfz9_2,hfz9_3,hfz9_4,hfz9_5,hfz9_6,hfz9_7,hfz9_8,hfz9_9,hfz9_10,hfz9_11⟩:=cl12 BK194;go_wp2;go_meet
     case rel=>exact⟨_,(true),rS,H',⟨by first|omega|exact Nat.le_refl _⟩,⟨bf0 BK194.out⟩,⟨bw1 HB.out GE194.out⟩⟩
    ·rw [if_neg c8]at H;have c8b0:decide (a0_2<1)=false:=decide_eq_false c8;clear c8;by_cases c10:a0_2 > 1099511627776
     ·rw [if_pos c10]at H;have c10b0:decide (1099511627776<a0_2)=true:=decide_eq_true c10;clear c10;have H':=Ax H;clear H;obtain⟨hcz11_0,hcz11_1,hcz11_2,hcz11_3,hcz11_4,hcz11_5,hcz11_6,hcz11_7,hcz11_8,hcz11_9,hcz11_10,hcz11_11,hfz11_0,hfz11_1,hfz11_2,hfz11_3,hfz11_4,hfz11_5,hfz11_6,hfz11_7,hfz11_8,hfz11_9,hfz11_10,hfz11_11⟩:=cl12 BK194;go_wp2;go_meet
      case rel=>exact⟨_,(true),rS,H',⟨by first|omega|exact Nat.le_refl _⟩,⟨bf0 BK194.out⟩,⟨bw1 HB.out GE194.out⟩⟩
     ·rw [if_neg c10]at H;have c10b0:decide (1099511627776<a0_2)=false:=decide_eq_false c10;clear c10;by_cases c12:a0_3<0
      ·rw [if_pos c12]at H;have c12b0:decide (a0_3<0)=true:=decide_eq_true c12;clear c12;have H':=Ax H;clear H;obtain⟨hcz13_0,hcz13_1,hcz13_2,hcz13_3,hcz13_4,hcz13_5,hcz13_6,hcz13_7,hcz13_8,hcz13_9,hcz13_10,hcz13_11,hfz13_0,hfz13_1,hfz13_2,hfz13_3,hfz13_4,hfz13_5,hfz13_6,hfz13_7,hfz13_8,hfz13_9,hfz13_10,hfz13_11⟩:=cl12 BK194;go_wp2;go_meet
       case rel=>exact⟨_,(true),rS,H',⟨by first|omega|exact Nat.le_refl _⟩,⟨bf0 BK194.out⟩,⟨bw1 HB.out GE194.out⟩⟩
      ·rw [if_neg c12]at H;have c12b0:decide (a0_3<0)=false:=decide_eq_false c12;clear c12;have H':=Ax H;clear H;obtain⟨hcz14_0,hcz14_1,hcz14_2,hcz14_3,hcz14_4,hcz14_5,hcz14_6,hcz14_7,hcz14_8,hcz14_9,hcz14_10,hcz14_11,hfz14_0,hfz14_1,hfz14_2,hfz14_3,hfz14_4,hfz14_5,hfz14_6,hfz14_7,hfz14_8,hfz14_9,hfz14_10,hfz14_11⟩:=cl12 BK194;go_wp2;go_meet
       case rel=>exact⟨_,(decide (a0_3 > 1099511627776)),rS,H',⟨by first|omega|exact Nat.le_refl _⟩,⟨bf0 BK194.out⟩,⟨bw1 HB.out GE194.out⟩⟩
 case rest=>
  clear HC2;try clear c1
  try clear p2
  try clear c4
  try clear c4b0
  try clear c6
  try clear c6b0
  try clear c8
  try clear c8b0
  try clear c10
  try clear c10b0
  try clear c12
  try clear c12b0
  try clear c14
  try clear hcz11_0
  try clear hcz11_1
  try clear hcz11_10
  try clear hcz11_11
  try clear hcz11_2
  try clear hcz11_3
  try clear hcz11_4
  try clear hcz11_5
  try clear hcz11_6
  try clear hcz11_7
  try clear hcz11_8
  try clear hcz11_9
  try clear hcz13_0
  try clear hcz13_1
  try clear hcz13_10
  try clear hcz13_11
  try clear hcz13_2
  try clear hcz13_3
  try clear hcz13_4
  try clear hcz13_5
  try clear hcz13_6
  try clear hcz13_7
  try clear hcz13_8
  try clear hcz13_9
  try clear hcz14_0
  try clear hcz14_1
  try clear hcz14_10
  try clear hcz14_11
  try clear hcz14_2
  try clear hcz14_3
  try clear hcz14_4
  try clear hcz14_5
  try clear hcz14_6
  try clear hcz14_7
  try clear hcz14_8
  try clear hcz14_9
  try clear hcz5_0
  try clear hcz5_1
  try clear hcz5_10
  try clear hcz5_11
  try clear hcz5_2
  try clear hcz5_3
  try clear hcz5_4
  try clear hcz5_5
  try clear hcz5_6
  try clear hcz5_7
  try clear hcz5_8
  try clear hcz5_9
  try clear hcz7_0
  try clear hcz7_1
  try clear hcz7_10
  try clear hcz7_11
  try clear hcz7_2
  try clear hcz7_3
  try clear hcz7_4
  try clear hcz7_5
  try clear hcz7_6
  try clear hcz7_7
  try clear hcz7_8
  try clear hcz7_9
  try clear hcz9_0
  try clear hcz9_1
  try clear hcz9_10
  try clear hcz9_11
  try clear hcz9_2
  try clear hcz9_3
  try clear hcz9_4
  try clear hcz9_5
  try clear hcz9_6
  try clear hcz9_7
  try clear hcz9_8
  try clear hcz9_9
  try clear hfz11_0
  try clear hfz11_1
  try clear hfz11_10
  try clear hfz11_11
  try clear hfz11_2
  try clear hfz11_3
  try clear hfz11_4
  try clear hfz11_5
  try clear hfz11_6
  try clear hfz11_7
  try clear hfz11_8
  try clear hfz11_9
  try clear hfz13_0
  try clear hfz13_1
  try clear hfz13_10
  try clear hfz13_11
  try clear hfz13_2
  try clear hfz13_3
  try clear hfz13_4
  try clear hfz13_5
  try clear hfz13_6
  try clear hfz13_7
  try clear hfz13_8
  try clear hfz13_9
  try clear hfz14_0
  try clear hfz14_1
  try clear hfz14_10
  try clear hfz14_11
  try clear hfz14_2
  try clear hfz14_3
  try clear hfz14_4
  try clear hfz14_5
  try clear hfz14_6
  try clear hfz14_7
  try clear hfz14_8
  try clear hfz14_9
  try clear hfz5_0
  try clear hfz5_1
  try clear hfz5_10
  try clear hfz5_11
  try clear hfz5_2
  try clear hfz5_3
  try clear hfz5_4
  try clear hfz5_5
  try clear hfz5_6
  try clear hfz5_7
  try clear hfz5_8
  try clear hfz5_9
  try clear hfz7_0
  try clear hfz7_1
  try clear hfz7_10
  try clear hfz7_11
  try clear hfz7_2
  try clear hfz7_3
  try clear hfz7_4
  try clear hfz7_5
  try clear hfz7_6
  try clear hfz7_7
  try clear hfz7_8
  try clear hfz7_9
  try clear hfz9_0
  try clear hfz9_1
  try clear hfz9_10
  try clear hfz9_11
  try clear hfz9_2
  try clear hfz9_3
  try clear hfz9_4
  try clear hfz9_5
  try clear hfz9_6
  try clear hfz9_7
  try clear hfz9_8
  try clear hfz9_9
  obtain⟨kq,x32_1,rfl,HA,HJ1,BK194,HB⟩:=hcut;cases kq with
  |zero=>exact absurd HA.out (by simp [spoorref11_Check.j0])
  |succ kj1=>
   have H:=HA.out;clear HA;simp only[spoorref11_Check.j0]at H;by_cases c15:x32_1=true
   ·subst c15;have H1:(some 2)=some r:=by rw [if_pos rfl]at H;exact H
    clear H;have H:=H1;clear H1;obtain rfl:=Option.some.inj H;go_wp2;go_ret;exact⟨eS,bw1 HB.out GE194.out⟩
   ·replace c15:=Bool.eq_false_iff.mpr c15;subst c15;have H1:(if a0_0=1 then (spoorref11_Check.j1 kj1 true a0_0 (a0_0==1) a0_0 a0_1 a0_2 a0_3 a0_4 a0_5 a0_6 a0_7 a0_8 a0_9 a0_10 a0_11 a0_0 a0_1 a0_2 a0_3 false 0 0 0 0 0 0 0) else (spoorref11_Check.j1 kj1 true a0_0 (a0_0==2) a0_0 a0_1 a0_2 a0_3 a0_4 a0_5 a0_6 a0_7 a0_8 a0_9 a0_10 a0_11 a0_0 a0_1 a0_2 a0_3 false 0 0 0 0 0 0 0))=some r:=by rw [if_neg (show ¬ (false=true) by decide)]at H;exact H
    clear H;have H:=H1;clear H1;have HC16:=Ax H;clear H;obtain⟨hcz17_0,hcz17_1,hcz17_2,hcz17_3,hcz17_4,hcz17_5,hcz17_6,hcz17_7,hcz17_8,hcz17_9,hcz17_10,hcz17_11,hfz17_0,hfz17_1,hfz17_2,hfz17_3,hfz17_4,hfz17_5,hfz17_6,hfz17_7,hfz17_8,hfz17_9,hfz17_10,hfz17_11⟩:=cl12 BK194;go_upto_if 44 with (first|((with_reducible refine gate_dst (N:=3) rfl ?_);refine box_event ?hg (N:=3) ?hd (cs:= #[.int .u8 0,.int .i64 0,.int .u64 0,.int .i64 0,.bool false,.int .u64 0,.int .u64 0,.int .i64 0,.int .u8 0,.int .i64 0,.int .i64 0,.int .i64 0]) (t:=32) ?hr ?_;(case hd=>rfl);(case hg=>rfl);(case hr=>first|(go_simp;done)|(go_simp;rfl));intro gb195 hg w18 hbox hb;have n0_:=Bx0 BK194 hb;have n1_:=Bs1 HB hb GE194.out;have n2_:=Ax (hbox);have n3_:=Gw1 HB hg GE194.out;have n4_:=Gw1 HB hg GE194.out;have n5_:=Nl0 BK194 hg;have n6_:=Nr0 BK194 hg;clear BK194;clear HB;have BK194:=n0_;have HB:=n1_;have BK195:=n2_;have GW195:=n3_;have GE195:=n4_;have NB194_195:=n5_;have NB195_194:=n6_;clear n0_ n1_ n2_ n3_ n4_ n5_ n6_;clear hb hbox hg;have hnb19:=NB195_194.out;have hnc19:=NB194_195.out;obtain⟨hcz20_0,hcz20_1,hcz20_2,hcz20_3,hcz20_4,hcz20_5,hcz20_6,hcz20_7,hcz20_8,hcz20_9,hcz20_10,hcz20_11,hfz20_0,hfz20_1,hfz20_2,hfz20_3,hfz20_4,hfz20_5,hfz20_6,hfz20_7,hfz20_8,hfz20_9,hfz20_10,hfz20_11⟩:=cl12 BK195;obtain⟨hcz21_0,hcz21_1,hcz21_2,hcz21_3,hcz21_4,hcz21_5,hcz21_6,hcz21_7,hcz21_8,hcz21_9,hcz21_10,hcz21_11,hfz21_0,hfz21_1,hfz21_2,hfz21_3,hfz21_4,hfz21_5,hfz21_6,hfz21_7,hfz21_8,hfz21_9,hfz21_10,hfz21_11⟩:=cl12 BK194))
    (try simp only[Act.put,List.setIfInBounds_toArray,List.set_cons_zero,List.set_cons_succ])
    go_cut [44] (fun v44 wc=> ∃ (kq:Nat) (x44_15:Bool),v44= .bool x44_15∧Aside0 (spoorref11_Check.j1 kq true a0_0 x44_15 a0_0 a0_1 a0_2 a0_3 a0_4 a0_5 a0_6 a0_7 a0_8 a0_9 a0_10 a0_11 a0_0 a0_1 a0_2 a0_3 false 0 0 0 0 0 0 0=some r)∧Aside0 (kq≤kj1)∧Aside0 (wc.heap[gb194]? =some (.cells #[.int .u8 a0_0,.int .i64 a0_1,.int .u64 a0_2,.int .i64 a0_3,.bool a0_4,.int .u64 a0_5,.int .u64 a0_6,.int .i64 a0_7,.int .u8 a0_8,.int .i64 a0_9,.int .i64 a0_10,.int .i64 a0_11] 32 (0,0)))∧Aside0 (wc.heap[gb195]? =some (.cells #[.int .u8 a0_0,.int .i64 a0_1,.int .u64 a0_2,.int .i64 a0_3,.bool false,.int .u64 0,.int .u64 0,.int .i64 0,.int .u8 0,.int .i64 0,.int .i64 0,.int .i64 0] 32 (0,0)))∧Aside0 (Below w.heap.size w wc))
    case first=>
     have H:=HC16.out;clear HC16;by_cases c22:a0_0=1
     ·rw [if_pos c22]at H;have c22b0:(a0_0==1)=true:=beq_iff_eq.mpr c22;have c22b1:(a0_0 !=1)=false:=bne_eq_false_iff_eq.mpr c22;clear c22
      (first|rw [c22b0]|(simp only[i64_w,i32_w];rw [c22b0])|skip)
      have H':=Ax H;clear H;go_wp2;go_meet
      case rel=>exact⟨_,((a0_0==1)),rS,H',⟨by have:=HJ1.out;first|omega|exact Nat.le_refl _⟩,⟨by (repeat (first|(with_reducible first|refine blk_drewN ?_ _|refine blk_drew ?_|refine blk_alloc ?_ _)|refine blk_far ?_ NB194_195.out _));exact BK194.out⟩,⟨gB BK195.out⟩,⟨bw2 HB.out GE194.out GE195.out⟩⟩
     ·rw [if_neg c22]at H;have c22b0:(a0_0==1)=false:=beq_eq_false_iff_ne.mpr c22;have c22b1:(a0_0 !=1)=true:=bne_iff_ne.mpr c22
      (first|rw [c22b0]|(simp only[i64_w,i32_w];rw [c22b0])|skip)
      have H':=Ax H;clear H;go_wp2;go_meet
      case rel=>exact⟨_,((a0_0==2)),rS,H',⟨by have:=HJ1.out;first|omega|exact Nat.le_refl _⟩,⟨by (repeat (first|(with_reducible first|refine blk_drewN ?_ _|refine blk_drew ?_|refine blk_alloc ?_ _)|refine blk_far ?_ NB194_195.out _));exact BK194.out⟩,⟨gB BK195.out⟩,⟨bw2 HB.out GE194.out GE195.out⟩⟩
    case rest=>
     clear HC16;(try clear c1);(try clear c2);(try clear p2 p2);(try clear c4);(try clear c4b0);(try clear c6);(try clear c6b0);(try clear c8);(try clear c8b0);(try clear c10);(try clear c10b0);(try clear c12);(try clear c12b0);(try clear c14);(try clear c15);(try clear c19);(try clear c22);(try clear c22b0);(try clear c22b1);(try clear hcz11_0 hcz11_1 hcz11_10 hcz11_11 hcz11_2 hcz11_3 hcz11_4 hcz11_5 hcz11_6 hcz11_7 hcz11_8 hcz11_9);(try clear hcz13_0 hcz13_1 hcz13_10 hcz13_11 hcz13_2 hcz13_3 hcz13_4 hcz13_5 hcz13_6 hcz13_7 hcz13_8 hcz13_9);(try clear hcz14_0 hcz14_1 hcz14_10 hcz14_11 hcz14_2 hcz14_3 hcz14_4 hcz14_5 hcz14_6 hcz14_7 hcz14_8 hcz14_9);(try clear hcz17_0 hcz17_1 hcz17_10 hcz17_11 hcz17_2 hcz17_3 hcz17_4 hcz17_5 hcz17_6 hcz17_7 hcz17_8 hcz17_9);(try clear hcz20_0 hcz20_1 hcz20_10 hcz20_11 hcz20_2 hcz20_3 hcz20_4 hcz20_5 hcz20_6 hcz20_7 hcz20_8 hcz20_9);(try clear hcz21_0 hcz21_1 hcz21_10 hcz21_11 hcz21_2 hcz21_3 hcz21_4 hcz21_5 hcz21_6 hcz21_7 hcz21_8 hcz21_9);(try clear hcz5_0 hcz5_1 hcz5_10 hcz5_11 hcz5_2 hcz5_3 hcz5_4 hcz5_5 hcz5_6 hcz5_7 hcz5_8 hcz5_9);(try clear hcz7_0 hcz7_1 hcz7_10 hcz7_11 hcz7_2 hcz7_3 hcz7_4 hcz7_5 hcz7_6 hcz7_7 hcz7_8 hcz7_9);(try clear hcz9_0 hcz9_1 hcz9_10 hcz9_11 hcz9_2 hcz9_3 hcz9_4 hcz9_5 hcz9_6 hcz9_7 hcz9_8 hcz9_9);(try clear hfz11_0 hfz11_1 hfz11_10 hfz11_11 hfz11_2 hfz11_3 hfz11_4 hfz11_5 hfz11_6 hfz11_7 hfz11_8 hfz11_9);(try clear hfz13_0 hfz13_1 hfz13_10 hfz13_11 hfz13_2 hfz13_3 hfz13_4 hfz13_5 hfz13_6 hfz13_7 hfz13_8 hfz13_9);(try clear hfz14_0 hfz14_1 hfz14_10 hfz14_11 hfz14_2 hfz14_3 hfz14_4 hfz14_5 hfz14_6 hfz14_7 hfz14_8 hfz14_9);(try clear hfz17_0 hfz17_1 hfz17_10 hfz17_11 hfz17_2 hfz17_3 hfz17_4 hfz17_5 hfz17_6 hfz17_7 hfz17_8 hfz17_9);(try clear hfz20_0 hfz20_1 hfz20_10 hfz20_11 hfz20_2 hfz20_3 hfz20_4 hfz20_5 hfz20_6 hfz20_7 hfz20_8 hfz20_9);(try clear hfz21_0 hfz21_1 hfz21_10 hfz21_11 hfz21_2 hfz21_3 hfz21_4 hfz21_5 hfz21_6 hfz21_7 hfz21_8 hfz21_9);(try clear hfz5_0 hfz5_1 hfz5_10 hfz5_11 hfz5_2 hfz5_3 hfz5_4 hfz5_5 hfz5_6 hfz5_7 hfz5_8 hfz5_9);(try clear hfz7_0 hfz7_1 hfz7_10 hfz7_11 hfz7_2 hfz7_3 hfz7_4 hfz7_5 hfz7_6 hfz7_7 hfz7_8 hfz7_9);(try clear hfz9_0 hfz9_1 hfz9_10 hfz9_11 hfz9_2 hfz9_3 hfz9_4 hfz9_5 hfz9_6 hfz9_7 hfz9_8 hfz9_9);obtain⟨kq,x44_15,rfl,HA,HJ15,BK194,BK195,HB⟩:=hcut;cases kq with
     |zero=>exact absurd HA.out (by simp [spoorref11_Check.j1])
     |succ kj15=>
      have H:=HA.out;clear HA;simp only[spoorref11_Check.j1]at H;by_cases c23:x44_15=true
      ·subst c23;have H1:(if true=true then (if (!(a0_0==a0_0)||(!(a0_1==a0_1)||(!(a0_2==a0_2)||(!(a0_3==a0_3)||((!(false==a0_4)||((!(0==a0_5)||(!(0==a0_6)))||(!(0==a0_7))))||((!(0==a0_8)||(!(0==a0_9)))||(!(0==a0_10)||(!(0==a0_11)))))))))=true then (some 2) else (some 0)) else (some 2))=some r:=by rw [if_pos rfl]at H;exact H
       clear H;have H:=H1;clear H1;replace H:(if (!(a0_0==a0_0)||(!(a0_1==a0_1)||(!(a0_2==a0_2)||(!(a0_3==a0_3)||((!(false==a0_4)||((!(0==a0_5)||(!(0==a0_6)))||(!(0==a0_7))))||((!(0==a0_8)||(!(0==a0_9)))||(!(0==a0_10)||(!(0==a0_11)))))))))=true then (some 2) else (some 0))=some r:=by rw [if_pos rfl]at H;exact H
       by_cases c24:(!(a0_0==a0_0)||(!(a0_1==a0_1)||(!(a0_2==a0_2)||(!(a0_3==a0_3)||((!(false==a0_4)||((!(0==a0_5)||(!(0==a0_6)))||(!(0==a0_7))))||((!(0==a0_8)||(!(0==a0_9)))||(!(0==a0_10)||(!(0==a0_11)))))))))=true
       ·rw [if_pos c24]at H;have c24b0:(!(a0_0==a0_0)||(!(a0_1==a0_1)||(!(a0_2==a0_2)||(!(a0_3==a0_3)||((!(false==a0_4)||((!(0==a0_5)||(!(0==a0_6)))||(!(0==a0_7))))||((!(0==a0_8)||(!(0==a0_9)))||(!(0==a0_10)||(!(0==a0_11)))))))))=true:=c24
        (try (have c24b1:((a0_4||((!(0==a0_5)||(!(0==a0_6)))||(!(0==a0_7))))||((!(0==a0_8)||(!(0==a0_9)))||(!(0==a0_10)||(!(0==a0_11)))))=true:=by simpa using c24))
        clear c24;obtain rfl:=Option.some.inj H;have hnb25:=NB195_194.out;have hnc25:=NB194_195.out;obtain⟨hcz26_0,hcz26_1,hcz26_2,hcz26_3,hcz26_4,hcz26_5,hcz26_6,hcz26_7,hcz26_8,hcz26_9,hcz26_10,hcz26_11,hfz26_0,hfz26_1,hfz26_2,hfz26_3,hfz26_4,hfz26_5,hfz26_6,hfz26_7,hfz26_8,hfz26_9,hfz26_10,hfz26_11⟩:=cl12 BK195;obtain⟨hcz27_0,hcz27_1,hcz27_2,hcz27_3,hcz27_4,hcz27_5,hcz27_6,hcz27_7,hcz27_8,hcz27_9,hcz27_10,hcz27_11,hfz27_0,hfz27_1,hfz27_2,hfz27_3,hfz27_4,hfz27_5,hfz27_6,hfz27_7,hfz27_8,hfz27_9,hfz27_10,hfz27_11⟩:=cl12 BK194;go_wp2;go_ret;exact⟨eS,bw2 HB.out GE194.out GE195.out⟩
       ·rw [if_neg c24]at H;have c24b0:(!(a0_0==a0_0)||(!(a0_1==a0_1)||(!(a0_2==a0_2)||(!(a0_3==a0_3)||((!(false==a0_4)||((!(0==a0_5)||(!(0==a0_6)))||(!(0==a0_7))))||((!(0==a0_8)||(!(0==a0_9)))||(!(0==a0_10)||(!(0==a0_11)))))))))=false:=by simpa using c24
        (try (have c24b1:((a0_4||((!(0==a0_5)||(!(0==a0_6)))||(!(0==a0_7))))||((!(0==a0_8)||(!(0==a0_9)))||(!(0==a0_10)||(!(0==a0_11)))))=false:=by simpa using c24))
        clear c24;obtain rfl:=Option.some.inj H;have hnb28:=NB195_194.out;have hnc28:=NB194_195.out;obtain⟨hcz29_0,hcz29_1,hcz29_2,hcz29_3,hcz29_4,hcz29_5,hcz29_6,hcz29_7,hcz29_8,hcz29_9,hcz29_10,hcz29_11,hfz29_0,hfz29_1,hfz29_2,hfz29_3,hfz29_4,hfz29_5,hfz29_6,hfz29_7,hfz29_8,hfz29_9,hfz29_10,hfz29_11⟩:=cl12 BK195;obtain⟨hcz30_0,hcz30_1,hcz30_2,hcz30_3,hcz30_4,hcz30_5,hcz30_6,hcz30_7,hcz30_8,hcz30_9,hcz30_10,hcz30_11,hfz30_0,hfz30_1,hfz30_2,hfz30_3,hfz30_4,hfz30_5,hfz30_6,hfz30_7,hfz30_8,hfz30_9,hfz30_10,hfz30_11⟩:=cl12 BK194;go_wp2;go_ret;exact⟨eS,bw2 HB.out GE194.out GE195.out⟩
      ·replace c23:=Bool.eq_false_iff.mpr c23;subst c23;have H1:(if a0_0=3 then ((spoorref09_Check.f kj15 a0_4 a0_5 a0_6 a0_7).bind fun t196=>(if t196=0 then ((spoorref11_Acts.f a0_8 a0_9).bind fun t197=>(if t197=true then (if (!(a0_0==a0_0)||(!(a0_1==a0_1)||(!(a0_2==a0_2)||(!(a0_3==a0_3)||(!(0==a0_10)||(!(0==a0_11)))))))=true then (some 2) else (some 0)) else (some 2))) else (some 2))) else (if a0_0=4 then ((spoorref09_Check.f kj15 a0_4 a0_5 a0_6 a0_7).bind fun t198=>(if t198=0 then (if (!(a0_0==a0_0)||(!(a0_1==a0_1)||(!(a0_2==a0_2)||(!(a0_3==a0_3)||((!(0==a0_8)||(!(0==a0_9)))||(!(0==a0_10)||(!(0==a0_11))))))))=true then (some 2) else (some 0)) else (some 2))) else (if a0_0=5 then (if a0_10 ≥ 0 then (if a0_10≤65536 then (if a0_11 ≥ 0 then (if a0_11≤1048576 then (if (!(a0_0==a0_0)||(!(a0_1==a0_1)||(!(a0_2==a0_2)||(!(a0_3==a0_3)||((!(false==a0_4)||((!(0==a0_5)||(!(0==a0_6)))||(!(0==a0_7))))||((!(0==a0_8)||(!(0==a0_9)))))))))=true then (some 2) else (some 0)) else (some 2)) else (some 2)) else (some 2)) else (some 2)) else (if a0_0=6 then (if a0_10 ≥ 0 then (if a0_10≤65536 then (if (!(a0_0==a0_0)||(!(a0_1==a0_1)||(!(a0_2==a0_2)||(!(a0_3==a0_3)||((!(false==a0_4)||((!(0==a0_5)||(!(0==a0_6)))||(!(0==a0_7))))||((!(0==a0_8)||(!(0==a0_9)))||(!(0==a0_11))))))))=true then (some 2) else (some 0)) else (some 2)) else (some 2)) else (some 2)))))=some r:=by rw [if_neg (show ¬ (false=true) by decide)]at H;exact H
       clear H;have H:=H1;clear H1;by_cases c31:a0_0=3
       ·rw [if_pos c31]at H;have c31b0:(a0_0==3)=true:=beq_iff_eq.mpr c31;have c31b1:(a0_0 !=3)=false:=bne_eq_false_iff_eq.mpr c31;clear c31;replace H:=Option.bind_eq_some_iff.mp H;obtain⟨t196,A320,H⟩:=H;replace H:(if t196=0 then ((spoorref11_Acts.f a0_8 a0_9).bind fun t197=>(if t197=true then (if (!(a0_0==a0_0)||(!(a0_1==a0_1)||(!(a0_2==a0_2)||(!(a0_3==a0_3)||(!(0==a0_10)||(!(0==a0_11)))))))=true then (some 2) else (some 0)) else (some 2))) else (some 2))=some r:=H;have A32:=Ax A320;clear A320;by_cases c33:t196=0
        ·rw [if_pos c33]at H;have c33b0:(t196==0)=true:=beq_iff_eq.mpr c33;have c33b1:(t196 !=0)=false:=bne_eq_false_iff_eq.mpr c33;clear c33;replace H:=Option.bind_eq_some_iff.mp H;obtain⟨t197,A340,H⟩:=H;replace H:(if t197=true then (if (!(a0_0==a0_0)||(!(a0_1==a0_1)||(!(a0_2==a0_2)||(!(a0_3==a0_3)||(!(0==a0_10)||(!(0==a0_11)))))))=true then (some 2) else (some 0)) else (some 2))=some r:=H;have A34:=Ax A340;clear A340;by_cases c35:t197=true
         ·subst c35;have H1:(if (!(a0_0==a0_0)||(!(a0_1==a0_1)||(!(a0_2==a0_2)||(!(a0_3==a0_3)||(!(0==a0_10)||(!(0==a0_11)))))))=true then (some 2) else (some 0))=some r:=by rw [if_pos rfl]at H;exact H
          clear H;have H:=H1;clear H1;by_cases c36:(!(a0_0==a0_0)||(!(a0_1==a0_1)||(!(a0_2==a0_2)||(!(a0_3==a0_3)||(!(0==a0_10)||(!(0==a0_11)))))))=true
          ·rw [if_pos c36]at H;have c36b0:(!(a0_0==a0_0)||(!(a0_1==a0_1)||(!(a0_2==a0_2)||(!(a0_3==a0_3)||(!(0==a0_10)||(!(0==a0_11)))))))=true:=c36
           (try (have c36b1:(!(0==a0_10)||(!(0==a0_11)))=true:=by simpa using c36))
           clear c36;obtain rfl:=Option.some.inj H;try go_wp2
           replace BK194:=Ax (blk_drew BK194.out);replace BK195:=Ax (blk_drew BK195.out);replace HB:=Ax (below_drew1 HB.out);refine start_ (n:=8) (S:=fun w'=>w'.cell? ⟨gb194,0,none⟩=some (.int .u8 a0_0)∧w'.cell? ⟨gb194,1,none⟩=some (.int .i64 a0_1)∧w'.cell? ⟨gb194,2,none⟩=some (.int .u64 a0_2)∧w'.cell? ⟨gb194,3,none⟩=some (.int .i64 a0_3)∧w'.cell? ⟨gb194,4,none⟩=some (.bool a0_4)∧w'.cell? ⟨gb194,5,none⟩=some (.int .u64 a0_5)∧w'.cell? ⟨gb194,6,none⟩=some (.int .u64 a0_6)∧w'.cell? ⟨gb194,7,none⟩=some (.int .i64 a0_7)∧w'.cell? ⟨gb194,8,none⟩=some (.int .u8 a0_8)∧w'.cell? ⟨gb194,9,none⟩=some (.int .i64 a0_9)∧w'.cell? ⟨gb194,10,none⟩=some (.int .i64 a0_10)∧w'.cell? ⟨gb194,11,none⟩=some (.int .i64 a0_11)) (ds:= []) #[Y,Y,Y,Y,Y,Y,Y,Y] (by kernel_rfl) rfl rfl (bqc12 BK194.out) (fun hHeld=>?_);refine with_tabW spoorref11_Check.tab10 spoorref11_Check.bits10 (fun HT_ HW_=>?_);generalize wc.drew=w37 at BK194 BK195 HB hHeld ⊢;refine pz 0 49 #[Z,Y,Y,Y,Y,Y,Y,Y] HT_.out ?_
           refine pz 2 51 #[Z,Y,Z,Y,Y,Y,Y,Y] HT_.out ?_
           refine take_ (i:=1) (N:=some 50) (v:=?_) (a':=?_) #[Z,Z,Z,Y,Y,Y,Y,Y] rfl rfl (take_ofW HT_.out HW_.out (by kernel_rfl)) (fun _ _ _ h=>h) (Or.inl ⟨by rfl,?_⟩) hHeld ?_ ?_;rotate_left
           ·rintro w' ⟨s0,s1,s2,s3,s4,s5,s6,s7,s8,s9,s10,s11⟩
            go_simp;with_reducible rfl
           rotate_left;·simp only[sP];rfl
           refine pz 4 53 #[Z,Z,Z,Y,Z,Y,Y,Y] HT_.out ?_
           refine take_ (i:=3) (N:=some 52) (v:=?_) (a':=?_) #[Z,Z,Z,Z,Z,Y,Y,Y] rfl rfl (take_ofW HT_.out HW_.out (by kernel_rfl)) (fun _ _ _ h=>h) (Or.inl ⟨by rfl,?_⟩) hHeld ?_ ?_;rotate_left
           ·rintro w' ⟨s0,s1,s2,s3,s4,s5,s6,s7,s8,s9,s10,s11⟩
            go_simp;with_reducible rfl
           rotate_left;·simp only[sP];rfl
           refine one_ (i:=5) (N:=none) #[Z,Z,Z,Z,Z,Z,Y,Y] rfl rfl (one_of HT_.out (by kernel_rfl)) (by decide) (fun K hK=>?_);have hs38:w37.cell? ⟨gb195,4,none⟩=some (.bool false):=(blk_cell BK195.out 4).trans rfl;have hfs38:=blk_frozen BK195.out 4;have hns38_0:=NB194_195.out;have hms38_0:=NB195_194.out;have hs39:w37.cell? ⟨gb195,5,none⟩=some (.int .u64 0):=(blk_cell BK195.out 5).trans rfl;have hfs39:=blk_frozen BK195.out 5;have hns39_0:=NB194_195.out;have hms39_0:=NB195_194.out;have hs40:w37.cell? ⟨gb195,6,none⟩=some (.int .u64 0):=(blk_cell BK195.out 6).trans rfl;have hfs40:=blk_frozen BK195.out 6;have hns40_0:=NB194_195.out;have hms40_0:=NB195_194.out;have hs41:w37.cell? ⟨gb195,7,none⟩=some (.int .i64 0):=(blk_cell BK195.out 7).trans rfl;have hfs41:=blk_frozen BK195.out 7;have hns41_0:=NB194_195.out;have hms41_0:=NB195_194.out;refine skip_ (w1:=?_) (by rfl) rfl ?_ ?_;rotate_left;·go_simp;rfl
           refine hK.out _ _ ⟨(cqf NB194_195.out ((cqf NB194_195.out ((cqf NB194_195.out ((cqf NB194_195.out (hHeld.1)))))))),(cqf NB194_195.out ((cqf NB194_195.out ((cqf NB194_195.out ((cqf NB194_195.out (hHeld.2.1)))))))),(cqf NB194_195.out ((cqf NB194_195.out ((cqf NB194_195.out ((cqf NB194_195.out (hHeld.2.2.1)))))))),(cqf NB194_195.out ((cqf NB194_195.out ((cqf NB194_195.out ((cqf NB194_195.out (hHeld.2.2.2.1)))))))),(cqf NB194_195.out ((cqf NB194_195.out ((cqf NB194_195.out ((cqf NB194_195.out (hHeld.2.2.2.2.1)))))))),(cqf NB194_195.out ((cqf NB194_195.out ((cqf NB194_195.out ((cqf NB194_195.out (hHeld.2.2.2.2.2.1)))))))),(cqf NB194_195.out ((cqf NB194_195.out ((cqf NB194_195.out ((cqf NB194_195.out (hHeld.2.2.2.2.2.2.1)))))))),(cqf NB194_195.out ((cqf NB194_195.out ((cqf NB194_195.out ((cqf NB194_195.out (hHeld.2.2.2.2.2.2.2.1)))))))),(cqf NB194_195.out ((cqf NB194_195.out ((cqf NB194_195.out ((cqf NB194_195.out (hHeld.2.2.2.2.2.2.2.2.1)))))))),(cqf NB194_195.out ((cqf NB194_195.out ((cqf NB194_195.out ((cqf NB194_195.out (hHeld.2.2.2.2.2.2.2.2.2.1)))))))),(cqf NB194_195.out ((cqf NB194_195.out ((cqf NB194_195.out ((cqf NB194_195.out (hHeld.2.2.2.2.2.2.2.2.2.2.1)))))))),(cqf NB194_195.out ((cqf NB194_195.out ((cqf NB194_195.out ((cqf NB194_195.out (hHeld.2.2.2.2.2.2.2.2.2.2.2))))))))⟩ (fun hHeld=>?_);clear hK K;refine pz 6 54 #[Z,Z,Z,Z,Z,Z,Z,Y] HT_.out ?_
           refine one_ (i:=7) (N:=none) #[Z,Z,Z,Z,Z,Z,Z,Z] rfl rfl (one_of HT_.out (by kernel_rfl)) (by decide) (fun K hK=>?_);have hs42:w37.cell? ⟨gb195,8,none⟩=some (.int .u8 0):=(blk_cell BK195.out 8).trans rfl;have hfs42:=blk_frozen BK195.out 8;have hns42_0:=NB194_195.out;have hms42_0:=NB195_194.out;have hs43:w37.cell? ⟨gb195,9,none⟩=some (.int .i64 0):=(blk_cell BK195.out 9).trans rfl;have hfs43:=blk_frozen BK195.out 9;have hns43_0:=NB194_195.out;have hms43_0:=NB195_194.out;refine skip_ (w1:=?_) (by rfl) rfl ?_ ?_;rotate_left;·go_simp;rfl
           refine hK.out _ _ ⟨(cqf NB194_195.out ((cqf NB194_195.out (hHeld.1)))),(cqf NB194_195.out ((cqf NB194_195.out (hHeld.2.1)))),(cqf NB194_195.out ((cqf NB194_195.out (hHeld.2.2.1)))),(cqf NB194_195.out ((cqf NB194_195.out (hHeld.2.2.2.1)))),(cqf NB194_195.out ((cqf NB194_195.out (hHeld.2.2.2.2.1)))),(cqf NB194_195.out ((cqf NB194_195.out (hHeld.2.2.2.2.2.1)))),(cqf NB194_195.out ((cqf NB194_195.out (hHeld.2.2.2.2.2.2.1)))),(cqf NB194_195.out ((cqf NB194_195.out (hHeld.2.2.2.2.2.2.2.1)))),(cqf NB194_195.out ((cqf NB194_195.out (hHeld.2.2.2.2.2.2.2.2.1)))),(cqf NB194_195.out ((cqf NB194_195.out (hHeld.2.2.2.2.2.2.2.2.2.1)))),(cqf NB194_195.out ((cqf NB194_195.out (hHeld.2.2.2.2.2.2.2.2.2.2.1)))),(cqf NB194_195.out ((cqf NB194_195.out (hHeld.2.2.2.2.2.2.2.2.2.2.2))))⟩ (fun hHeld=>?_);clear hK K;refine done_ (done_of HT_.out (by kernel_rfl)) ?_;have hnb44:=NB194_195.out;have hnc44:=NB195_194.out;obtain⟨hcz45_0,hcz45_1,hcz45_2,hcz45_3,hcz45_4,hcz45_5,hcz45_6,hcz45_7,hcz45_8,hcz45_9,hcz45_10,hcz45_11,hfz45_0,hfz45_1,hfz45_2,hfz45_3,hfz45_4,hfz45_5,hfz45_6,hfz45_7,hfz45_8,hfz45_9,hfz45_10,hfz45_11⟩:=cl12 BK194;try go_wp2_with (first|((with_reducible refine gate_callee (f:=36) rfl ?_);refine goesL_ (some 57) rfl rfl Try.func36 (by kernel_rfl) rfl #[.agg #[.bool a0_4,.int .u64 a0_5,.int .u64 a0_6,.int .i64 a0_7]] rfl gS ?_;(with_reducible refine (spoorref09_Check.calls kj15 a0_4 a0_5 a0_6 a0_7 t196 _ A32.out).mono ?_);rintro e w46 ⟨rfl,hb⟩;refine⟨_,rfl,?_⟩;have n0_:=Bx6 BK194 hb NB194_195.out NB194_195.out NB194_195.out NB194_195.out NB194_195.out NB194_195.out;have n1_:=Ax (blk_below (g:=gb195) (o:=.cells #[.int .u8 a0_0,.int .i64 a0_1,.int .u64 a0_2,.int .i64 a0_3,.bool a0_4,.int .u64 a0_5,.int .u64 a0_6,.int .i64 a0_7,.int .u8 a0_8,.int .i64 a0_9,.int .i64 0,.int .i64 0] 32 (0,0)) (gB BK195.out) hb);have n2_:=Bs2 HB hb GE194.out GE195.out;clear BK194;clear BK195;clear HB;have BK194:=n0_;have BK195:=n1_;have HB:=n2_;clear n0_ n1_ n2_;(try clear hb);obtain⟨hcz47_0,hcz47_1,hcz47_2,hcz47_3,hcz47_4,hcz47_5,hcz47_6,hcz47_7,hcz47_8,hcz47_9,hcz47_10,hcz47_11,hfz47_0,hfz47_1,hfz47_2,hfz47_3,hfz47_4,hfz47_5,hfz47_6,hfz47_7,hfz47_8,hfz47_9,hfz47_10,hfz47_11⟩:=cl12 BK194)|(go_at_call 37;(with_reducible refine (spoorref11_Acts.calls a0_8 a0_9 true _ A34.out).mono ?_);rintro e w48 ⟨rfl,hb⟩;replace BK194:=Bx0 BK194 hb;replace BK195:=Bx0 BK195 hb;replace HB:=Bs2 HB hb GE194.out GE195.out;(try clear hb);obtain⟨hcz49_0,hcz49_1,hcz49_2,hcz49_3,hcz49_4,hcz49_5,hcz49_6,hcz49_7,hcz49_8,hcz49_9,hcz49_10,hcz49_11,hfz49_0,hfz49_1,hfz49_2,hfz49_3,hfz49_4,hfz49_5,hfz49_6,hfz49_7,hfz49_8,hfz49_9,hfz49_10,hfz49_11⟩:=cl12 BK195;obtain⟨hcz50_0,hcz50_1,hcz50_2,hcz50_3,hcz50_4,hcz50_5,hcz50_6,hcz50_7,hcz50_8,hcz50_9,hcz50_10,hcz50_11,hfz50_0,hfz50_1,hfz50_2,hfz50_3,hfz50_4,hfz50_5,hfz50_6,hfz50_7,hfz50_8,hfz50_9,hfz50_10,hfz50_11⟩:=cl12 BK194))
           go_ret;exact⟨eS,bw2 HB.out GE194.out GE195.out⟩
          ·rw [if_neg c36]at H;have c36b0:(!(a0_0==a0_0)||(!(a0_1==a0_1)||(!(a0_2==a0_2)||(!(a0_3==a0_3)||(!(0==a0_10)||(!(0==a0_11)))))))=false:=by simpa using c36
           (try (have c36b1:(!(0==a0_10)||(!(0==a0_11)))=false:=by simpa using c36))
           clear c36;obtain rfl:=Option.some.inj H;try go_wp2
           replace BK194:=Ax (blk_drew BK194.out);replace BK195:=Ax (blk_drew BK195.out);replace HB:=Ax (below_drew1 HB.out);refine start_ (n:=8) (S:=fun w'=>w'.cell? ⟨gb194,0,none⟩=some (.int .u8 a0_0)∧w'.cell? ⟨gb194,1,none⟩=some (.int .i64 a0_1)∧w'.cell? ⟨gb194,2,none⟩=some (.int .u64 a0_2)∧w'.cell? ⟨gb194,3,none⟩=some (.int .i64 a0_3)∧w'.cell? ⟨gb194,4,none⟩=some (.bool a0_4)∧w'.cell? ⟨gb194,5,none⟩=some (.int .u64 a0_5)∧w'.cell? ⟨gb194,6,none⟩=some (.int .u64 a0_6)∧w'.cell? ⟨gb194,7,none⟩=some (.int .i64 a0_7)∧w'.cell? ⟨gb194,8,none⟩=some (.int .u8 a0_8)∧w'.cell? ⟨gb194,9,none⟩=some (.int .i64 a0_9)∧w'.cell? ⟨gb194,10,none⟩=some (.int .i64 a0_10)∧w'.cell? ⟨gb194,11,none⟩=some (.int .i64 a0_11)) (ds:= []) #[Y,Y,Y,Y,Y,Y,Y,Y] (by kernel_rfl) rfl rfl (bqc12 BK194.out) (fun hHeld=>?_);refine with_tabW spoorref11_Check.tab10 spoorref11_Check.bits10 (fun HT_ HW_=>?_);generalize wc.drew=w51 at BK194 BK195 HB hHeld ⊢;refine pz 0 49 #[Z,Y,Y,Y,Y,Y,Y,Y] HT_.out ?_
           refine pz 2 51 #[Z,Y,Z,Y,Y,Y,Y,Y] HT_.out ?_
           refine take_ (i:=1) (N:=some 50) (v:=?_) (a':=?_) #[Z,Z,Z,Y,Y,Y,Y,Y] rfl rfl (take_ofW HT_.out HW_.out (by kernel_rfl)) (fun _ _ _ h=>h) (Or.inl ⟨by rfl,?_⟩) hHeld ?_ ?_;rotate_left
           ·rintro w' ⟨s0,s1,s2,s3,s4,s5,s6,s7,s8,s9,s10,s11⟩
            go_simp;with_reducible rfl
           rotate_left;·simp only[sP];rfl
           refine pz 4 53 #[Z,Z,Z,Y,Z,Y,Y,Y] HT_.out ?_
           refine take_ (i:=3) (N:=some 52) (v:=?_) (a':=?_) #[Z,Z,Z,Z,Z,Y,Y,Y] rfl rfl (take_ofW HT_.out HW_.out (by kernel_rfl)) (fun _ _ _ h=>h) (Or.inl ⟨by rfl,?_⟩) hHeld ?_ ?_;rotate_left
           ·rintro w' ⟨s0,s1,s2,s3,s4,s5,s6,s7,s8,s9,s10,s11⟩
            go_simp;with_reducible rfl
           rotate_left;·simp only[sP];rfl
           refine one_ (i:=5) (N:=none) #[Z,Z,Z,Z,Z,Z,Y,Y] rfl rfl (one_of HT_.out (by kernel_rfl)) (by decide) (fun K hK=>?_);have hs52:w51.cell? ⟨gb195,4,none⟩=some (.bool false):=(blk_cell BK195.out 4).trans rfl;have hfs52:=blk_frozen BK195.out 4;have hns52_0:=NB194_195.out;have hms52_0:=NB195_194.out;have hs53:w51.cell? ⟨gb195,5,none⟩=some (.int .u64 0):=(blk_cell BK195.out 5).trans rfl;have hfs53:=blk_frozen BK195.out 5;have hns53_0:=NB194_195.out;have hms53_0:=NB195_194.out;have hs54:w51.cell? ⟨gb195,6,none⟩=some (.int .u64 0):=(blk_cell BK195.out 6).trans rfl;have hfs54:=blk_frozen BK195.out 6;have hns54_0:=NB194_195.out;have hms54_0:=NB195_194.out;have hs55:w51.cell? ⟨gb195,7,none⟩=some (.int .i64 0):=(blk_cell BK195.out 7).trans rfl;have hfs55:=blk_frozen BK195.out 7;have hns55_0:=NB194_195.out;have hms55_0:=NB195_194.out;refine skip_ (w1:=?_) (by rfl) rfl ?_ ?_;rotate_left;·go_simp;rfl
           refine hK.out _ _ ⟨(cqf NB194_195.out ((cqf NB194_195.out ((cqf NB194_195.out ((cqf NB194_195.out (hHeld.1)))))))),(cqf NB194_195.out ((cqf NB194_195.out ((cqf NB194_195.out ((cqf NB194_195.out (hHeld.2.1)))))))),(cqf NB194_195.out ((cqf NB194_195.out ((cqf NB194_195.out ((cqf NB194_195.out (hHeld.2.2.1)))))))),(cqf NB194_195.out ((cqf NB194_195.out ((cqf NB194_195.out ((cqf NB194_195.out (hHeld.2.2.2.1)))))))),(cqf NB194_195.out ((cqf NB194_195.out ((cqf NB194_195.out ((cqf NB194_195.out (hHeld.2.2.2.2.1)))))))),(cqf NB194_195.out ((cqf NB194_195.out ((cqf NB194_195.out ((cqf NB194_195.out (hHeld.2.2.2.2.2.1)))))))),(cqf NB194_195.out ((cqf NB194_195.out ((cqf NB194_195.out ((cqf NB194_195.out (hHeld.2.2.2.2.2.2.1)))))))),(cqf NB194_195.out ((cqf NB194_195.out ((cqf NB194_195.out ((cqf NB194_195.out (hHeld.2.2.2.2.2.2.2.1)))))))),(cqf NB194_195.out ((cqf NB194_195.out ((cqf NB194_195.out ((cqf NB194_195.out (hHeld.2.2.2.2.2.2.2.2.1)))))))),(cqf NB194_195.out ((cqf NB194_195.out ((cqf NB194_195.out ((cqf NB194_195.out (hHeld.2.2.2.2.2.2.2.2.2.1)))))))),(cqf NB194_195.out ((cqf NB194_195.out ((cqf NB194_195.out ((cqf NB194_195.out (hHeld.2.2.2.2.2.2.2.2.2.2.1)))))))),(cqf NB194_195.out ((cqf NB194_195.out ((cqf NB194_195.out ((cqf NB194_195.out (hHeld.2.2.2.2.2.2.2.2.2.2.2))))))))⟩ (fun hHeld=>?_);clear hK K;refine pz 6 54 #[Z,Z,Z,Z,Z,Z,Z,Y] HT_.out ?_
           refine one_ (i:=7) (N:=none) #[Z,Z,Z,Z,Z,Z,Z,Z] rfl rfl (one_of HT_.out (by kernel_rfl)) (by decide) (fun K hK=>?_);have hs56:w51.cell? ⟨gb195,8,none⟩=some (.int .u8 0):=(blk_cell BK195.out 8).trans rfl;have hfs56:=blk_frozen BK195.out 8;have hns56_0:=NB194_195.out;have hms56_0:=NB195_194.out;have hs57:w51.cell? ⟨gb195,9,none⟩=some (.int .i64 0):=(blk_cell BK195.out 9).trans rfl;have hfs57:=blk_frozen BK195.out 9;have hns57_0:=NB194_195.out;have hms57_0:=NB195_194.out;refine skip_ (w1:=?_) (by rfl) rfl ?_ ?_;rotate_left;·go_simp;rfl
           refine hK.out _ _ ⟨(cqf NB194_195.out ((cqf NB194_195.out (hHeld.1)))),(cqf NB194_195.out ((cqf NB194_195.out (hHeld.2.1)))),(cqf NB194_195.out ((cqf NB194_195.out (hHeld.2.2.1)))),(cqf NB194_195.out ((cqf NB194_195.out (hHeld.2.2.2.1)))),(cqf NB194_195.out ((cqf NB194_195.out (hHeld.2.2.2.2.1)))),(cqf NB194_195.out ((cqf NB194_195.out (hHeld.2.2.2.2.2.1)))),(cqf NB194_195.out ((cqf NB194_195.out (hHeld.2.2.2.2.2.2.1)))),(cqf NB194_195.out ((cqf NB194_195.out (hHeld.2.2.2.2.2.2.2.1)))),(cqf NB194_195.out ((cqf NB194_195.out (hHeld.2.2.2.2.2.2.2.2.1)))),(cqf NB194_195.out ((cqf NB194_195.out (hHeld.2.2.2.2.2.2.2.2.2.1)))),(cqf NB194_195.out ((cqf NB194_195.out (hHeld.2.2.2.2.2.2.2.2.2.2.1)))),(cqf NB194_195.out ((cqf NB194_195.out (hHeld.2.2.2.2.2.2.2.2.2.2.2))))⟩ (fun hHeld=>?_);clear hK K;refine done_ (done_of HT_.out (by kernel_rfl)) ?_;have hnb58:=NB194_195.out;have hnc58:=NB195_194.out;obtain⟨hcz59_0,hcz59_1,hcz59_2,hcz59_3,hcz59_4,hcz59_5,hcz59_6,hcz59_7,hcz59_8,hcz59_9,hcz59_10,hcz59_11,hfz59_0,hfz59_1,hfz59_2,hfz59_3,hfz59_4,hfz59_5,hfz59_6,hfz59_7,hfz59_8,hfz59_9,hfz59_10,hfz59_11⟩:=cl12 BK194;try go_wp2_with (first|((with_reducible refine gate_callee (f:=36) rfl ?_);refine goesL_ (some 57) rfl rfl Try.func36 (by kernel_rfl) rfl #[.agg #[.bool a0_4,.int .u64 a0_5,.int .u64 a0_6,.int .i64 a0_7]] rfl gS ?_;(with_reducible refine (spoorref09_Check.calls kj15 a0_4 a0_5 a0_6 a0_7 t196 _ A32.out).mono ?_);rintro e w60 ⟨rfl,hb⟩;refine⟨_,rfl,?_⟩;have n0_:=Bx6 BK194 hb NB194_195.out NB194_195.out NB194_195.out NB194_195.out NB194_195.out NB194_195.out;have n1_:=Ax (blk_below (g:=gb195) (o:=.cells #[.int .u8 a0_0,.int .i64 a0_1,.int .u64 a0_2,.int .i64 a0_3,.bool a0_4,.int .u64 a0_5,.int .u64 a0_6,.int .i64 a0_7,.int .u8 a0_8,.int .i64 a0_9,.int .i64 0,.int .i64 0] 32 (0,0)) (gB BK195.out) hb);have n2_:=Bs2 HB hb GE194.out GE195.out;clear BK194;clear BK195;clear HB;have BK194:=n0_;have BK195:=n1_;have HB:=n2_;clear n0_ n1_ n2_;(try clear hb);obtain⟨hcz61_0,hcz61_1,hcz61_2,hcz61_3,hcz61_4,hcz61_5,hcz61_6,hcz61_7,hcz61_8,hcz61_9,hcz61_10,hcz61_11,hfz61_0,hfz61_1,hfz61_2,hfz61_3,hfz61_4,hfz61_5,hfz61_6,hfz61_7,hfz61_8,hfz61_9,hfz61_10,hfz61_11⟩:=cl12 BK194)|(go_at_call 37;(with_reducible refine (spoorref11_Acts.calls a0_8 a0_9 true _ A34.out).mono ?_);rintro e w62 ⟨rfl,hb⟩;replace BK194:=Bx0 BK194 hb;replace BK195:=Bx0 BK195 hb;replace HB:=Bs2 HB hb GE194.out GE195.out;(try clear hb);obtain⟨hcz63_0,hcz63_1,hcz63_2,hcz63_3,hcz63_4,hcz63_5,hcz63_6,hcz63_7,hcz63_8,hcz63_9,hcz63_10,hcz63_11,hfz63_0,hfz63_1,hfz63_2,hfz63_3,hfz63_4,hfz63_5,hfz63_6,hfz63_7,hfz63_8,hfz63_9,hfz63_10,hfz63_11⟩:=cl12 BK195;obtain⟨hcz64_0,hcz64_1,hcz64_2,hcz64_3,hcz64_4,hcz64_5,hcz64_6,hcz64_7,hcz64_8,hcz64_9,hcz64_10,hcz64_11,hfz64_0,hfz64_1,hfz64_2,hfz64_3,hfz64_4,hfz64_5,hfz64_6,hfz64_7,hfz64_8,hfz64_9,hfz64_10,hfz64_11⟩:=cl12 BK194))
           go_ret;exact⟨eS,bw2 HB.out GE194.out GE195.out⟩
         ·replace c35:=Bool.eq_false_iff.mpr c35;subst c35;have H1:(some 2)=some r:=by rw [if_neg (show ¬ (false=true) by decide)]at H;exact H
          clear H;have H:=H1;clear H1;obtain rfl:=Option.some.inj H;try go_wp2
          replace BK194:=Ax (blk_drew BK194.out);replace BK195:=Ax (blk_drew BK195.out);replace HB:=Ax (below_drew1 HB.out);refine start_ (n:=8) (S:=fun w'=>w'.cell? ⟨gb194,0,none⟩=some (.int .u8 a0_0)∧w'.cell? ⟨gb194,1,none⟩=some (.int .i64 a0_1)∧w'.cell? ⟨gb194,2,none⟩=some (.int .u64 a0_2)∧w'.cell? ⟨gb194,3,none⟩=some (.int .i64 a0_3)∧w'.cell? ⟨gb194,4,none⟩=some (.bool a0_4)∧w'.cell? ⟨gb194,5,none⟩=some (.int .u64 a0_5)∧w'.cell? ⟨gb194,6,none⟩=some (.int .u64 a0_6)∧w'.cell? ⟨gb194,7,none⟩=some (.int .i64 a0_7)∧w'.cell? ⟨gb194,8,none⟩=some (.int .u8 a0_8)∧w'.cell? ⟨gb194,9,none⟩=some (.int .i64 a0_9)∧w'.cell? ⟨gb194,10,none⟩=some (.int .i64 a0_10)∧w'.cell? ⟨gb194,11,none⟩=some (.int .i64 a0_11)) (ds:= []) #[Y,Y,Y,Y,Y,Y,Y,Y] (by kernel_rfl) rfl rfl (bqc12 BK194.out) (fun hHeld=>?_);refine with_tabW spoorref11_Check.tab10 spoorref11_Check.bits10 (fun HT_ HW_=>?_);generalize wc.drew=w65 at BK194 BK195 HB hHeld ⊢;refine pz 0 49 #[Z,Y,Y,Y,Y,Y,Y,Y] HT_.out ?_
          refine pz 2 51 #[Z,Y,Z,Y,Y,Y,Y,Y] HT_.out ?_
          refine take_ (i:=1) (N:=some 50) (v:=?_) (a':=?_) #[Z,Z,Z,Y,Y,Y,Y,Y] rfl rfl (take_ofW HT_.out HW_.out (by kernel_rfl)) (fun _ _ _ h=>h) (Or.inl ⟨by rfl,?_⟩) hHeld ?_ ?_;rotate_left
          ·rintro w' ⟨s0,s1,s2,s3,s4,s5,s6,s7,s8,s9,s10,s11⟩
           go_simp;with_reducible rfl
          rotate_left;·simp only[sP];rfl
          refine pz 4 53 #[Z,Z,Z,Y,Z,Y,Y,Y] HT_.out ?_
          refine take_ (i:=3) (N:=some 52) (v:=?_) (a':=?_) #[Z,Z,Z,Z,Z,Y,Y,Y] rfl rfl (take_ofW HT_.out HW_.out (by kernel_rfl)) (fun _ _ _ h=>h) (Or.inl ⟨by rfl,?_⟩) hHeld ?_ ?_;rotate_left
          ·rintro w' ⟨s0,s1,s2,s3,s4,s5,s6,s7,s8,s9,s10,s11⟩
           go_simp;with_reducible rfl
          rotate_left;·simp only[sP];rfl
          refine one_ (i:=5) (N:=none) #[Z,Z,Z,Z,Z,Z,Y,Y] rfl rfl (one_of HT_.out (by kernel_rfl)) (by decide) (fun K hK=>?_);have hs66:w65.cell? ⟨gb195,4,none⟩=some (.bool false):=(blk_cell BK195.out 4).trans rfl;have hfs66:=blk_frozen BK195.out 4;have hns66_0:=NB194_195.out;have hms66_0:=NB195_194.out;have hs67:w65.cell? ⟨gb195,5,none⟩=some (.int .u64 0):=(blk_cell BK195.out 5).trans rfl;have hfs67:=blk_frozen BK195.out 5;have hns67_0:=NB194_195.out;have hms67_0:=NB195_194.out;have hs68:w65.cell? ⟨gb195,6,none⟩=some (.int .u64 0):=(blk_cell BK195.out 6).trans rfl;have hfs68:=blk_frozen BK195.out 6;have hns68_0:=NB194_195.out;have hms68_0:=NB195_194.out;have hs69:w65.cell? ⟨gb195,7,none⟩=some (.int .i64 0):=(blk_cell BK195.out 7).trans rfl;have hfs69:=blk_frozen BK195.out 7;have hns69_0:=NB194_195.out;have hms69_0:=NB195_194.out;refine skip_ (w1:=?_) (by rfl) rfl ?_ ?_;rotate_left;·go_simp;rfl
          refine hK.out _ _ ⟨(cqf NB194_195.out ((cqf NB194_195.out ((cqf NB194_195.out ((cqf NB194_195.out (hHeld.1)))))))),(cqf NB194_195.out ((cqf NB194_195.out ((cqf NB194_195.out ((cqf NB194_195.out (hHeld.2.1)))))))),(cqf NB194_195.out ((cqf NB194_195.out ((cqf NB194_195.out ((cqf NB194_195.out (hHeld.2.2.1)))))))),(cqf NB194_195.out ((cqf NB194_195.out ((cqf NB194_195.out ((cqf NB194_195.out (hHeld.2.2.2.1)))))))),(cqf NB194_195.out ((cqf NB194_195.out ((cqf NB194_195.out ((cqf NB194_195.out (hHeld.2.2.2.2.1)))))))),(cqf NB194_195.out ((cqf NB194_195.out ((cqf NB194_195.out ((cqf NB194_195.out (hHeld.2.2.2.2.2.1)))))))),(cqf NB194_195.out ((cqf NB194_195.out ((cqf NB194_195.out ((cqf NB194_195.out (hHeld.2.2.2.2.2.2.1)))))))),(cqf NB194_195.out ((cqf NB194_195.out ((cqf NB194_195.out ((cqf NB194_195.out (hHeld.2.2.2.2.2.2.2.1)))))))),(cqf NB194_195.out ((cqf NB194_195.out ((cqf NB194_195.out ((cqf NB194_195.out (hHeld.2.2.2.2.2.2.2.2.1)))))))),(cqf NB194_195.out ((cqf NB194_195.out ((cqf NB194_195.out ((cqf NB194_195.out (hHeld.2.2.2.2.2.2.2.2.2.1)))))))),(cqf NB194_195.out ((cqf NB194_195.out ((cqf NB194_195.out ((cqf NB194_195.out (hHeld.2.2.2.2.2.2.2.2.2.2.1)))))))),(cqf NB194_195.out ((cqf NB194_195.out ((cqf NB194_195.out ((cqf NB194_195.out (hHeld.2.2.2.2.2.2.2.2.2.2.2))))))))⟩ (fun hHeld=>?_);clear hK K;refine pz 6 54 #[Z,Z,Z,Z,Z,Z,Z,Y] HT_.out ?_
          refine one_ (i:=7) (N:=none) #[Z,Z,Z,Z,Z,Z,Z,Z] rfl rfl (one_of HT_.out (by kernel_rfl)) (by decide) (fun K hK=>?_);have hs70:w65.cell? ⟨gb195,8,none⟩=some (.int .u8 0):=(blk_cell BK195.out 8).trans rfl;have hfs70:=blk_frozen BK195.out 8;have hns70_0:=NB194_195.out;have hms70_0:=NB195_194.out;have hs71:w65.cell? ⟨gb195,9,none⟩=some (.int .i64 0):=(blk_cell BK195.out 9).trans rfl;have hfs71:=blk_frozen BK195.out 9;have hns71_0:=NB194_195.out;have hms71_0:=NB195_194.out;refine skip_ (w1:=?_) (by rfl) rfl ?_ ?_;rotate_left;·go_simp;rfl
          refine hK.out _ _ ⟨(cqf NB194_195.out ((cqf NB194_195.out (hHeld.1)))),(cqf NB194_195.out ((cqf NB194_195.out (hHeld.2.1)))),(cqf NB194_195.out ((cqf NB194_195.out (hHeld.2.2.1)))),(cqf NB194_195.out ((cqf NB194_195.out (hHeld.2.2.2.1)))),(cqf NB194_195.out ((cqf NB194_195.out (hHeld.2.2.2.2.1)))),(cqf NB194_195.out ((cqf NB194_195.out (hHeld.2.2.2.2.2.1)))),(cqf NB194_195.out ((cqf NB194_195.out (hHeld.2.2.2.2.2.2.1)))),(cqf NB194_195.out ((cqf NB194_195.out (hHeld.2.2.2.2.2.2.2.1)))),(cqf NB194_195.out ((cqf NB194_195.out (hHeld.2.2.2.2.2.2.2.2.1)))),(cqf NB194_195.out ((cqf NB194_195.out (hHeld.2.2.2.2.2.2.2.2.2.1)))),(cqf NB194_195.out ((cqf NB194_195.out (hHeld.2.2.2.2.2.2.2.2.2.2.1)))),(cqf NB194_195.out ((cqf NB194_195.out (hHeld.2.2.2.2.2.2.2.2.2.2.2))))⟩ (fun hHeld=>?_);clear hK K;refine done_ (done_of HT_.out (by kernel_rfl)) ?_;have hnb72:=NB194_195.out;have hnc72:=NB195_194.out;obtain⟨hcz73_0,hcz73_1,hcz73_2,hcz73_3,hcz73_4,hcz73_5,hcz73_6,hcz73_7,hcz73_8,hcz73_9,hcz73_10,hcz73_11,hfz73_0,hfz73_1,hfz73_2,hfz73_3,hfz73_4,hfz73_5,hfz73_6,hfz73_7,hfz73_8,hfz73_9,hfz73_10,hfz73_11⟩:=cl12 BK194;try go_wp2_with (first|((with_reducible refine gate_callee (f:=36) rfl ?_);refine goesL_ (some 57) rfl rfl Try.func36 (by kernel_rfl) rfl #[.agg #[.bool a0_4,.int .u64 a0_5,.int .u64 a0_6,.int .i64 a0_7]] rfl gS ?_;(with_reducible refine (spoorref09_Check.calls kj15 a0_4 a0_5 a0_6 a0_7 t196 _ A32.out).mono ?_);rintro e w74 ⟨rfl,hb⟩;refine⟨_,rfl,?_⟩;have n0_:=Bx6 BK194 hb NB194_195.out NB194_195.out NB194_195.out NB194_195.out NB194_195.out NB194_195.out;have n1_:=Ax (blk_below (g:=gb195) (o:=.cells #[.int .u8 a0_0,.int .i64 a0_1,.int .u64 a0_2,.int .i64 a0_3,.bool a0_4,.int .u64 a0_5,.int .u64 a0_6,.int .i64 a0_7,.int .u8 a0_8,.int .i64 a0_9,.int .i64 0,.int .i64 0] 32 (0,0)) (gB BK195.out) hb);have n2_:=Bs2 HB hb GE194.out GE195.out;clear BK194;clear BK195;clear HB;have BK194:=n0_;have BK195:=n1_;have HB:=n2_;clear n0_ n1_ n2_;(try clear hb);obtain⟨hcz75_0,hcz75_1,hcz75_2,hcz75_3,hcz75_4,hcz75_5,hcz75_6,hcz75_7,hcz75_8,hcz75_9,hcz75_10,hcz75_11,hfz75_0,hfz75_1,hfz75_2,hfz75_3,hfz75_4,hfz75_5,hfz75_6,hfz75_7,hfz75_8,hfz75_9,hfz75_10,hfz75_11⟩:=cl12 BK194)|(go_at_call 37;(with_reducible refine (spoorref11_Acts.calls a0_8 a0_9 false _ A34.out).mono ?_);rintro e w76 ⟨rfl,hb⟩;replace BK194:=Bx0 BK194 hb;replace BK195:=Bx0 BK195 hb;replace HB:=Bs2 HB hb GE194.out GE195.out;(try clear hb)))
          go_ret;exact⟨eS,bw2 HB.out GE194.out GE195.out⟩
        ·rw [if_neg c33]at H;have c33b0:(t196==0)=false:=beq_eq_false_iff_ne.mpr c33;have c33b1:(t196 !=0)=true:=bne_iff_ne.mpr c33;obtain rfl:=Option.some.inj H;try go_wp2
         replace BK194:=Ax (blk_drew BK194.out);replace BK195:=Ax (blk_drew BK195.out);replace HB:=Ax (below_drew1 HB.out);refine start_ (n:=8) (S:=fun w'=>w'.cell? ⟨gb194,0,none⟩=some (.int .u8 a0_0)∧w'.cell? ⟨gb194,1,none⟩=some (.int .i64 a0_1)∧w'.cell? ⟨gb194,2,none⟩=some (.int .u64 a0_2)∧w'.cell? ⟨gb194,3,none⟩=some (.int .i64 a0_3)∧w'.cell? ⟨gb194,4,none⟩=some (.bool a0_4)∧w'.cell? ⟨gb194,5,none⟩=some (.int .u64 a0_5)∧w'.cell? ⟨gb194,6,none⟩=some (.int .u64 a0_6)∧w'.cell? ⟨gb194,7,none⟩=some (.int .i64 a0_7)∧w'.cell? ⟨gb194,8,none⟩=some (.int .u8 a0_8)∧w'.cell? ⟨gb194,9,none⟩=some (.int .i64 a0_9)∧w'.cell? ⟨gb194,10,none⟩=some (.int .i64 a0_10)∧w'.cell? ⟨gb194,11,none⟩=some (.int .i64 a0_11)) (ds:= []) #[Y,Y,Y,Y,Y,Y,Y,Y] (by kernel_rfl) rfl rfl (bqc12 BK194.out) (fun hHeld=>?_);refine with_tabW spoorref11_Check.tab10 spoorref11_Check.bits10 (fun HT_ HW_=>?_);generalize wc.drew=w77 at BK194 BK195 HB hHeld ⊢;refine pz 0 49 #[Z,Y,Y,Y,Y,Y,Y,Y] HT_.out ?_
         refine pz 2 51 #[Z,Y,Z,Y,Y,Y,Y,Y] HT_.out ?_
         refine take_ (i:=1) (N:=some 50) (v:=?_) (a':=?_) #[Z,Z,Z,Y,Y,Y,Y,Y] rfl rfl (take_ofW HT_.out HW_.out (by kernel_rfl)) (fun _ _ _ h=>h) (Or.inl ⟨by rfl,?_⟩) hHeld ?_ ?_;rotate_left
         ·rintro w' ⟨s0,s1,s2,s3,s4,s5,s6,s7,s8,s9,s10,s11⟩
          go_simp;with_reducible rfl
         rotate_left;·simp only[sP];rfl
         refine pz 4 53 #[Z,Z,Z,Y,Z,Y,Y,Y] HT_.out ?_
         refine take_ (i:=3) (N:=some 52) (v:=?_) (a':=?_) #[Z,Z,Z,Z,Z,Y,Y,Y] rfl rfl (take_ofW HT_.out HW_.out (by kernel_rfl)) (fun _ _ _ h=>h) (Or.inl ⟨by rfl,?_⟩) hHeld ?_ ?_;rotate_left
         ·rintro w' ⟨s0,s1,s2,s3,s4,s5,s6,s7,s8,s9,s10,s11⟩
          go_simp;with_reducible rfl
         rotate_left;·simp only[sP];rfl
         refine one_ (i:=5) (N:=none) #[Z,Z,Z,Z,Z,Z,Y,Y] rfl rfl (one_of HT_.out (by kernel_rfl)) (by decide) (fun K hK=>?_);have hs78:w77.cell? ⟨gb195,4,none⟩=some (.bool false):=(blk_cell BK195.out 4).trans rfl;have hfs78:=blk_frozen BK195.out 4;have hns78_0:=NB194_195.out;have hms78_0:=NB195_194.out;have hs79:w77.cell? ⟨gb195,5,none⟩=some (.int .u64 0):=(blk_cell BK195.out 5).trans rfl;have hfs79:=blk_frozen BK195.out 5;have hns79_0:=NB194_195.out;have hms79_0:=NB195_194.out;have hs80:w77.cell? ⟨gb195,6,none⟩=some (.int .u64 0):=(blk_cell BK195.out 6).trans rfl;have hfs80:=blk_frozen BK195.out 6;have hns80_0:=NB194_195.out;have hms80_0:=NB195_194.out;have hs81:w77.cell? ⟨gb195,7,none⟩=some (.int .i64 0):=(blk_cell BK195.out 7).trans rfl;have hfs81:=blk_frozen BK195.out 7;have hns81_0:=NB194_195.out;have hms81_0:=NB195_194.out;refine skip_ (w1:=?_) (by rfl) rfl ?_ ?_;rotate_left;·go_simp;rfl
         refine hK.out _ _ ⟨(cqf NB194_195.out ((cqf NB194_195.out ((cqf NB194_195.out ((cqf NB194_195.out (hHeld.1)))))))),(cqf NB194_195.out ((cqf NB194_195.out ((cqf NB194_195.out ((cqf NB194_195.out (hHeld.2.1)))))))),(cqf NB194_195.out ((cqf NB194_195.out ((cqf NB194_195.out ((cqf NB194_195.out (hHeld.2.2.1)))))))),(cqf NB194_195.out ((cqf NB194_195.out ((cqf NB194_195.out ((cqf NB194_195.out (hHeld.2.2.2.1)))))))),(cqf NB194_195.out ((cqf NB194_195.out ((cqf NB194_195.out ((cqf NB194_195.out (hHeld.2.2.2.2.1)))))))),(cqf NB194_195.out ((cqf NB194_195.out ((cqf NB194_195.out ((cqf NB194_195.out (hHeld.2.2.2.2.2.1)))))))),(cqf NB194_195.out ((cqf NB194_195.out ((cqf NB194_195.out ((cqf NB194_195.out (hHeld.2.2.2.2.2.2.1)))))))),(cqf NB194_195.out ((cqf NB194_195.out ((cqf NB194_195.out ((cqf NB194_195.out (hHeld.2.2.2.2.2.2.2.1)))))))),(cqf NB194_195.out ((cqf NB194_195.out ((cqf NB194_195.out ((cqf NB194_195.out (hHeld.2.2.2.2.2.2.2.2.1)))))))),(cqf NB194_195.out ((cqf NB194_195.out ((cqf NB194_195.out ((cqf NB194_195.out (hHeld.2.2.2.2.2.2.2.2.2.1)))))))),(cqf NB194_195.out ((cqf NB194_195.out ((cqf NB194_195.out ((cqf NB194_195.out (hHeld.2.2.2.2.2.2.2.2.2.2.1)))))))),(cqf NB194_195.out ((cqf NB194_195.out ((cqf NB194_195.out ((cqf NB194_195.out (hHeld.2.2.2.2.2.2.2.2.2.2.2))))))))⟩ (fun hHeld=>?_);clear hK K;refine pz 6 54 #[Z,Z,Z,Z,Z,Z,Z,Y] HT_.out ?_
         refine one_ (i:=7) (N:=none) #[Z,Z,Z,Z,Z,Z,Z,Z] rfl rfl (one_of HT_.out (by kernel_rfl)) (by decide) (fun K hK=>?_);have hs82:w77.cell? ⟨gb195,8,none⟩=some (.int .u8 0):=(blk_cell BK195.out 8).trans rfl;have hfs82:=blk_frozen BK195.out 8;have hns82_0:=NB194_195.out;have hms82_0:=NB195_194.out;have hs83:w77.cell? ⟨gb195,9,none⟩=some (.int .i64 0):=(blk_cell BK195.out 9).trans rfl;have hfs83:=blk_frozen BK195.out 9;have hns83_0:=NB194_195.out;have hms83_0:=NB195_194.out;refine skip_ (w1:=?_) (by rfl) rfl ?_ ?_;rotate_left;·go_simp;rfl
         refine hK.out _ _ ⟨(cqf NB194_195.out ((cqf NB194_195.out (hHeld.1)))),(cqf NB194_195.out ((cqf NB194_195.out (hHeld.2.1)))),(cqf NB194_195.out ((cqf NB194_195.out (hHeld.2.2.1)))),(cqf NB194_195.out ((cqf NB194_195.out (hHeld.2.2.2.1)))),(cqf NB194_195.out ((cqf NB194_195.out (hHeld.2.2.2.2.1)))),(cqf NB194_195.out ((cqf NB194_195.out (hHeld.2.2.2.2.2.1)))),(cqf NB194_195.out ((cqf NB194_195.out (hHeld.2.2.2.2.2.2.1)))),(cqf NB194_195.out ((cqf NB194_195.out (hHeld.2.2.2.2.2.2.2.1)))),(cqf NB194_195.out ((cqf NB194_195.out (hHeld.2.2.2.2.2.2.2.2.1)))),(cqf NB194_195.out ((cqf NB194_195.out (hHeld.2.2.2.2.2.2.2.2.2.1)))),(cqf NB194_195.out ((cqf NB194_195.out (hHeld.2.2.2.2.2.2.2.2.2.2.1)))),(cqf NB194_195.out ((cqf NB194_195.out (hHeld.2.2.2.2.2.2.2.2.2.2.2))))⟩ (fun hHeld=>?_);clear hK K;refine done_ (done_of HT_.out (by kernel_rfl)) ?_;have hnb84:=NB194_195.out;have hnc84:=NB195_194.out;obtain⟨hcz85_0,hcz85_1,hcz85_2,hcz85_3,hcz85_4,hcz85_5,hcz85_6,hcz85_7,hcz85_8,hcz85_9,hcz85_10,hcz85_11,hfz85_0,hfz85_1,hfz85_2,hfz85_3,hfz85_4,hfz85_5,hfz85_6,hfz85_7,hfz85_8,hfz85_9,hfz85_10,hfz85_11⟩:=cl12 BK194;try go_wp2_with (first|((with_reducible refine gate_callee (f:=36) rfl ?_);refine goesL_ (some 57) rfl rfl Try.func36 (by kernel_rfl) rfl #[.agg #[.bool a0_4,.int .u64 a0_5,.int .u64 a0_6,.int .i64 a0_7]] rfl gS ?_;(with_reducible refine (spoorref09_Check.calls kj15 a0_4 a0_5 a0_6 a0_7 t196 _ A32.out).mono ?_);rintro e w86 ⟨rfl,hb⟩;refine⟨_,rfl,?_⟩;have n0_:=Bx6 BK194 hb NB194_195.out NB194_195.out NB194_195.out NB194_195.out NB194_195.out NB194_195.out;have n1_:=Ax (blk_below (g:=gb195) (o:=.cells #[.int .u8 a0_0,.int .i64 a0_1,.int .u64 a0_2,.int .i64 a0_3,.bool a0_4,.int .u64 a0_5,.int .u64 a0_6,.int .i64 a0_7,.int .u8 a0_8,.int .i64 a0_9,.int .i64 0,.int .i64 0] 32 (0,0)) (gB BK195.out) hb);have n2_:=Bs2 HB hb GE194.out GE195.out;clear BK194;clear BK195;clear HB;have BK194:=n0_;have BK195:=n1_;have HB:=n2_;clear n0_ n1_ n2_;(try clear hb)))
         go_ret;exact⟨eS,bw2 HB.out GE194.out GE195.out⟩
       ·rw [if_neg c31]at H;have c31b0:(a0_0==3)=false:=beq_eq_false_iff_ne.mpr c31;have c31b1:(a0_0 !=3)=true:=bne_iff_ne.mpr c31;by_cases c87:a0_0=4
        ·rw [if_pos c87]at H;have c87b0:(a0_0==4)=true:=beq_iff_eq.mpr c87;have c87b1:(a0_0 !=4)=false:=bne_eq_false_iff_eq.mpr c87;clear c87;replace H:=Option.bind_eq_some_iff.mp H;obtain⟨t198,A880,H⟩:=H;replace H:(if t198=0 then (if (!(a0_0==a0_0)||(!(a0_1==a0_1)||(!(a0_2==a0_2)||(!(a0_3==a0_3)||((!(0==a0_8)||(!(0==a0_9)))||(!(0==a0_10)||(!(0==a0_11))))))))=true then (some 2) else (some 0)) else (some 2))=some r:=H;have A88:=Ax A880;clear A880;by_cases c89:t198=0
         ·rw [if_pos c89]at H;have c89b0:(t198==0)=true:=beq_iff_eq.mpr c89;have c89b1:(t198 !=0)=false:=bne_eq_false_iff_eq.mpr c89;clear c89;by_cases c90:(!(a0_0==a0_0)||(!(a0_1==a0_1)||(!(a0_2==a0_2)||(!(a0_3==a0_3)||((!(0==a0_8)||(!(0==a0_9)))||(!(0==a0_10)||(!(0==a0_11))))))))=true
          ·rw [if_pos c90]at H;have c90b0:(!(a0_0==a0_0)||(!(a0_1==a0_1)||(!(a0_2==a0_2)||(!(a0_3==a0_3)||((!(0==a0_8)||(!(0==a0_9)))||(!(0==a0_10)||(!(0==a0_11))))))))=true:=c90
           (try (have c90b1:((!(0==a0_8)||(!(0==a0_9)))||(!(0==a0_10)||(!(0==a0_11))))=true:=by simpa using c90))
           clear c90;obtain rfl:=Option.some.inj H;have hnb91:=NB194_195.out;have hnc91:=NB195_194.out;obtain⟨hcz92_0,hcz92_1,hcz92_2,hcz92_3,hcz92_4,hcz92_5,hcz92_6,hcz92_7,hcz92_8,hcz92_9,hcz92_10,hcz92_11,hfz92_0,hfz92_1,hfz92_2,hfz92_3,hfz92_4,hfz92_5,hfz92_6,hfz92_7,hfz92_8,hfz92_9,hfz92_10,hfz92_11⟩:=cl12 BK194;obtain⟨hcz93_0,hcz93_1,hcz93_2,hcz93_3,hcz93_4,hcz93_5,hcz93_6,hcz93_7,hcz93_8,hcz93_9,hcz93_10,hcz93_11,hfz93_0,hfz93_1,hfz93_2,hfz93_3,hfz93_4,hfz93_5,hfz93_6,hfz93_7,hfz93_8,hfz93_9,hfz93_10,hfz93_11⟩:=cl12 BK195;go_wp2_with (first|((with_reducible refine gate_callee (f:=36) rfl ?_);refine goesL_ (some 71) rfl rfl Try.func36 (by kernel_rfl) rfl #[.agg #[.bool a0_4,.int .u64 a0_5,.int .u64 a0_6,.int .i64 a0_7]] rfl gS ?_;(with_reducible refine (spoorref09_Check.calls kj15 a0_4 a0_5 a0_6 a0_7 t198 _ A88.out).mono ?_);rintro e w94 ⟨rfl,hb⟩;refine⟨_,rfl,?_⟩;have n0_:=Bx4 BK194 hb NB194_195.out NB194_195.out NB194_195.out NB194_195.out;have n1_:=Ax (blk_below (g:=gb195) (o:=.cells #[.int .u8 a0_0,.int .i64 a0_1,.int .u64 a0_2,.int .i64 a0_3,.bool a0_4,.int .u64 a0_5,.int .u64 a0_6,.int .i64 a0_7,.int .u8 0,.int .i64 0,.int .i64 0,.int .i64 0] 32 (0,0)) (gB BK195.out) hb);have n2_:=Bs2 HB hb GE194.out GE195.out;clear BK194;clear BK195;clear HB;have BK194:=n0_;have BK195:=n1_;have HB:=n2_;clear n0_ n1_ n2_;(try clear hb);obtain⟨hcz95_0,hcz95_1,hcz95_2,hcz95_3,hcz95_4,hcz95_5,hcz95_6,hcz95_7,hcz95_8,hcz95_9,hcz95_10,hcz95_11,hfz95_0,hfz95_1,hfz95_2,hfz95_3,hfz95_4,hfz95_5,hfz95_6,hfz95_7,hfz95_8,hfz95_9,hfz95_10,hfz95_11⟩:=cl12 BK195;obtain⟨hcz96_0,hcz96_1,hcz96_2,hcz96_3,hcz96_4,hcz96_5,hcz96_6,hcz96_7,hcz96_8,hcz96_9,hcz96_10,hcz96_11,hfz96_0,hfz96_1,hfz96_2,hfz96_3,hfz96_4,hfz96_5,hfz96_6,hfz96_7,hfz96_8,hfz96_9,hfz96_10,hfz96_11⟩:=cl12 BK194));go_ret;exact⟨eS,bw2 HB.out GE194.out GE195.out⟩
          ·rw [if_neg c90]at H;have c90b0:(!(a0_0==a0_0)||(!(a0_1==a0_1)||(!(a0_2==a0_2)||(!(a0_3==a0_3)||((!(0==a0_8)||(!(0==a0_9)))||(!(0==a0_10)||(!(0==a0_11))))))))=false:=by simpa using c90
           (try (have c90b1:((!(0==a0_8)||(!(0==a0_9)))||(!(0==a0_10)||(!(0==a0_11))))=false:=by simpa using c90))
           clear c90;obtain rfl:=Option.some.inj H;have hnb97:=NB194_195.out;have hnc97:=NB195_194.out;obtain⟨hcz98_0,hcz98_1,hcz98_2,hcz98_3,hcz98_4,hcz98_5,hcz98_6,hcz98_7,hcz98_8,hcz98_9,hcz98_10,hcz98_11,hfz98_0,hfz98_1,hfz98_2,hfz98_3,hfz98_4,hfz98_5,hfz98_6,hfz98_7,hfz98_8,hfz98_9,hfz98_10,hfz98_11⟩:=cl12 BK194;obtain⟨hcz99_0,hcz99_1,hcz99_2,hcz99_3,hcz99_4,hcz99_5,hcz99_6,hcz99_7,hcz99_8,hcz99_9,hcz99_10,hcz99_11,hfz99_0,hfz99_1,hfz99_2,hfz99_3,hfz99_4,hfz99_5,hfz99_6,hfz99_7,hfz99_8,hfz99_9,hfz99_10,hfz99_11⟩:=cl12 BK195;go_wp2_with (first|((with_reducible refine gate_callee (f:=36) rfl ?_);refine goesL_ (some 71) rfl rfl Try.func36 (by kernel_rfl) rfl #[.agg #[.bool a0_4,.int .u64 a0_5,.int .u64 a0_6,.int .i64 a0_7]] rfl gS ?_;(with_reducible refine (spoorref09_Check.calls kj15 a0_4 a0_5 a0_6 a0_7 t198 _ A88.out).mono ?_);rintro e w100 ⟨rfl,hb⟩;refine⟨_,rfl,?_⟩;have n0_:=Bx4 BK194 hb NB194_195.out NB194_195.out NB194_195.out NB194_195.out;have n1_:=Ax (blk_below (g:=gb195) (o:=.cells #[.int .u8 a0_0,.int .i64 a0_1,.int .u64 a0_2,.int .i64 a0_3,.bool a0_4,.int .u64 a0_5,.int .u64 a0_6,.int .i64 a0_7,.int .u8 0,.int .i64 0,.int .i64 0,.int .i64 0] 32 (0,0)) (gB BK195.out) hb);have n2_:=Bs2 HB hb GE194.out GE195.out;clear BK194;clear BK195;clear HB;have BK194:=n0_;have BK195:=n1_;have HB:=n2_;clear n0_ n1_ n2_;(try clear hb);obtain⟨hcz101_0,hcz101_1,hcz101_2,hcz101_3,hcz101_4,hcz101_5,hcz101_6,hcz101_7,hcz101_8,hcz101_9,hcz101_10,hcz101_11,hfz101_0,hfz101_1,hfz101_2,hfz101_3,hfz101_4,hfz101_5,hfz101_6,hfz101_7,hfz101_8,hfz101_9,hfz101_10,hfz101_11⟩:=cl12 BK195;obtain⟨hcz102_0,hcz102_1,hcz102_2,hcz102_3,hcz102_4,hcz102_5,hcz102_6,hcz102_7,hcz102_8,hcz102_9,hcz102_10,hcz102_11,hfz102_0,hfz102_1,hfz102_2,hfz102_3,hfz102_4,hfz102_5,hfz102_6,hfz102_7,hfz102_8,hfz102_9,hfz102_10,hfz102_11⟩:=cl12 BK194));go_ret;exact⟨eS,bw2 HB.out GE194.out GE195.out⟩
         ·rw [if_neg c89]at H;have c89b0:(t198==0)=false:=beq_eq_false_iff_ne.mpr c89;have c89b1:(t198 !=0)=true:=bne_iff_ne.mpr c89;obtain rfl:=Option.some.inj H;have hnb103:=NB194_195.out;have hnc103:=NB195_194.out;obtain⟨hcz104_0,hcz104_1,hcz104_2,hcz104_3,hcz104_4,hcz104_5,hcz104_6,hcz104_7,hcz104_8,hcz104_9,hcz104_10,hcz104_11,hfz104_0,hfz104_1,hfz104_2,hfz104_3,hfz104_4,hfz104_5,hfz104_6,hfz104_7,hfz104_8,hfz104_9,hfz104_10,hfz104_11⟩:=cl12 BK194;obtain⟨hcz105_0,hcz105_1,hcz105_2,hcz105_3,hcz105_4,hcz105_5,hcz105_6,hcz105_7,hcz105_8,hcz105_9,hcz105_10,hcz105_11,hfz105_0,hfz105_1,hfz105_2,hfz105_3,hfz105_4,hfz105_5,hfz105_6,hfz105_7,hfz105_8,hfz105_9,hfz105_10,hfz105_11⟩:=cl12 BK195;go_wp2_with (first|((with_reducible refine gate_callee (f:=36) rfl ?_);refine goesL_ (some 71) rfl rfl Try.func36 (by kernel_rfl) rfl #[.agg #[.bool a0_4,.int .u64 a0_5,.int .u64 a0_6,.int .i64 a0_7]] rfl gS ?_;(with_reducible refine (spoorref09_Check.calls kj15 a0_4 a0_5 a0_6 a0_7 t198 _ A88.out).mono ?_);rintro e w106 ⟨rfl,hb⟩;refine⟨_,rfl,?_⟩;have n0_:=Bx4 BK194 hb NB194_195.out NB194_195.out NB194_195.out NB194_195.out;have n1_:=Ax (blk_below (g:=gb195) (o:=.cells #[.int .u8 a0_0,.int .i64 a0_1,.int .u64 a0_2,.int .i64 a0_3,.bool a0_4,.int .u64 a0_5,.int .u64 a0_6,.int .i64 a0_7,.int .u8 0,.int .i64 0,.int .i64 0,.int .i64 0] 32 (0,0)) (gB BK195.out) hb);have n2_:=Bs2 HB hb GE194.out GE195.out;clear BK194;clear BK195;clear HB;have BK194:=n0_;have BK195:=n1_;have HB:=n2_;clear n0_ n1_ n2_;(try clear hb)));go_ret;exact⟨eS,bw2 HB.out GE194.out GE195.out⟩
        ·rw [if_neg c87]at H;have c87b0:(a0_0==4)=false:=beq_eq_false_iff_ne.mpr c87;have c87b1:(a0_0 !=4)=true:=bne_iff_ne.mpr c87;by_cases c107:a0_0=5
         ·rw [if_pos c107]at H;have c107b0:(a0_0==5)=true:=beq_iff_eq.mpr c107;have c107b1:(a0_0 !=5)=false:=bne_eq_false_iff_eq.mpr c107;clear c107;by_cases c108:a0_10 ≥ 0
          ·rw [if_pos c108]at H;have c108b0:decide (0≤a0_10)=true:=decide_eq_true c108;clear c108;by_cases c109:a0_10≤65536
           ·rw [if_pos c109]at H;have c109b0:decide (a0_10≤65536)=true:=decide_eq_true c109;clear c109;by_cases c110:a0_11 ≥ 0
            ·rw [if_pos c110]at H;have c110b0:decide (0≤a0_11)=true:=decide_eq_true c110;clear c110;by_cases c111:a0_11≤1048576
             ·rw [if_pos c111]at H;have c111b0:decide (a0_11≤1048576)=true:=decide_eq_true c111;clear c111;by_cases c112:(!(a0_0==a0_0)||(!(a0_1==a0_1)||(!(a0_2==a0_2)||(!(a0_3==a0_3)||((!(false==a0_4)||((!(0==a0_5)||(!(0==a0_6)))||(!(0==a0_7))))||((!(0==a0_8)||(!(0==a0_9)))))))))=true
              ·rw [if_pos c112]at H;have c112b0:(!(a0_0==a0_0)||(!(a0_1==a0_1)||(!(a0_2==a0_2)||(!(a0_3==a0_3)||((!(false==a0_4)||((!(0==a0_5)||(!(0==a0_6)))||(!(0==a0_7))))||((!(0==a0_8)||(!(0==a0_9)))))))))=true:=c112
               (try (have c112b1:((a0_4||((!(0==a0_5)||(!(0==a0_6)))||(!(0==a0_7))))||((!(0==a0_8)||(!(0==a0_9)))))=true:=by simpa using c112))
               clear c112;obtain rfl:=Option.some.inj H;try go_wp2
               replace BK194:=Ax (blk_drew BK194.out);replace BK195:=Ax (blk_drew BK195.out);replace HB:=Ax (below_drew1 HB.out);refine start_ (n:=8) (S:=fun w'=>w'.cell? ⟨gb194,0,none⟩=some (.int .u8 a0_0)∧w'.cell? ⟨gb194,1,none⟩=some (.int .i64 a0_1)∧w'.cell? ⟨gb194,2,none⟩=some (.int .u64 a0_2)∧w'.cell? ⟨gb194,3,none⟩=some (.int .i64 a0_3)∧w'.cell? ⟨gb194,4,none⟩=some (.bool a0_4)∧w'.cell? ⟨gb194,5,none⟩=some (.int .u64 a0_5)∧w'.cell? ⟨gb194,6,none⟩=some (.int .u64 a0_6)∧w'.cell? ⟨gb194,7,none⟩=some (.int .i64 a0_7)∧w'.cell? ⟨gb194,8,none⟩=some (.int .u8 a0_8)∧w'.cell? ⟨gb194,9,none⟩=some (.int .i64 a0_9)∧w'.cell? ⟨gb194,10,none⟩=some (.int .i64 a0_10)∧w'.cell? ⟨gb194,11,none⟩=some (.int .i64 a0_11)) (ds:= []) #[Y,Y,Y,Y,Y,Y,Y,Y] (by kernel_rfl) rfl rfl (bqc12 BK194.out) (fun hHeld=>?_);refine with_tabW spoorref11_Check.tab16 spoorref11_Check.bits16 (fun HT_ HW_=>?_);generalize wc.drew=w113 at BK194 BK195 HB hHeld ⊢;refine pz 0 75 #[Z,Y,Y,Y,Y,Y,Y,Y] HT_.out ?_
               refine pz 2 77 #[Z,Y,Z,Y,Y,Y,Y,Y] HT_.out ?_
               refine take_ (i:=1) (N:=some 76) (v:=?_) (a':=?_) #[Z,Z,Z,Y,Y,Y,Y,Y] rfl rfl (take_ofW HT_.out HW_.out (by kernel_rfl)) (fun _ _ _ h=>h) (Or.inl ⟨by rfl,?_⟩) hHeld ?_ ?_;rotate_left
               ·rintro w' ⟨s0,s1,s2,s3,s4,s5,s6,s7,s8,s9,s10,s11⟩
                go_simp;with_reducible rfl
               rotate_left;·simp only[sP];rfl
               refine pz 4 79 #[Z,Z,Z,Y,Z,Y,Y,Y] HT_.out ?_
               refine take_ (i:=3) (N:=some 78) (v:=?_) (a':=?_) #[Z,Z,Z,Z,Z,Y,Y,Y] rfl rfl (take_ofW HT_.out HW_.out (by kernel_rfl)) (fun _ _ _ h=>h) (Or.inl ⟨by rfl,?_⟩) hHeld ?_ ?_;rotate_left
               ·rintro w' ⟨s0,s1,s2,s3,s4,s5,s6,s7,s8,s9,s10,s11⟩
                go_simp;with_reducible rfl
               rotate_left;·simp only[sP];rfl
               refine one_ (i:=5) (N:=none) #[Z,Z,Z,Z,Z,Z,Y,Y] rfl rfl (one_of HT_.out (by kernel_rfl)) (by decide) (fun K hK=>?_);have hs114:w113.cell? ⟨gb195,10,none⟩=some (.int .i64 0):=(blk_cell BK195.out 10).trans rfl;have hfs114:=blk_frozen BK195.out 10;have hns114_0:=NB194_195.out;have hms114_0:=NB195_194.out;refine skip_ (w1:=?_) (by rfl) rfl ?_ ?_;rotate_left;·go_simp;rfl
               refine hK.out _ _ ⟨(cqf NB194_195.out (hHeld.1)),(cqf NB194_195.out (hHeld.2.1)),(cqf NB194_195.out (hHeld.2.2.1)),(cqf NB194_195.out (hHeld.2.2.2.1)),(cqf NB194_195.out (hHeld.2.2.2.2.1)),(cqf NB194_195.out (hHeld.2.2.2.2.2.1)),(cqf NB194_195.out (hHeld.2.2.2.2.2.2.1)),(cqf NB194_195.out (hHeld.2.2.2.2.2.2.2.1)),(cqf NB194_195.out (hHeld.2.2.2.2.2.2.2.2.1)),(cqf NB194_195.out (hHeld.2.2.2.2.2.2.2.2.2.1)),(cqf NB194_195.out (hHeld.2.2.2.2.2.2.2.2.2.2.1)),(cqf NB194_195.out (hHeld.2.2.2.2.2.2.2.2.2.2.2))⟩ (fun hHeld=>?_);clear hK K;refine pz 6 80 #[Z,Z,Z,Z,Z,Z,Z,Y] HT_.out ?_
               refine one_ (i:=7) (N:=none) #[Z,Z,Z,Z,Z,Z,Z,Z] rfl rfl (one_of HT_.out (by kernel_rfl)) (by decide) (fun K hK=>?_);have hs115:w113.cell? ⟨gb195,11,none⟩=some (.int .i64 0):=(blk_cell BK195.out 11).trans rfl;have hfs115:=blk_frozen BK195.out 11;have hns115_0:=NB194_195.out;have hms115_0:=NB195_194.out;refine skip_ (w1:=?_) (by rfl) rfl ?_ ?_;rotate_left;·go_simp;rfl
               refine hK.out _ _ ⟨(cqf NB194_195.out (hHeld.1)),(cqf NB194_195.out (hHeld.2.1)),(cqf NB194_195.out (hHeld.2.2.1)),(cqf NB194_195.out (hHeld.2.2.2.1)),(cqf NB194_195.out (hHeld.2.2.2.2.1)),(cqf NB194_195.out (hHeld.2.2.2.2.2.1)),(cqf NB194_195.out (hHeld.2.2.2.2.2.2.1)),(cqf NB194_195.out (hHeld.2.2.2.2.2.2.2.1)),(cqf NB194_195.out (hHeld.2.2.2.2.2.2.2.2.1)),(cqf NB194_195.out (hHeld.2.2.2.2.2.2.2.2.2.1)),(cqf NB194_195.out (hHeld.2.2.2.2.2.2.2.2.2.2.1)),(cqf NB194_195.out (hHeld.2.2.2.2.2.2.2.2.2.2.2))⟩ (fun hHeld=>?_);clear hK K;refine done_ (done_of HT_.out (by kernel_rfl)) ?_;have hnb116:=NB194_195.out;have hnc116:=NB195_194.out;obtain⟨hcz117_0,hcz117_1,hcz117_2,hcz117_3,hcz117_4,hcz117_5,hcz117_6,hcz117_7,hcz117_8,hcz117_9,hcz117_10,hcz117_11,hfz117_0,hfz117_1,hfz117_2,hfz117_3,hfz117_4,hfz117_5,hfz117_6,hfz117_7,hfz117_8,hfz117_9,hfz117_10,hfz117_11⟩:=cl12 BK194;obtain⟨hcz118_0,hcz118_1,hcz118_2,hcz118_3,hcz118_4,hcz118_5,hcz118_6,hcz118_7,hcz118_8,hcz118_9,hcz118_10,hcz118_11,hfz118_0,hfz118_1,hfz118_2,hfz118_3,hfz118_4,hfz118_5,hfz118_6,hfz118_7,hfz118_8,hfz118_9,hfz118_10,hfz118_11⟩:=cl12 BK195;try go_wp2
               go_ret;exact⟨eS,bw2 HB.out GE194.out GE195.out⟩
              ·rw [if_neg c112]at H;have c112b0:(!(a0_0==a0_0)||(!(a0_1==a0_1)||(!(a0_2==a0_2)||(!(a0_3==a0_3)||((!(false==a0_4)||((!(0==a0_5)||(!(0==a0_6)))||(!(0==a0_7))))||((!(0==a0_8)||(!(0==a0_9)))))))))=false:=by simpa using c112
               (try (have c112b1:((a0_4||((!(0==a0_5)||(!(0==a0_6)))||(!(0==a0_7))))||((!(0==a0_8)||(!(0==a0_9)))))=false:=by simpa using c112))
               clear c112;obtain rfl:=Option.some.inj H;try go_wp2
               replace BK194:=Ax (blk_drew BK194.out);replace BK195:=Ax (blk_drew BK195.out);replace HB:=Ax (below_drew1 HB.out);refine start_ (n:=8) (S:=fun w'=>w'.cell? ⟨gb194,0,none⟩=some (.int .u8 a0_0)∧w'.cell? ⟨gb194,1,none⟩=some (.int .i64 a0_1)∧w'.cell? ⟨gb194,2,none⟩=some (.int .u64 a0_2)∧w'.cell? ⟨gb194,3,none⟩=some (.int .i64 a0_3)∧w'.cell? ⟨gb194,4,none⟩=some (.bool a0_4)∧w'.cell? ⟨gb194,5,none⟩=some (.int .u64 a0_5)∧w'.cell? ⟨gb194,6,none⟩=some (.int .u64 a0_6)∧w'.cell? ⟨gb194,7,none⟩=some (.int .i64 a0_7)∧w'.cell? ⟨gb194,8,none⟩=some (.int .u8 a0_8)∧w'.cell? ⟨gb194,9,none⟩=some (.int .i64 a0_9)∧w'.cell? ⟨gb194,10,none⟩=some (.int .i64 a0_10)∧w'.cell? ⟨gb194,11,none⟩=some (.int .i64 a0_11)) (ds:= []) #[Y,Y,Y,Y,Y,Y,Y,Y] (by kernel_rfl) rfl rfl (bqc12 BK194.out) (fun hHeld=>?_);refine with_tabW spoorref11_Check.tab16 spoorref11_Check.bits16 (fun HT_ HW_=>?_);generalize wc.drew=w119 at BK194 BK195 HB hHeld ⊢;refine pz 0 75 #[Z,Y,Y,Y,Y,Y,Y,Y] HT_.out ?_
               refine pz 2 77 #[Z,Y,Z,Y,Y,Y,Y,Y] HT_.out ?_
               refine take_ (i:=1) (N:=some 76) (v:=?_) (a':=?_) #[Z,Z,Z,Y,Y,Y,Y,Y] rfl rfl (take_ofW HT_.out HW_.out (by kernel_rfl)) (fun _ _ _ h=>h) (Or.inl ⟨by rfl,?_⟩) hHeld ?_ ?_;rotate_left
               ·rintro w' ⟨s0,s1,s2,s3,s4,s5,s6,s7,s8,s9,s10,s11⟩
                go_simp;with_reducible rfl
               rotate_left;·simp only[sP];rfl
               refine pz 4 79 #[Z,Z,Z,Y,Z,Y,Y,Y] HT_.out ?_
               refine take_ (i:=3) (N:=some 78) (v:=?_) (a':=?_) #[Z,Z,Z,Z,Z,Y,Y,Y] rfl rfl (take_ofW HT_.out HW_.out (by kernel_rfl)) (fun _ _ _ h=>h) (Or.inl ⟨by rfl,?_⟩) hHeld ?_ ?_;rotate_left
               ·rintro w' ⟨s0,s1,s2,s3,s4,s5,s6,s7,s8,s9,s10,s11⟩
                go_simp;with_reducible rfl
               rotate_left;·simp only[sP];rfl
               refine one_ (i:=5) (N:=none) #[Z,Z,Z,Z,Z,Z,Y,Y] rfl rfl (one_of HT_.out (by kernel_rfl)) (by decide) (fun K hK=>?_);have hs120:w119.cell? ⟨gb195,10,none⟩=some (.int .i64 0):=(blk_cell BK195.out 10).trans rfl;have hfs120:=blk_frozen BK195.out 10;have hns120_0:=NB194_195.out;have hms120_0:=NB195_194.out;refine skip_ (w1:=?_) (by rfl) rfl ?_ ?_;rotate_left;·go_simp;rfl
               refine hK.out _ _ ⟨(cqf NB194_195.out (hHeld.1)),(cqf NB194_195.out (hHeld.2.1)),(cqf NB194_195.out (hHeld.2.2.1)),(cqf NB194_195.out (hHeld.2.2.2.1)),(cqf NB194_195.out (hHeld.2.2.2.2.1)),(cqf NB194_195.out (hHeld.2.2.2.2.2.1)),(cqf NB194_195.out (hHeld.2.2.2.2.2.2.1)),(cqf NB194_195.out (hHeld.2.2.2.2.2.2.2.1)),(cqf NB194_195.out (hHeld.2.2.2.2.2.2.2.2.1)),(cqf NB194_195.out (hHeld.2.2.2.2.2.2.2.2.2.1)),(cqf NB194_195.out (hHeld.2.2.2.2.2.2.2.2.2.2.1)),(cqf NB194_195.out (hHeld.2.2.2.2.2.2.2.2.2.2.2))⟩ (fun hHeld=>?_);clear hK K;refine pz 6 80 #[Z,Z,Z,Z,Z,Z,Z,Y] HT_.out ?_
               refine one_ (i:=7) (N:=none) #[Z,Z,Z,Z,Z,Z,Z,Z] rfl rfl (one_of HT_.out (by kernel_rfl)) (by decide) (fun K hK=>?_);have hs121:w119.cell? ⟨gb195,11,none⟩=some (.int .i64 0):=(blk_cell BK195.out 11).trans rfl;have hfs121:=blk_frozen BK195.out 11;have hns121_0:=NB194_195.out;have hms121_0:=NB195_194.out;refine skip_ (w1:=?_) (by rfl) rfl ?_ ?_;rotate_left;·go_simp;rfl
               refine hK.out _ _ ⟨(cqf NB194_195.out (hHeld.1)),(cqf NB194_195.out (hHeld.2.1)),(cqf NB194_195.out (hHeld.2.2.1)),(cqf NB194_195.out (hHeld.2.2.2.1)),(cqf NB194_195.out (hHeld.2.2.2.2.1)),(cqf NB194_195.out (hHeld.2.2.2.2.2.1)),(cqf NB194_195.out (hHeld.2.2.2.2.2.2.1)),(cqf NB194_195.out (hHeld.2.2.2.2.2.2.2.1)),(cqf NB194_195.out (hHeld.2.2.2.2.2.2.2.2.1)),(cqf NB194_195.out (hHeld.2.2.2.2.2.2.2.2.2.1)),(cqf NB194_195.out (hHeld.2.2.2.2.2.2.2.2.2.2.1)),(cqf NB194_195.out (hHeld.2.2.2.2.2.2.2.2.2.2.2))⟩ (fun hHeld=>?_);clear hK K;refine done_ (done_of HT_.out (by kernel_rfl)) ?_;have hnb122:=NB194_195.out;have hnc122:=NB195_194.out;obtain⟨hcz123_0,hcz123_1,hcz123_2,hcz123_3,hcz123_4,hcz123_5,hcz123_6,hcz123_7,hcz123_8,hcz123_9,hcz123_10,hcz123_11,hfz123_0,hfz123_1,hfz123_2,hfz123_3,hfz123_4,hfz123_5,hfz123_6,hfz123_7,hfz123_8,hfz123_9,hfz123_10,hfz123_11⟩:=cl12 BK194;obtain⟨hcz124_0,hcz124_1,hcz124_2,hcz124_3,hcz124_4,hcz124_5,hcz124_6,hcz124_7,hcz124_8,hcz124_9,hcz124_10,hcz124_11,hfz124_0,hfz124_1,hfz124_2,hfz124_3,hfz124_4,hfz124_5,hfz124_6,hfz124_7,hfz124_8,hfz124_9,hfz124_10,hfz124_11⟩:=cl12 BK195;try go_wp2
               go_ret;exact⟨eS,bw2 HB.out GE194.out GE195.out⟩
             ·rw [if_neg c111]at H;have c111b0:decide (a0_11≤1048576)=false:=decide_eq_false c111;clear c111;obtain rfl:=Option.some.inj H;try go_wp2
              replace BK194:=Ax (blk_drew BK194.out);replace BK195:=Ax (blk_drew BK195.out);replace HB:=Ax (below_drew1 HB.out);refine start_ (n:=8) (S:=fun w'=>w'.cell? ⟨gb194,0,none⟩=some (.int .u8 a0_0)∧w'.cell? ⟨gb194,1,none⟩=some (.int .i64 a0_1)∧w'.cell? ⟨gb194,2,none⟩=some (.int .u64 a0_2)∧w'.cell? ⟨gb194,3,none⟩=some (.int .i64 a0_3)∧w'.cell? ⟨gb194,4,none⟩=some (.bool a0_4)∧w'.cell? ⟨gb194,5,none⟩=some (.int .u64 a0_5)∧w'.cell? ⟨gb194,6,none⟩=some (.int .u64 a0_6)∧w'.cell? ⟨gb194,7,none⟩=some (.int .i64 a0_7)∧w'.cell? ⟨gb194,8,none⟩=some (.int .u8 a0_8)∧w'.cell? ⟨gb194,9,none⟩=some (.int .i64 a0_9)∧w'.cell? ⟨gb194,10,none⟩=some (.int .i64 a0_10)∧w'.cell? ⟨gb194,11,none⟩=some (.int .i64 a0_11)) (ds:= []) #[Y,Y,Y,Y,Y,Y,Y,Y] (by kernel_rfl) rfl rfl (bqc12 BK194.out) (fun hHeld=>?_);refine with_tabW spoorref11_Check.tab16 spoorref11_Check.bits16 (fun HT_ HW_=>?_);generalize wc.drew=w125 at BK194 BK195 HB hHeld ⊢;refine pz 0 75 #[Z,Y,Y,Y,Y,Y,Y,Y] HT_.out ?_
              refine pz 2 77 #[Z,Y,Z,Y,Y,Y,Y,Y] HT_.out ?_
              refine take_ (i:=1) (N:=some 76) (v:=?_) (a':=?_) #[Z,Z,Z,Y,Y,Y,Y,Y] rfl rfl (take_ofW HT_.out HW_.out (by kernel_rfl)) (fun _ _ _ h=>h) (Or.inl ⟨by rfl,?_⟩) hHeld ?_ ?_;rotate_left
              ·rintro w' ⟨s0,s1,s2,s3,s4,s5,s6,s7,s8,s9,s10,s11⟩
               go_simp;with_reducible rfl
              rotate_left;·simp only[sP];rfl
              refine pz 4 79 #[Z,Z,Z,Y,Z,Y,Y,Y] HT_.out ?_
              refine take_ (i:=3) (N:=some 78) (v:=?_) (a':=?_) #[Z,Z,Z,Z,Z,Y,Y,Y] rfl rfl (take_ofW HT_.out HW_.out (by kernel_rfl)) (fun _ _ _ h=>h) (Or.inl ⟨by rfl,?_⟩) hHeld ?_ ?_;rotate_left
              ·rintro w' ⟨s0,s1,s2,s3,s4,s5,s6,s7,s8,s9,s10,s11⟩
               go_simp;with_reducible rfl
              rotate_left;·simp only[sP];rfl
              refine one_ (i:=5) (N:=none) #[Z,Z,Z,Z,Z,Z,Y,Y] rfl rfl (one_of HT_.out (by kernel_rfl)) (by decide) (fun K hK=>?_);have hs126:w125.cell? ⟨gb195,10,none⟩=some (.int .i64 0):=(blk_cell BK195.out 10).trans rfl;have hfs126:=blk_frozen BK195.out 10;have hns126_0:=NB194_195.out;have hms126_0:=NB195_194.out;refine skip_ (w1:=?_) (by rfl) rfl ?_ ?_;rotate_left;·go_simp;rfl
              refine hK.out _ _ ⟨(cqf NB194_195.out (hHeld.1)),(cqf NB194_195.out (hHeld.2.1)),(cqf NB194_195.out (hHeld.2.2.1)),(cqf NB194_195.out (hHeld.2.2.2.1)),(cqf NB194_195.out (hHeld.2.2.2.2.1)),(cqf NB194_195.out (hHeld.2.2.2.2.2.1)),(cqf NB194_195.out (hHeld.2.2.2.2.2.2.1)),(cqf NB194_195.out (hHeld.2.2.2.2.2.2.2.1)),(cqf NB194_195.out (hHeld.2.2.2.2.2.2.2.2.1)),(cqf NB194_195.out (hHeld.2.2.2.2.2.2.2.2.2.1)),(cqf NB194_195.out (hHeld.2.2.2.2.2.2.2.2.2.2.1)),(cqf NB194_195.out (hHeld.2.2.2.2.2.2.2.2.2.2.2))⟩ (fun hHeld=>?_);clear hK K;refine pz 6 80 #[Z,Z,Z,Z,Z,Z,Z,Y] HT_.out ?_
              refine one_ (i:=7) (N:=none) #[Z,Z,Z,Z,Z,Z,Z,Z] rfl rfl (one_of HT_.out (by kernel_rfl)) (by decide) (fun K hK=>?_);have hs127:w125.cell? ⟨gb195,11,none⟩=some (.int .i64 0):=(blk_cell BK195.out 11).trans rfl;have hfs127:=blk_frozen BK195.out 11;have hns127_0:=NB194_195.out;have hms127_0:=NB195_194.out;refine skip_ (w1:=?_) (by rfl) rfl ?_ ?_;rotate_left;·go_simp;rfl
              refine hK.out _ _ ⟨(cqf NB194_195.out (hHeld.1)),(cqf NB194_195.out (hHeld.2.1)),(cqf NB194_195.out (hHeld.2.2.1)),(cqf NB194_195.out (hHeld.2.2.2.1)),(cqf NB194_195.out (hHeld.2.2.2.2.1)),(cqf NB194_195.out (hHeld.2.2.2.2.2.1)),(cqf NB194_195.out (hHeld.2.2.2.2.2.2.1)),(cqf NB194_195.out (hHeld.2.2.2.2.2.2.2.1)),(cqf NB194_195.out (hHeld.2.2.2.2.2.2.2.2.1)),(cqf NB194_195.out (hHeld.2.2.2.2.2.2.2.2.2.1)),(cqf NB194_195.out (hHeld.2.2.2.2.2.2.2.2.2.2.1)),(cqf NB194_195.out (hHeld.2.2.2.2.2.2.2.2.2.2.2))⟩ (fun hHeld=>?_);clear hK K;refine done_ (done_of HT_.out (by kernel_rfl)) ?_;have hnb128:=NB194_195.out;have hnc128:=NB195_194.out;obtain⟨hcz129_0,hcz129_1,hcz129_2,hcz129_3,hcz129_4,hcz129_5,hcz129_6,hcz129_7,hcz129_8,hcz129_9,hcz129_10,hcz129_11,hfz129_0,hfz129_1,hfz129_2,hfz129_3,hfz129_4,hfz129_5,hfz129_6,hfz129_7,hfz129_8,hfz129_9,hfz129_10,hfz129_11⟩:=cl12 BK194;try go_wp2
              go_ret;exact⟨eS,bw2 HB.out GE194.out GE195.out⟩
            ·rw [if_neg c110]at H;have c110b0:decide (0≤a0_11)=false:=decide_eq_false c110;clear c110;obtain rfl:=Option.some.inj H;try go_wp2
             replace BK194:=Ax (blk_drew BK194.out);replace BK195:=Ax (blk_drew BK195.out);replace HB:=Ax (below_drew1 HB.out);refine start_ (n:=8) (S:=fun w'=>w'.cell? ⟨gb194,0,none⟩=some (.int .u8 a0_0)∧w'.cell? ⟨gb194,1,none⟩=some (.int .i64 a0_1)∧w'.cell? ⟨gb194,2,none⟩=some (.int .u64 a0_2)∧w'.cell? ⟨gb194,3,none⟩=some (.int .i64 a0_3)∧w'.cell? ⟨gb194,4,none⟩=some (.bool a0_4)∧w'.cell? ⟨gb194,5,none⟩=some (.int .u64 a0_5)∧w'.cell? ⟨gb194,6,none⟩=some (.int .u64 a0_6)∧w'.cell? ⟨gb194,7,none⟩=some (.int .i64 a0_7)∧w'.cell? ⟨gb194,8,none⟩=some (.int .u8 a0_8)∧w'.cell? ⟨gb194,9,none⟩=some (.int .i64 a0_9)∧w'.cell? ⟨gb194,10,none⟩=some (.int .i64 a0_10)∧w'.cell? ⟨gb194,11,none⟩=some (.int .i64 a0_11)) (ds:= []) #[Y,Y,Y,Y,Y,Y,Y,Y] (by kernel_rfl) rfl rfl (bqc12 BK194.out) (fun hHeld=>?_);refine with_tabW spoorref11_Check.tab16 spoorref11_Check.bits16 (fun HT_ HW_=>?_);generalize wc.drew=w130 at BK194 BK195 HB hHeld ⊢;refine pz 0 75 #[Z,Y,Y,Y,Y,Y,Y,Y] HT_.out ?_
             refine pz 2 77 #[Z,Y,Z,Y,Y,Y,Y,Y] HT_.out ?_
             refine take_ (i:=1) (N:=some 76) (v:=?_) (a':=?_) #[Z,Z,Z,Y,Y,Y,Y,Y] rfl rfl (take_ofW HT_.out HW_.out (by kernel_rfl)) (fun _ _ _ h=>h) (Or.inl ⟨by rfl,?_⟩) hHeld ?_ ?_;rotate_left
             ·rintro w' ⟨s0,s1,s2,s3,s4,s5,s6,s7,s8,s9,s10,s11⟩
              go_simp;with_reducible rfl
             rotate_left;·simp only[sP];rfl
             refine pz 4 79 #[Z,Z,Z,Y,Z,Y,Y,Y] HT_.out ?_
             refine take_ (i:=3) (N:=some 78) (v:=?_) (a':=?_) #[Z,Z,Z,Z,Z,Y,Y,Y] rfl rfl (take_ofW HT_.out HW_.out (by kernel_rfl)) (fun _ _ _ h=>h) (Or.inl ⟨by rfl,?_⟩) hHeld ?_ ?_;rotate_left
             ·rintro w' ⟨s0,s1,s2,s3,s4,s5,s6,s7,s8,s9,s10,s11⟩
              go_simp;with_reducible rfl
             rotate_left;·simp only[sP];rfl
             refine one_ (i:=5) (N:=none) #[Z,Z,Z,Z,Z,Z,Y,Y] rfl rfl (one_of HT_.out (by kernel_rfl)) (by decide) (fun K hK=>?_);have hs131:w130.cell? ⟨gb195,10,none⟩=some (.int .i64 0):=(blk_cell BK195.out 10).trans rfl;have hfs131:=blk_frozen BK195.out 10;have hns131_0:=NB194_195.out;have hms131_0:=NB195_194.out;refine skip_ (w1:=?_) (by rfl) rfl ?_ ?_;rotate_left;·go_simp;rfl
             refine hK.out _ _ ⟨(cqf NB194_195.out (hHeld.1)),(cqf NB194_195.out (hHeld.2.1)),(cqf NB194_195.out (hHeld.2.2.1)),(cqf NB194_195.out (hHeld.2.2.2.1)),(cqf NB194_195.out (hHeld.2.2.2.2.1)),(cqf NB194_195.out (hHeld.2.2.2.2.2.1)),(cqf NB194_195.out (hHeld.2.2.2.2.2.2.1)),(cqf NB194_195.out (hHeld.2.2.2.2.2.2.2.1)),(cqf NB194_195.out (hHeld.2.2.2.2.2.2.2.2.1)),(cqf NB194_195.out (hHeld.2.2.2.2.2.2.2.2.2.1)),(cqf NB194_195.out (hHeld.2.2.2.2.2.2.2.2.2.2.1)),(cqf NB194_195.out (hHeld.2.2.2.2.2.2.2.2.2.2.2))⟩ (fun hHeld=>?_);clear hK K;refine pz 6 80 #[Z,Z,Z,Z,Z,Z,Z,Y] HT_.out ?_
             refine one_ (i:=7) (N:=none) #[Z,Z,Z,Z,Z,Z,Z,Z] rfl rfl (one_of HT_.out (by kernel_rfl)) (by decide) (fun K hK=>?_);have hs132:w130.cell? ⟨gb195,11,none⟩=some (.int .i64 0):=(blk_cell BK195.out 11).trans rfl;have hfs132:=blk_frozen BK195.out 11;have hns132_0:=NB194_195.out;have hms132_0:=NB195_194.out;refine skip_ (w1:=?_) (by rfl) rfl ?_ ?_;rotate_left;·go_simp;rfl
             refine hK.out _ _ ⟨(cqf NB194_195.out (hHeld.1)),(cqf NB194_195.out (hHeld.2.1)),(cqf NB194_195.out (hHeld.2.2.1)),(cqf NB194_195.out (hHeld.2.2.2.1)),(cqf NB194_195.out (hHeld.2.2.2.2.1)),(cqf NB194_195.out (hHeld.2.2.2.2.2.1)),(cqf NB194_195.out (hHeld.2.2.2.2.2.2.1)),(cqf NB194_195.out (hHeld.2.2.2.2.2.2.2.1)),(cqf NB194_195.out (hHeld.2.2.2.2.2.2.2.2.1)),(cqf NB194_195.out (hHeld.2.2.2.2.2.2.2.2.2.1)),(cqf NB194_195.out (hHeld.2.2.2.2.2.2.2.2.2.2.1)),(cqf NB194_195.out (hHeld.2.2.2.2.2.2.2.2.2.2.2))⟩ (fun hHeld=>?_);clear hK K;refine done_ (done_of HT_.out (by kernel_rfl)) ?_;have hnb133:=NB194_195.out;have hnc133:=NB195_194.out;obtain⟨hcz134_0,hcz134_1,hcz134_2,hcz134_3,hcz134_4,hcz134_5,hcz134_6,hcz134_7,hcz134_8,hcz134_9,hcz134_10,hcz134_11,hfz134_0,hfz134_1,hfz134_2,hfz134_3,hfz134_4,hfz134_5,hfz134_6,hfz134_7,hfz134_8,hfz134_9,hfz134_10,hfz134_11⟩:=cl12 BK194;try go_wp2
             go_ret;exact⟨eS,bw2 HB.out GE194.out GE195.out⟩
           ·rw [if_neg c109]at H;have c109b0:decide (a0_10≤65536)=false:=decide_eq_false c109;clear c109;obtain rfl:=Option.some.inj H;try go_wp2
            replace BK194:=Ax (blk_drew BK194.out);replace BK195:=Ax (blk_drew BK195.out);replace HB:=Ax (below_drew1 HB.out);refine start_ (n:=8) (S:=fun w'=>w'.cell? ⟨gb194,0,none⟩=some (.int .u8 a0_0)∧w'.cell? ⟨gb194,1,none⟩=some (.int .i64 a0_1)∧w'.cell? ⟨gb194,2,none⟩=some (.int .u64 a0_2)∧w'.cell? ⟨gb194,3,none⟩=some (.int .i64 a0_3)∧w'.cell? ⟨gb194,4,none⟩=some (.bool a0_4)∧w'.cell? ⟨gb194,5,none⟩=some (.int .u64 a0_5)∧w'.cell? ⟨gb194,6,none⟩=some (.int .u64 a0_6)∧w'.cell? ⟨gb194,7,none⟩=some (.int .i64 a0_7)∧w'.cell? ⟨gb194,8,none⟩=some (.int .u8 a0_8)∧w'.cell? ⟨gb194,9,none⟩=some (.int .i64 a0_9)∧w'.cell? ⟨gb194,10,none⟩=some (.int .i64 a0_10)∧w'.cell? ⟨gb194,11,none⟩=some (.int .i64 a0_11)) (ds:= []) #[Y,Y,Y,Y,Y,Y,Y,Y] (by kernel_rfl) rfl rfl (bqc12 BK194.out) (fun hHeld=>?_);refine with_tabW spoorref11_Check.tab16 spoorref11_Check.bits16 (fun HT_ HW_=>?_);generalize wc.drew=w135 at BK194 BK195 HB hHeld ⊢;refine pz 0 75 #[Z,Y,Y,Y,Y,Y,Y,Y] HT_.out ?_
            refine pz 2 77 #[Z,Y,Z,Y,Y,Y,Y,Y] HT_.out ?_
            refine take_ (i:=1) (N:=some 76) (v:=?_) (a':=?_) #[Z,Z,Z,Y,Y,Y,Y,Y] rfl rfl (take_ofW HT_.out HW_.out (by kernel_rfl)) (fun _ _ _ h=>h) (Or.inl ⟨by rfl,?_⟩) hHeld ?_ ?_;rotate_left
            ·rintro w' ⟨s0,s1,s2,s3,s4,s5,s6,s7,s8,s9,s10,s11⟩
             go_simp;with_reducible rfl
            rotate_left;·simp only[sP];rfl
            refine pz 4 79 #[Z,Z,Z,Y,Z,Y,Y,Y] HT_.out ?_
            refine take_ (i:=3) (N:=some 78) (v:=?_) (a':=?_) #[Z,Z,Z,Z,Z,Y,Y,Y] rfl rfl (take_ofW HT_.out HW_.out (by kernel_rfl)) (fun _ _ _ h=>h) (Or.inl ⟨by rfl,?_⟩) hHeld ?_ ?_;rotate_left
            ·rintro w' ⟨s0,s1,s2,s3,s4,s5,s6,s7,s8,s9,s10,s11⟩
             go_simp;with_reducible rfl
            rotate_left;·simp only[sP];rfl
            refine one_ (i:=5) (N:=none) #[Z,Z,Z,Z,Z,Z,Y,Y] rfl rfl (one_of HT_.out (by kernel_rfl)) (by decide) (fun K hK=>?_);have hs136:w135.cell? ⟨gb195,10,none⟩=some (.int .i64 0):=(blk_cell BK195.out 10).trans rfl;have hfs136:=blk_frozen BK195.out 10;have hns136_0:=NB194_195.out;have hms136_0:=NB195_194.out;refine skip_ (w1:=?_) (by rfl) rfl ?_ ?_;rotate_left;·go_simp;rfl
            refine hK.out _ _ ⟨(cqf NB194_195.out (hHeld.1)),(cqf NB194_195.out (hHeld.2.1)),(cqf NB194_195.out (hHeld.2.2.1)),(cqf NB194_195.out (hHeld.2.2.2.1)),(cqf NB194_195.out (hHeld.2.2.2.2.1)),(cqf NB194_195.out (hHeld.2.2.2.2.2.1)),(cqf NB194_195.out (hHeld.2.2.2.2.2.2.1)),(cqf NB194_195.out (hHeld.2.2.2.2.2.2.2.1)),(cqf NB194_195.out (hHeld.2.2.2.2.2.2.2.2.1)),(cqf NB194_195.out (hHeld.2.2.2.2.2.2.2.2.2.1)),(cqf NB194_195.out (hHeld.2.2.2.2.2.2.2.2.2.2.1)),(cqf NB194_195.out (hHeld.2.2.2.2.2.2.2.2.2.2.2))⟩ (fun hHeld=>?_);clear hK K;refine pz 6 80 #[Z,Z,Z,Z,Z,Z,Z,Y] HT_.out ?_
            refine one_ (i:=7) (N:=none) #[Z,Z,Z,Z,Z,Z,Z,Z] rfl rfl (one_of HT_.out (by kernel_rfl)) (by decide) (fun K hK=>?_);have hs137:w135.cell? ⟨gb195,11,none⟩=some (.int .i64 0):=(blk_cell BK195.out 11).trans rfl;have hfs137:=blk_frozen BK195.out 11;have hns137_0:=NB194_195.out;have hms137_0:=NB195_194.out;refine skip_ (w1:=?_) (by rfl) rfl ?_ ?_;rotate_left;·go_simp;rfl
            refine hK.out _ _ ⟨(cqf NB194_195.out (hHeld.1)),(cqf NB194_195.out (hHeld.2.1)),(cqf NB194_195.out (hHeld.2.2.1)),(cqf NB194_195.out (hHeld.2.2.2.1)),(cqf NB194_195.out (hHeld.2.2.2.2.1)),(cqf NB194_195.out (hHeld.2.2.2.2.2.1)),(cqf NB194_195.out (hHeld.2.2.2.2.2.2.1)),(cqf NB194_195.out (hHeld.2.2.2.2.2.2.2.1)),(cqf NB194_195.out (hHeld.2.2.2.2.2.2.2.2.1)),(cqf NB194_195.out (hHeld.2.2.2.2.2.2.2.2.2.1)),(cqf NB194_195.out (hHeld.2.2.2.2.2.2.2.2.2.2.1)),(cqf NB194_195.out (hHeld.2.2.2.2.2.2.2.2.2.2.2))⟩ (fun hHeld=>?_);clear hK K;refine done_ (done_of HT_.out (by kernel_rfl)) ?_;have hnb138:=NB194_195.out;have hnc138:=NB195_194.out;obtain⟨hcz139_0,hcz139_1,hcz139_2,hcz139_3,hcz139_4,hcz139_5,hcz139_6,hcz139_7,hcz139_8,hcz139_9,hcz139_10,hcz139_11,hfz139_0,hfz139_1,hfz139_2,hfz139_3,hfz139_4,hfz139_5,hfz139_6,hfz139_7,hfz139_8,hfz139_9,hfz139_10,hfz139_11⟩:=cl12 BK194;try go_wp2
            go_ret;exact⟨eS,bw2 HB.out GE194.out GE195.out⟩
          ·rw [if_neg c108]at H;have c108b0:decide (0≤a0_10)=false:=decide_eq_false c108;clear c108;obtain rfl:=Option.some.inj H;try go_wp2
           replace BK194:=Ax (blk_drew BK194.out);replace BK195:=Ax (blk_drew BK195.out);replace HB:=Ax (below_drew1 HB.out);refine start_ (n:=8) (S:=fun w'=>w'.cell? ⟨gb194,0,none⟩=some (.int .u8 a0_0)∧w'.cell? ⟨gb194,1,none⟩=some (.int .i64 a0_1)∧w'.cell? ⟨gb194,2,none⟩=some (.int .u64 a0_2)∧w'.cell? ⟨gb194,3,none⟩=some (.int .i64 a0_3)∧w'.cell? ⟨gb194,4,none⟩=some (.bool a0_4)∧w'.cell? ⟨gb194,5,none⟩=some (.int .u64 a0_5)∧w'.cell? ⟨gb194,6,none⟩=some (.int .u64 a0_6)∧w'.cell? ⟨gb194,7,none⟩=some (.int .i64 a0_7)∧w'.cell? ⟨gb194,8,none⟩=some (.int .u8 a0_8)∧w'.cell? ⟨gb194,9,none⟩=some (.int .i64 a0_9)∧w'.cell? ⟨gb194,10,none⟩=some (.int .i64 a0_10)∧w'.cell? ⟨gb194,11,none⟩=some (.int .i64 a0_11)) (ds:= []) #[Y,Y,Y,Y,Y,Y,Y,Y] (by kernel_rfl) rfl rfl (bqc12 BK194.out) (fun hHeld=>?_);refine with_tabW spoorref11_Check.tab16 spoorref11_Check.bits16 (fun HT_ HW_=>?_);generalize wc.drew=w140 at BK194 BK195 HB hHeld ⊢;refine pz 0 75 #[Z,Y,Y,Y,Y,Y,Y,Y] HT_.out ?_
           refine pz 2 77 #[Z,Y,Z,Y,Y,Y,Y,Y] HT_.out ?_
           refine take_ (i:=1) (N:=some 76) (v:=?_) (a':=?_) #[Z,Z,Z,Y,Y,Y,Y,Y] rfl rfl (take_ofW HT_.out HW_.out (by kernel_rfl)) (fun _ _ _ h=>h) (Or.inl ⟨by rfl,?_⟩) hHeld ?_ ?_;rotate_left
           ·rintro w' ⟨s0,s1,s2,s3,s4,s5,s6,s7,s8,s9,s10,s11⟩
            go_simp;with_reducible rfl
           rotate_left;·simp only[sP];rfl
           refine pz 4 79 #[Z,Z,Z,Y,Z,Y,Y,Y] HT_.out ?_
           refine take_ (i:=3) (N:=some 78) (v:=?_) (a':=?_) #[Z,Z,Z,Z,Z,Y,Y,Y] rfl rfl (take_ofW HT_.out HW_.out (by kernel_rfl)) (fun _ _ _ h=>h) (Or.inl ⟨by rfl,?_⟩) hHeld ?_ ?_;rotate_left
           ·rintro w' ⟨s0,s1,s2,s3,s4,s5,s6,s7,s8,s9,s10,s11⟩
            go_simp;with_reducible rfl
           rotate_left;·simp only[sP];rfl
           refine one_ (i:=5) (N:=none) #[Z,Z,Z,Z,Z,Z,Y,Y] rfl rfl (one_of HT_.out (by kernel_rfl)) (by decide) (fun K hK=>?_);have hs141:w140.cell? ⟨gb195,10,none⟩=some (.int .i64 0):=(blk_cell BK195.out 10).trans rfl;have hfs141:=blk_frozen BK195.out 10;have hns141_0:=NB194_195.out;have hms141_0:=NB195_194.out;refine skip_ (w1:=?_) (by rfl) rfl ?_ ?_;rotate_left;·go_simp;rfl
           refine hK.out _ _ ⟨(cqf NB194_195.out (hHeld.1)),(cqf NB194_195.out (hHeld.2.1)),(cqf NB194_195.out (hHeld.2.2.1)),(cqf NB194_195.out (hHeld.2.2.2.1)),(cqf NB194_195.out (hHeld.2.2.2.2.1)),(cqf NB194_195.out (hHeld.2.2.2.2.2.1)),(cqf NB194_195.out (hHeld.2.2.2.2.2.2.1)),(cqf NB194_195.out (hHeld.2.2.2.2.2.2.2.1)),(cqf NB194_195.out (hHeld.2.2.2.2.2.2.2.2.1)),(cqf NB194_195.out (hHeld.2.2.2.2.2.2.2.2.2.1)),(cqf NB194_195.out (hHeld.2.2.2.2.2.2.2.2.2.2.1)),(cqf NB194_195.out (hHeld.2.2.2.2.2.2.2.2.2.2.2))⟩ (fun hHeld=>?_);clear hK K;refine pz 6 80 #[Z,Z,Z,Z,Z,Z,Z,Y] HT_.out ?_
           refine one_ (i:=7) (N:=none) #[Z,Z,Z,Z,Z,Z,Z,Z] rfl rfl (one_of HT_.out (by kernel_rfl)) (by decide) (fun K hK=>?_);have hs142:w140.cell? ⟨gb195,11,none⟩=some (.int .i64 0):=(blk_cell BK195.out 11).trans rfl;have hfs142:=blk_frozen BK195.out 11;have hns142_0:=NB194_195.out;have hms142_0:=NB195_194.out;refine skip_ (w1:=?_) (by rfl) rfl ?_ ?_;rotate_left;·go_simp;rfl
           refine hK.out _ _ ⟨(cqf NB194_195.out (hHeld.1)),(cqf NB194_195.out (hHeld.2.1)),(cqf NB194_195.out (hHeld.2.2.1)),(cqf NB194_195.out (hHeld.2.2.2.1)),(cqf NB194_195.out (hHeld.2.2.2.2.1)),(cqf NB194_195.out (hHeld.2.2.2.2.2.1)),(cqf NB194_195.out (hHeld.2.2.2.2.2.2.1)),(cqf NB194_195.out (hHeld.2.2.2.2.2.2.2.1)),(cqf NB194_195.out (hHeld.2.2.2.2.2.2.2.2.1)),(cqf NB194_195.out (hHeld.2.2.2.2.2.2.2.2.2.1)),(cqf NB194_195.out (hHeld.2.2.2.2.2.2.2.2.2.2.1)),(cqf NB194_195.out (hHeld.2.2.2.2.2.2.2.2.2.2.2))⟩ (fun hHeld=>?_);clear hK K;refine done_ (done_of HT_.out (by kernel_rfl)) ?_;have hnb143:=NB194_195.out;have hnc143:=NB195_194.out;obtain⟨hcz144_0,hcz144_1,hcz144_2,hcz144_3,hcz144_4,hcz144_5,hcz144_6,hcz144_7,hcz144_8,hcz144_9,hcz144_10,hcz144_11,hfz144_0,hfz144_1,hfz144_2,hfz144_3,hfz144_4,hfz144_5,hfz144_6,hfz144_7,hfz144_8,hfz144_9,hfz144_10,hfz144_11⟩:=cl12 BK194;try go_wp2
           go_ret;exact⟨eS,bw2 HB.out GE194.out GE195.out⟩
         ·rw [if_neg c107]at H;have c107b0:(a0_0==5)=false:=beq_eq_false_iff_ne.mpr c107;have c107b1:(a0_0 !=5)=true:=bne_iff_ne.mpr c107;by_cases c145:a0_0=6
          ·rw [if_pos c145]at H;have c145b0:(a0_0==6)=true:=beq_iff_eq.mpr c145;have c145b1:(a0_0 !=6)=false:=bne_eq_false_iff_eq.mpr c145;clear c145;by_cases c146:a0_10 ≥ 0
           ·rw [if_pos c146]at H;have c146b0:decide (0≤a0_10)=true:=decide_eq_true c146;clear c146;by_cases c147:a0_10≤65536
            ·rw [if_pos c147]at H;have c147b0:decide (a0_10≤65536)=true:=decide_eq_true c147;clear c147;by_cases c148:(!(a0_0==a0_0)||(!(a0_1==a0_1)||(!(a0_2==a0_2)||(!(a0_3==a0_3)||((!(false==a0_4)||((!(0==a0_5)||(!(0==a0_6)))||(!(0==a0_7))))||((!(0==a0_8)||(!(0==a0_9)))||(!(0==a0_11))))))))=true
             ·rw [if_pos c148]at H;have c148b0:(!(a0_0==a0_0)||(!(a0_1==a0_1)||(!(a0_2==a0_2)||(!(a0_3==a0_3)||((!(false==a0_4)||((!(0==a0_5)||(!(0==a0_6)))||(!(0==a0_7))))||((!(0==a0_8)||(!(0==a0_9)))||(!(0==a0_11))))))))=true:=c148
              (try (have c148b1:((a0_4||((!(0==a0_5)||(!(0==a0_6)))||(!(0==a0_7))))||((!(0==a0_8)||(!(0==a0_9)))||(!(0==a0_11))))=true:=by simpa using c148))
              clear c148;obtain rfl:=Option.some.inj H;have hnb149:=NB194_195.out;have hnc149:=NB195_194.out;obtain⟨hcz150_0,hcz150_1,hcz150_2,hcz150_3,hcz150_4,hcz150_5,hcz150_6,hcz150_7,hcz150_8,hcz150_9,hcz150_10,hcz150_11,hfz150_0,hfz150_1,hfz150_2,hfz150_3,hfz150_4,hfz150_5,hfz150_6,hfz150_7,hfz150_8,hfz150_9,hfz150_10,hfz150_11⟩:=cl12 BK194;obtain⟨hcz151_0,hcz151_1,hcz151_2,hcz151_3,hcz151_4,hcz151_5,hcz151_6,hcz151_7,hcz151_8,hcz151_9,hcz151_10,hcz151_11,hfz151_0,hfz151_1,hfz151_2,hfz151_3,hfz151_4,hfz151_5,hfz151_6,hfz151_7,hfz151_8,hfz151_9,hfz151_10,hfz151_11⟩:=cl12 BK195;go_wp2;go_ret;exact⟨eS,bw2 HB.out GE194.out GE195.out⟩
             ·rw [if_neg c148]at H;have c148b0:(!(a0_0==a0_0)||(!(a0_1==a0_1)||(!(a0_2==a0_2)||(!(a0_3==a0_3)||((!(false==a0_4)||((!(0==a0_5)||(!(0==a0_6)))||(!(0==a0_7))))||((!(0==a0_8)||(!(0==a0_9)))||(!(0==a0_11))))))))=false:=by simpa using c148
              (try (have c148b1:((a0_4||((!(0==a0_5)||(!(0==a0_6)))||(!(0==a0_7))))||((!(0==a0_8)||(!(0==a0_9)))||(!(0==a0_11))))=false:=by simpa using c148))
              clear c148;obtain rfl:=Option.some.inj H;have hnb152:=NB194_195.out;have hnc152:=NB195_194.out;obtain⟨hcz153_0,hcz153_1,hcz153_2,hcz153_3,hcz153_4,hcz153_5,hcz153_6,hcz153_7,hcz153_8,hcz153_9,hcz153_10,hcz153_11,hfz153_0,hfz153_1,hfz153_2,hfz153_3,hfz153_4,hfz153_5,hfz153_6,hfz153_7,hfz153_8,hfz153_9,hfz153_10,hfz153_11⟩:=cl12 BK194;obtain⟨hcz154_0,hcz154_1,hcz154_2,hcz154_3,hcz154_4,hcz154_5,hcz154_6,hcz154_7,hcz154_8,hcz154_9,hcz154_10,hcz154_11,hfz154_0,hfz154_1,hfz154_2,hfz154_3,hfz154_4,hfz154_5,hfz154_6,hfz154_7,hfz154_8,hfz154_9,hfz154_10,hfz154_11⟩:=cl12 BK195;go_wp2;go_ret;exact⟨eS,bw2 HB.out GE194.out GE195.out⟩
            ·rw [if_neg c147]at H;have c147b0:decide (a0_10≤65536)=false:=decide_eq_false c147;clear c147;obtain rfl:=Option.some.inj H;have hnb155:=NB194_195.out;have hnc155:=NB195_194.out;obtain⟨hcz156_0,hcz156_1,hcz156_2,hcz156_3,hcz156_4,hcz156_5,hcz156_6,hcz156_7,hcz156_8,hcz156_9,hcz156_10,hcz156_11,hfz156_0,hfz156_1,hfz156_2,hfz156_3,hfz156_4,hfz156_5,hfz156_6,hfz156_7,hfz156_8,hfz156_9,hfz156_10,hfz156_11⟩:=cl12 BK194;obtain⟨hcz157_0,hcz157_1,hcz157_2,hcz157_3,hcz157_4,hcz157_5,hcz157_6,hcz157_7,hcz157_8,hcz157_9,hcz157_10,hcz157_11,hfz157_0,hfz157_1,hfz157_2,hfz157_3,hfz157_4,hfz157_5,hfz157_6,hfz157_7,hfz157_8,hfz157_9,hfz157_10,hfz157_11⟩:=cl12 BK195;go_wp2;go_ret;exact⟨eS,bw2 HB.out GE194.out GE195.out⟩
           ·rw [if_neg c146]at H;have c146b0:decide (0≤a0_10)=false:=decide_eq_false c146;clear c146;obtain rfl:=Option.some.inj H;have hnb158:=NB194_195.out;have hnc158:=NB195_194.out;obtain⟨hcz159_0,hcz159_1,hcz159_2,hcz159_3,hcz159_4,hcz159_5,hcz159_6,hcz159_7,hcz159_8,hcz159_9,hcz159_10,hcz159_11,hfz159_0,hfz159_1,hfz159_2,hfz159_3,hfz159_4,hfz159_5,hfz159_6,hfz159_7,hfz159_8,hfz159_9,hfz159_10,hfz159_11⟩:=cl12 BK194;obtain⟨hcz160_0,hcz160_1,hcz160_2,hcz160_3,hcz160_4,hcz160_5,hcz160_6,hcz160_7,hcz160_8,hcz160_9,hcz160_10,hcz160_11,hfz160_0,hfz160_1,hfz160_2,hfz160_3,hfz160_4,hfz160_5,hfz160_6,hfz160_7,hfz160_8,hfz160_9,hfz160_10,hfz160_11⟩:=cl12 BK195;go_wp2;go_ret;exact⟨eS,bw2 HB.out GE194.out GE195.out⟩
          ·rw [if_neg c145]at H;have c145b0:(a0_0==6)=false:=beq_eq_false_iff_ne.mpr c145;have c145b1:(a0_0 !=6)=true:=bne_iff_ne.mpr c145;obtain rfl:=Option.some.inj H;go_wp2;go_ret;exact⟨eS,bw2 HB.out GE194.out GE195.out⟩
end Go.Proofs.Ytodgadhegcjbhaa.Q
end
section
namespace Go.Proofs.Ytodgadhegcjbhaa.Q
open Go.RowKit Go.Proofs.YtodgadhegcjbhaaW.PrintWords Go.Proofs.YtodgadhegcjbhaaW.PrintLast Go.Proofs.YtodgadhegcjbhaaW.PrintMore
attribute [local go_sem] max2_int min2_int max_two min_two max_three min_three max_four min_four   -- for this text's walks alone
set_option linter.unusedVariables false
set_option linter.unusedSimpArgs false
def spoorref05_Eight.l0 : Nat → Int → List Int → Int → Option (ByteArray)
 | 0, _, _, _ => none
 | k + 1, x0, x3, x4 => if x4 ≥ 0 then (if 0 ≤ x4 then (if x4 < (x3.length : Int) then (spoorref05_Eight.l0 k (IntKind.u64.wrap (Int.tdiv x0 256)) (x3.set (x4 : Int).toNat ((Int.tmod x0 256) % 256)) (wrap64 (x4 - 1))) else (none)) else (none)) else (some (strOfNums x3))
def spoorref05_Eight.f (k:Nat) (a0:Int):Option (ByteArray):=spoorref05_Eight.l0 k a0 (List.replicate 8 0) 7
set_option maxHeartbeats 8000000 in
set_option maxRecDepth 100000 in
theorem spoorref05_Eight.calls (k:Nat) (a0:Int) (r:ByteArray) (w:World) (h:spoorref05_Eight.f k a0=some r):
  Calls Try.prog 49 #[.int .u64 a0] w fun e w'=>e= .returned (.string r)∧Below w.heap.size w w':=by
 have HB:=Ax (Below.refl w.heap.size w);have H:(spoorref05_Eight.l0 k a0 (List.replicate 8 0) 7)=some r:=h;clear h;obtain⟨y199,hy199⟩: ∃ y_:List Int,y_=(List.replicate 8 0):=⟨_,rfl⟩;replace H:(spoorref05_Eight.l0 k a0 y199 7)=some r:=by first|(rw [hy199];with_reducible exact H)|(have H2_:=(Option.bind_some _ _).symm.trans H;rw [hy199];with_reducible exact H2_)|(have H2_:=(Option.bind_some _ _).symm.trans H;with_reducible exact H2_)|with_reducible exact H|(rw [hy199];exact H)|exact H
 have Ny199:=Ax hy199;clear hy199;have H':=Ax H;clear H;go_enter Try.func49,Try.ntmps49;go_wp2_with (first|((with_reducible refine gate_dst (N:=5) rfl ?_);refine Kd.R_make (Kd.int .u8) _ 5 rfl (N:=5) rfl 49 _ _ rfl 8 rfl rfl Try.underlying49 (.int .u8 0) 1 info5 rfl (by decide) (by omega) 0 (ok:=fun _=>True) (okp:=fun _=>True) rfl (fun _ hk=>hk) trivial (by omega) (by omega) (Below.refl _ _) (Nat.le_refl _) ?_;intro v200 w2 ho3 hb hg_ hnew_;clear hg_ hnew_;(first|rw [← Ny199.out]at ho3|(simp only[Int.reduceToNat]at ho3;rw [← Ny199.out]at ho3));have HO201:=Ax (Kd.R_lower ho3 (below_size (bw0 HB.out)));replace HB:=Bs0 HB hb;clear hb ho3));go_loopg [0,4] k (fun kq v0 v4 w'=> ∃ (x0_1:Int) (x3_1:List Int) (x4_1:Int),v0= .int .u64 x0_1∧v4= .int .i64 x4_1∧Aside0 (spoorref05_Eight.l0 kq x0_1 x3_1 x4_1=some r)∧Aside0 (kq≤k)∧Aside0 (Kd.R (Kd.int .u8) 5 w' w.heap.size (fun _=>True) v200 x3_1)∧Aside0 (Below w.heap.size w w'))
 case atStart=>exact⟨(a0),(y199),(7),rS,rS,H',⟨Nat.le_refl _⟩,⟨by (with_reducible repeat (first|apply Kd.R_alloc|apply Kd.R_drewN|apply Kd.R_drew));exact HO201.out⟩,⟨bw0 HB.out⟩⟩
 case round=>
  clear H';try clear p2
  obtain⟨x0_1,x3_1,x4_1,rfl,rfl,HA,HK1,HO_3,HB⟩:=hrel;cases gk with
  |zero=>exact absurd HA.out (by simp [spoorref05_Eight.l0])
  |succ k1=>
   have H:=HA.out;clear HA;simp only[spoorref05_Eight.l0]at H;by_cases c4:x4_1 ≥ 0
   ·rw [if_pos c4]at H;have c4b0:decide (0≤x4_1)=true:=decide_eq_true c4;clear c4;by_cases c5:0≤x4_1
    ·rw [if_pos c5]at H;have c5b0:decide (0≤x4_1)=true:=decide_eq_true c5;clear c5;by_cases c6:x4_1<(x3_1.length:Int)
     ·rw [if_pos c6]at H;have c6b0:decide (x4_1<(x3_1.length:Int))=true:=decide_eq_true c6;clear c6;obtain⟨y202,hy202⟩: ∃ y_:List Int,y_=(x3_1.set (x4_1:Int).toNat ((Int.tmod x0_1 256) % 256)):=⟨_,rfl⟩;replace H:(spoorref05_Eight.l0 k1 (IntKind.u64.wrap (Int.tdiv x0_1 256)) y202 (wrap64 (x4_1 - 1)))=some r:=by first|(rw [hy202];with_reducible exact H)|(have H2_:=(Option.bind_some _ _).symm.trans H;rw [hy202];with_reducible exact H2_)|(have H2_:=(Option.bind_some _ _).symm.trans H;with_reducible exact H2_)|with_reducible exact H|(rw [hy202];exact H)|exact H
      have Ny202:=Ax hy202;clear hy202;have H':=Ax H;clear H;have p7:0≤(x4_1:Int):=of_decide_eq_true (by first|(with_reducible assumption)|assumption);have q7:(x4_1:Int)<((x3_1.length:Int):Int):=of_decide_eq_true (by first|(with_reducible assumption)|assumption);obtain⟨go7,co7,eo7,gb7,gl7,cl7,HG7⟩:=Kd.R_form HO_3.out (by omega)
      (first|cases eo7|(injection eo7 with ea_ en_ ec_;(first|subst ea_|(injection ea_ with ea_;subst ea_));subst ec_;clear en_))
      have GB7:=Ax gb7;have GG7:=Ax HG7;clear gb7 gl7 HG7;obtain⟨hx7_0,hf7_0⟩:=Kd.R_celln 0 HO_3.out (x4_1:Int) p7 q7;replace p7:=eq_true p7;replace q7:=eq_true q7;have HP8:=Kd.R_putg HO_3.out (x4_1:Int) ((Int.tmod x0_1 256) % 256);go_wp2_with (first|((with_reducible refine gate_store (t:=5) (p:=15) rfl ?_);refine store_event (t:=5) (p:=15) (v:= ?vo_w9) (w1:=(wr.setCell ⟨go7,(x4_1:Int).toNat,none⟩ (.int .u8 ((Int.tmod x0_1 256) % 256)))) ?hg ?ho ?hn ?hr ?_;(case ho=>rfl);(case hg=>rfl);(case hn=>rfl);(case hr=>first|(go_simp;done)|(go_simp;rfl));intro w9 hw;have hg:wr.grownBy w9 (some go7):=(by rw [hw];exact HP8.2);have hp_:Kd.R (Kd.int .u8) 5 w9 w.heap.size (fun _=>True) (.slice (some ⟨go7,0,none⟩) x3_1.length co7) y202:=(by rw [hw,Ny202.out];exact HP8.1);clear HP8;have n0_:=Ax (hp_);have n1_:=Ax ((by rw [hw];exact below_set (HB.out) GB7.out:Below w.heap.size w w9));clear HO_3;clear HB;have HO_3:=n0_;have HB:=n1_;clear n0_ n1_;clear hg hw hp_));go_roundg k1
      case measure=>have:=HK1.out;omega
      case rel=>exact⟨(IntKind.u64.wrap (Int.tdiv x0_1 256)),(y202),(wrap64 (x4_1 - 1)),rS,rS,H',⟨by have:=HK1.out;omega⟩,⟨by (with_reducible repeat (first|apply Kd.R_alloc|apply Kd.R_drewN|apply Kd.R_drew));exact HO_3.out⟩,⟨bw0 HB.out⟩⟩
     ·rw [if_neg c6]at H;exact absurd H (by simp)
    ·rw [if_neg c5]at H;exact absurd H (by simp)
   ·rw [if_neg c4]at H;have c4b0:decide (0≤x4_1)=false:=decide_eq_false c4;clear c4;obtain rfl:=Option.some.inj H;have hcv10:=own_string (P:=Try.prog) Try.underlying49 Try.underlying5 Try.underlying9 (Kd.own_of_R HO_3.out);go_wp2;go_ret;exact⟨eS,bw0 HB.out⟩
def spoorref11_address.f (k:Nat) (a0:Bool) (a1_0:Int) (a1_1:Int):Option (ByteArray):=(spoorref05_Eight.f k a1_0).bind fun t204=>((spoorref05_Eight.f k a1_1).bind fun t205=>(if t204.size+t205.size≤9223372036854775807 then (if a0=true then (some (t204++t205)) else (if 12≤((t204++t205).size:Int) then (some ((t204++t205).extract 12 (t204++t205).size)) else (none))) else (none)))
def spoorref11_address.T1:Bool × List (List Nat × List Nat):=(true, [([], []),([0], [0]),([1], [1]),([], []),([3], [3]),([4,2], [4]),([2,5], [2,5]),([6,5,0,1,2,3,4,5,6], [6])])
def spoorref11_address.B1:List Nat:= [0,1,3,0,8,31,63,127]
theorem spoorref11_address.tab1:rtab .any (opsOf Try.f38 1)=spoorref11_address.T1:=by kernel_rfl
theorem spoorref11_address.bits1:waitsOk spoorref11_address.T1.2 spoorref11_address.B1=true:=by kernel_rfl
set_option maxHeartbeats 8000000 in
set_option maxRecDepth 100000 in
theorem spoorref11_address.calls (k:Nat) (a0:Bool) (a1_0:Int) (a1_1:Int) (r:ByteArray) (w:World) (h:spoorref11_address.f k a0 a1_0 a1_1=some r):
  Calls Try.prog 38 #[.bool a0,.agg #[.int .u64 a1_0,.int .u64 a1_1]] w fun e w'=>e= .returned (.string r)∧Below w.heap.size w w':=by
 have hu25:=Try.underlying25;have HB:=Ax (Below.refl w.heap.size w);have H:((spoorref05_Eight.f k a1_0).bind fun t204=>((spoorref05_Eight.f k a1_1).bind fun t205=>(if t204.size+t205.size≤9223372036854775807 then (if a0=true then (some (t204++t205)) else (if 12≤((t204++t205).size:Int) then (some ((t204++t205).extract 12 (t204++t205).size)) else (none))) else (none))))=some r:=h;clear h;replace H:=Option.bind_eq_some_iff.mp H;obtain⟨t204,A30,H⟩:=H;replace H:((spoorref05_Eight.f k a1_1).bind fun t205=>(if t204.size+t205.size≤9223372036854775807 then (if a0=true then (some (t204++t205)) else (if 12≤((t204++t205).size:Int) then (some ((t204++t205).extract 12 (t204++t205).size)) else (none))) else (none)))=some r:=H;have A3:=Ax A30;clear A30;replace H:=Option.bind_eq_some_iff.mp H;obtain⟨t205,A40,H⟩:=H;replace H:(if t204.size+t205.size≤9223372036854775807 then (if a0=true then (some (t204++t205)) else (if 12≤((t204++t205).size:Int) then (some ((t204++t205).extract 12 (t204++t205).size)) else (none))) else (none))=some r:=H;have A4:=Ax A40;clear A40;by_cases c5:t204.size+t205.size≤9223372036854775807
 ·rw [if_pos c5]at H;have c5b0:=eq_true c5;have c5b1:decide (t204.size+t205.size≤9223372036854775807)=true:=decide_eq_true c5;try have c5b2:(9223372036854775807<t204.size+t205.size)=False:=eq_false (Nat.not_lt.2 c5)
  by_cases c6:a0=true
  ·subst c6;have H1:(some (t204++t205))=some r:=by rw [if_pos rfl]at H;exact H
   clear H;have H:=H1;clear H1;obtain rfl:=Option.some.inj H;go_enter Try.func38,Try.ntmps38;try go_wp2_with (first|((with_reducible refine gate_dst (N:=3) rfl ?_);refine box_event ?hg (N:=3) ?hd (cs:= #[.int .u64 a1_0,.int .u64 a1_1]) (t:=25) ?hr ?_;(case hd=>rfl);(case hg=>rfl);(case hr=>first|(go_simp;done)|(go_simp;rfl));intro gb203 hg w7 hbox hb;have n0_:=Bs0 HB hb;have n1_:=Ax (hbox);have n2_:=Gw0 HB hg;have n3_:=Gw0 HB hg;clear HB;have HB:=n0_;have BK203:=n1_;have GW203:=n2_;have GE203:=n3_;clear n0_ n1_ n2_ n3_;clear hb hbox hg))
   replace BK203:=Ax (blk_drew BK203.out);replace HB:=Ax (below_drew1 HB.out);refine start_ (n:=8) (S:=fun w'=>w'.cell? ⟨gb203,0,none⟩=some (.int .u64 a1_0)∧w'.cell? ⟨gb203,1,none⟩=some (.int .u64 a1_1)) (ds:= []) #[Y,Y,Y,Y,Y,Y,Y,Y] (by kernel_rfl) rfl rfl (bqc2 BK203.out) (fun hHeld=>?_);refine with_tabW spoorref11_address.tab1 spoorref11_address.bits1 (fun HT_ HW_=>?_);generalize w7.drew=w8 at BK203 HB hHeld ⊢;refine pz 0 6 #[Z,Y,Y,Y,Y,Y,Y,Y] HT_.out ?_
   refine pz 3 9 #[Z,Y,Y,Z,Y,Y,Y,Y] HT_.out ?_
   refine take_ (i:=1) (N:=some 7) (v:=?_) (a':=?_) #[Z,Z,Y,Z,Y,Y,Y,Y] rfl rfl (take_ofW HT_.out HW_.out (by kernel_rfl)) (fun _ _ _ h=>h) (Or.inl ⟨by rfl,?_⟩) hHeld ?_ ?_;rotate_left
   ·rintro w' ⟨s0,s1⟩
    go_simp;with_reducible rfl
   rotate_left;·simp only[sP];rfl
   refine take_ (i:=4) (N:=some 10) (v:=?_) (a':=?_) #[Z,Z,Y,Z,Z,Y,Y,Y] rfl rfl (take_ofW HT_.out HW_.out (by kernel_rfl)) (fun _ _ _ h=>h) (Or.inl ⟨by rfl,?_⟩) hHeld ?_ ?_;rotate_left
   ·rintro w' ⟨s0,s1⟩
    go_simp;with_reducible rfl
   rotate_left;·simp only[sP];rfl
   refine one_ (i:=2) (N:=some 8) #[Z,Z,Z,Z,Z,Y,Y,Y] rfl rfl (one_of HT_.out (by kernel_rfl)) (by decide) (fun K hK=>?_);refine goes_ Try.func49 (by kernel_rfl) rfl #[.int .u64 a1_0] (by rfl) rfl rfl gS ?_;with_reducible refine (spoorref05_Eight.calls k a1_0 t204 _ A3.out).mono ?_
   rintro e w9 ⟨rfl,hb⟩
   refine⟨_,rfl,?_⟩;replace BK203:=Bx0 BK203 hb;replace HB:=Bs1 HB hb GE203.out
   (try clear hb)
   refine hK.out _ _ (bqc2 BK203.out) (fun hHeld=>?_);clear hK K;refine norm_ (a':=?_) ?_ ?_;rotate_left
   ·show Act.put _ (some 8) _=_
    simp only[sP];rfl
   refine one_ (i:=5) (N:=some 11) #[Z,Z,Z,Z,Z,Z,Y,Y] rfl rfl (one_of HT_.out (by kernel_rfl)) (by decide) (fun K hK=>?_);refine goes_ Try.func49 (by kernel_rfl) rfl #[.int .u64 a1_1] (by rfl) rfl rfl gS ?_;with_reducible refine (spoorref05_Eight.calls k a1_1 t205 _ A4.out).mono ?_
   rintro e w10 ⟨rfl,hb⟩
   refine⟨_,rfl,?_⟩;replace BK203:=Bx0 BK203 hb;replace HB:=Bs1 HB hb GE203.out
   (try clear hb)
   refine hK.out _ _ (bqc2 BK203.out) (fun hHeld=>?_);clear hK K;refine norm_ (a':=?_) ?_ ?_;rotate_left
   ·show Act.put _ (some 11) _=_
    simp only[sP];rfl
   refine pz 6 12 #[Z,Z,Z,Z,Z,Z,Z,Y] HT_.out ?_
   refine pz 7 5 #[Z,Z,Z,Z,Z,Z,Z,Z] HT_.out ?_
   refine done_ (done_of HT_.out (by kernel_rfl)) ?_;try go_wp2
   go_ret;exact⟨eS,bw1 HB.out GE203.out⟩
  ·replace c6:=Bool.eq_false_iff.mpr c6;subst c6;have H1:(if 12≤((t204++t205).size:Int) then (some ((t204++t205).extract 12 (t204++t205).size)) else (none))=some r:=by rw [if_neg (show ¬ (false=true) by decide)]at H;exact H
   clear H;have H:=H1;clear H1;by_cases c11:12≤((t204++t205).size:Int)
   ·rw [if_pos c11]at H;have c11b0:=eq_true c11;have c11b1:decide (12≤((t204++t205).size:Int))=true:=decide_eq_true c11;obtain rfl:=Option.some.inj H;go_enter Try.func38,Try.ntmps38;try go_wp2_with (first|((with_reducible refine gate_dst (N:=3) rfl ?_);refine box_event ?hg (N:=3) ?hd (cs:= #[.int .u64 a1_0,.int .u64 a1_1]) (t:=25) ?hr ?_;(case hd=>rfl);(case hg=>rfl);(case hr=>first|(go_simp;done)|(go_simp;rfl));intro gb203 hg w12 hbox hb;have n0_:=Bs0 HB hb;have n1_:=Ax (hbox);have n2_:=Gw0 HB hg;have n3_:=Gw0 HB hg;clear HB;have HB:=n0_;have BK203:=n1_;have GW203:=n2_;have GE203:=n3_;clear n0_ n1_ n2_ n3_;clear hb hbox hg))
    replace BK203:=Ax (blk_drew BK203.out);replace HB:=Ax (below_drew1 HB.out);refine start_ (n:=8) (S:=fun w'=>w'.cell? ⟨gb203,0,none⟩=some (.int .u64 a1_0)∧w'.cell? ⟨gb203,1,none⟩=some (.int .u64 a1_1)) (ds:= []) #[Y,Y,Y,Y,Y,Y,Y,Y] (by kernel_rfl) rfl rfl (bqc2 BK203.out) (fun hHeld=>?_);refine with_tabW spoorref11_address.tab1 spoorref11_address.bits1 (fun HT_ HW_=>?_);generalize w12.drew=w13 at BK203 HB hHeld ⊢;refine pz 0 6 #[Z,Y,Y,Y,Y,Y,Y,Y] HT_.out ?_
    refine pz 3 9 #[Z,Y,Y,Z,Y,Y,Y,Y] HT_.out ?_
    refine take_ (i:=1) (N:=some 7) (v:=?_) (a':=?_) #[Z,Z,Y,Z,Y,Y,Y,Y] rfl rfl (take_ofW HT_.out HW_.out (by kernel_rfl)) (fun _ _ _ h=>h) (Or.inl ⟨by rfl,?_⟩) hHeld ?_ ?_;rotate_left
    ·rintro w' ⟨s0,s1⟩
     go_simp;with_reducible rfl
    rotate_left;·simp only[sP];rfl
    refine take_ (i:=4) (N:=some 10) (v:=?_) (a':=?_) #[Z,Z,Y,Z,Z,Y,Y,Y] rfl rfl (take_ofW HT_.out HW_.out (by kernel_rfl)) (fun _ _ _ h=>h) (Or.inl ⟨by rfl,?_⟩) hHeld ?_ ?_;rotate_left
    ·rintro w' ⟨s0,s1⟩
     go_simp;with_reducible rfl
    rotate_left;·simp only[sP];rfl
    refine one_ (i:=2) (N:=some 8) #[Z,Z,Z,Z,Z,Y,Y,Y] rfl rfl (one_of HT_.out (by kernel_rfl)) (by decide) (fun K hK=>?_);refine goes_ Try.func49 (by kernel_rfl) rfl #[.int .u64 a1_0] (by rfl) rfl rfl gS ?_;with_reducible refine (spoorref05_Eight.calls k a1_0 t204 _ A3.out).mono ?_
    rintro e w14 ⟨rfl,hb⟩
    refine⟨_,rfl,?_⟩;replace BK203:=Bx0 BK203 hb;replace HB:=Bs1 HB hb GE203.out
    (try clear hb)
    refine hK.out _ _ (bqc2 BK203.out) (fun hHeld=>?_);clear hK K;refine norm_ (a':=?_) ?_ ?_;rotate_left
    ·show Act.put _ (some 8) _=_
     simp only[sP];rfl
    refine one_ (i:=5) (N:=some 11) #[Z,Z,Z,Z,Z,Z,Y,Y] rfl rfl (one_of HT_.out (by kernel_rfl)) (by decide) (fun K hK=>?_);refine goes_ Try.func49 (by kernel_rfl) rfl #[.int .u64 a1_1] (by rfl) rfl rfl gS ?_;with_reducible refine (spoorref05_Eight.calls k a1_1 t205 _ A4.out).mono ?_
    rintro e w15 ⟨rfl,hb⟩
    refine⟨_,rfl,?_⟩;replace BK203:=Bx0 BK203 hb;replace HB:=Bs1 HB hb GE203.out
    (try clear hb)
    refine hK.out _ _ (bqc2 BK203.out) (fun hHeld=>?_);clear hK K;refine norm_ (a':=?_) ?_ ?_;rotate_left
    ·show Act.put _ (some 11) _=_
     simp only[sP];rfl
    refine pz 6 12 #[Z,Z,Z,Z,Z,Z,Z,Y] HT_.out ?_
    refine pz 7 5 #[Z,Z,Z,Z,Z,Z,Z,Z] HT_.out ?_
    refine done_ (done_of HT_.out (by kernel_rfl)) ?_;try go_wp2
    go_ret;exact⟨eS,bw1 HB.out GE203.out⟩
   ·rw [if_neg c11]at H;exact absurd H (by simp)
 ·rw [if_neg c5]at H;exact absurd H (by simp)
def spoorref11_PutPrefix.f (k:Nat) (a0_0:Bool) (a0_1:Int) (a0_2:Int) (a0_3:Int):Option (ByteArray × Int):=(spoorref09_Check.f k a0_0 a0_1 a0_2 a0_3).bind fun t207=>(if t207=0 then (if a0_0=true then ((some (([6,(a0_3) % 256]:List Int):List Int)).bind fun y208=>((spoorref11_address.f k a0_0 a0_1 a0_2).bind fun t211=>(if 0≤(wrap64 (Int.tdiv (wrap64 (a0_3+7)) 8)) then (if (wrap64 (Int.tdiv (wrap64 (a0_3+7)) 8))≤(t211.size:Int) then (if (strOfNums y208).size+(t211.extract 0 ((wrap64 (Int.tdiv (wrap64 (a0_3+7)) 8)):Int).toNat).size≤9223372036854775807 then (some ((strOfNums y208)++(t211.extract 0 ((wrap64 (Int.tdiv (wrap64 (a0_3+7)) 8)):Int).toNat),0)) else (none)) else (none)) else (none)))) else ((some (([4,(a0_3) % 256]:List Int):List Int)).bind fun y212=>((spoorref11_address.f k a0_0 a0_1 a0_2).bind fun t215=>(if 0≤(wrap64 (Int.tdiv (wrap64 (a0_3+7)) 8)) then (if (wrap64 (Int.tdiv (wrap64 (a0_3+7)) 8))≤(t215.size:Int) then (if (strOfNums y212).size+(t215.extract 0 ((wrap64 (Int.tdiv (wrap64 (a0_3+7)) 8)):Int).toNat).size≤9223372036854775807 then (some ((strOfNums y212)++(t215.extract 0 ((wrap64 (Int.tdiv (wrap64 (a0_3+7)) 8)):Int).toNat),0)) else (none)) else (none)) else (none))))) else (some ((⟨#[]⟩:ByteArray),2)))
def spoorref11_PutPrefix.T6:Bool × List (List Nat × List Nat):=(true, [([], []),([], []),([1], [1]),([2], [2]),([0,3], [0,3]),([4], [4]),([], []),([6], [6]),([], []),([8], [8]),([7,9], [7,9]),([], []),([11], [11]),([12], [12]),([13], [13]),([10,14], [10,14]),([5,15], [5,15]),([16,10,0,1,2,3,4,5,6,7,8,9,10,11,12,13,14,15,16], [16]),([17,0,1,2,3,4,5,6,7,8,9,10,11,12,13,14,15,16,17], [])])
def spoorref11_PutPrefix.B6:List Nat:= [0,0,2,6,15,31,0,64,0,256,960,0,2048,6144,14336,32704,65535,131071,262143]
theorem spoorref11_PutPrefix.tab6:rtab .any (opsOf Try.f16 6)=spoorref11_PutPrefix.T6:=by kernel_rfl
theorem spoorref11_PutPrefix.bits6:waitsOk spoorref11_PutPrefix.T6.2 spoorref11_PutPrefix.B6=true:=by kernel_rfl
set_option maxHeartbeats 8000000 in
set_option maxRecDepth 100000 in
theorem spoorref11_PutPrefix.calls (k:Nat) (a0_0:Bool) (a0_1:Int) (a0_2:Int) (a0_3:Int) (r1:ByteArray) (r2:Int) (w:World) (h:spoorref11_PutPrefix.f k a0_0 a0_1 a0_2 a0_3=some (r1,r2)):
  Calls Try.prog 16 #[.agg #[.bool a0_0,.int .u64 a0_1,.int .u64 a0_2,.int .i64 a0_3]] w fun e w'=>e= .returned (.tuple #[.string r1,.int .i64 r2])∧Below w.heap.size w w':=by
 have hu27:=Try.underlying27;have hu25:=Try.underlying25;have HB:=Ax (Below.refl w.heap.size w);have H:((spoorref09_Check.f k a0_0 a0_1 a0_2 a0_3).bind fun t207=>(if t207=0 then (if a0_0=true then ((some (([6,(a0_3) % 256]:List Int):List Int)).bind fun y208=>((spoorref11_address.f k a0_0 a0_1 a0_2).bind fun t211=>(if 0≤(wrap64 (Int.tdiv (wrap64 (a0_3+7)) 8)) then (if (wrap64 (Int.tdiv (wrap64 (a0_3+7)) 8))≤(t211.size:Int) then (if (strOfNums y208).size+(t211.extract 0 ((wrap64 (Int.tdiv (wrap64 (a0_3+7)) 8)):Int).toNat).size≤9223372036854775807 then (some ((strOfNums y208)++(t211.extract 0 ((wrap64 (Int.tdiv (wrap64 (a0_3+7)) 8)):Int).toNat),0)) else (none)) else (none)) else (none)))) else ((some (([4,(a0_3) % 256]:List Int):List Int)).bind fun y212=>((spoorref11_address.f k a0_0 a0_1 a0_2).bind fun t215=>(if 0≤(wrap64 (Int.tdiv (wrap64 (a0_3+7)) 8)) then (if (wrap64 (Int.tdiv (wrap64 (a0_3+7)) 8))≤(t215.size:Int) then (if (strOfNums y212).size+(t215.extract 0 ((wrap64 (Int.tdiv (wrap64 (a0_3+7)) 8)):Int).toNat).size≤9223372036854775807 then (some ((strOfNums y212)++(t215.extract 0 ((wrap64 (Int.tdiv (wrap64 (a0_3+7)) 8)):Int).toNat),0)) else (none)) else (none)) else (none))))) else (some ((⟨#[]⟩:ByteArray),2))))=some (r1,r2):=h;clear h;replace H:=Option.bind_eq_some_iff.mp H;obtain⟨t207,A20,H⟩:=H;replace H:(if t207=0 then (if a0_0=true then ((some (([6,(a0_3) % 256]:List Int):List Int)).bind fun y208=>((spoorref11_address.f k a0_0 a0_1 a0_2).bind fun t211=>(if 0≤(wrap64 (Int.tdiv (wrap64 (a0_3+7)) 8)) then (if (wrap64 (Int.tdiv (wrap64 (a0_3+7)) 8))≤(t211.size:Int) then (if (strOfNums y208).size+(t211.extract 0 ((wrap64 (Int.tdiv (wrap64 (a0_3+7)) 8)):Int).toNat).size≤9223372036854775807 then (some ((strOfNums y208)++(t211.extract 0 ((wrap64 (Int.tdiv (wrap64 (a0_3+7)) 8)):Int).toNat),0)) else (none)) else (none)) else (none)))) else ((some (([4,(a0_3) % 256]:List Int):List Int)).bind fun y212=>((spoorref11_address.f k a0_0 a0_1 a0_2).bind fun t215=>(if 0≤(wrap64 (Int.tdiv (wrap64 (a0_3+7)) 8)) then (if (wrap64 (Int.tdiv (wrap64 (a0_3+7)) 8))≤(t215.size:Int) then (if (strOfNums y212).size+(t215.extract 0 ((wrap64 (Int.tdiv (wrap64 (a0_3+7)) 8)):Int).toNat).size≤9223372036854775807 then (some ((strOfNums y212)++(t215.extract 0 ((wrap64 (Int.tdiv (wrap64 (a0_3+7)) 8)):Int).toNat),0)) else (none)) else (none)) else (none))))) else (some ((⟨#[]⟩:ByteArray),2)))=some (r1,r2):=H;have A2:=Ax A20;clear A20;by_cases c3:t207=0
 ·rw [if_pos c3]at H;have c3b0:(t207==0)=true:=beq_iff_eq.mpr c3;have c3b1:(t207 !=0)=false:=bne_eq_false_iff_eq.mpr c3;clear c3;by_cases c4:a0_0=true
  ·subst c4;have H1:((some (([6,(a0_3) % 256]:List Int):List Int)).bind fun y208=>((spoorref11_address.f k true a0_1 a0_2).bind fun t211=>(if 0≤(wrap64 (Int.tdiv (wrap64 (a0_3+7)) 8)) then (if (wrap64 (Int.tdiv (wrap64 (a0_3+7)) 8))≤(t211.size:Int) then (if (strOfNums y208).size+(t211.extract 0 ((wrap64 (Int.tdiv (wrap64 (a0_3+7)) 8)):Int).toNat).size≤9223372036854775807 then (some ((strOfNums y208)++(t211.extract 0 ((wrap64 (Int.tdiv (wrap64 (a0_3+7)) 8)):Int).toNat),0)) else (none)) else (none)) else (none))))=some (r1,r2):=by rw [if_pos rfl]at H;exact H
   clear H;have H:=H1;clear H1;obtain⟨y208,hy208⟩: ∃ y_:List Int,y_=(([6,(a0_3) % 256]:List Int)):=⟨_,rfl⟩;replace H:((spoorref11_address.f k true a0_1 a0_2).bind fun t211=>(if 0≤(wrap64 (Int.tdiv (wrap64 (a0_3+7)) 8)) then (if (wrap64 (Int.tdiv (wrap64 (a0_3+7)) 8))≤(t211.size:Int) then (if (strOfNums y208).size+(t211.extract 0 ((wrap64 (Int.tdiv (wrap64 (a0_3+7)) 8)):Int).toNat).size≤9223372036854775807 then (some ((strOfNums y208)++(t211.extract 0 ((wrap64 (Int.tdiv (wrap64 (a0_3+7)) 8)):Int).toNat),0)) else (none)) else (none)) else (none)))=some (r1,r2):=by first|(rw [hy208];with_reducible exact H)|(have H2_:=(Option.bind_some _ _).symm.trans H;rw [hy208];with_reducible exact H2_)|(have H2_:=(Option.bind_some _ _).symm.trans H;with_reducible exact H2_)|with_reducible exact H|(rw [hy208];exact H)|exact H
   have Ny208:=Ax hy208;clear hy208;replace H:=Option.bind_eq_some_iff.mp H;obtain⟨t211,A50,H⟩:=H;replace H:(if 0≤(wrap64 (Int.tdiv (wrap64 (a0_3+7)) 8)) then (if (wrap64 (Int.tdiv (wrap64 (a0_3+7)) 8))≤(t211.size:Int) then (if (strOfNums y208).size+(t211.extract 0 ((wrap64 (Int.tdiv (wrap64 (a0_3+7)) 8)):Int).toNat).size≤9223372036854775807 then (some ((strOfNums y208)++(t211.extract 0 ((wrap64 (Int.tdiv (wrap64 (a0_3+7)) 8)):Int).toNat),0)) else (none)) else (none)) else (none))=some (r1,r2):=H;have A5:=Ax A50;clear A50;obtain⟨ji6,hji6⟩: ∃ j_:Int,(wrap64 (Int.tdiv (wrap64 (a0_3+7)) 8))=j_:=⟨_,rfl⟩;replace H:(if 0≤(ji6) then (if (ji6)≤(t211.size:Int) then (if (strOfNums y208).size+(t211.extract 0 ((ji6):Int).toNat).size≤9223372036854775807 then (some ((strOfNums y208)++(t211.extract 0 ((ji6):Int).toNat),0)) else (none)) else (none)) else (none))=some (r1,r2):=by first|(rw [hji6]at H;exact H)|(simp only[hji6]at H ⊢;exact H)
   (try rw [hji6]at A2)
   (try rw [hji6]at A5)
   have hji6w:(IntKind.i64.wrap (Int.tdiv (wrap64 (a0_3+7)) 8))=ji6:=(i64_w _).trans hji6;by_cases c7:0≤(ji6)
   ·rw [if_pos c7]at H;have c7b0:=eq_true c7;have c7b1:decide (0≤(ji6))=true:=decide_eq_true c7;clear c7;by_cases c8:(ji6)≤(t211.size:Int)
    ·rw [if_pos c8]at H;have c8b0:=eq_true c8;have c8b1:decide ((ji6)≤(t211.size:Int))=true:=decide_eq_true c8;clear c8;by_cases c9:(strOfNums y208).size+(t211.extract 0 ((ji6):Int).toNat).size≤9223372036854775807
     ·rw [if_pos c9]at H;have c9b0:=eq_true c9;have c9b1:decide ((strOfNums y208).size+(t211.extract 0 ((ji6):Int).toNat).size≤9223372036854775807)=true:=decide_eq_true c9;try have c9b2:(9223372036854775807<(strOfNums y208).size+(t211.extract 0 ((ji6):Int).toNat).size)=False:=eq_false (Nat.not_lt.2 c9)
      try (have h5_:=c9;simp [go_sem, *]at h5_;have c9b5:=eq_false (Nat.not_lt.2 h5_);clear h5_)
      simp only[Option.some.injEq,Prod.mk.injEq]at H;obtain⟨rfl,rfl⟩:=H;go_enter Try.func16,Try.ntmps16;try go_wp2_with (first|((with_reducible refine gate_dst (N:=1) rfl ?_);refine box_event ?hg (N:=1) ?hd (cs:= #[.bool true,.int .u64 a0_1,.int .u64 a0_2,.int .i64 a0_3]) (t:=27) ?hr ?_;(case hd=>rfl);(case hg=>rfl);(case hr=>first|(go_simp;done)|(go_simp;rfl));intro gb206 hg w10 hbox hb;have n0_:=Bs0 HB hb;have n1_:=Ax (hbox);have n2_:=Gw0 HB hg;have n3_:=Gw0 HB hg;clear HB;have HB:=n0_;have BK206:=n1_;have GW206:=n2_;have GE206:=n3_;clear n0_ n1_ n2_ n3_;clear hb hbox hg;obtain⟨hcz11_0,hcz11_1,hcz11_2,hcz11_3,hfz11_0,hfz11_1,hfz11_2,hfz11_3⟩:=cl4 BK206)|((with_reducible refine gate_callee (f:=36) rfl ?_);refine goesL_ (some 6) rfl rfl Try.func36 (by kernel_rfl) rfl #[.agg #[.bool true,.int .u64 a0_1,.int .u64 a0_2,.int .i64 a0_3]] rfl gS ?_;(with_reducible refine (spoorref09_Check.calls k true a0_1 a0_2 a0_3 t207 _ A2.out).mono ?_);rintro e w12 ⟨rfl,hb⟩;refine⟨_,rfl,?_⟩;replace BK206:=Bx0 BK206 hb;replace HB:=Bs1 HB hb GE206.out;(try clear hb);obtain⟨hcz13_0,hcz13_1,hcz13_2,hcz13_3,hfz13_0,hfz13_1,hfz13_2,hfz13_3⟩:=cl4 BK206))
      replace BK206:=Ax (blk_drew BK206.out);replace HB:=Ax (below_drew1 HB.out);refine start_ (n:=19) (S:=fun w'=>w'.cell? ⟨gb206,0,none⟩=some (.bool true)∧w'.cell? ⟨gb206,1,none⟩=some (.int .u64 a0_1)∧w'.cell? ⟨gb206,2,none⟩=some (.int .u64 a0_2)∧w'.cell? ⟨gb206,3,none⟩=some (.int .i64 a0_3)) (ds:= []) #[Y,Y,Y,Y,Y,Y,Y,Y,Y,Y,Y,Y,Y,Y,Y,Y,Y,Y,Y] (by kernel_rfl) rfl rfl (bqc4 BK206.out) (fun hHeld=>?_);refine with_tabW spoorref11_PutPrefix.tab6 spoorref11_PutPrefix.bits6 (fun HT_ HW_=>?_);generalize w12.drew=w14 at BK206 HB hHeld ⊢;refine pz 0 10 #[Z,Y,Y,Y,Y,Y,Y,Y,Y,Y,Y,Y,Y,Y,Y,Y,Y,Y,Y] HT_.out ?_
      refine pz 1 11 #[Z,Z,Y,Y,Y,Y,Y,Y,Y,Y,Y,Y,Y,Y,Y,Y,Y,Y,Y] HT_.out ?_
      refine pz 6 16 #[Z,Z,Y,Y,Y,Y,Z,Y,Y,Y,Y,Y,Y,Y,Y,Y,Y,Y,Y] HT_.out ?_
      refine pz 8 18 #[Z,Z,Y,Y,Y,Y,Z,Y,Z,Y,Y,Y,Y,Y,Y,Y,Y,Y,Y] HT_.out ?_
      refine pz 11 21 #[Z,Z,Y,Y,Y,Y,Z,Y,Z,Y,Y,Z,Y,Y,Y,Y,Y,Y,Y] HT_.out ?_
      refine take_ (i:=2) (N:=some 12) (v:=?_) (a':=?_) #[Z,Z,Z,Y,Y,Y,Z,Y,Z,Y,Y,Z,Y,Y,Y,Y,Y,Y,Y] rfl rfl (take_ofW HT_.out HW_.out (by kernel_rfl)) (fun _ _ _ h=>h) (Or.inl ⟨by rfl,?_⟩) hHeld ?_ ?_;rotate_left
      ·rintro w' ⟨s0,s1,s2,s3⟩
       go_simp;with_reducible rfl
      rotate_left;·simp only[sP];rfl
      refine pz 3 13 #[Z,Z,Z,Z,Y,Y,Z,Y,Z,Y,Y,Z,Y,Y,Y,Y,Y,Y,Y] HT_.out ?_
      refine take_ (i:=7) (N:=some 17) (v:=?_) (a':=?_) #[Z,Z,Z,Z,Y,Y,Z,Z,Z,Y,Y,Z,Y,Y,Y,Y,Y,Y,Y] rfl rfl (take_ofW HT_.out HW_.out (by kernel_rfl)) (fun _ _ _ h=>h) (Or.inl ⟨by rfl,?_⟩) hHeld ?_ ?_;rotate_left
      ·rintro w' ⟨s0,s1,s2,s3⟩
       go_simp;with_reducible rfl
      rotate_left;·simp only[sP];rfl
      refine take_ (i:=9) (N:=some 19) (v:=?_) (a':=?_) #[Z,Z,Z,Z,Y,Y,Z,Z,Z,Z,Y,Z,Y,Y,Y,Y,Y,Y,Y] rfl rfl (take_ofW HT_.out HW_.out (by kernel_rfl)) (fun _ _ _ h=>h) (Or.inl ⟨by rfl,?_⟩) hHeld ?_ ?_;rotate_left
      ·rintro w' ⟨s0,s1,s2,s3⟩
       go_simp;with_reducible rfl
      rotate_left;·simp only[sP];rfl
      refine take_ (i:=12) (N:=some 22) (v:=?_) (a':=?_) #[Z,Z,Z,Z,Y,Y,Z,Z,Z,Z,Y,Z,Z,Y,Y,Y,Y,Y,Y] rfl rfl (take_ofW HT_.out HW_.out (by kernel_rfl)) (fun _ _ _ h=>h) (Or.inl ⟨by rfl,?_⟩) hHeld ?_ ?_;rotate_left
      ·rintro w' ⟨s0,s1,s2,s3⟩
       go_simp;with_reducible rfl
      rotate_left;·simp only[sP];rfl
      refine pz 13 23 #[Z,Z,Z,Z,Y,Y,Z,Z,Z,Z,Y,Z,Z,Z,Y,Y,Y,Y,Y] HT_.out ?_
      refine pz 14 24 #[Z,Z,Z,Z,Y,Y,Z,Z,Z,Z,Y,Z,Z,Z,Z,Y,Y,Y,Y] HT_.out ?_
      refine join_ (σ:=Value) 3 #[Z,Z,Z,Z,Z,Z,Z,Z,Z,Z,Z,Z,Z,Z,Z,Z,Y,Y,Y] (fun s_=> [(14,s_),(15,.string (strOfNums y208)),(20,.string t211),(25,.string (t211.extract 0 ((ji6):Int).toNat))]) (fun s_ w'=>(w'.cell? ⟨gb206,0,none⟩=some (.bool true)∧w'.cell? ⟨gb206,1,none⟩=some (.int .u64 a0_1)∧w'.cell? ⟨gb206,2,none⟩=some (.int .u64 a0_2)∧w'.cell? ⟨gb206,3,none⟩=some (.int .i64 a0_3))∧(Kd.R (Kd.int .u8) 5 w' w.heap.size (fun _=>True) s_ y208)∧(w'.heap[gb206]? =some (.cells #[.bool true,.int .u64 a0_1,.int .u64 a0_2,.int .i64 a0_3] 27 (0,0)))∧(Below w.heap.size w w')) ?_ ?_;rotate_left
      ·intro hCont;refine two_ (i:=4) (j:=10) (Ni:=some 14) (Nj:=some 20) #[Z,Z,Z,Z,Z,Y,Z,Z,Z,Z,Y,Z,Z,Z,Z,Y,Y,Y,Y] #[Z,Z,Z,Z,Y,Y,Z,Z,Z,Z,Z,Z,Z,Z,Z,Y,Y,Y,Y] rfl rfl rfl rfl (two_of HT_.out (by kernel_rfl)) (by decide) (by decide) (fun K hK=>?_) (fun K hK=>?_)
       ·skip
        refine Kd.R_lit_step (Kd.int .u8) _ 5 ?hg (N:=14) ?hd (xs:=([6,(a0_3) % 256]:List Int)) (inner:= [.int .u8 6,.int .u8 ((a0_3) % 256)]) (ok:=fun _=>True) (okp:=fun _=>True) ?hr ?hp (fun _ hk=>hk) trivial (Below.refl _ _) (Nat.le_refl _) (by simp) ?_;(case hd=>rfl);(case hg=>rfl);(case hr=>first|(go_simp;done)|(go_simp;rfl));(case hp=>exact (Reps.one (show Kd.M (Kd.int .u8) _ _ _ 6 [.int .u8 6] from rfl) (Reps.one (show Kd.M (Kd.int .u8) _ _ _ ((a0_3) % 256) [.int .u8 ((a0_3) % 256)] from rfl) (Reps.none _ _))));intro v209 w15 ho16 hb hg_ hnew_;clear hg_ hnew_
        (first|rw [← Ny208.out]at ho16|(simp only[Int.reduceToNat]at ho16;rw [← Ny208.out]at ho16))
        have HO210:=Ax (Kd.R_lower ho16 (below_size (bw1 HB.out GE206.out)));replace BK206:=Bx0 BK206 hb;replace HB:=Bs1 HB hb GE206.out;clear hb ho16;refine hK.out _ _ (bqc4 BK206.out) (fun hHeld=>?_);clear hK K;refine norm_ (a':=?_) ?_ ?_;rotate_left
        ·show Act.put _ (some 14) _=_
         simp only[sP];rfl
        refine two_ (i:=5) (j:=10) (Ni:=some 15) (Nj:=some 20) #[Z,Z,Z,Z,Z,Z,Z,Z,Z,Z,Y,Z,Z,Z,Z,Y,Y,Y,Y] #[Z,Z,Z,Z,Z,Y,Z,Z,Z,Z,Z,Z,Z,Z,Z,Y,Y,Y,Y] rfl rfl rfl rfl (two_of HT_.out (by kernel_rfl)) (by decide) (by decide) (fun K hK=>?_) (fun K hK=>?_)
        ·skip
         have hcv17:=own_string (P:=Try.prog) Try.underlying49 Try.underlying5 Try.underlying9 (Kd.own_of_R HO210.out);refine value_ (w1:=?_) (v:=?_) (by rfl) rfl ?_ ?_;rotate_left 2
         ·go_simp;constructor;·rfl
          ·rfl
         clear hcv17;refine hK.out _ _ (bqc4 BK206.out) (fun hHeld=>?_);clear hK K;refine norm_ (a':=?_) ?_ ?_;rotate_left
         ·show Act.put _ (some 15) _=_
          simp only[sP];rfl
         refine one_ (i:=10) (N:=some 20) #[Z,Z,Z,Z,Z,Z,Z,Z,Z,Z,Z,Z,Z,Z,Z,Y,Y,Y,Y] rfl rfl (one_of HT_.out (by kernel_rfl)) (by decide) (fun K hK=>?_);refine goes_ Try.func38 (by kernel_rfl) rfl #[.bool true,.agg #[.int .u64 a0_1,.int .u64 a0_2]] (by rfl) rfl rfl gS ?_;with_reducible refine (spoorref11_address.calls k true a0_1 a0_2 t211 _ A5.out).mono ?_
         rintro e w18 ⟨rfl,hb⟩
         refine⟨_,rfl,?_⟩;replace HO210:=Ax (Kd.R_below (by (with_reducible repeat (first|apply Kd.R_alloc|apply Kd.R_drewN|apply Kd.R_drew));exact HO210.out) hb);replace BK206:=Bx0 BK206 hb;replace HB:=Bs1 HB hb GE206.out
         (try clear hb)
         refine hK.out _ _ (bqc4 BK206.out) (fun hHeld=>?_);clear hK K;refine norm_ (a':=?_) ?_ ?_;rotate_left
         ·show Act.put _ (some 20) _=_
          simp only[sP];rfl
         refine pz 15 25 #[Z,Z,Z,Z,Z,Z,Z,Z,Z,Z,Z,Z,Z,Z,Z,Z,Y,Y,Y] HT_.out ?_
         exact norm_ (by simp only[putAll,Act.put,List.setIfInBounds_toArray,List.set_cons_zero,List.set_cons_succ]) (hCont (v209) _ ⟨hHeld,(by (with_reducible repeat (first|apply Kd.R_alloc|apply Kd.R_drewN|apply Kd.R_drew));exact HO210.out),(bf0 BK206.out),(bw1 HB.out GE206.out)⟩)
        ·skip
         refine goes_ Try.func38 (by kernel_rfl) rfl #[.bool true,.agg #[.int .u64 a0_1,.int .u64 a0_2]] (by rfl) rfl rfl gS ?_;with_reducible refine (spoorref11_address.calls k true a0_1 a0_2 t211 _ A5.out).mono ?_
         rintro e w17 ⟨rfl,hb⟩
         refine⟨_,rfl,?_⟩;replace HO210:=Ax (Kd.R_below (by (with_reducible repeat (first|apply Kd.R_alloc|apply Kd.R_drewN|apply Kd.R_drew));exact HO210.out) hb);replace BK206:=Bx0 BK206 hb;replace HB:=Bs1 HB hb GE206.out
         (try clear hb)
         refine hK.out _ _ (bqc4 BK206.out) (fun hHeld=>?_);clear hK K;refine norm_ (a':=?_) ?_ ?_;rotate_left
         ·show Act.put _ (some 20) _=_
          simp only[sP];rfl
         refine pz 15 25 #[Z,Z,Z,Z,Z,Y,Z,Z,Z,Z,Z,Z,Z,Z,Z,Z,Y,Y,Y] HT_.out ?_
         refine one_ (i:=5) (N:=some 15) #[Z,Z,Z,Z,Z,Z,Z,Z,Z,Z,Z,Z,Z,Z,Z,Z,Y,Y,Y] rfl rfl (one_of HT_.out (by kernel_rfl)) (by decide) (fun K hK=>?_);have hcv18:=own_string (P:=Try.prog) Try.underlying49 Try.underlying5 Try.underlying9 (Kd.own_of_R HO210.out);refine value_ (w1:=?_) (v:=?_) (by rfl) rfl ?_ ?_;rotate_left 2
         ·go_simp;constructor;·rfl
          ·rfl
         clear hcv18;refine hK.out _ _ (bqc4 BK206.out) (fun hHeld=>?_);clear hK K;refine norm_ (a':=?_) ?_ ?_;rotate_left
         ·show Act.put _ (some 15) _=_
          simp only[sP];rfl
         exact norm_ (by simp only[putAll,Act.put,List.setIfInBounds_toArray,List.set_cons_zero,List.set_cons_succ]) (hCont (v209) _ ⟨hHeld,(by (with_reducible repeat (first|apply Kd.R_alloc|apply Kd.R_drewN|apply Kd.R_drew));exact HO210.out),(bf0 BK206.out),(bw1 HB.out GE206.out)⟩)
       ·skip
        refine goes_ Try.func38 (by kernel_rfl) rfl #[.bool true,.agg #[.int .u64 a0_1,.int .u64 a0_2]] (by rfl) rfl rfl gS ?_;with_reducible refine (spoorref11_address.calls k true a0_1 a0_2 t211 _ A5.out).mono ?_
        rintro e w15 ⟨rfl,hb⟩
        refine⟨_,rfl,?_⟩;replace BK206:=Bx0 BK206 hb;replace HB:=Bs1 HB hb GE206.out
        (try clear hb)
        refine hK.out _ _ (bqc4 BK206.out) (fun hHeld=>?_);clear hK K;refine norm_ (a':=?_) ?_ ?_;rotate_left
        ·show Act.put _ (some 20) _=_
         simp only[sP];rfl
        refine pz 15 25 #[Z,Z,Z,Z,Y,Y,Z,Z,Z,Z,Z,Z,Z,Z,Z,Z,Y,Y,Y] HT_.out ?_
        refine one_ (i:=4) (N:=some 14) #[Z,Z,Z,Z,Z,Y,Z,Z,Z,Z,Z,Z,Z,Z,Z,Z,Y,Y,Y] rfl rfl (one_of HT_.out (by kernel_rfl)) (by decide) (fun K hK=>?_);refine Kd.R_lit_step (Kd.int .u8) _ 5 ?hg (N:=14) ?hd (xs:=([6,(a0_3) % 256]:List Int)) (inner:= [.int .u8 6,.int .u8 ((a0_3) % 256)]) (ok:=fun _=>True) (okp:=fun _=>True) ?hr ?hp (fun _ hk=>hk) trivial (Below.refl _ _) (Nat.le_refl _) (by simp) ?_;(case hd=>rfl);(case hg=>rfl);(case hr=>first|(go_simp;done)|(go_simp;rfl));(case hp=>exact (Reps.one (show Kd.M (Kd.int .u8) _ _ _ 6 [.int .u8 6] from rfl) (Reps.one (show Kd.M (Kd.int .u8) _ _ _ ((a0_3) % 256) [.int .u8 ((a0_3) % 256)] from rfl) (Reps.none _ _))));intro v209 w16 ho17 hb hg_ hnew_;clear hg_ hnew_
        (first|rw [← Ny208.out]at ho17|(simp only[Int.reduceToNat]at ho17;rw [← Ny208.out]at ho17))
        have HO210:=Ax (Kd.R_lower ho17 (below_size (bw1 HB.out GE206.out)));replace BK206:=Bx0 BK206 hb;replace HB:=Bs1 HB hb GE206.out;clear hb ho17;refine hK.out _ _ (bqc4 BK206.out) (fun hHeld=>?_);clear hK K;refine norm_ (a':=?_) ?_ ?_;rotate_left
        ·show Act.put _ (some 14) _=_
         simp only[sP];rfl
        refine one_ (i:=5) (N:=some 15) #[Z,Z,Z,Z,Z,Z,Z,Z,Z,Z,Z,Z,Z,Z,Z,Z,Y,Y,Y] rfl rfl (one_of HT_.out (by kernel_rfl)) (by decide) (fun K hK=>?_);have hcv18:=own_string (P:=Try.prog) Try.underlying49 Try.underlying5 Try.underlying9 (Kd.own_of_R HO210.out);refine value_ (w1:=?_) (v:=?_) (by rfl) rfl ?_ ?_;rotate_left 2
        ·go_simp;constructor;·rfl
         ·rfl
        clear hcv18;refine hK.out _ _ (bqc4 BK206.out) (fun hHeld=>?_);clear hK K;refine norm_ (a':=?_) ?_ ?_;rotate_left
        ·show Act.put _ (some 15) _=_
         simp only[sP];rfl
        exact norm_ (by simp only[putAll,Act.put,List.setIfInBounds_toArray,List.set_cons_zero,List.set_cons_succ]) (hCont (v209) _ ⟨hHeld,(by (with_reducible repeat (first|apply Kd.R_alloc|apply Kd.R_drewN|apply Kd.R_drew));exact HO210.out),(bf0 BK206.out),(bw1 HB.out GE206.out)⟩)
      rintro v209 w19 ⟨hS_,h0_,h1_,h2_⟩
      have n0_:Aside0 (Kd.R (Kd.int .u8) 5 w19 w.heap.size (fun _=>True) v209 y208):=⟨h0_⟩;have n1_:Aside0 (w19.heap[gb206]? =some (.cells #[.bool true,.int .u64 a0_1,.int .u64 a0_2,.int .i64 a0_3] 27 (0,0))):=⟨h1_⟩;have n2_:Aside0 (Below w.heap.size w w19):=⟨h2_⟩;clear BK206;clear HB;clear h0_ h1_ h2_;have HO210:=n0_;have BK206:=n1_;have HB:=n2_;clear n0_ n1_ n2_;have hHeld:w19.cell? ⟨gb206,0,none⟩=some (.bool true)∧w19.cell? ⟨gb206,1,none⟩=some (.int .u64 a0_1)∧w19.cell? ⟨gb206,2,none⟩=some (.int .u64 a0_2)∧w19.cell? ⟨gb206,3,none⟩=some (.int .i64 a0_3):=hS_;refine norm_ (a':=?_) ?_ ?_;rotate_left;·simp only[putAll,Act.put,List.setIfInBounds_toArray,List.set_cons_zero,List.set_cons_succ];rfl
      refine pz 16 26 #[Z,Z,Z,Z,Z,Z,Z,Z,Z,Z,Z,Z,Z,Z,Z,Z,Z,Y,Y] HT_.out ?_
      refine pz 17 2 #[Z,Z,Z,Z,Z,Z,Z,Z,Z,Z,Z,Z,Z,Z,Z,Z,Z,Z,Y] HT_.out ?_
      refine pz 18 3 #[Z,Z,Z,Z,Z,Z,Z,Z,Z,Z,Z,Z,Z,Z,Z,Z,Z,Z,Z] HT_.out ?_
      refine done_ (done_of HT_.out (by kernel_rfl)) ?_;try go_wp2
      go_ret2;exact⟨by first|rfl|(simp [errW_none,errW_some] <;> rfl)|(simp only[← hji6];first|rfl|(simp [errW_none,errW_some] <;> rfl))|(simp [*,errW_none,errW_some] <;> rfl),bw1 HB.out GE206.out⟩
     ·rw [if_neg c9]at H;exact absurd H (by simp)
    ·rw [if_neg c8]at H;exact absurd H (by simp)
   ·rw [if_neg c7]at H;exact absurd H (by simp)
  ·replace c4:=Bool.eq_false_iff.mpr c4;subst c4;have H1:((some (([4,(a0_3) % 256]:List Int):List Int)).bind fun y212=>((spoorref11_address.f k false a0_1 a0_2).bind fun t215=>(if 0≤(wrap64 (Int.tdiv (wrap64 (a0_3+7)) 8)) then (if (wrap64 (Int.tdiv (wrap64 (a0_3+7)) 8))≤(t215.size:Int) then (if (strOfNums y212).size+(t215.extract 0 ((wrap64 (Int.tdiv (wrap64 (a0_3+7)) 8)):Int).toNat).size≤9223372036854775807 then (some ((strOfNums y212)++(t215.extract 0 ((wrap64 (Int.tdiv (wrap64 (a0_3+7)) 8)):Int).toNat),0)) else (none)) else (none)) else (none))))=some (r1,r2):=by rw [if_neg (show ¬ (false=true) by decide)]at H;exact H
   clear H;have H:=H1;clear H1;obtain⟨y212,hy212⟩: ∃ y_:List Int,y_=(([4,(a0_3) % 256]:List Int)):=⟨_,rfl⟩;replace H:((spoorref11_address.f k false a0_1 a0_2).bind fun t215=>(if 0≤(wrap64 (Int.tdiv (wrap64 (a0_3+7)) 8)) then (if (wrap64 (Int.tdiv (wrap64 (a0_3+7)) 8))≤(t215.size:Int) then (if (strOfNums y212).size+(t215.extract 0 ((wrap64 (Int.tdiv (wrap64 (a0_3+7)) 8)):Int).toNat).size≤9223372036854775807 then (some ((strOfNums y212)++(t215.extract 0 ((wrap64 (Int.tdiv (wrap64 (a0_3+7)) 8)):Int).toNat),0)) else (none)) else (none)) else (none)))=some (r1,r2):=by first|(rw [hy212];with_reducible exact H)|(have H2_:=(Option.bind_some _ _).symm.trans H;rw [hy212];with_reducible exact H2_)|(have H2_:=(Option.bind_some _ _).symm.trans H;with_reducible exact H2_)|with_reducible exact H|(rw [hy212];exact H)|exact H
   have Ny212:=Ax hy212;clear hy212;replace H:=Option.bind_eq_some_iff.mp H;obtain⟨t215,A200,H⟩:=H;replace H:(if 0≤(wrap64 (Int.tdiv (wrap64 (a0_3+7)) 8)) then (if (wrap64 (Int.tdiv (wrap64 (a0_3+7)) 8))≤(t215.size:Int) then (if (strOfNums y212).size+(t215.extract 0 ((wrap64 (Int.tdiv (wrap64 (a0_3+7)) 8)):Int).toNat).size≤9223372036854775807 then (some ((strOfNums y212)++(t215.extract 0 ((wrap64 (Int.tdiv (wrap64 (a0_3+7)) 8)):Int).toNat),0)) else (none)) else (none)) else (none))=some (r1,r2):=H;have A20:=Ax A200;clear A200;obtain⟨ji21,hji21⟩: ∃ j_:Int,(wrap64 (Int.tdiv (wrap64 (a0_3+7)) 8))=j_:=⟨_,rfl⟩;replace H:(if 0≤(ji21) then (if (ji21)≤(t215.size:Int) then (if (strOfNums y212).size+(t215.extract 0 ((ji21):Int).toNat).size≤9223372036854775807 then (some ((strOfNums y212)++(t215.extract 0 ((ji21):Int).toNat),0)) else (none)) else (none)) else (none))=some (r1,r2):=by first|(rw [hji21]at H;exact H)|(simp only[hji21]at H ⊢;exact H)
   (try rw [hji21]at A2)
   (try rw [hji21]at A20)
   have hji21w:(IntKind.i64.wrap (Int.tdiv (wrap64 (a0_3+7)) 8))=ji21:=(i64_w _).trans hji21;by_cases c22:0≤(ji21)
   ·rw [if_pos c22]at H;have c22b0:=eq_true c22;have c22b1:decide (0≤(ji21))=true:=decide_eq_true c22;clear c22;by_cases c23:(ji21)≤(t215.size:Int)
    ·rw [if_pos c23]at H;have c23b0:=eq_true c23;have c23b1:decide ((ji21)≤(t215.size:Int))=true:=decide_eq_true c23;clear c23;by_cases c24:(strOfNums y212).size+(t215.extract 0 ((ji21):Int).toNat).size≤9223372036854775807
     ·rw [if_pos c24]at H;have c24b0:=eq_true c24;have c24b1:decide ((strOfNums y212).size+(t215.extract 0 ((ji21):Int).toNat).size≤9223372036854775807)=true:=decide_eq_true c24;try have c24b2:(9223372036854775807<(strOfNums y212).size+(t215.extract 0 ((ji21):Int).toNat).size)=False:=eq_false (Nat.not_lt.2 c24)
      try (have h5_:=c24;simp [go_sem, *]at h5_;have c24b5:=eq_false (Nat.not_lt.2 h5_);clear h5_)
      simp only[Option.some.injEq,Prod.mk.injEq]at H;obtain⟨rfl,rfl⟩:=H;go_enter Try.func16,Try.ntmps16;try go_wp2_with (first|((with_reducible refine gate_dst (N:=1) rfl ?_);refine box_event ?hg (N:=1) ?hd (cs:= #[.bool false,.int .u64 a0_1,.int .u64 a0_2,.int .i64 a0_3]) (t:=27) ?hr ?_;(case hd=>rfl);(case hg=>rfl);(case hr=>first|(go_simp;done)|(go_simp;rfl));intro gb206 hg w25 hbox hb;have n0_:=Bs0 HB hb;have n1_:=Ax (hbox);have n2_:=Gw0 HB hg;have n3_:=Gw0 HB hg;clear HB;have HB:=n0_;have BK206:=n1_;have GW206:=n2_;have GE206:=n3_;clear n0_ n1_ n2_ n3_;clear hb hbox hg;obtain⟨hcz26_0,hcz26_1,hcz26_2,hcz26_3,hfz26_0,hfz26_1,hfz26_2,hfz26_3⟩:=cl4 BK206)|((with_reducible refine gate_callee (f:=36) rfl ?_);refine goesL_ (some 6) rfl rfl Try.func36 (by kernel_rfl) rfl #[.agg #[.bool false,.int .u64 a0_1,.int .u64 a0_2,.int .i64 a0_3]] rfl gS ?_;(with_reducible refine (spoorref09_Check.calls k false a0_1 a0_2 a0_3 t207 _ A2.out).mono ?_);rintro e w27 ⟨rfl,hb⟩;refine⟨_,rfl,?_⟩;replace BK206:=Bx0 BK206 hb;replace HB:=Bs1 HB hb GE206.out;(try clear hb);obtain⟨hcz28_0,hcz28_1,hcz28_2,hcz28_3,hfz28_0,hfz28_1,hfz28_2,hfz28_3⟩:=cl4 BK206))
      replace BK206:=Ax (blk_drew BK206.out);replace HB:=Ax (below_drew1 HB.out);refine start_ (n:=19) (S:=fun w'=>w'.cell? ⟨gb206,0,none⟩=some (.bool false)∧w'.cell? ⟨gb206,1,none⟩=some (.int .u64 a0_1)∧w'.cell? ⟨gb206,2,none⟩=some (.int .u64 a0_2)∧w'.cell? ⟨gb206,3,none⟩=some (.int .i64 a0_3)) (ds:= []) #[Y,Y,Y,Y,Y,Y,Y,Y,Y,Y,Y,Y,Y,Y,Y,Y,Y,Y,Y] (by kernel_rfl) rfl rfl (bqc4 BK206.out) (fun hHeld=>?_);refine with_tabW spoorref11_PutPrefix.tab6 spoorref11_PutPrefix.bits6 (fun HT_ HW_=>?_);generalize w27.drew=w29 at BK206 HB hHeld ⊢;refine pz 0 10 #[Z,Y,Y,Y,Y,Y,Y,Y,Y,Y,Y,Y,Y,Y,Y,Y,Y,Y,Y] HT_.out ?_
      refine pz 1 11 #[Z,Z,Y,Y,Y,Y,Y,Y,Y,Y,Y,Y,Y,Y,Y,Y,Y,Y,Y] HT_.out ?_
      refine pz 6 16 #[Z,Z,Y,Y,Y,Y,Z,Y,Y,Y,Y,Y,Y,Y,Y,Y,Y,Y,Y] HT_.out ?_
      refine pz 8 18 #[Z,Z,Y,Y,Y,Y,Z,Y,Z,Y,Y,Y,Y,Y,Y,Y,Y,Y,Y] HT_.out ?_
      refine pz 11 21 #[Z,Z,Y,Y,Y,Y,Z,Y,Z,Y,Y,Z,Y,Y,Y,Y,Y,Y,Y] HT_.out ?_
      refine take_ (i:=2) (N:=some 12) (v:=?_) (a':=?_) #[Z,Z,Z,Y,Y,Y,Z,Y,Z,Y,Y,Z,Y,Y,Y,Y,Y,Y,Y] rfl rfl (take_ofW HT_.out HW_.out (by kernel_rfl)) (fun _ _ _ h=>h) (Or.inl ⟨by rfl,?_⟩) hHeld ?_ ?_;rotate_left
      ·rintro w' ⟨s0,s1,s2,s3⟩
       go_simp;with_reducible rfl
      rotate_left;·simp only[sP];rfl
      refine pz 3 13 #[Z,Z,Z,Z,Y,Y,Z,Y,Z,Y,Y,Z,Y,Y,Y,Y,Y,Y,Y] HT_.out ?_
      refine take_ (i:=7) (N:=some 17) (v:=?_) (a':=?_) #[Z,Z,Z,Z,Y,Y,Z,Z,Z,Y,Y,Z,Y,Y,Y,Y,Y,Y,Y] rfl rfl (take_ofW HT_.out HW_.out (by kernel_rfl)) (fun _ _ _ h=>h) (Or.inl ⟨by rfl,?_⟩) hHeld ?_ ?_;rotate_left
      ·rintro w' ⟨s0,s1,s2,s3⟩
       go_simp;with_reducible rfl
      rotate_left;·simp only[sP];rfl
      refine take_ (i:=9) (N:=some 19) (v:=?_) (a':=?_) #[Z,Z,Z,Z,Y,Y,Z,Z,Z,Z,Y,Z,Y,Y,Y,Y,Y,Y,Y] rfl rfl (take_ofW HT_.out HW_.out (by kernel_rfl)) (fun _ _ _ h=>h) (Or.inl ⟨by rfl,?_⟩) hHeld ?_ ?_;rotate_left
      ·rintro w' ⟨s0,s1,s2,s3⟩
       go_simp;with_reducible rfl
      rotate_left;·simp only[sP];rfl
      refine take_ (i:=12) (N:=some 22) (v:=?_) (a':=?_) #[Z,Z,Z,Z,Y,Y,Z,Z,Z,Z,Y,Z,Z,Y,Y,Y,Y,Y,Y] rfl rfl (take_ofW HT_.out HW_.out (by kernel_rfl)) (fun _ _ _ h=>h) (Or.inl ⟨by rfl,?_⟩) hHeld ?_ ?_;rotate_left
      ·rintro w' ⟨s0,s1,s2,s3⟩
       go_simp;with_reducible rfl
      rotate_left;·simp only[sP];rfl
      refine pz 13 23 #[Z,Z,Z,Z,Y,Y,Z,Z,Z,Z,Y,Z,Z,Z,Y,Y,Y,Y,Y] HT_.out ?_
      refine pz 14 24 #[Z,Z,Z,Z,Y,Y,Z,Z,Z,Z,Y,Z,Z,Z,Z,Y,Y,Y,Y] HT_.out ?_
      refine join_ (σ:=Value) 3 #[Z,Z,Z,Z,Z,Z,Z,Z,Z,Z,Z,Z,Z,Z,Z,Z,Y,Y,Y] (fun s_=> [(14,s_),(15,.string (strOfNums y212)),(20,.string t215),(25,.string (t215.extract 0 ((ji21):Int).toNat))]) (fun s_ w'=>(w'.cell? ⟨gb206,0,none⟩=some (.bool false)∧w'.cell? ⟨gb206,1,none⟩=some (.int .u64 a0_1)∧w'.cell? ⟨gb206,2,none⟩=some (.int .u64 a0_2)∧w'.cell? ⟨gb206,3,none⟩=some (.int .i64 a0_3))∧(Kd.R (Kd.int .u8) 5 w' w.heap.size (fun _=>True) s_ y212)∧(w'.heap[gb206]? =some (.cells #[.bool false,.int .u64 a0_1,.int .u64 a0_2,.int .i64 a0_3] 27 (0,0)))∧(Below w.heap.size w w')) ?_ ?_;rotate_left
      ·intro hCont;refine two_ (i:=4) (j:=10) (Ni:=some 14) (Nj:=some 20) #[Z,Z,Z,Z,Z,Y,Z,Z,Z,Z,Y,Z,Z,Z,Z,Y,Y,Y,Y] #[Z,Z,Z,Z,Y,Y,Z,Z,Z,Z,Z,Z,Z,Z,Z,Y,Y,Y,Y] rfl rfl rfl rfl (two_of HT_.out (by kernel_rfl)) (by decide) (by decide) (fun K hK=>?_) (fun K hK=>?_)
       ·skip
        refine Kd.R_lit_step (Kd.int .u8) _ 5 ?hg (N:=14) ?hd (xs:=([4,(a0_3) % 256]:List Int)) (inner:= [.int .u8 4,.int .u8 ((a0_3) % 256)]) (ok:=fun _=>True) (okp:=fun _=>True) ?hr ?hp (fun _ hk=>hk) trivial (Below.refl _ _) (Nat.le_refl _) (by simp) ?_;(case hd=>rfl);(case hg=>rfl);(case hr=>first|(go_simp;done)|(go_simp;rfl));(case hp=>exact (Reps.one (show Kd.M (Kd.int .u8) _ _ _ 4 [.int .u8 4] from rfl) (Reps.one (show Kd.M (Kd.int .u8) _ _ _ ((a0_3) % 256) [.int .u8 ((a0_3) % 256)] from rfl) (Reps.none _ _))));intro v213 w30 ho31 hb hg_ hnew_;clear hg_ hnew_
        (first|rw [← Ny212.out]at ho31|(simp only[Int.reduceToNat]at ho31;rw [← Ny212.out]at ho31))
        have HO214:=Ax (Kd.R_lower ho31 (below_size (bw1 HB.out GE206.out)));replace BK206:=Bx0 BK206 hb;replace HB:=Bs1 HB hb GE206.out;clear hb ho31;refine hK.out _ _ (bqc4 BK206.out) (fun hHeld=>?_);clear hK K;refine norm_ (a':=?_) ?_ ?_;rotate_left
        ·show Act.put _ (some 14) _=_
         simp only[sP];rfl
        refine two_ (i:=5) (j:=10) (Ni:=some 15) (Nj:=some 20) #[Z,Z,Z,Z,Z,Z,Z,Z,Z,Z,Y,Z,Z,Z,Z,Y,Y,Y,Y] #[Z,Z,Z,Z,Z,Y,Z,Z,Z,Z,Z,Z,Z,Z,Z,Y,Y,Y,Y] rfl rfl rfl rfl (two_of HT_.out (by kernel_rfl)) (by decide) (by decide) (fun K hK=>?_) (fun K hK=>?_)
        ·skip
         have hcv32:=own_string (P:=Try.prog) Try.underlying49 Try.underlying5 Try.underlying9 (Kd.own_of_R HO214.out);refine value_ (w1:=?_) (v:=?_) (by rfl) rfl ?_ ?_;rotate_left 2
         ·go_simp;constructor;·rfl
          ·rfl
         clear hcv32;refine hK.out _ _ (bqc4 BK206.out) (fun hHeld=>?_);clear hK K;refine norm_ (a':=?_) ?_ ?_;rotate_left
         ·show Act.put _ (some 15) _=_
          simp only[sP];rfl
         refine one_ (i:=10) (N:=some 20) #[Z,Z,Z,Z,Z,Z,Z,Z,Z,Z,Z,Z,Z,Z,Z,Y,Y,Y,Y] rfl rfl (one_of HT_.out (by kernel_rfl)) (by decide) (fun K hK=>?_);refine goes_ Try.func38 (by kernel_rfl) rfl #[.bool false,.agg #[.int .u64 a0_1,.int .u64 a0_2]] (by rfl) rfl rfl gS ?_;with_reducible refine (spoorref11_address.calls k false a0_1 a0_2 t215 _ A20.out).mono ?_
         rintro e w33 ⟨rfl,hb⟩
         refine⟨_,rfl,?_⟩;replace HO214:=Ax (Kd.R_below (by (with_reducible repeat (first|apply Kd.R_alloc|apply Kd.R_drewN|apply Kd.R_drew));exact HO214.out) hb);replace BK206:=Bx0 BK206 hb;replace HB:=Bs1 HB hb GE206.out
         (try clear hb)
         refine hK.out _ _ (bqc4 BK206.out) (fun hHeld=>?_);clear hK K;refine norm_ (a':=?_) ?_ ?_;rotate_left
         ·show Act.put _ (some 20) _=_
          simp only[sP];rfl
         refine pz 15 25 #[Z,Z,Z,Z,Z,Z,Z,Z,Z,Z,Z,Z,Z,Z,Z,Z,Y,Y,Y] HT_.out ?_
         exact norm_ (by simp only[putAll,Act.put,List.setIfInBounds_toArray,List.set_cons_zero,List.set_cons_succ]) (hCont (v213) _ ⟨hHeld,(by (with_reducible repeat (first|apply Kd.R_alloc|apply Kd.R_drewN|apply Kd.R_drew));exact HO214.out),(bf0 BK206.out),(bw1 HB.out GE206.out)⟩)
        ·skip
         refine goes_ Try.func38 (by kernel_rfl) rfl #[.bool false,.agg #[.int .u64 a0_1,.int .u64 a0_2]] (by rfl) rfl rfl gS ?_;with_reducible refine (spoorref11_address.calls k false a0_1 a0_2 t215 _ A20.out).mono ?_
         rintro e w32 ⟨rfl,hb⟩
         refine⟨_,rfl,?_⟩;replace HO214:=Ax (Kd.R_below (by (with_reducible repeat (first|apply Kd.R_alloc|apply Kd.R_drewN|apply Kd.R_drew));exact HO214.out) hb);replace BK206:=Bx0 BK206 hb;replace HB:=Bs1 HB hb GE206.out
         (try clear hb)
         refine hK.out _ _ (bqc4 BK206.out) (fun hHeld=>?_);clear hK K;refine norm_ (a':=?_) ?_ ?_;rotate_left
         ·show Act.put _ (some 20) _=_
          simp only[sP];rfl
         refine pz 15 25 #[Z,Z,Z,Z,Z,Y,Z,Z,Z,Z,Z,Z,Z,Z,Z,Z,Y,Y,Y] HT_.out ?_
         refine one_ (i:=5) (N:=some 15) #[Z,Z,Z,Z,Z,Z,Z,Z,Z,Z,Z,Z,Z,Z,Z,Z,Y,Y,Y] rfl rfl (one_of HT_.out (by kernel_rfl)) (by decide) (fun K hK=>?_);have hcv33:=own_string (P:=Try.prog) Try.underlying49 Try.underlying5 Try.underlying9 (Kd.own_of_R HO214.out);refine value_ (w1:=?_) (v:=?_) (by rfl) rfl ?_ ?_;rotate_left 2
         ·go_simp;constructor;·rfl
          ·rfl
         clear hcv33;refine hK.out _ _ (bqc4 BK206.out) (fun hHeld=>?_);clear hK K;refine norm_ (a':=?_) ?_ ?_;rotate_left
         ·show Act.put _ (some 15) _=_
          simp only[sP];rfl
         exact norm_ (by simp only[putAll,Act.put,List.setIfInBounds_toArray,List.set_cons_zero,List.set_cons_succ]) (hCont (v213) _ ⟨hHeld,(by (with_reducible repeat (first|apply Kd.R_alloc|apply Kd.R_drewN|apply Kd.R_drew));exact HO214.out),(bf0 BK206.out),(bw1 HB.out GE206.out)⟩)
       ·skip
        refine goes_ Try.func38 (by kernel_rfl) rfl #[.bool false,.agg #[.int .u64 a0_1,.int .u64 a0_2]] (by rfl) rfl rfl gS ?_;with_reducible refine (spoorref11_address.calls k false a0_1 a0_2 t215 _ A20.out).mono ?_
        rintro e w30 ⟨rfl,hb⟩
        refine⟨_,rfl,?_⟩;replace BK206:=Bx0 BK206 hb;replace HB:=Bs1 HB hb GE206.out
        (try clear hb)
        refine hK.out _ _ (bqc4 BK206.out) (fun hHeld=>?_);clear hK K;refine norm_ (a':=?_) ?_ ?_;rotate_left
        ·show Act.put _ (some 20) _=_
         simp only[sP];rfl
        refine pz 15 25 #[Z,Z,Z,Z,Y,Y,Z,Z,Z,Z,Z,Z,Z,Z,Z,Z,Y,Y,Y] HT_.out ?_
        refine one_ (i:=4) (N:=some 14) #[Z,Z,Z,Z,Z,Y,Z,Z,Z,Z,Z,Z,Z,Z,Z,Z,Y,Y,Y] rfl rfl (one_of HT_.out (by kernel_rfl)) (by decide) (fun K hK=>?_);refine Kd.R_lit_step (Kd.int .u8) _ 5 ?hg (N:=14) ?hd (xs:=([4,(a0_3) % 256]:List Int)) (inner:= [.int .u8 4,.int .u8 ((a0_3) % 256)]) (ok:=fun _=>True) (okp:=fun _=>True) ?hr ?hp (fun _ hk=>hk) trivial (Below.refl _ _) (Nat.le_refl _) (by simp) ?_;(case hd=>rfl);(case hg=>rfl);(case hr=>first|(go_simp;done)|(go_simp;rfl));(case hp=>exact (Reps.one (show Kd.M (Kd.int .u8) _ _ _ 4 [.int .u8 4] from rfl) (Reps.one (show Kd.M (Kd.int .u8) _ _ _ ((a0_3) % 256) [.int .u8 ((a0_3) % 256)] from rfl) (Reps.none _ _))));intro v213 w31 ho32 hb hg_ hnew_;clear hg_ hnew_
        (first|rw [← Ny212.out]at ho32|(simp only[Int.reduceToNat]at ho32;rw [← Ny212.out]at ho32))
        have HO214:=Ax (Kd.R_lower ho32 (below_size (bw1 HB.out GE206.out)));replace BK206:=Bx0 BK206 hb;replace HB:=Bs1 HB hb GE206.out;clear hb ho32;refine hK.out _ _ (bqc4 BK206.out) (fun hHeld=>?_);clear hK K;refine norm_ (a':=?_) ?_ ?_;rotate_left
        ·show Act.put _ (some 14) _=_
         simp only[sP];rfl
        refine one_ (i:=5) (N:=some 15) #[Z,Z,Z,Z,Z,Z,Z,Z,Z,Z,Z,Z,Z,Z,Z,Z,Y,Y,Y] rfl rfl (one_of HT_.out (by kernel_rfl)) (by decide) (fun K hK=>?_);have hcv33:=own_string (P:=Try.prog) Try.underlying49 Try.underlying5 Try.underlying9 (Kd.own_of_R HO214.out);refine value_ (w1:=?_) (v:=?_) (by rfl) rfl ?_ ?_;rotate_left 2
        ·go_simp;constructor;·rfl
         ·rfl
        clear hcv33;refine hK.out _ _ (bqc4 BK206.out) (fun hHeld=>?_);clear hK K;refine norm_ (a':=?_) ?_ ?_;rotate_left
        ·show Act.put _ (some 15) _=_
         simp only[sP];rfl
        exact norm_ (by simp only[putAll,Act.put,List.setIfInBounds_toArray,List.set_cons_zero,List.set_cons_succ]) (hCont (v213) _ ⟨hHeld,(by (with_reducible repeat (first|apply Kd.R_alloc|apply Kd.R_drewN|apply Kd.R_drew));exact HO214.out),(bf0 BK206.out),(bw1 HB.out GE206.out)⟩)
      rintro v213 w34 ⟨hS_,h0_,h1_,h2_⟩
      have n0_:Aside0 (Kd.R (Kd.int .u8) 5 w34 w.heap.size (fun _=>True) v213 y212):=⟨h0_⟩;have n1_:Aside0 (w34.heap[gb206]? =some (.cells #[.bool false,.int .u64 a0_1,.int .u64 a0_2,.int .i64 a0_3] 27 (0,0))):=⟨h1_⟩;have n2_:Aside0 (Below w.heap.size w w34):=⟨h2_⟩;clear BK206;clear HB;clear h0_ h1_ h2_;have HO214:=n0_;have BK206:=n1_;have HB:=n2_;clear n0_ n1_ n2_;have hHeld:w34.cell? ⟨gb206,0,none⟩=some (.bool false)∧w34.cell? ⟨gb206,1,none⟩=some (.int .u64 a0_1)∧w34.cell? ⟨gb206,2,none⟩=some (.int .u64 a0_2)∧w34.cell? ⟨gb206,3,none⟩=some (.int .i64 a0_3):=hS_;refine norm_ (a':=?_) ?_ ?_;rotate_left;·simp only[putAll,Act.put,List.setIfInBounds_toArray,List.set_cons_zero,List.set_cons_succ];rfl
      refine pz 16 26 #[Z,Z,Z,Z,Z,Z,Z,Z,Z,Z,Z,Z,Z,Z,Z,Z,Z,Y,Y] HT_.out ?_
      refine pz 17 2 #[Z,Z,Z,Z,Z,Z,Z,Z,Z,Z,Z,Z,Z,Z,Z,Z,Z,Z,Y] HT_.out ?_
      refine pz 18 3 #[Z,Z,Z,Z,Z,Z,Z,Z,Z,Z,Z,Z,Z,Z,Z,Z,Z,Z,Z] HT_.out ?_
      refine done_ (done_of HT_.out (by kernel_rfl)) ?_;try go_wp2
      go_ret2;exact⟨by first|rfl|(simp [errW_none,errW_some] <;> rfl)|(simp only[← hji21];first|rfl|(simp [errW_none,errW_some] <;> rfl))|(simp [*,errW_none,errW_some] <;> rfl),bw1 HB.out GE206.out⟩
     ·rw [if_neg c24]at H;exact absurd H (by simp)
    ·rw [if_neg c23]at H;exact absurd H (by simp)
   ·rw [if_neg c22]at H;exact absurd H (by simp)
 ·rw [if_neg c3]at H;have c3b0:(t207==0)=false:=beq_eq_false_iff_ne.mpr c3;have c3b1:(t207 !=0)=true:=bne_iff_ne.mpr c3;simp only[Option.some.injEq,Prod.mk.injEq]at H;obtain⟨rfl,rfl⟩:=H;go_enter Try.func16,Try.ntmps16;go_wp2_with (first|((with_reducible refine gate_dst (N:=1) rfl ?_);refine box_event ?hg (N:=1) ?hd (cs:= #[.bool a0_0,.int .u64 a0_1,.int .u64 a0_2,.int .i64 a0_3]) (t:=27) ?hr ?_;(case hd=>rfl);(case hg=>rfl);(case hr=>first|(go_simp;done)|(go_simp;rfl));intro gb206 hg w35 hbox hb;have n0_:=Bs0 HB hb;have n1_:=Ax (hbox);have n2_:=Gw0 HB hg;have n3_:=Gw0 HB hg;clear HB;have HB:=n0_;have BK206:=n1_;have GW206:=n2_;have GE206:=n3_;clear n0_ n1_ n2_ n3_;clear hb hbox hg;obtain⟨hcz36_0,hcz36_1,hcz36_2,hcz36_3,hfz36_0,hfz36_1,hfz36_2,hfz36_3⟩:=cl4 BK206)|((with_reducible refine gate_callee (f:=36) rfl ?_);refine goesL_ (some 6) rfl rfl Try.func36 (by kernel_rfl) rfl #[.agg #[.bool a0_0,.int .u64 a0_1,.int .u64 a0_2,.int .i64 a0_3]] rfl gS ?_;(with_reducible refine (spoorref09_Check.calls k a0_0 a0_1 a0_2 a0_3 t207 _ A2.out).mono ?_);rintro e w37 ⟨rfl,hb⟩;refine⟨_,rfl,?_⟩;replace BK206:=Bx0 BK206 hb;replace HB:=Bs1 HB hb GE206.out;(try clear hb)));go_ret2;exact⟨eS,bw1 HB.out GE206.out⟩
def spoorref01_Put.f : Nat → Int → Option (ByteArray)
 | 0, _ => none
 | k + 1, a0 => if a0 < 128 then (some (strOfNums (([(a0) % 256] : List Int)))) else ((some (([(IntKind.u64.wrap ((Int.tmod a0 128) + 128)) % 256] : List Int) : List Int)).bind fun y219 => ((spoorref01_Put.f k (IntKind.u64.wrap (Int.tdiv a0 128))).bind fun t222 => (if (strOfNums y219).size + t222.size ≤ 9223372036854775807 then (some ((strOfNums y219) ++ t222)) else (none))))
def spoorref01_Put.T3:Bool × List (List Nat × List Nat):=(true, [([], []),([0], [0]),([1], [1]),([2], [2]),([3], [3]),([4], [4]),([], []),([6], [6]),([7], [7]),([5,8], [5,8]),([9,8,0,1,2,3,4,5,6,7,8,9], [9])])
def spoorref01_Put.B3:List Nat:= [0,1,3,7,15,31,0,64,192,511,1023]
theorem spoorref01_Put.tab3:rtab .any (opsOf Try.f26 3)=spoorref01_Put.T3:=by kernel_rfl
theorem spoorref01_Put.bits3:waitsOk spoorref01_Put.T3.2 spoorref01_Put.B3=true:=by kernel_rfl
set_option maxHeartbeats 8000000 in
set_option maxRecDepth 100000 in
theorem spoorref01_Put.calls (k:Nat): ∀ (a0:Int) (r:ByteArray) (w:World) (h:spoorref01_Put.f k a0=some r),
  Calls Try.prog 26 #[.int .u64 a0] w fun e w'=>e= .returned (.string r)∧Below w.heap.size w w':=by
 induction k using Nat.strongRecOn with
 |_ k ih=>
 intro a0 r w h;cases k with
 |zero=>exact absurd h (by simp [spoorref01_Put.f])
 |succ k=>
 simp only[spoorref01_Put.f]at h;have HB:=Ax (Below.refl w.heap.size w);have H:(if a0<128 then (some (strOfNums (([(a0) % 256]:List Int)))) else ((some (([(IntKind.u64.wrap ((Int.tmod a0 128)+128)) % 256]:List Int):List Int)).bind fun y219=>((spoorref01_Put.f k (IntKind.u64.wrap (Int.tdiv a0 128))).bind fun t222=>(if (strOfNums y219).size+t222.size≤9223372036854775807 then (some ((strOfNums y219)++t222)) else (none)))))=some r:=h;clear h;by_cases c2:a0<128
 ·rw [if_pos c2]at H;have c2b0:decide (a0<128)=true:=decide_eq_true c2;clear c2;obtain⟨y216,hy216⟩: ∃ y_:List Int,y_=(([(a0) % 256]:List Int)):=⟨_,rfl⟩;replace H:(some (strOfNums y216))=some r:=by first|(rw [hy216];with_reducible exact H)|(have H2_:=(Option.bind_some _ _).symm.trans H;rw [hy216];with_reducible exact H2_)|(have H2_:=(Option.bind_some _ _).symm.trans H;with_reducible exact H2_)|with_reducible exact H|(rw [hy216];exact H)|exact H
  have Ny216:=Ax hy216;clear hy216;obtain rfl:=Option.some.inj H;go_enter Try.func26,Try.ntmps26;go_wp2_with (first|((with_reducible refine gate_dst (N:=7) rfl ?_);refine Kd.R_lit (Kd.int .u8) _ 5 ?hg (N:=7) ?hd (xs:=([(a0) % 256]:List Int)) (inner:= [.int .u8 ((a0) % 256)]) (ok:=fun _=>True) (okp:=fun _=>True) ?hr ?hp (fun _ hk=>hk) trivial (Below.refl _ _) (Nat.le_refl _) (by simp) ?_;(case hd=>rfl);(case hg=>rfl);(case hr=>first|(go_simp;done)|(go_simp;rfl));(case hp=>exact (Reps.one (show Kd.M (Kd.int .u8) _ _ _ ((a0) % 256) [.int .u8 ((a0) % 256)] from rfl) (Reps.none _ _)));intro v217 w3 ho4 hb hg_ hnew_;clear hg_ hnew_;(first|rw [← Ny216.out]at ho4|(simp only[Int.reduceToNat]at ho4;rw [← Ny216.out]at ho4));have HO218:=Ax (Kd.R_lower ho4 (below_size (bw0 HB.out)));replace HB:=Bs0 HB hb;clear hb ho4;have hcv5:=own_string (P:=Try.prog) Try.underlying49 Try.underlying5 Try.underlying9 (Kd.own_of_R HO218.out)));go_ret;exact⟨eS,bw0 HB.out⟩
 ·rw [if_neg c2]at H;have c2b0:decide (a0<128)=false:=decide_eq_false c2;clear c2;obtain⟨y219,hy219⟩: ∃ y_:List Int,y_=(([(IntKind.u64.wrap ((Int.tmod a0 128)+128)) % 256]:List Int)):=⟨_,rfl⟩;replace H:((spoorref01_Put.f k (IntKind.u64.wrap (Int.tdiv a0 128))).bind fun t222=>(if (strOfNums y219).size+t222.size≤9223372036854775807 then (some ((strOfNums y219)++t222)) else (none)))=some r:=by first|(rw [hy219];with_reducible exact H)|(have H2_:=(Option.bind_some _ _).symm.trans H;rw [hy219];with_reducible exact H2_)|(have H2_:=(Option.bind_some _ _).symm.trans H;with_reducible exact H2_)|with_reducible exact H|(rw [hy219];exact H)|exact H
  have Ny219:=Ax hy219;clear hy219;replace H:=Option.bind_eq_some_iff.mp H;obtain⟨t222,A60,H⟩:=H;replace H:(if (strOfNums y219).size+t222.size≤9223372036854775807 then (some ((strOfNums y219)++t222)) else (none))=some r:=H;have A6:=Ax A60;clear A60;by_cases c7:(strOfNums y219).size+t222.size≤9223372036854775807
  ·rw [if_pos c7]at H;have c7b0:=eq_true c7;have c7b1:decide ((strOfNums y219).size+t222.size≤9223372036854775807)=true:=decide_eq_true c7;try have c7b2:(9223372036854775807<(strOfNums y219).size+t222.size)=False:=eq_false (Nat.not_lt.2 c7)
   obtain rfl:=Option.some.inj H;go_enter Try.func26,Try.ntmps26;try go_wp2
   replace HB:=Ax (below_drew1 HB.out);refine start_ (n:=11) (S:=fun w'=>True) (ds:= []) #[Y,Y,Y,Y,Y,Y,Y,Y,Y,Y,Y] (by kernel_rfl) rfl rfl trivial (fun hHeld=>?_);refine with_tabW spoorref01_Put.tab3 spoorref01_Put.bits3 (fun HT_ HW_=>?_);generalize w.drew=w8 at HB hHeld ⊢;refine pz 0 9 #[Z,Y,Y,Y,Y,Y,Y,Y,Y,Y,Y] HT_.out ?_
   refine pz 1 10 #[Z,Z,Y,Y,Y,Y,Y,Y,Y,Y,Y] HT_.out ?_
   refine pz 2 11 #[Z,Z,Z,Y,Y,Y,Y,Y,Y,Y,Y] HT_.out ?_
   refine pz 3 12 #[Z,Z,Z,Z,Y,Y,Y,Y,Y,Y,Y] HT_.out ?_
   refine pz 6 15 #[Z,Z,Z,Z,Y,Y,Z,Y,Y,Y,Y] HT_.out ?_
   refine pz 7 16 #[Z,Z,Z,Z,Y,Y,Z,Z,Y,Y,Y] HT_.out ?_
   refine join_ (σ:=Value) 2 #[Z,Z,Z,Z,Z,Z,Z,Z,Z,Y,Y] (fun s_=> [(13,s_),(14,.string (strOfNums y219)),(17,.string t222)]) (fun s_ w'=>(Kd.R (Kd.int .u8) 5 w' w.heap.size (fun _=>True) s_ y219)∧(Below w.heap.size w w')) ?_ ?_;rotate_left
   ·intro hCont;refine two_ (i:=4) (j:=8) (Ni:=some 13) (Nj:=some 17) #[Z,Z,Z,Z,Z,Y,Z,Z,Y,Y,Y] #[Z,Z,Z,Z,Y,Y,Z,Z,Z,Y,Y] rfl rfl rfl rfl (two_of HT_.out (by kernel_rfl)) (by decide) (by decide) (fun K hK=>?_) (fun K hK=>?_)
    ·skip
     refine Kd.R_lit_step (Kd.int .u8) _ 5 ?hg (N:=13) ?hd (xs:=([(IntKind.u64.wrap ((Int.tmod a0 128)+128)) % 256]:List Int)) (inner:= [.int .u8 ((IntKind.u64.wrap ((Int.tmod a0 128)+128)) % 256)]) (ok:=fun _=>True) (okp:=fun _=>True) ?hr ?hp (fun _ hk=>hk) trivial (Below.refl _ _) (Nat.le_refl _) (by simp) ?_;(case hd=>rfl);(case hg=>rfl);(case hr=>first|(go_simp;done)|(go_simp;rfl));(case hp=>exact (Reps.one (show Kd.M (Kd.int .u8) _ _ _ ((IntKind.u64.wrap ((Int.tmod a0 128)+128)) % 256) [.int .u8 ((IntKind.u64.wrap ((Int.tmod a0 128)+128)) % 256)] from rfl) (Reps.none _ _)));intro v220 w9 ho10 hb hg_ hnew_;clear hg_ hnew_
     (first|rw [← Ny219.out]at ho10|(simp only[Int.reduceToNat]at ho10;rw [← Ny219.out]at ho10))
     have HO221:=Ax (Kd.R_lower ho10 (below_size (bw0 HB.out)));replace HB:=Bs0 HB hb;clear hb ho10;refine hK.out _ _ trivial (fun hHeld=>?_);clear hK K;refine norm_ (a':=?_) ?_ ?_;rotate_left
     ·show Act.put _ (some 13) _=_
      simp only[sP];rfl
     refine two_ (i:=5) (j:=8) (Ni:=some 14) (Nj:=some 17) #[Z,Z,Z,Z,Z,Z,Z,Z,Y,Y,Y] #[Z,Z,Z,Z,Z,Y,Z,Z,Z,Y,Y] rfl rfl rfl rfl (two_of HT_.out (by kernel_rfl)) (by decide) (by decide) (fun K hK=>?_) (fun K hK=>?_)
     ·skip
      have hcv11:=own_string (P:=Try.prog) Try.underlying49 Try.underlying5 Try.underlying9 (Kd.own_of_R HO221.out);refine value_ (w1:=?_) (v:=?_) (by rfl) rfl ?_ ?_;rotate_left 2
      ·go_simp;constructor;·rfl
       ·rfl
      clear hcv11;refine hK.out _ _ trivial (fun hHeld=>?_);clear hK K;refine norm_ (a':=?_) ?_ ?_;rotate_left
      ·show Act.put _ (some 14) _=_
       simp only[sP];rfl
      refine one_ (i:=8) (N:=some 17) #[Z,Z,Z,Z,Z,Z,Z,Z,Z,Y,Y] rfl rfl (one_of HT_.out (by kernel_rfl)) (by decide) (fun K hK=>?_);refine goes_ Try.func26 (by kernel_rfl) rfl #[.int .u64 (IntKind.u64.wrap (Int.tdiv a0 128))] (by rfl) rfl rfl gS ?_;with_reducible refine (ih k (by omega) (IntKind.u64.wrap (Int.tdiv a0 128)) t222 _ A6.out).mono ?_
      rintro e w12 ⟨rfl,hb⟩
      refine⟨_,rfl,?_⟩;replace HO221:=Ax (Kd.R_below (by (with_reducible repeat (first|apply Kd.R_alloc|apply Kd.R_drewN|apply Kd.R_drew));exact HO221.out) hb);replace HB:=Bs0 HB hb
      (try clear hb)
      refine hK.out _ _ trivial (fun hHeld=>?_);clear hK K;refine norm_ (a':=?_) ?_ ?_;rotate_left
      ·show Act.put _ (some 17) _=_
       simp only[sP];rfl
      exact norm_ (by simp only[putAll,Act.put,List.setIfInBounds_toArray,List.set_cons_zero,List.set_cons_succ]) (hCont (v220) _ ⟨(by (with_reducible repeat (first|apply Kd.R_alloc|apply Kd.R_drewN|apply Kd.R_drew));exact HO221.out),(bw0 HB.out)⟩)
     ·skip
      refine goes_ Try.func26 (by kernel_rfl) rfl #[.int .u64 (IntKind.u64.wrap (Int.tdiv a0 128))] (by rfl) rfl rfl gS ?_;with_reducible refine (ih k (by omega) (IntKind.u64.wrap (Int.tdiv a0 128)) t222 _ A6.out).mono ?_
      rintro e w11 ⟨rfl,hb⟩
      refine⟨_,rfl,?_⟩;replace HO221:=Ax (Kd.R_below (by (with_reducible repeat (first|apply Kd.R_alloc|apply Kd.R_drewN|apply Kd.R_drew));exact HO221.out) hb);replace HB:=Bs0 HB hb
      (try clear hb)
      refine hK.out _ _ trivial (fun hHeld=>?_);clear hK K;refine norm_ (a':=?_) ?_ ?_;rotate_left
      ·show Act.put _ (some 17) _=_
       simp only[sP];rfl
      refine one_ (i:=5) (N:=some 14) #[Z,Z,Z,Z,Z,Z,Z,Z,Z,Y,Y] rfl rfl (one_of HT_.out (by kernel_rfl)) (by decide) (fun K hK=>?_);have hcv12:=own_string (P:=Try.prog) Try.underlying49 Try.underlying5 Try.underlying9 (Kd.own_of_R HO221.out);refine value_ (w1:=?_) (v:=?_) (by rfl) rfl ?_ ?_;rotate_left 2
      ·go_simp;constructor;·rfl
       ·rfl
      clear hcv12;refine hK.out _ _ trivial (fun hHeld=>?_);clear hK K;refine norm_ (a':=?_) ?_ ?_;rotate_left
      ·show Act.put _ (some 14) _=_
       simp only[sP];rfl
      exact norm_ (by simp only[putAll,Act.put,List.setIfInBounds_toArray,List.set_cons_zero,List.set_cons_succ]) (hCont (v220) _ ⟨(by (with_reducible repeat (first|apply Kd.R_alloc|apply Kd.R_drewN|apply Kd.R_drew));exact HO221.out),(bw0 HB.out)⟩)
    ·skip
     refine goes_ Try.func26 (by kernel_rfl) rfl #[.int .u64 (IntKind.u64.wrap (Int.tdiv a0 128))] (by rfl) rfl rfl gS ?_;with_reducible refine (ih k (by omega) (IntKind.u64.wrap (Int.tdiv a0 128)) t222 _ A6.out).mono ?_
     rintro e w9 ⟨rfl,hb⟩
     refine⟨_,rfl,?_⟩;replace HB:=Bs0 HB hb
     (try clear hb)
     refine hK.out _ _ trivial (fun hHeld=>?_);clear hK K;refine norm_ (a':=?_) ?_ ?_;rotate_left
     ·show Act.put _ (some 17) _=_
      simp only[sP];rfl
     refine one_ (i:=4) (N:=some 13) #[Z,Z,Z,Z,Z,Y,Z,Z,Z,Y,Y] rfl rfl (one_of HT_.out (by kernel_rfl)) (by decide) (fun K hK=>?_);refine Kd.R_lit_step (Kd.int .u8) _ 5 ?hg (N:=13) ?hd (xs:=([(IntKind.u64.wrap ((Int.tmod a0 128)+128)) % 256]:List Int)) (inner:= [.int .u8 ((IntKind.u64.wrap ((Int.tmod a0 128)+128)) % 256)]) (ok:=fun _=>True) (okp:=fun _=>True) ?hr ?hp (fun _ hk=>hk) trivial (Below.refl _ _) (Nat.le_refl _) (by simp) ?_;(case hd=>rfl);(case hg=>rfl);(case hr=>first|(go_simp;done)|(go_simp;rfl));(case hp=>exact (Reps.one (show Kd.M (Kd.int .u8) _ _ _ ((IntKind.u64.wrap ((Int.tmod a0 128)+128)) % 256) [.int .u8 ((IntKind.u64.wrap ((Int.tmod a0 128)+128)) % 256)] from rfl) (Reps.none _ _)));intro v220 w10 ho11 hb hg_ hnew_;clear hg_ hnew_
     (first|rw [← Ny219.out]at ho11|(simp only[Int.reduceToNat]at ho11;rw [← Ny219.out]at ho11))
     have HO221:=Ax (Kd.R_lower ho11 (below_size (bw0 HB.out)));replace HB:=Bs0 HB hb;clear hb ho11;refine hK.out _ _ trivial (fun hHeld=>?_);clear hK K;refine norm_ (a':=?_) ?_ ?_;rotate_left
     ·show Act.put _ (some 13) _=_
      simp only[sP];rfl
     refine one_ (i:=5) (N:=some 14) #[Z,Z,Z,Z,Z,Z,Z,Z,Z,Y,Y] rfl rfl (one_of HT_.out (by kernel_rfl)) (by decide) (fun K hK=>?_);have hcv12:=own_string (P:=Try.prog) Try.underlying49 Try.underlying5 Try.underlying9 (Kd.own_of_R HO221.out);refine value_ (w1:=?_) (v:=?_) (by rfl) rfl ?_ ?_;rotate_left 2
     ·go_simp;constructor;·rfl
      ·rfl
     clear hcv12;refine hK.out _ _ trivial (fun hHeld=>?_);clear hK K;refine norm_ (a':=?_) ?_ ?_;rotate_left
     ·show Act.put _ (some 14) _=_
      simp only[sP];rfl
     exact norm_ (by simp only[putAll,Act.put,List.setIfInBounds_toArray,List.set_cons_zero,List.set_cons_succ]) (hCont (v220) _ ⟨(by (with_reducible repeat (first|apply Kd.R_alloc|apply Kd.R_drewN|apply Kd.R_drew));exact HO221.out),(bw0 HB.out)⟩)
   rintro v220 w13 ⟨h0_,h1_⟩
   have n0_:Aside0 (Kd.R (Kd.int .u8) 5 w13 w.heap.size (fun _=>True) v220 y219):=⟨h0_⟩;have n1_:Aside0 (Below w.heap.size w w13):=⟨h1_⟩;clear HB;clear h0_ h1_;have HO221:=n0_;have HB:=n1_;clear n0_ n1_;have hHeld:=trivial;refine norm_ (a':=?_) ?_ ?_;rotate_left;·simp only[putAll,Act.put,List.setIfInBounds_toArray,List.set_cons_zero,List.set_cons_succ];rfl
   refine pz 9 18 #[Z,Z,Z,Z,Z,Z,Z,Z,Z,Z,Y] HT_.out ?_
   refine pz 10 2 #[Z,Z,Z,Z,Z,Z,Z,Z,Z,Z,Z] HT_.out ?_
   refine done_ (done_of HT_.out (by kernel_rfl)) ?_;try go_wp2
   go_ret;exact⟨eS,bw0 HB.out⟩
  ·rw [if_neg c7]at H;exact absurd H (by simp)
def spoorref11_PutAction.f (k:Nat) (a0_0:Int) (a0_1:Int):Option (ByteArray × Int):=(spoorref11_Acts.f a0_0 a0_1).bind fun t224=>(if t224=true then ((some (([a0_0]:List Int):List Int)).bind fun y225=>(if a0_0=1 then ((spoorref01_Put.f k (IntKind.u64.wrap (a0_1))).bind fun t228=>(if (strOfNums y225).size+t228.size≤9223372036854775807 then (some ((strOfNums y225)++t228,0)) else (none))) else (some (strOfNums y225,0)))) else (some ((⟨#[]⟩:ByteArray),2)))
set_option maxHeartbeats 8000000 in
set_option maxRecDepth 100000 in
theorem spoorref11_PutAction.calls (k:Nat) (a0_0:Int) (a0_1:Int) (r1:ByteArray) (r2:Int) (w:World) (h:spoorref11_PutAction.f k a0_0 a0_1=some (r1,r2)):
  Calls Try.prog 20 #[.agg #[.int .u8 a0_0,.int .i64 a0_1]] w fun e w'=>e= .returned (.tuple #[.string r1,.int .i64 r2])∧Below w.heap.size w w':=by
 have hu30:=Try.underlying30;have HB:=Ax (Below.refl w.heap.size w);have H:((spoorref11_Acts.f a0_0 a0_1).bind fun t224=>(if t224=true then ((some (([a0_0]:List Int):List Int)).bind fun y225=>(if a0_0=1 then ((spoorref01_Put.f k (IntKind.u64.wrap (a0_1))).bind fun t228=>(if (strOfNums y225).size+t228.size≤9223372036854775807 then (some ((strOfNums y225)++t228,0)) else (none))) else (some (strOfNums y225,0)))) else (some ((⟨#[]⟩:ByteArray),2))))=some (r1,r2):=h;clear h;replace H:=Option.bind_eq_some_iff.mp H;obtain⟨t224,A20,H⟩:=H;replace H:(if t224=true then ((some (([a0_0]:List Int):List Int)).bind fun y225=>(if a0_0=1 then ((spoorref01_Put.f k (IntKind.u64.wrap (a0_1))).bind fun t228=>(if (strOfNums y225).size+t228.size≤9223372036854775807 then (some ((strOfNums y225)++t228,0)) else (none))) else (some (strOfNums y225,0)))) else (some ((⟨#[]⟩:ByteArray),2)))=some (r1,r2):=H;have A2:=Ax A20;clear A20;by_cases c3:t224=true
 ·subst c3;have H1:((some (([a0_0]:List Int):List Int)).bind fun y225=>(if a0_0=1 then ((spoorref01_Put.f k (IntKind.u64.wrap (a0_1))).bind fun t228=>(if (strOfNums y225).size+t228.size≤9223372036854775807 then (some ((strOfNums y225)++t228,0)) else (none))) else (some (strOfNums y225,0))))=some (r1,r2):=by rw [if_pos rfl]at H;exact H
  clear H;have H:=H1;clear H1;obtain⟨y225,hy225⟩: ∃ y_:List Int,y_=(([a0_0]:List Int)):=⟨_,rfl⟩;replace H:(if a0_0=1 then ((spoorref01_Put.f k (IntKind.u64.wrap (a0_1))).bind fun t228=>(if (strOfNums y225).size+t228.size≤9223372036854775807 then (some ((strOfNums y225)++t228,0)) else (none))) else (some (strOfNums y225,0)))=some (r1,r2):=by first|(rw [hy225];with_reducible exact H)|(have H2_:=(Option.bind_some _ _).symm.trans H;rw [hy225];with_reducible exact H2_)|(have H2_:=(Option.bind_some _ _).symm.trans H;with_reducible exact H2_)|with_reducible exact H|(rw [hy225];exact H)|exact H
  have Ny225:=Ax hy225;clear hy225;by_cases c4:a0_0=1
  ·rw [if_pos c4]at H;have c4b0:(a0_0==1)=true:=beq_iff_eq.mpr c4;have c4b1:(a0_0 !=1)=false:=bne_eq_false_iff_eq.mpr c4;clear c4;replace H:=Option.bind_eq_some_iff.mp H;obtain⟨t228,A50,H⟩:=H;replace H:(if (strOfNums y225).size+t228.size≤9223372036854775807 then (some ((strOfNums y225)++t228,0)) else (none))=some (r1,r2):=H;have A5:=Ax A50;clear A50;by_cases c6:(strOfNums y225).size+t228.size≤9223372036854775807
   ·rw [if_pos c6]at H;have c6b0:=eq_true c6;have c6b1:decide ((strOfNums y225).size+t228.size≤9223372036854775807)=true:=decide_eq_true c6;try have c6b2:(9223372036854775807<(strOfNums y225).size+t228.size)=False:=eq_false (Nat.not_lt.2 c6)
    simp only[Option.some.injEq,Prod.mk.injEq]at H;obtain⟨rfl,rfl⟩:=H;go_enter Try.func20,Try.ntmps20;go_wp2_with (first|((with_reducible refine gate_dst (N:=1) rfl ?_);refine box_event ?hg (N:=1) ?hd (cs:= #[.int .u8 a0_0,.int .i64 a0_1]) (t:=30) ?hr ?_;(case hd=>rfl);(case hg=>rfl);(case hr=>first|(go_simp;done)|(go_simp;rfl));intro gb223 hg w7 hbox hb;have n0_:=Bs0 HB hb;have n1_:=Ax (hbox);have n2_:=Gw0 HB hg;have n3_:=Gw0 HB hg;clear HB;have HB:=n0_;have BK223:=n1_;have GW223:=n2_;have GE223:=n3_;clear n0_ n1_ n2_ n3_;clear hb hbox hg;obtain⟨hcz8_0,hcz8_1,hfz8_0,hfz8_1⟩:=cl2 BK223)|((with_reducible refine gate_callee (f:=37) rfl ?_);refine goesL_ (some 6) rfl rfl Try.func37 (by kernel_rfl) rfl #[.agg #[.int .u8 a0_0,.int .i64 a0_1]] rfl gS ?_;(with_reducible refine (spoorref11_Acts.calls a0_0 a0_1 true _ A2.out).mono ?_);rintro e w9 ⟨rfl,hb⟩;refine⟨_,rfl,?_⟩;replace BK223:=Bx0 BK223 hb;replace HB:=Bs1 HB hb GE223.out;(try clear hb);obtain⟨hcz10_0,hcz10_1,hfz10_0,hfz10_1⟩:=cl2 BK223)|((with_reducible refine gate_dst (N:=10) rfl ?_);refine Kd.R_lit (Kd.int .u8) _ 5 ?hg (N:=10) ?hd (xs:=([a0_0]:List Int)) (inner:= [.int .u8 a0_0]) (ok:=fun _=>True) (okp:=fun _=>True) ?hr ?hp (fun _ hk=>hk) trivial (Below.refl _ _) (Nat.le_refl _) (by simp) ?_;(case hd=>rfl);(case hg=>rfl);(case hr=>first|(go_simp;done)|(go_simp;rfl));(case hp=>exact (Reps.one (show Kd.M (Kd.int .u8) _ _ _ a0_0 [.int .u8 a0_0] from rfl) (Reps.none _ _)));intro v226 w11 ho12 hb hg_ hnew_;clear hg_ hnew_;(first|rw [← Ny225.out]at ho12|(simp only[Int.reduceToNat]at ho12;rw [← Ny225.out]at ho12));have HO227:=Ax (Kd.R_lower ho12 (below_size (bw1 HB.out GE223.out)));replace BK223:=Bx0 BK223 hb;replace HB:=Bs1 HB hb GE223.out;clear hb ho12;have hcv13:=own_string (P:=Try.prog) Try.underlying49 Try.underlying5 Try.underlying9 (Kd.own_of_R HO227.out);obtain⟨hcz14_0,hcz14_1,hfz14_0,hfz14_1⟩:=cl2 BK223)|((with_reducible refine gate_callee (f:=26) rfl ?_);refine goesL_ (some 19) rfl rfl Try.func26 (by kernel_rfl) rfl #[.int .u64 (IntKind.u64.wrap (a0_1))] rfl gS ?_;(with_reducible refine (spoorref01_Put.calls k (IntKind.u64.wrap (a0_1)) t228 _ A5.out).mono ?_);rintro e w15 ⟨rfl,hb⟩;refine⟨_,rfl,?_⟩;have n0_:=Ax (Kd.R_below (by (with_reducible repeat (first|apply Kd.R_alloc|apply Kd.R_drewN|apply Kd.R_drew));exact HO227.out) hb);have n1_:=Bx0 BK223 hb;have n2_:=Bs1 HB hb GE223.out;clear HO227;clear BK223;clear HB;have HO227:=n0_;have BK223:=n1_;have HB:=n2_;clear n0_ n1_ n2_;(try clear hb)));go_ret2;exact⟨eS,bw1 HB.out GE223.out⟩
   ·rw [if_neg c6]at H;exact absurd H (by simp)
  ·rw [if_neg c4]at H;have c4b0:(a0_0==1)=false:=beq_eq_false_iff_ne.mpr c4;have c4b1:(a0_0 !=1)=true:=bne_iff_ne.mpr c4;simp only[Option.some.injEq,Prod.mk.injEq]at H;obtain⟨rfl,rfl⟩:=H;go_enter Try.func20,Try.ntmps20;go_wp2_with (first|((with_reducible refine gate_dst (N:=1) rfl ?_);refine box_event ?hg (N:=1) ?hd (cs:= #[.int .u8 a0_0,.int .i64 a0_1]) (t:=30) ?hr ?_;(case hd=>rfl);(case hg=>rfl);(case hr=>first|(go_simp;done)|(go_simp;rfl));intro gb223 hg w16 hbox hb;have n0_:=Bs0 HB hb;have n1_:=Ax (hbox);have n2_:=Gw0 HB hg;have n3_:=Gw0 HB hg;clear HB;have HB:=n0_;have BK223:=n1_;have GW223:=n2_;have GE223:=n3_;clear n0_ n1_ n2_ n3_;clear hb hbox hg;obtain⟨hcz17_0,hcz17_1,hfz17_0,hfz17_1⟩:=cl2 BK223)|((with_reducible refine gate_callee (f:=37) rfl ?_);refine goesL_ (some 6) rfl rfl Try.func37 (by kernel_rfl) rfl #[.agg #[.int .u8 a0_0,.int .i64 a0_1]] rfl gS ?_;(with_reducible refine (spoorref11_Acts.calls a0_0 a0_1 true _ A2.out).mono ?_);rintro e w18 ⟨rfl,hb⟩;refine⟨_,rfl,?_⟩;replace BK223:=Bx0 BK223 hb;replace HB:=Bs1 HB hb GE223.out;(try clear hb);obtain⟨hcz19_0,hcz19_1,hfz19_0,hfz19_1⟩:=cl2 BK223)|((with_reducible refine gate_dst (N:=10) rfl ?_);refine Kd.R_lit (Kd.int .u8) _ 5 ?hg (N:=10) ?hd (xs:=([a0_0]:List Int)) (inner:= [.int .u8 a0_0]) (ok:=fun _=>True) (okp:=fun _=>True) ?hr ?hp (fun _ hk=>hk) trivial (Below.refl _ _) (Nat.le_refl _) (by simp) ?_;(case hd=>rfl);(case hg=>rfl);(case hr=>first|(go_simp;done)|(go_simp;rfl));(case hp=>exact (Reps.one (show Kd.M (Kd.int .u8) _ _ _ a0_0 [.int .u8 a0_0] from rfl) (Reps.none _ _)));intro v226 w20 ho21 hb hg_ hnew_;clear hg_ hnew_;(first|rw [← Ny225.out]at ho21|(simp only[Int.reduceToNat]at ho21;rw [← Ny225.out]at ho21));have HO227:=Ax (Kd.R_lower ho21 (below_size (bw1 HB.out GE223.out)));replace BK223:=Bx0 BK223 hb;replace HB:=Bs1 HB hb GE223.out;clear hb ho21;have hcv22:=own_string (P:=Try.prog) Try.underlying49 Try.underlying5 Try.underlying9 (Kd.own_of_R HO227.out);obtain⟨hcz23_0,hcz23_1,hfz23_0,hfz23_1⟩:=cl2 BK223));go_ret2;exact⟨eS,bw1 HB.out GE223.out⟩
 ·replace c3:=Bool.eq_false_iff.mpr c3;subst c3;have H1:(some ((⟨#[]⟩:ByteArray),2))=some (r1,r2):=by rw [if_neg (show ¬ (false=true) by decide)]at H;exact H
  clear H;have H:=H1;clear H1;simp only[Option.some.injEq,Prod.mk.injEq]at H;obtain⟨rfl,rfl⟩:=H;go_enter Try.func20,Try.ntmps20;go_wp2_with (first|((with_reducible refine gate_dst (N:=1) rfl ?_);refine box_event ?hg (N:=1) ?hd (cs:= #[.int .u8 a0_0,.int .i64 a0_1]) (t:=30) ?hr ?_;(case hd=>rfl);(case hg=>rfl);(case hr=>first|(go_simp;done)|(go_simp;rfl));intro gb223 hg w24 hbox hb;have n0_:=Bs0 HB hb;have n1_:=Ax (hbox);have n2_:=Gw0 HB hg;have n3_:=Gw0 HB hg;clear HB;have HB:=n0_;have BK223:=n1_;have GW223:=n2_;have GE223:=n3_;clear n0_ n1_ n2_ n3_;clear hb hbox hg;obtain⟨hcz25_0,hcz25_1,hfz25_0,hfz25_1⟩:=cl2 BK223)|((with_reducible refine gate_callee (f:=37) rfl ?_);refine goesL_ (some 6) rfl rfl Try.func37 (by kernel_rfl) rfl #[.agg #[.int .u8 a0_0,.int .i64 a0_1]] rfl gS ?_;(with_reducible refine (spoorref11_Acts.calls a0_0 a0_1 false _ A2.out).mono ?_);rintro e w26 ⟨rfl,hb⟩;refine⟨_,rfl,?_⟩;replace BK223:=Bx0 BK223 hb;replace HB:=Bs1 HB hb GE223.out;(try clear hb)));go_ret2;exact⟨eS,bw1 HB.out GE223.out⟩
end Go.Proofs.Ytodgadhegcjbhaa.Q
end
section
namespace Go.Proofs.Ytodgadhegcjbhaa.Q
open Go.RowKit Go.Proofs.YtodgadhegcjbhaaW.PrintWords Go.Proofs.YtodgadhegcjbhaaW.PrintLast Go.Proofs.YtodgadhegcjbhaaW.PrintMore
attribute [local go_sem] max2_int min2_int max_two min_two max_three min_three max_four min_four   -- for this text's walks alone
set_option linter.unusedVariables false
set_option linter.unusedSimpArgs false
mutual
def spoorref11_Put.j0 : Nat → ByteArray → Bool → Int → Int → Int → Int → Bool → Int → Int → Int → Int → Int → Int → Int → Option (ByteArray × Int)
 | 0, _, _, _, _, _, _, _, _, _, _, _, _, _, _ => none
 | k + 1, x4, x37, x230000, x230001, x230002, x230003, x230004, x230005, x230006, x230007, x230008, x230009, x230010, x230011 => if x37 = true then ((spoorref11_PutPrefix.f k x230004 x230005 x230006 x230007).bind fun bt237 => (if x4.size + bt237.1.size ≤ 9223372036854775807 then (spoorref11_Put.j1 k (x4 ++ bt237.1) x230000 x230001 x230002 x230003 x230004 x230005 x230006 x230007 x230008 x230009 x230010 x230011) else (none))) else (spoorref11_Put.j1 k x4 x230000 x230001 x230002 x230003 x230004 x230005 x230006 x230007 x230008 x230009 x230010 x230011)
def spoorref11_Put.j1 : Nat → ByteArray → Int → Int → Int → Int → Bool → Int → Int → Int → Int → Int → Int → Int → Option (ByteArray × Int)
 | 0, _, _, _, _, _, _, _, _, _, _, _, _, _ => none
 | k + 1, x4, x230000, x230001, x230002, x230003, x230004, x230005, x230006, x230007, x230008, x230009, x230010, x230011 => if x230000 = 3 then ((spoorref11_PutAction.f k x230008 x230009).bind fun bt239 => (if x4.size + bt239.1.size ≤ 9223372036854775807 then (spoorref11_Put.j2 k (x4 ++ bt239.1) x230000 x230001 x230002 x230003 x230004 x230005 x230006 x230007 x230008 x230009 x230010 x230011) else (none))) else (spoorref11_Put.j2 k x4 x230000 x230001 x230002 x230003 x230004 x230005 x230006 x230007 x230008 x230009 x230010 x230011)
def spoorref11_Put.j2 : Nat → ByteArray → Int → Int → Int → Int → Bool → Int → Int → Int → Int → Int → Int → Int → Option (ByteArray × Int)
 | 0, _, _, _, _, _, _, _, _, _, _, _, _, _ => none
 | k + 1, x4, x230000, x230001, x230002, x230003, x230004, x230005, x230006, x230007, x230008, x230009, x230010, x230011 => if x230000 = 5 then (spoorref11_Put.j3 k x4 true x230000 x230001 x230002 x230003 x230004 x230005 x230006 x230007 x230008 x230009 x230010 x230011) else (spoorref11_Put.j3 k x4 (x230000 == 6) x230000 x230001 x230002 x230003 x230004 x230005 x230006 x230007 x230008 x230009 x230010 x230011)
def spoorref11_Put.j3 : Nat → ByteArray → Bool → Int → Int → Int → Int → Bool → Int → Int → Int → Int → Int → Int → Int → Option (ByteArray × Int)
 | 0, _, _, _, _, _, _, _, _, _, _, _, _, _, _ => none
 | k + 1, x4, x66, x230000, x230001, x230002, x230003, x230004, x230005, x230006, x230007, x230008, x230009, x230010, x230011 => if x66 = true then ((spoorref01_Put.f k (IntKind.u64.wrap (x230010))).bind fun t241 => (if x4.size + t241.size ≤ 9223372036854775807 then (if x230000 = 5 then ((spoorref01_Put.f k (IntKind.u64.wrap (x230011))).bind fun t242 => (if (x4 ++ t241).size + t242.size ≤ 9223372036854775807 then (some ((x4 ++ t241) ++ t242, 0)) else (none))) else (some (x4 ++ t241, 0))) else (none))) else (if x230000 = 5 then ((spoorref01_Put.f k (IntKind.u64.wrap (x230011))).bind fun t243 => (if x4.size + t243.size ≤ 9223372036854775807 then (some (x4 ++ t243, 0)) else (none))) else (some (x4, 0)))
end
def spoorref11_Put.f (k:Nat) (a0_0:Int) (a0_1:Int) (a0_2:Int) (a0_3:Int) (a0_4:Bool) (a0_5:Int) (a0_6:Int) (a0_7:Int) (a0_8:Int) (a0_9:Int) (a0_10:Int) (a0_11:Int):Option (ByteArray × Int):=(spoorref11_Check.f k a0_0 a0_1 a0_2 a0_3 a0_4 a0_5 a0_6 a0_7 a0_8 a0_9 a0_10 a0_11).bind fun t230=>(if t230=0 then ((some (([a0_0]:List Int):List Int)).bind fun y231=>((spoorref01_Put.f k (IntKind.u64.wrap (a0_1))).bind fun t234=>(if (strOfNums y231).size+t234.size≤9223372036854775807 then ((spoorref01_Put.f k a0_2).bind fun t235=>(if ((strOfNums y231)++t234).size+t235.size≤9223372036854775807 then ((spoorref01_Put.f k (IntKind.u64.wrap (a0_3))).bind fun t236=>(if (((strOfNums y231)++t234)++t235).size+t236.size≤9223372036854775807 then (if a0_0=3 then (spoorref11_Put.j0 k ((((strOfNums y231)++t234)++t235)++t236) true a0_0 a0_1 a0_2 a0_3 a0_4 a0_5 a0_6 a0_7 a0_8 a0_9 a0_10 a0_11) else (spoorref11_Put.j0 k ((((strOfNums y231)++t234)++t235)++t236) (a0_0==4) a0_0 a0_1 a0_2 a0_3 a0_4 a0_5 a0_6 a0_7 a0_8 a0_9 a0_10 a0_11)) else (none))) else (none))) else (none)))) else (some ((⟨#[]⟩:ByteArray),2)))
def spoorref11_Put.T3:Bool × List (List Nat × List Nat):=(true, [([], []),([0], [0]),([1], [1]),([2], [2]),([], []),([4], [4]),([5], [5]),([6], [6]),([3,7], [3,7]),([], []),([9], [9]),([10,7], [10]),([8,11], [8,11]),([], []),([13], [13]),([14], [14]),([15,11], [15]),([12,16], [12,16]),([17,16,0,1,2,3,4,5,6,7,8,9,10,11,12,13,14,15,16,17], [17])])
def spoorref11_Put.B3:List Nat:= [0,1,3,7,0,16,48,112,255,0,512,1776,4095,0,8192,24576,61168,131071,262143]
theorem spoorref11_Put.tab3:rtab .any (opsOf Try.f9 3)=spoorref11_Put.T3:=by kernel_rfl
theorem spoorref11_Put.bits3:waitsOk spoorref11_Put.T3.2 spoorref11_Put.B3=true:=by kernel_rfl
end Go.Proofs.Ytodgadhegcjbhaa.Q
end
