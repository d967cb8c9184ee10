/- Any events have the stream that the document says, or none; for every list of events. -/
import Derived.Test.YthkdfojmhloofaaRows
import Derived.ChangeArms
import Derived.WideShapes
import Derived.SizedLaws
import Derived.Laws.BytesArg
import Derived.Laws.BitsLemmas
import Derived.WalkKit
import Derived.ProofKit
import Derived.OpenShut
import Derived.ShutString
import Derived.ChangeOld
import Derived.Below
import Derived.JoinedCond
import Derived.Test.YthkdfojmhloofaaTGramStreams6
section
namespace Go.Proofs.Ythkdfojmhloofaa.Q
open Go.RowKit Go.Proofs.YthkdfojmhloofaaW.PrintWords Go.Proofs.YthkdfojmhloofaaW.PrintLast Go.Proofs.YthkdfojmhloofaaW.PrintMore
attribute [local go_sem] max2_int min2_int max_two min_two max_three min_three max_four min_four   -- for this text's walks alone
set_option linter.unusedVariables false
set_option linter.unusedSimpArgs false
set_option maxHeartbeats 8000000 in
set_option maxRecDepth 100000 in
theorem spoorref11_Put.calls (k:Nat) (a0_0:Int) (a0_1:Int) (a0_2:Int) (a0_3:Int) (a0_4:Bool) (a0_5:Int) (a0_6:Int) (a0_7:Int) (a0_8:Int) (a0_9:Int) (a0_10:Int) (a0_11:Int) (r1:ByteArray) (r2:Int) (w:World) (h:spoorref11_Put.f k a0_0 a0_1 a0_2 a0_3 a0_4 a0_5 a0_6 a0_7 a0_8 a0_9 a0_10 a0_11=some (r1,r2)):
  Calls Try.prog 27 #[.agg #[.int .u8 a0_0,.int .i64 a0_1,.int .u64 a0_2,.int .i64 a0_3,.bool a0_4,.int .u64 a0_5,.int .u64 a0_6,.int .i64 a0_7,.int .u8 a0_8,.int .i64 a0_9,.int .i64 a0_10,.int .i64 a0_11]] w fun e w'=>e= .returned (.tuple #[.string r1,.int .i64 r2])∧Below w.heap.size w w':=by
 have hu35:=Try.underlying35;have hu30:=Try.underlying30;have hu33:=Try.underlying33;have HB:=Ax (Below.refl w.heap.size w);have H:((spoorref11_Check.f k a0_0 a0_1 a0_2 a0_3 a0_4 a0_5 a0_6 a0_7 a0_8 a0_9 a0_10 a0_11).bind fun t362=>(if t362=0 then ((some (([a0_0]:List Int):List Int)).bind fun y363=>((spoorref01_Put.f k (IntKind.u64.wrap (a0_1))).bind fun t366=>(if (strOfNums y363).size+t366.size≤9223372036854775807 then ((spoorref01_Put.f k a0_2).bind fun t367=>(if ((strOfNums y363)++t366).size+t367.size≤9223372036854775807 then ((spoorref01_Put.f k (IntKind.u64.wrap (a0_3))).bind fun t368=>(if (((strOfNums y363)++t366)++t367).size+t368.size≤9223372036854775807 then (if a0_0=3 then (spoorref11_Put.j0 k ((((strOfNums y363)++t366)++t367)++t368) true a0_0 a0_1 a0_2 a0_3 a0_4 a0_5 a0_6 a0_7 a0_8 a0_9 a0_10 a0_11) else (spoorref11_Put.j0 k ((((strOfNums y363)++t366)++t367)++t368) (a0_0==4) a0_0 a0_1 a0_2 a0_3 a0_4 a0_5 a0_6 a0_7 a0_8 a0_9 a0_10 a0_11)) else (none))) else (none))) else (none)))) else (some ((⟨#[]⟩:ByteArray),2))))=some (r1,r2):=h;clear h;replace H:=Option.bind_eq_some_iff.mp H;obtain⟨t362,A20,H⟩:=H;replace H:(if t362=0 then ((some (([a0_0]:List Int):List Int)).bind fun y363=>((spoorref01_Put.f k (IntKind.u64.wrap (a0_1))).bind fun t366=>(if (strOfNums y363).size+t366.size≤9223372036854775807 then ((spoorref01_Put.f k a0_2).bind fun t367=>(if ((strOfNums y363)++t366).size+t367.size≤9223372036854775807 then ((spoorref01_Put.f k (IntKind.u64.wrap (a0_3))).bind fun t368=>(if (((strOfNums y363)++t366)++t367).size+t368.size≤9223372036854775807 then (if a0_0=3 then (spoorref11_Put.j0 k ((((strOfNums y363)++t366)++t367)++t368) true a0_0 a0_1 a0_2 a0_3 a0_4 a0_5 a0_6 a0_7 a0_8 a0_9 a0_10 a0_11) else (spoorref11_Put.j0 k ((((strOfNums y363)++t366)++t367)++t368) (a0_0==4) a0_0 a0_1 a0_2 a0_3 a0_4 a0_5 a0_6 a0_7 a0_8 a0_9 a0_10 a0_11)) else (none))) else (none))) else (none)))) else (some ((⟨#[]⟩:ByteArray),2)))=some (r1,r2):=H;have A2:=Ax A20;clear A20;by_cases c3:t362=0
 ·rw [if_pos c3]at H;have c3b0:(t362==0)=true:=beq_iff_eq.mpr c3;have c3b1:(t362 !=0)=false:=bne_eq_false_iff_eq.mpr c3;clear c3;obtain⟨y363,hy363⟩: ∃ y_:List Int,y_=(([a0_0]:List Int)):=⟨_,rfl⟩;replace H:((spoorref01_Put.f k (IntKind.u64.wrap (a0_1))).bind fun t366=>(if (strOfNums y363).size+t366.size≤9223372036854775807 then ((spoorref01_Put.f k a0_2).bind fun t367=>(if ((strOfNums y363)++t366).size+t367.size≤9223372036854775807 then ((spoorref01_Put.f k (IntKind.u64.wrap (a0_3))).bind fun t368=>(if (((strOfNums y363)++t366)++t367).size+t368.size≤9223372036854775807 then (if a0_0=3 then (spoorref11_Put.j0 k ((((strOfNums y363)++t366)++t367)++t368) true a0_0 a0_1 a0_2 a0_3 a0_4 a0_5 a0_6 a0_7 a0_8 a0_9 a0_10 a0_11) else (spoorref11_Put.j0 k ((((strOfNums y363)++t366)++t367)++t368) (a0_0==4) a0_0 a0_1 a0_2 a0_3 a0_4 a0_5 a0_6 a0_7 a0_8 a0_9 a0_10 a0_11)) else (none))) else (none))) else (none)))=some (r1,r2):=by first|(rw [hy363];with_reducible exact H)|(have H2_:=(Option.bind_some _ _).symm.trans H;rw [hy363];with_reducible exact H2_)|(have H2_:=(Option.bind_some _ _).symm.trans H;with_reducible exact H2_)|with_reducible exact H|(rw [hy363];exact H)|exact H
  have Ny363:=Ax hy363;clear hy363;replace H:=Option.bind_eq_some_iff.mp H;obtain⟨t366,A40,H⟩:=H;replace H:(if (strOfNums y363).size+t366.size≤9223372036854775807 then ((spoorref01_Put.f k a0_2).bind fun t367=>(if ((strOfNums y363)++t366).size+t367.size≤9223372036854775807 then ((spoorref01_Put.f k (IntKind.u64.wrap (a0_3))).bind fun t368=>(if (((strOfNums y363)++t366)++t367).size+t368.size≤9223372036854775807 then (if a0_0=3 then (spoorref11_Put.j0 k ((((strOfNums y363)++t366)++t367)++t368) true a0_0 a0_1 a0_2 a0_3 a0_4 a0_5 a0_6 a0_7 a0_8 a0_9 a0_10 a0_11) else (spoorref11_Put.j0 k ((((strOfNums y363)++t366)++t367)++t368) (a0_0==4) a0_0 a0_1 a0_2 a0_3 a0_4 a0_5 a0_6 a0_7 a0_8 a0_9 a0_10 a0_11)) else (none))) else (none))) else (none))=some (r1,r2):=H;have A4:=Ax A40;clear A40;by_cases c5:(strOfNums y363).size+t366.size≤9223372036854775807
  ·rw [if_pos c5]at H;have c5b0:=eq_true c5;have c5b1:decide ((strOfNums y363).size+t366.size≤9223372036854775807)=true:=decide_eq_true c5;try have c5b2:(9223372036854775807<(strOfNums y363).size+t366.size)=False:=eq_false (Nat.not_lt.2 c5)
   replace H:=Option.bind_eq_some_iff.mp H;obtain⟨t367,A60,H⟩:=H;replace H:(if ((strOfNums y363)++t366).size+t367.size≤9223372036854775807 then ((spoorref01_Put.f k (IntKind.u64.wrap (a0_3))).bind fun t368=>(if (((strOfNums y363)++t366)++t367).size+t368.size≤9223372036854775807 then (if a0_0=3 then (spoorref11_Put.j0 k ((((strOfNums y363)++t366)++t367)++t368) true a0_0 a0_1 a0_2 a0_3 a0_4 a0_5 a0_6 a0_7 a0_8 a0_9 a0_10 a0_11) else (spoorref11_Put.j0 k ((((strOfNums y363)++t366)++t367)++t368) (a0_0==4) a0_0 a0_1 a0_2 a0_3 a0_4 a0_5 a0_6 a0_7 a0_8 a0_9 a0_10 a0_11)) else (none))) else (none))=some (r1,r2):=H;have A6:=Ax A60;clear A60;by_cases c7:((strOfNums y363)++t366).size+t367.size≤9223372036854775807
   ·rw [if_pos c7]at H;have c7b0:=eq_true c7;have c7b1:decide (((strOfNums y363)++t366).size+t367.size≤9223372036854775807)=true:=decide_eq_true c7;try have c7b2:(9223372036854775807<((strOfNums y363)++t366).size+t367.size)=False:=eq_false (Nat.not_lt.2 c7)
    try have c7b3:(9223372036854775807<(strOfNums y363).size+t366.size+t367.size)=False:=eq_false (by have h_:=c7;(try simp only[ByteArray.size_append]at h_);omega)
    replace H:=Option.bind_eq_some_iff.mp H;obtain⟨t368,A80,H⟩:=H;replace H:(if (((strOfNums y363)++t366)++t367).size+t368.size≤9223372036854775807 then (if a0_0=3 then (spoorref11_Put.j0 k ((((strOfNums y363)++t366)++t367)++t368) true a0_0 a0_1 a0_2 a0_3 a0_4 a0_5 a0_6 a0_7 a0_8 a0_9 a0_10 a0_11) else (spoorref11_Put.j0 k ((((strOfNums y363)++t366)++t367)++t368) (a0_0==4) a0_0 a0_1 a0_2 a0_3 a0_4 a0_5 a0_6 a0_7 a0_8 a0_9 a0_10 a0_11)) else (none))=some (r1,r2):=H;have A8:=Ax A80;clear A80;by_cases c9:(((strOfNums y363)++t366)++t367).size+t368.size≤9223372036854775807
    ·rw [if_pos c9]at H;have c9b0:=eq_true c9;have c9b1:decide ((((strOfNums y363)++t366)++t367).size+t368.size≤9223372036854775807)=true:=decide_eq_true c9;try have c9b2:(9223372036854775807<(((strOfNums y363)++t366)++t367).size+t368.size)=False:=eq_false (Nat.not_lt.2 c9)
     try have c9b3:(9223372036854775807<(strOfNums y363).size+t366.size+t367.size+t368.size)=False:=eq_false (by have h_:=c9;(try simp only[ByteArray.size_append]at h_);omega)
     have HC10:=Ax H;clear H;go_enter Try.func27,Try.ntmps27;try go_wp2_with (first|((with_reducible refine gate_dst (N:=1) rfl ?_);refine box_event ?hg (N:=1) ?hd (cs:= #[.int .u8 a0_0,.int .i64 a0_1,.int .u64 a0_2,.int .i64 a0_3,.bool a0_4,.int .u64 a0_5,.int .u64 a0_6,.int .i64 a0_7,.int .u8 a0_8,.int .i64 a0_9,.int .i64 a0_10,.int .i64 a0_11]) (t:=35) ?hr ?_;(case hd=>rfl);(case hg=>rfl);(case hr=>first|(go_simp;done)|(go_simp;rfl));intro gb361 hg w11 hbox hb;have n0_:=Bs0 HB hb;have n1_:=Ax (hbox);have n2_:=Gw0 HB hg;have n3_:=Gw0 HB hg;clear HB;have HB:=n0_;have BK361:=n1_;have GW361:=n2_;have GE361:=n3_;clear n0_ n1_ n2_ n3_;clear hb hbox hg;obtain⟨hcz12_0,hcz12_1,hcz12_2,hcz12_3,hcz12_4,hcz12_5,hcz12_6,hcz12_7,hcz12_8,hcz12_9,hcz12_10,hcz12_11,hfz12_0,hfz12_1,hfz12_2,hfz12_3,hfz12_4,hfz12_5,hfz12_6,hfz12_7,hfz12_8,hfz12_9,hfz12_10,hfz12_11⟩:=cl12 BK361)|((with_reducible refine gate_callee (f:=50) rfl ?_);refine goesL_ (some 10) rfl rfl Try.func50 (by kernel_rfl) rfl #[.agg #[.int .u8 a0_0,.int .i64 a0_1,.int .u64 a0_2,.int .i64 a0_3,.bool a0_4,.int .u64 a0_5,.int .u64 a0_6,.int .i64 a0_7,.int .u8 a0_8,.int .i64 a0_9,.int .i64 a0_10,.int .i64 a0_11]] rfl gS ?_;(with_reducible refine (spoorref11_Check.calls k a0_0 a0_1 a0_2 a0_3 a0_4 a0_5 a0_6 a0_7 a0_8 a0_9 a0_10 a0_11 t362 _ A2.out).mono ?_);rintro e w13 ⟨rfl,hb⟩;refine⟨_,rfl,?_⟩;replace BK361:=Bx0 BK361 hb;replace HB:=Bs1 HB hb GE361.out;(try clear hb)))
     replace BK361:=Ax (blk_drew BK361.out);replace HB:=Ax (below_drew1 HB.out);refine start_ (n:=19) (S:=fun w'=>w'.cell? ⟨gb361,0,none⟩=some (.int .u8 a0_0)∧w'.cell? ⟨gb361,1,none⟩=some (.int .i64 a0_1)∧w'.cell? ⟨gb361,2,none⟩=some (.int .u64 a0_2)∧w'.cell? ⟨gb361,3,none⟩=some (.int .i64 a0_3)∧w'.cell? ⟨gb361,4,none⟩=some (.bool a0_4)∧w'.cell? ⟨gb361,5,none⟩=some (.int .u64 a0_5)∧w'.cell? ⟨gb361,6,none⟩=some (.int .u64 a0_6)∧w'.cell? ⟨gb361,7,none⟩=some (.int .i64 a0_7)∧w'.cell? ⟨gb361,8,none⟩=some (.int .u8 a0_8)∧w'.cell? ⟨gb361,9,none⟩=some (.int .i64 a0_9)∧w'.cell? ⟨gb361,10,none⟩=some (.int .i64 a0_10)∧w'.cell? ⟨gb361,11,none⟩=some (.int .i64 a0_11)) (ds:= []) #[fa,fa,fa,fa,fa,fa,fa,fa,fa,fa,fa,fa,fa,fa,fa,fa,fa,fa,fa] (by kernel_rfl) rfl rfl ⟨(blk_cell BK361.out 0).trans rfl,(blk_cell BK361.out 1).trans rfl,(blk_cell BK361.out 2).trans rfl,(blk_cell BK361.out 3).trans rfl,(blk_cell BK361.out 4).trans rfl,(blk_cell BK361.out 5).trans rfl,(blk_cell BK361.out 6).trans rfl,(blk_cell BK361.out 7).trans rfl,(blk_cell BK361.out 8).trans rfl,(blk_cell BK361.out 9).trans rfl,(blk_cell BK361.out 10).trans rfl,(blk_cell BK361.out 11).trans rfl⟩ (fun hHeld=>?_);refine with_tabW spoorref11_Put.tab3 spoorref11_Put.bits3 (fun HT_ HW_=>?_);generalize w13.drew=w14 at BK361 HB hHeld ⊢;refine pz 0 12 #[tr,fa,fa,fa,fa,fa,fa,fa,fa,fa,fa,fa,fa,fa,fa,fa,fa,fa,fa] HT_.out ?_
     refine pz 4 16 #[tr,fa,fa,fa,tr,fa,fa,fa,fa,fa,fa,fa,fa,fa,fa,fa,fa,fa,fa] HT_.out ?_
     refine pz 9 21 #[tr,fa,fa,fa,tr,fa,fa,fa,fa,tr,fa,fa,fa,fa,fa,fa,fa,fa,fa] HT_.out ?_
     refine pz 13 25 #[tr,fa,fa,fa,tr,fa,fa,fa,fa,tr,fa,fa,fa,tr,fa,fa,fa,fa,fa] HT_.out ?_
     refine take_ (i:=1) (N:=some 13) (v:=?_) (a':=?_) #[tr,tr,fa,fa,tr,fa,fa,fa,fa,tr,fa,fa,fa,tr,fa,fa,fa,fa,fa] rfl rfl (take_ofW HT_.out HW_.out (by kernel_rfl)) (fun _ _ _ h=>h) (Or.inl ⟨by rfl,?_⟩) hHeld ?_ ?_;rotate_left
     ·rintro w' ⟨s0,s1,s2,s3,s4,s5,s6,s7,s8,s9,s10,s11⟩
      go_simp;with_reducible rfl
     rotate_left;·simp only[sP];rfl
     refine take_ (i:=5) (N:=some 17) (v:=?_) (a':=?_) #[tr,tr,fa,fa,tr,tr,fa,fa,fa,tr,fa,fa,fa,tr,fa,fa,fa,fa,fa] rfl rfl (take_ofW HT_.out HW_.out (by kernel_rfl)) (fun _ _ _ h=>h) (Or.inl ⟨by rfl,?_⟩) hHeld ?_ ?_;rotate_left
     ·rintro w' ⟨s0,s1,s2,s3,s4,s5,s6,s7,s8,s9,s10,s11⟩
      go_simp;with_reducible rfl
     rotate_left;·simp only[sP];rfl
     refine pz 6 18 #[tr,tr,fa,fa,tr,tr,tr,fa,fa,tr,fa,fa,fa,tr,fa,fa,fa,fa,fa] HT_.out ?_
     refine take_ (i:=10) (N:=some 22) (v:=?_) (a':=?_) #[tr,tr,fa,fa,tr,tr,tr,fa,fa,tr,tr,fa,fa,tr,fa,fa,fa,fa,fa] rfl rfl (take_ofW HT_.out HW_.out (by kernel_rfl)) (fun _ _ _ h=>h) (Or.inl ⟨by rfl,?_⟩) hHeld ?_ ?_;rotate_left
     ·rintro w' ⟨s0,s1,s2,s3,s4,s5,s6,s7,s8,s9,s10,s11⟩
      go_simp;with_reducible rfl
     rotate_left;·simp only[sP];rfl
     refine take_ (i:=14) (N:=some 26) (v:=?_) (a':=?_) #[tr,tr,fa,fa,tr,tr,tr,fa,fa,tr,tr,fa,fa,tr,tr,fa,fa,fa,fa] rfl rfl (take_ofW HT_.out HW_.out (by kernel_rfl)) (fun _ _ _ h=>h) (Or.inl ⟨by rfl,?_⟩) hHeld ?_ ?_;rotate_left
     ·rintro w' ⟨s0,s1,s2,s3,s4,s5,s6,s7,s8,s9,s10,s11⟩
      go_simp;with_reducible rfl
     rotate_left;·simp only[sP];rfl
     refine pz 15 27 #[tr,tr,fa,fa,tr,tr,tr,fa,fa,tr,tr,fa,fa,tr,tr,tr,fa,fa,fa] HT_.out ?_
     refine join_ (σ:=Value) 2 #[tr,tr,tr,tr,tr,tr,tr,tr,tr,tr,tr,tr,tr,tr,tr,tr,tr,fa,fa] (fun s_=> [(14,s_),(15,.string (strOfNums y363)),(19,.string t366),(23,.string t367),(28,.string t368),(20,.string ((strOfNums y363)++t366)),(24,.string (((strOfNums y363)++t366)++t367))]) (fun s_ w'=>(w'.cell? ⟨gb361,0,none⟩=some (.int .u8 a0_0)∧w'.cell? ⟨gb361,1,none⟩=some (.int .i64 a0_1)∧w'.cell? ⟨gb361,2,none⟩=some (.int .u64 a0_2)∧w'.cell? ⟨gb361,3,none⟩=some (.int .i64 a0_3)∧w'.cell? ⟨gb361,4,none⟩=some (.bool a0_4)∧w'.cell? ⟨gb361,5,none⟩=some (.int .u64 a0_5)∧w'.cell? ⟨gb361,6,none⟩=some (.int .u64 a0_6)∧w'.cell? ⟨gb361,7,none⟩=some (.int .i64 a0_7)∧w'.cell? ⟨gb361,8,none⟩=some (.int .u8 a0_8)∧w'.cell? ⟨gb361,9,none⟩=some (.int .i64 a0_9)∧w'.cell? ⟨gb361,10,none⟩=some (.int .i64 a0_10)∧w'.cell? ⟨gb361,11,none⟩=some (.int .i64 a0_11))∧(Kd.R (Kd.int .u8) 5 w' w.heap.size (fun _=>True) s_ y363)∧(w'.heap[gb361]? =some (.cells #[.int .u8 a0_0,.int .i64 a0_1,.int .u64 a0_2,.int .i64 a0_3,.bool a0_4,.int .u64 a0_5,.int .u64 a0_6,.int .i64 a0_7,.int .u8 a0_8,.int .i64 a0_9,.int .i64 a0_10,.int .i64 a0_11] 35 (0,0)))∧(Below w.heap.size w w')) ?_ ?_;rotate_left
     ·intro hJ2_3_7_11_16;refine join_ (σ:=Value) 3 #[tr,tr,tr,tr,tr,tr,tr,tr,tr,tr,tr,tr,tr,tr,tr,tr,fa,fa,fa] (fun s_=> [(14,s_),(15,.string (strOfNums y363)),(19,.string t366),(23,.string t367),(20,.string ((strOfNums y363)++t366)),(24,.string (((strOfNums y363)++t366)++t367))]) (fun s_ w'=>(w'.cell? ⟨gb361,0,none⟩=some (.int .u8 a0_0)∧w'.cell? ⟨gb361,1,none⟩=some (.int .i64 a0_1)∧w'.cell? ⟨gb361,2,none⟩=some (.int .u64 a0_2)∧w'.cell? ⟨gb361,3,none⟩=some (.int .i64 a0_3)∧w'.cell? ⟨gb361,4,none⟩=some (.bool a0_4)∧w'.cell? ⟨gb361,5,none⟩=some (.int .u64 a0_5)∧w'.cell? ⟨gb361,6,none⟩=some (.int .u64 a0_6)∧w'.cell? ⟨gb361,7,none⟩=some (.int .i64 a0_7)∧w'.cell? ⟨gb361,8,none⟩=some (.int .u8 a0_8)∧w'.cell? ⟨gb361,9,none⟩=some (.int .i64 a0_9)∧w'.cell? ⟨gb361,10,none⟩=some (.int .i64 a0_10)∧w'.cell? ⟨gb361,11,none⟩=some (.int .i64 a0_11))∧(Kd.R (Kd.int .u8) 5 w' w.heap.size (fun _=>True) s_ y363)∧(w'.heap[gb361]? =some (.cells #[.int .u8 a0_0,.int .i64 a0_1,.int .u64 a0_2,.int .i64 a0_3,.bool a0_4,.int .u64 a0_5,.int .u64 a0_6,.int .i64 a0_7,.int .u8 a0_8,.int .i64 a0_9,.int .i64 a0_10,.int .i64 a0_11] 35 (0,0)))∧(Below w.heap.size w w')) ?_ ?_;rotate_left
      ·intro hJ2_3_7_11;refine join_ (σ:=Value) 5 #[tr,tr,tr,fa,tr,tr,tr,tr,fa,tr,tr,tr,fa,tr,tr,tr,tr,fa,fa] (fun s_=> [(14,s_),(19,.string t366),(23,.string t367),(28,.string t368)]) (fun s_ w'=>(w'.cell? ⟨gb361,0,none⟩=some (.int .u8 a0_0)∧w'.cell? ⟨gb361,1,none⟩=some (.int .i64 a0_1)∧w'.cell? ⟨gb361,2,none⟩=some (.int .u64 a0_2)∧w'.cell? ⟨gb361,3,none⟩=some (.int .i64 a0_3)∧w'.cell? ⟨gb361,4,none⟩=some (.bool a0_4)∧w'.cell? ⟨gb361,5,none⟩=some (.int .u64 a0_5)∧w'.cell? ⟨gb361,6,none⟩=some (.int .u64 a0_6)∧w'.cell? ⟨gb361,7,none⟩=some (.int .i64 a0_7)∧w'.cell? ⟨gb361,8,none⟩=some (.int .u8 a0_8)∧w'.cell? ⟨gb361,9,none⟩=some (.int .i64 a0_9)∧w'.cell? ⟨gb361,10,none⟩=some (.int .i64 a0_10)∧w'.cell? ⟨gb361,11,none⟩=some (.int .i64 a0_11))∧(Kd.R (Kd.int .u8) 5 w' w.heap.size (fun _=>True) s_ y363)∧(w'.heap[gb361]? =some (.cells #[.int .u8 a0_0,.int .i64 a0_1,.int .u64 a0_2,.int .i64 a0_3,.bool a0_4,.int .u64 a0_5,.int .u64 a0_6,.int .i64 a0_7,.int .u8 a0_8,.int .i64 a0_9,.int .i64 a0_10,.int .i64 a0_11] 35 (0,0)))∧(Below w.heap.size w w')) ?_ ?_;rotate_left
       ·intro hJ2_7_11_16;refine join_ (σ:=Value) 5 #[tr,tr,tr,tr,tr,tr,tr,tr,tr,tr,tr,fa,fa,tr,tr,tr,fa,fa,fa] (fun s_=> [(14,s_),(15,.string (strOfNums y363)),(19,.string t366),(20,.string ((strOfNums y363)++t366))]) (fun s_ w'=>(w'.cell? ⟨gb361,0,none⟩=some (.int .u8 a0_0)∧w'.cell? ⟨gb361,1,none⟩=some (.int .i64 a0_1)∧w'.cell? ⟨gb361,2,none⟩=some (.int .u64 a0_2)∧w'.cell? ⟨gb361,3,none⟩=some (.int .i64 a0_3)∧w'.cell? ⟨gb361,4,none⟩=some (.bool a0_4)∧w'.cell? ⟨gb361,5,none⟩=some (.int .u64 a0_5)∧w'.cell? ⟨gb361,6,none⟩=some (.int .u64 a0_6)∧w'.cell? ⟨gb361,7,none⟩=some (.int .i64 a0_7)∧w'.cell? ⟨gb361,8,none⟩=some (.int .u8 a0_8)∧w'.cell? ⟨gb361,9,none⟩=some (.int .i64 a0_9)∧w'.cell? ⟨gb361,10,none⟩=some (.int .i64 a0_10)∧w'.cell? ⟨gb361,11,none⟩=some (.int .i64 a0_11))∧(Kd.R (Kd.int .u8) 5 w' w.heap.size (fun _=>True) s_ y363)∧(w'.heap[gb361]? =some (.cells #[.int .u8 a0_0,.int .i64 a0_1,.int .u64 a0_2,.int .i64 a0_3,.bool a0_4,.int .u64 a0_5,.int .u64 a0_6,.int .i64 a0_7,.int .u8 a0_8,.int .i64 a0_9,.int .i64 a0_10,.int .i64 a0_11] 35 (0,0)))∧(Below w.heap.size w w')) ?_ ?_;rotate_left
        ·intro hJ2_3_7;refine join_ (σ:=Value) 6 #[tr,tr,tr,fa,tr,tr,tr,tr,fa,tr,tr,tr,fa,tr,tr,tr,fa,fa,fa] (fun s_=> [(14,s_),(19,.string t366),(23,.string t367)]) (fun s_ w'=>(w'.cell? ⟨gb361,0,none⟩=some (.int .u8 a0_0)∧w'.cell? ⟨gb361,1,none⟩=some (.int .i64 a0_1)∧w'.cell? ⟨gb361,2,none⟩=some (.int .u64 a0_2)∧w'.cell? ⟨gb361,3,none⟩=some (.int .i64 a0_3)∧w'.cell? ⟨gb361,4,none⟩=some (.bool a0_4)∧w'.cell? ⟨gb361,5,none⟩=some (.int .u64 a0_5)∧w'.cell? ⟨gb361,6,none⟩=some (.int .u64 a0_6)∧w'.cell? ⟨gb361,7,none⟩=some (.int .i64 a0_7)∧w'.cell? ⟨gb361,8,none⟩=some (.int .u8 a0_8)∧w'.cell? ⟨gb361,9,none⟩=some (.int .i64 a0_9)∧w'.cell? ⟨gb361,10,none⟩=some (.int .i64 a0_10)∧w'.cell? ⟨gb361,11,none⟩=some (.int .i64 a0_11))∧(Kd.R (Kd.int .u8) 5 w' w.heap.size (fun _=>True) s_ y363)∧(w'.heap[gb361]? =some (.cells #[.int .u8 a0_0,.int .i64 a0_1,.int .u64 a0_2,.int .i64 a0_3,.bool a0_4,.int .u64 a0_5,.int .u64 a0_6,.int .i64 a0_7,.int .u8 a0_8,.int .i64 a0_9,.int .i64 a0_10,.int .i64 a0_11] 35 (0,0)))∧(Below w.heap.size w w')) ?_ ?_;rotate_left
         ·intro hJ2_7_11;refine join_ (σ:=Unit) 6 #[tr,tr,fa,fa,tr,tr,tr,tr,fa,tr,tr,tr,fa,tr,tr,tr,tr,fa,fa] (fun s_=> [(19,.string t366),(23,.string t367),(28,.string t368)]) (fun s_ w'=>(w'.cell? ⟨gb361,0,none⟩=some (.int .u8 a0_0)∧w'.cell? ⟨gb361,1,none⟩=some (.int .i64 a0_1)∧w'.cell? ⟨gb361,2,none⟩=some (.int .u64 a0_2)∧w'.cell? ⟨gb361,3,none⟩=some (.int .i64 a0_3)∧w'.cell? ⟨gb361,4,none⟩=some (.bool a0_4)∧w'.cell? ⟨gb361,5,none⟩=some (.int .u64 a0_5)∧w'.cell? ⟨gb361,6,none⟩=some (.int .u64 a0_6)∧w'.cell? ⟨gb361,7,none⟩=some (.int .i64 a0_7)∧w'.cell? ⟨gb361,8,none⟩=some (.int .u8 a0_8)∧w'.cell? ⟨gb361,9,none⟩=some (.int .i64 a0_9)∧w'.cell? ⟨gb361,10,none⟩=some (.int .i64 a0_10)∧w'.cell? ⟨gb361,11,none⟩=some (.int .i64 a0_11))∧(w'.heap[gb361]? =some (.cells #[.int .u8 a0_0,.int .i64 a0_1,.int .u64 a0_2,.int .i64 a0_3,.bool a0_4,.int .u64 a0_5,.int .u64 a0_6,.int .i64 a0_7,.int .u8 a0_8,.int .i64 a0_9,.int .i64 a0_10,.int .i64 a0_11] 35 (0,0)))∧(Below w.heap.size w w')) ?_ ?_;rotate_left
          ·intro hJ7_11_16;refine join_ (σ:=Value) 7 #[tr,tr,tr,tr,tr,tr,tr,fa,fa,tr,tr,fa,fa,tr,tr,tr,fa,fa,fa] (fun s_=> [(14,s_),(15,.string (strOfNums y363))]) (fun s_ w'=>(w'.cell? ⟨gb361,0,none⟩=some (.int .u8 a0_0)∧w'.cell? ⟨gb361,1,none⟩=some (.int .i64 a0_1)∧w'.cell? ⟨gb361,2,none⟩=some (.int .u64 a0_2)∧w'.cell? ⟨gb361,3,none⟩=some (.int .i64 a0_3)∧w'.cell? ⟨gb361,4,none⟩=some (.bool a0_4)∧w'.cell? ⟨gb361,5,none⟩=some (.int .u64 a0_5)∧w'.cell? ⟨gb361,6,none⟩=some (.int .u64 a0_6)∧w'.cell? ⟨gb361,7,none⟩=some (.int .i64 a0_7)∧w'.cell? ⟨gb361,8,none⟩=some (.int .u8 a0_8)∧w'.cell? ⟨gb361,9,none⟩=some (.int .i64 a0_9)∧w'.cell? ⟨gb361,10,none⟩=some (.int .i64 a0_10)∧w'.cell? ⟨gb361,11,none⟩=some (.int .i64 a0_11))∧(Kd.R (Kd.int .u8) 5 w' w.heap.size (fun _=>True) s_ y363)∧(w'.heap[gb361]? =some (.cells #[.int .u8 a0_0,.int .i64 a0_1,.int .u64 a0_2,.int .i64 a0_3,.bool a0_4,.int .u64 a0_5,.int .u64 a0_6,.int .i64 a0_7,.int .u8 a0_8,.int .i64 a0_9,.int .i64 a0_10,.int .i64 a0_11] 35 (0,0)))∧(Below w.heap.size w w')) ?_ ?_;rotate_left
           ·intro hJ2_3;refine join_ (σ:=Value) 7 #[tr,tr,tr,fa,tr,tr,tr,tr,fa,tr,tr,fa,fa,tr,tr,tr,fa,fa,fa] (fun s_=> [(14,s_),(19,.string t366)]) (fun s_ w'=>(w'.cell? ⟨gb361,0,none⟩=some (.int .u8 a0_0)∧w'.cell? ⟨gb361,1,none⟩=some (.int .i64 a0_1)∧w'.cell? ⟨gb361,2,none⟩=some (.int .u64 a0_2)∧w'.cell? ⟨gb361,3,none⟩=some (.int .i64 a0_3)∧w'.cell? ⟨gb361,4,none⟩=some (.bool a0_4)∧w'.cell? ⟨gb361,5,none⟩=some (.int .u64 a0_5)∧w'.cell? ⟨gb361,6,none⟩=some (.int .u64 a0_6)∧w'.cell? ⟨gb361,7,none⟩=some (.int .i64 a0_7)∧w'.cell? ⟨gb361,8,none⟩=some (.int .u8 a0_8)∧w'.cell? ⟨gb361,9,none⟩=some (.int .i64 a0_9)∧w'.cell? ⟨gb361,10,none⟩=some (.int .i64 a0_10)∧w'.cell? ⟨gb361,11,none⟩=some (.int .i64 a0_11))∧(Kd.R (Kd.int .u8) 5 w' w.heap.size (fun _=>True) s_ y363)∧(w'.heap[gb361]? =some (.cells #[.int .u8 a0_0,.int .i64 a0_1,.int .u64 a0_2,.int .i64 a0_3,.bool a0_4,.int .u64 a0_5,.int .u64 a0_6,.int .i64 a0_7,.int .u8 a0_8,.int .i64 a0_9,.int .i64 a0_10,.int .i64 a0_11] 35 (0,0)))∧(Below w.heap.size w w')) ?_ ?_;rotate_left
            ·intro hJ2_7;refine join_ (σ:=Unit) 7 #[tr,tr,fa,fa,tr,tr,tr,tr,fa,tr,tr,tr,fa,tr,tr,tr,fa,fa,fa] (fun s_=> [(19,.string t366),(23,.string t367)]) (fun s_ w'=>(w'.cell? ⟨gb361,0,none⟩=some (.int .u8 a0_0)∧w'.cell? ⟨gb361,1,none⟩=some (.int .i64 a0_1)∧w'.cell? ⟨gb361,2,none⟩=some (.int .u64 a0_2)∧w'.cell? ⟨gb361,3,none⟩=some (.int .i64 a0_3)∧w'.cell? ⟨gb361,4,none⟩=some (.bool a0_4)∧w'.cell? ⟨gb361,5,none⟩=some (.int .u64 a0_5)∧w'.cell? ⟨gb361,6,none⟩=some (.int .u64 a0_6)∧w'.cell? ⟨gb361,7,none⟩=some (.int .i64 a0_7)∧w'.cell? ⟨gb361,8,none⟩=some (.int .u8 a0_8)∧w'.cell? ⟨gb361,9,none⟩=some (.int .i64 a0_9)∧w'.cell? ⟨gb361,10,none⟩=some (.int .i64 a0_10)∧w'.cell? ⟨gb361,11,none⟩=some (.int .i64 a0_11))∧(w'.heap[gb361]? =some (.cells #[.int .u8 a0_0,.int .i64 a0_1,.int .u64 a0_2,.int .i64 a0_3,.bool a0_4,.int .u64 a0_5,.int .u64 a0_6,.int .i64 a0_7,.int .u8 a0_8,.int .i64 a0_9,.int .i64 a0_10,.int .i64 a0_11] 35 (0,0)))∧(Below w.heap.size w w')) ?_ ?_;rotate_left
             ·intro hJ7_11;refine join_ (σ:=Value) 8 #[tr,tr,tr,fa,tr,tr,tr,fa,fa,tr,tr,fa,fa,tr,tr,tr,fa,fa,fa] (fun s_=> [(14,s_)]) (fun s_ w'=>(w'.cell? ⟨gb361,0,none⟩=some (.int .u8 a0_0)∧w'.cell? ⟨gb361,1,none⟩=some (.int .i64 a0_1)∧w'.cell? ⟨gb361,2,none⟩=some (.int .u64 a0_2)∧w'.cell? ⟨gb361,3,none⟩=some (.int .i64 a0_3)∧w'.cell? ⟨gb361,4,none⟩=some (.bool a0_4)∧w'.cell? ⟨gb361,5,none⟩=some (.int .u64 a0_5)∧w'.cell? ⟨gb361,6,none⟩=some (.int .u64 a0_6)∧w'.cell? ⟨gb361,7,none⟩=some (.int .i64 a0_7)∧w'.cell? ⟨gb361,8,none⟩=some (.int .u8 a0_8)∧w'.cell? ⟨gb361,9,none⟩=some (.int .i64 a0_9)∧w'.cell? ⟨gb361,10,none⟩=some (.int .i64 a0_10)∧w'.cell? ⟨gb361,11,none⟩=some (.int .i64 a0_11))∧(Kd.R (Kd.int .u8) 5 w' w.heap.size (fun _=>True) s_ y363)∧(w'.heap[gb361]? =some (.cells #[.int .u8 a0_0,.int .i64 a0_1,.int .u64 a0_2,.int .i64 a0_3,.bool a0_4,.int .u64 a0_5,.int .u64 a0_6,.int .i64 a0_7,.int .u8 a0_8,.int .i64 a0_9,.int .i64 a0_10,.int .i64 a0_11] 35 (0,0)))∧(Below w.heap.size w w')) ?_ ?_;rotate_left
              ·intro hJ2;refine join_ (σ:=Unit) 8 #[tr,tr,fa,fa,tr,tr,tr,tr,fa,tr,tr,fa,fa,tr,tr,tr,fa,fa,fa] (fun s_=> [(19,.string t366)]) (fun s_ w'=>(w'.cell? ⟨gb361,0,none⟩=some (.int .u8 a0_0)∧w'.cell? ⟨gb361,1,none⟩=some (.int .i64 a0_1)∧w'.cell? ⟨gb361,2,none⟩=some (.int .u64 a0_2)∧w'.cell? ⟨gb361,3,none⟩=some (.int .i64 a0_3)∧w'.cell? ⟨gb361,4,none⟩=some (.bool a0_4)∧w'.cell? ⟨gb361,5,none⟩=some (.int .u64 a0_5)∧w'.cell? ⟨gb361,6,none⟩=some (.int .u64 a0_6)∧w'.cell? ⟨gb361,7,none⟩=some (.int .i64 a0_7)∧w'.cell? ⟨gb361,8,none⟩=some (.int .u8 a0_8)∧w'.cell? ⟨gb361,9,none⟩=some (.int .i64 a0_9)∧w'.cell? ⟨gb361,10,none⟩=some (.int .i64 a0_10)∧w'.cell? ⟨gb361,11,none⟩=some (.int .i64 a0_11))∧(w'.heap[gb361]? =some (.cells #[.int .u8 a0_0,.int .i64 a0_1,.int .u64 a0_2,.int .i64 a0_3,.bool a0_4,.int .u64 a0_5,.int .u64 a0_6,.int .i64 a0_7,.int .u8 a0_8,.int .i64 a0_9,.int .i64 a0_10,.int .i64 a0_11] 35 (0,0)))∧(Below w.heap.size w w')) ?_ ?_;rotate_left
               ·intro hJ7;refine two_ (i:=2) (j:=7) (Ni:=some 14) (Nj:=some 19) #[tr,tr,tr,fa,tr,tr,tr,fa,fa,tr,tr,fa,fa,tr,tr,tr,fa,fa,fa] #[tr,tr,fa,fa,tr,tr,tr,tr,fa,tr,tr,fa,fa,tr,tr,tr,fa,fa,fa] rfl rfl rfl rfl (two_of HT_.out (by kernel_rfl)) (by decide) (by decide) (fun K hK=>?_) (fun K hK=>?_)
                ·skip
                 refine Kd.R_lit_step (Kd.int .u8) _ 5 ?hg (N:=14) ?hd (xs:=([a0_0]:List Int)) (inner:= [.int .u8 a0_0]) (ok:=fun _=>True) (okp:=fun _=>True) ?hr ?hp (fun _ hk=>hk) trivial (Below.refl _ _) (Nat.le_refl _) (by simp) ?_;(case hd=>rfl);(case hg=>rfl);(case hr=>first|(go_simp;done)|(go_simp;rfl));(case hp=>exact (Reps.one (show Kd.M (Kd.int .u8) _ _ _ a0_0 [.int .u8 a0_0] from rfl) (Reps.none _ _)));intro v364 w15 ho16 hb hg_ hnew_;clear hg_ hnew_
                 (first|rw [← Ny363.out]at ho16|(simp only[Int.reduceToNat]at ho16;rw [← Ny363.out]at ho16))
                 have HO365:=Ax (Kd.R_lower ho16 (below_size (bw1 HB.out GE361.out)));replace BK361:=Bx0 BK361 hb;replace HB:=Bs1 HB hb GE361.out;clear hb ho16;refine hK.out _ _ ⟨(blk_cell BK361.out 0).trans rfl,(blk_cell BK361.out 1).trans rfl,(blk_cell BK361.out 2).trans rfl,(blk_cell BK361.out 3).trans rfl,(blk_cell BK361.out 4).trans rfl,(blk_cell BK361.out 5).trans rfl,(blk_cell BK361.out 6).trans rfl,(blk_cell BK361.out 7).trans rfl,(blk_cell BK361.out 8).trans rfl,(blk_cell BK361.out 9).trans rfl,(blk_cell BK361.out 10).trans rfl,(blk_cell BK361.out 11).trans rfl⟩ (fun hHeld=>?_);clear hK K;refine norm_ (a':=?_) ?_ ?_;rotate_left
                 ·show Act.put _ (some 14) _=_
                  simp only[sP];rfl
                 exact norm_ (by first|(simp only[putAll,Act.put,List.setIfInBounds_toArray,List.set_cons_zero,List.set_cons_succ];done)|(simp only[putAll,Act.put,List.setIfInBounds_toArray,List.set_cons_zero,List.set_cons_succ];rfl)) (hJ2 (v364) _ ⟨hHeld,(by (with_reducible repeat (first|apply Kd.R_alloc|apply Kd.R_drewN|apply Kd.R_drew));exact HO365.out),(bf0 BK361.out),(bw1 HB.out GE361.out)⟩)
                ·skip
                 refine goes_ Try.func51 (by kernel_rfl) rfl #[.int .u64 (IntKind.u64.wrap (a0_1))] (by rfl) rfl rfl gS ?_;with_reducible refine (spoorref01_Put.calls k (IntKind.u64.wrap (a0_1)) t366 _ A4.out).mono ?_
                 rintro e w15 ⟨rfl,hb⟩
                 refine⟨_,rfl,?_⟩;replace BK361:=Bx0 BK361 hb;replace HB:=Bs1 HB hb GE361.out
                 (try clear hb)
                 refine hK.out _ _ ⟨(blk_cell BK361.out 0).trans rfl,(blk_cell BK361.out 1).trans rfl,(blk_cell BK361.out 2).trans rfl,(blk_cell BK361.out 3).trans rfl,(blk_cell BK361.out 4).trans rfl,(blk_cell BK361.out 5).trans rfl,(blk_cell BK361.out 6).trans rfl,(blk_cell BK361.out 7).trans rfl,(blk_cell BK361.out 8).trans rfl,(blk_cell BK361.out 9).trans rfl,(blk_cell BK361.out 10).trans rfl,(blk_cell BK361.out 11).trans rfl⟩ (fun hHeld=>?_);clear hK K;refine norm_ (a':=?_) ?_ ?_;rotate_left
                 ·show Act.put _ (some 19) _=_
                  simp only[sP];rfl
                 exact norm_ (by first|(simp only[putAll,Act.put,List.setIfInBounds_toArray,List.set_cons_zero,List.set_cons_succ];done)|(simp only[putAll,Act.put,List.setIfInBounds_toArray,List.set_cons_zero,List.set_cons_succ];rfl)) (hJ7 () _ ⟨hHeld,(bf0 BK361.out),(bw1 HB.out GE361.out)⟩)
               ·skip
                rintro _ w16 ⟨hS_,h0_,h1_⟩
                have n0_:Aside0 (w16.heap[gb361]? =some (.cells #[.int .u8 a0_0,.int .i64 a0_1,.int .u64 a0_2,.int .i64 a0_3,.bool a0_4,.int .u64 a0_5,.int .u64 a0_6,.int .i64 a0_7,.int .u8 a0_8,.int .i64 a0_9,.int .i64 a0_10,.int .i64 a0_11] 35 (0,0))):=⟨h0_⟩;have n1_:Aside0 (Below w.heap.size w w16):=⟨h1_⟩;clear BK361;clear HB;clear h0_ h1_;have BK361:=n0_;have HB:=n1_;clear n0_ n1_;have hHeld:w16.cell? ⟨gb361,0,none⟩=some (.int .u8 a0_0)∧w16.cell? ⟨gb361,1,none⟩=some (.int .i64 a0_1)∧w16.cell? ⟨gb361,2,none⟩=some (.int .u64 a0_2)∧w16.cell? ⟨gb361,3,none⟩=some (.int .i64 a0_3)∧w16.cell? ⟨gb361,4,none⟩=some (.bool a0_4)∧w16.cell? ⟨gb361,5,none⟩=some (.int .u64 a0_5)∧w16.cell? ⟨gb361,6,none⟩=some (.int .u64 a0_6)∧w16.cell? ⟨gb361,7,none⟩=some (.int .i64 a0_7)∧w16.cell? ⟨gb361,8,none⟩=some (.int .u8 a0_8)∧w16.cell? ⟨gb361,9,none⟩=some (.int .i64 a0_9)∧w16.cell? ⟨gb361,10,none⟩=some (.int .i64 a0_10)∧w16.cell? ⟨gb361,11,none⟩=some (.int .i64 a0_11):=hS_;refine norm_ (a':=?_) ?_ ?_;rotate_left;·simp only[putAll,Act.put,List.setIfInBounds_toArray,List.set_cons_zero,List.set_cons_succ];rfl
                refine two_ (i:=2) (j:=11) (Ni:=some 14) (Nj:=some 23) #[tr,tr,tr,fa,tr,tr,tr,tr,fa,tr,tr,fa,fa,tr,tr,tr,fa,fa,fa] #[tr,tr,fa,fa,tr,tr,tr,tr,fa,tr,tr,tr,fa,tr,tr,tr,fa,fa,fa] rfl rfl rfl rfl (two_of HT_.out (by kernel_rfl)) (by decide) (by decide) (fun K hK=>?_) (fun K hK=>?_)
                ·skip
                 refine Kd.R_lit_step (Kd.int .u8) _ 5 ?hg (N:=14) ?hd (xs:=([a0_0]:List Int)) (inner:= [.int .u8 a0_0]) (ok:=fun _=>True) (okp:=fun _=>True) ?hr ?hp (fun _ hk=>hk) trivial (Below.refl _ _) (Nat.le_refl _) (by simp) ?_;(case hd=>rfl);(case hg=>rfl);(case hr=>first|(go_simp;done)|(go_simp;rfl));(case hp=>exact (Reps.one (show Kd.M (Kd.int .u8) _ _ _ a0_0 [.int .u8 a0_0] from rfl) (Reps.none _ _)));intro v364 w17 ho18 hb hg_ hnew_;clear hg_ hnew_
                 (first|rw [← Ny363.out]at ho18|(simp only[Int.reduceToNat]at ho18;rw [← Ny363.out]at ho18))
                 have HO365:=Ax (Kd.R_lower ho18 (below_size (bw1 HB.out GE361.out)));replace BK361:=Bx0 BK361 hb;replace HB:=Bs1 HB hb GE361.out;clear hb ho18;refine hK.out _ _ ⟨(blk_cell BK361.out 0).trans rfl,(blk_cell BK361.out 1).trans rfl,(blk_cell BK361.out 2).trans rfl,(blk_cell BK361.out 3).trans rfl,(blk_cell BK361.out 4).trans rfl,(blk_cell BK361.out 5).trans rfl,(blk_cell BK361.out 6).trans rfl,(blk_cell BK361.out 7).trans rfl,(blk_cell BK361.out 8).trans rfl,(blk_cell BK361.out 9).trans rfl,(blk_cell BK361.out 10).trans rfl,(blk_cell BK361.out 11).trans rfl⟩ (fun hHeld=>?_);clear hK K;refine norm_ (a':=?_) ?_ ?_;rotate_left
                 ·show Act.put _ (some 14) _=_
                  simp only[sP];rfl
                 exact norm_ (by first|(simp only[putAll,Act.put,List.setIfInBounds_toArray,List.set_cons_zero,List.set_cons_succ];done)|(simp only[putAll,Act.put,List.setIfInBounds_toArray,List.set_cons_zero,List.set_cons_succ];rfl)) (hJ2_7 (v364) _ ⟨hHeld,(by (with_reducible repeat (first|apply Kd.R_alloc|apply Kd.R_drewN|apply Kd.R_drew));exact HO365.out),(bf0 BK361.out),(bw1 HB.out GE361.out)⟩)
                ·skip
                 refine goes_ Try.func51 (by kernel_rfl) rfl #[.int .u64 a0_2] (by rfl) rfl rfl gS ?_;with_reducible refine (spoorref01_Put.calls k a0_2 t367 _ A6.out).mono ?_
                 rintro e w17 ⟨rfl,hb⟩
                 refine⟨_,rfl,?_⟩;replace BK361:=Bx0 BK361 hb;replace HB:=Bs1 HB hb GE361.out
                 (try clear hb)
                 refine hK.out _ _ ⟨(blk_cell BK361.out 0).trans rfl,(blk_cell BK361.out 1).trans rfl,(blk_cell BK361.out 2).trans rfl,(blk_cell BK361.out 3).trans rfl,(blk_cell BK361.out 4).trans rfl,(blk_cell BK361.out 5).trans rfl,(blk_cell BK361.out 6).trans rfl,(blk_cell BK361.out 7).trans rfl,(blk_cell BK361.out 8).trans rfl,(blk_cell BK361.out 9).trans rfl,(blk_cell BK361.out 10).trans rfl,(blk_cell BK361.out 11).trans rfl⟩ (fun hHeld=>?_);clear hK K;refine norm_ (a':=?_) ?_ ?_;rotate_left
                 ·show Act.put _ (some 23) _=_
                  simp only[sP];rfl
                 exact norm_ (by first|(simp only[putAll,Act.put,List.setIfInBounds_toArray,List.set_cons_zero,List.set_cons_succ];done)|(simp only[putAll,Act.put,List.setIfInBounds_toArray,List.set_cons_zero,List.set_cons_succ];rfl)) (hJ7_11 () _ ⟨hHeld,(bf0 BK361.out),(bw1 HB.out GE361.out)⟩)
              ·skip
               rintro v364 w17 ⟨hS_,h0_,h1_,h2_⟩
               have n0_:Aside0 (Kd.R (Kd.int .u8) 5 w17 w.heap.size (fun _=>True) v364 y363):=⟨h0_⟩;have n1_:Aside0 (w17.heap[gb361]? =some (.cells #[.int .u8 a0_0,.int .i64 a0_1,.int .u64 a0_2,.int .i64 a0_3,.bool a0_4,.int .u64 a0_5,.int .u64 a0_6,.int .i64 a0_7,.int .u8 a0_8,.int .i64 a0_9,.int .i64 a0_10,.int .i64 a0_11] 35 (0,0))):=⟨h1_⟩;have n2_:Aside0 (Below w.heap.size w w17):=⟨h2_⟩;clear BK361;clear HB;clear h0_ h1_ h2_;have HO365:=n0_;have BK361:=n1_;have HB:=n2_;clear n0_ n1_ n2_;have hHeld:w17.cell? ⟨gb361,0,none⟩=some (.int .u8 a0_0)∧w17.cell? ⟨gb361,1,none⟩=some (.int .i64 a0_1)∧w17.cell? ⟨gb361,2,none⟩=some (.int .u64 a0_2)∧w17.cell? ⟨gb361,3,none⟩=some (.int .i64 a0_3)∧w17.cell? ⟨gb361,4,none⟩=some (.bool a0_4)∧w17.cell? ⟨gb361,5,none⟩=some (.int .u64 a0_5)∧w17.cell? ⟨gb361,6,none⟩=some (.int .u64 a0_6)∧w17.cell? ⟨gb361,7,none⟩=some (.int .i64 a0_7)∧w17.cell? ⟨gb361,8,none⟩=some (.int .u8 a0_8)∧w17.cell? ⟨gb361,9,none⟩=some (.int .i64 a0_9)∧w17.cell? ⟨gb361,10,none⟩=some (.int .i64 a0_10)∧w17.cell? ⟨gb361,11,none⟩=some (.int .i64 a0_11):=hS_;refine norm_ (a':=?_) ?_ ?_;rotate_left;·simp only[putAll,Act.put,List.setIfInBounds_toArray,List.set_cons_zero,List.set_cons_succ];rfl
               refine two_ (i:=3) (j:=7) (Ni:=some 15) (Nj:=some 19) #[tr,tr,tr,tr,tr,tr,tr,fa,fa,tr,tr,fa,fa,tr,tr,tr,fa,fa,fa] #[tr,tr,tr,fa,tr,tr,tr,tr,fa,tr,tr,fa,fa,tr,tr,tr,fa,fa,fa] rfl rfl rfl rfl (two_of HT_.out (by kernel_rfl)) (by decide) (by decide) (fun K hK=>?_) (fun K hK=>?_)
               ·skip
                have hcv18:=own_string (P:=Try.prog) Try.underlying67 Try.underlying5 Try.underlying9 (Kd.own_of_R HO365.out);refine value_ (w1:=?_) (v:=?_) (by rfl) rfl ?_ ?_;rotate_left 2
                ·go_simp;constructor;·rfl
                 ·rfl
                clear hcv18;refine hK.out _ _ ⟨(blk_cell BK361.out 0).trans rfl,(blk_cell BK361.out 1).trans rfl,(blk_cell BK361.out 2).trans rfl,(blk_cell BK361.out 3).trans rfl,(blk_cell BK361.out 4).trans rfl,(blk_cell BK361.out 5).trans rfl,(blk_cell BK361.out 6).trans rfl,(blk_cell BK361.out 7).trans rfl,(blk_cell BK361.out 8).trans rfl,(blk_cell BK361.out 9).trans rfl,(blk_cell BK361.out 10).trans rfl,(blk_cell BK361.out 11).trans rfl⟩ (fun hHeld=>?_);clear hK K;refine norm_ (a':=?_) ?_ ?_;rotate_left
                ·show Act.put _ (some 15) _=_
                 simp only[sP];rfl
                exact norm_ (by first|(simp only[putAll,Act.put,List.setIfInBounds_toArray,List.set_cons_zero,List.set_cons_succ];done)|(simp only[putAll,Act.put,List.setIfInBounds_toArray,List.set_cons_zero,List.set_cons_succ];rfl)) (hJ2_3 (v364) _ ⟨hHeld,(by (with_reducible repeat (first|apply Kd.R_alloc|apply Kd.R_drewN|apply Kd.R_drew));exact HO365.out),(bf0 BK361.out),(bw1 HB.out GE361.out)⟩)
               ·skip
                refine goes_ Try.func51 (by kernel_rfl) rfl #[.int .u64 (IntKind.u64.wrap (a0_1))] (by rfl) rfl rfl gS ?_;with_reducible refine (spoorref01_Put.calls k (IntKind.u64.wrap (a0_1)) t366 _ A4.out).mono ?_
                rintro e w18 ⟨rfl,hb⟩
                refine⟨_,rfl,?_⟩;replace HO365:=Ax (Kd.R_below (by (with_reducible repeat (first|apply Kd.R_alloc|apply Kd.R_drewN|apply Kd.R_drew));exact HO365.out) hb);replace BK361:=Bx0 BK361 hb;replace HB:=Bs1 HB hb GE361.out
                (try clear hb)
                refine hK.out _ _ ⟨(blk_cell BK361.out 0).trans rfl,(blk_cell BK361.out 1).trans rfl,(blk_cell BK361.out 2).trans rfl,(blk_cell BK361.out 3).trans rfl,(blk_cell BK361.out 4).trans rfl,(blk_cell BK361.out 5).trans rfl,(blk_cell BK361.out 6).trans rfl,(blk_cell BK361.out 7).trans rfl,(blk_cell BK361.out 8).trans rfl,(blk_cell BK361.out 9).trans rfl,(blk_cell BK361.out 10).trans rfl,(blk_cell BK361.out 11).trans rfl⟩ (fun hHeld=>?_);clear hK K;refine norm_ (a':=?_) ?_ ?_;rotate_left
                ·show Act.put _ (some 19) _=_
                 simp only[sP];rfl
                exact norm_ (by first|(simp only[putAll,Act.put,List.setIfInBounds_toArray,List.set_cons_zero,List.set_cons_succ];done)|(simp only[putAll,Act.put,List.setIfInBounds_toArray,List.set_cons_zero,List.set_cons_succ];rfl)) (hJ2_7 (v364) _ ⟨hHeld,(by (with_reducible repeat (first|apply Kd.R_alloc|apply Kd.R_drewN|apply Kd.R_drew));exact HO365.out),(bf0 BK361.out),(bw1 HB.out GE361.out)⟩)
             ·skip
              rintro _ w17 ⟨hS_,h0_,h1_⟩
              have n0_:Aside0 (w17.heap[gb361]? =some (.cells #[.int .u8 a0_0,.int .i64 a0_1,.int .u64 a0_2,.int .i64 a0_3,.bool a0_4,.int .u64 a0_5,.int .u64 a0_6,.int .i64 a0_7,.int .u8 a0_8,.int .i64 a0_9,.int .i64 a0_10,.int .i64 a0_11] 35 (0,0))):=⟨h0_⟩;have n1_:Aside0 (Below w.heap.size w w17):=⟨h1_⟩;clear BK361;clear HB;clear h0_ h1_;have BK361:=n0_;have HB:=n1_;clear n0_ n1_;have hHeld:w17.cell? ⟨gb361,0,none⟩=some (.int .u8 a0_0)∧w17.cell? ⟨gb361,1,none⟩=some (.int .i64 a0_1)∧w17.cell? ⟨gb361,2,none⟩=some (.int .u64 a0_2)∧w17.cell? ⟨gb361,3,none⟩=some (.int .i64 a0_3)∧w17.cell? ⟨gb361,4,none⟩=some (.bool a0_4)∧w17.cell? ⟨gb361,5,none⟩=some (.int .u64 a0_5)∧w17.cell? ⟨gb361,6,none⟩=some (.int .u64 a0_6)∧w17.cell? ⟨gb361,7,none⟩=some (.int .i64 a0_7)∧w17.cell? ⟨gb361,8,none⟩=some (.int .u8 a0_8)∧w17.cell? ⟨gb361,9,none⟩=some (.int .i64 a0_9)∧w17.cell? ⟨gb361,10,none⟩=some (.int .i64 a0_10)∧w17.cell? ⟨gb361,11,none⟩=some (.int .i64 a0_11):=hS_;refine norm_ (a':=?_) ?_ ?_;rotate_left;·simp only[putAll,Act.put,List.setIfInBounds_toArray,List.set_cons_zero,List.set_cons_succ];rfl
              refine two_ (i:=2) (j:=16) (Ni:=some 14) (Nj:=some 28) #[tr,tr,tr,fa,tr,tr,tr,tr,fa,tr,tr,tr,fa,tr,tr,tr,fa,fa,fa] #[tr,tr,fa,fa,tr,tr,tr,tr,fa,tr,tr,tr,fa,tr,tr,tr,tr,fa,fa] rfl rfl rfl rfl (two_of HT_.out (by kernel_rfl)) (by decide) (by decide) (fun K hK=>?_) (fun K hK=>?_)
              ·skip
               refine Kd.R_lit_step (Kd.int .u8) _ 5 ?hg (N:=14) ?hd (xs:=([a0_0]:List Int)) (inner:= [.int .u8 a0_0]) (ok:=fun _=>True) (okp:=fun _=>True) ?hr ?hp (fun _ hk=>hk) trivial (Below.refl _ _) (Nat.le_refl _) (by simp) ?_;(case hd=>rfl);(case hg=>rfl);(case hr=>first|(go_simp;done)|(go_simp;rfl));(case hp=>exact (Reps.one (show Kd.M (Kd.int .u8) _ _ _ a0_0 [.int .u8 a0_0] from rfl) (Reps.none _ _)));intro v364 w18 ho19 hb hg_ hnew_;clear hg_ hnew_
               (first|rw [← Ny363.out]at ho19|(simp only[Int.reduceToNat]at ho19;rw [← Ny363.out]at ho19))
               have HO365:=Ax (Kd.R_lower ho19 (below_size (bw1 HB.out GE361.out)));replace BK361:=Bx0 BK361 hb;replace HB:=Bs1 HB hb GE361.out;clear hb ho19;refine hK.out _ _ ⟨(blk_cell BK361.out 0).trans rfl,(blk_cell BK361.out 1).trans rfl,(blk_cell BK361.out 2).trans rfl,(blk_cell BK361.out 3).trans rfl,(blk_cell BK361.out 4).trans rfl,(blk_cell BK361.out 5).trans rfl,(blk_cell BK361.out 6).trans rfl,(blk_cell BK361.out 7).trans rfl,(blk_cell BK361.out 8).trans rfl,(blk_cell BK361.out 9).trans rfl,(blk_cell BK361.out 10).trans rfl,(blk_cell BK361.out 11).trans rfl⟩ (fun hHeld=>?_);clear hK K;refine norm_ (a':=?_) ?_ ?_;rotate_left
               ·show Act.put _ (some 14) _=_
                simp only[sP];rfl
               exact norm_ (by first|(simp only[putAll,Act.put,List.setIfInBounds_toArray,List.set_cons_zero,List.set_cons_succ];done)|(simp only[putAll,Act.put,List.setIfInBounds_toArray,List.set_cons_zero,List.set_cons_succ];rfl)) (hJ2_7_11 (v364) _ ⟨hHeld,(by (with_reducible repeat (first|apply Kd.R_alloc|apply Kd.R_drewN|apply Kd.R_drew));exact HO365.out),(bf0 BK361.out),(bw1 HB.out GE361.out)⟩)
              ·skip
               refine goes_ Try.func51 (by kernel_rfl) rfl #[.int .u64 (IntKind.u64.wrap (a0_3))] (by rfl) rfl rfl gS ?_;with_reducible refine (spoorref01_Put.calls k (IntKind.u64.wrap (a0_3)) t368 _ A8.out).mono ?_
               rintro e w18 ⟨rfl,hb⟩
               refine⟨_,rfl,?_⟩;replace BK361:=Bx0 BK361 hb;replace HB:=Bs1 HB hb GE361.out
               (try clear hb)
               refine hK.out _ _ ⟨(blk_cell BK361.out 0).trans rfl,(blk_cell BK361.out 1).trans rfl,(blk_cell BK361.out 2).trans rfl,(blk_cell BK361.out 3).trans rfl,(blk_cell BK361.out 4).trans rfl,(blk_cell BK361.out 5).trans rfl,(blk_cell BK361.out 6).trans rfl,(blk_cell BK361.out 7).trans rfl,(blk_cell BK361.out 8).trans rfl,(blk_cell BK361.out 9).trans rfl,(blk_cell BK361.out 10).trans rfl,(blk_cell BK361.out 11).trans rfl⟩ (fun hHeld=>?_);clear hK K;refine norm_ (a':=?_) ?_ ?_;rotate_left
               ·show Act.put _ (some 28) _=_
                simp only[sP];rfl
               exact norm_ (by first|(simp only[putAll,Act.put,List.setIfInBounds_toArray,List.set_cons_zero,List.set_cons_succ];done)|(simp only[putAll,Act.put,List.setIfInBounds_toArray,List.set_cons_zero,List.set_cons_succ];rfl)) (hJ7_11_16 () _ ⟨hHeld,(bf0 BK361.out),(bw1 HB.out GE361.out)⟩)
            ·skip
             rintro v364 w18 ⟨hS_,h0_,h1_,h2_⟩
             have n0_:Aside0 (Kd.R (Kd.int .u8) 5 w18 w.heap.size (fun _=>True) v364 y363):=⟨h0_⟩;have n1_:Aside0 (w18.heap[gb361]? =some (.cells #[.int .u8 a0_0,.int .i64 a0_1,.int .u64 a0_2,.int .i64 a0_3,.bool a0_4,.int .u64 a0_5,.int .u64 a0_6,.int .i64 a0_7,.int .u8 a0_8,.int .i64 a0_9,.int .i64 a0_10,.int .i64 a0_11] 35 (0,0))):=⟨h1_⟩;have n2_:Aside0 (Below w.heap.size w w18):=⟨h2_⟩;clear BK361;clear HB;clear h0_ h1_ h2_;have HO365:=n0_;have BK361:=n1_;have HB:=n2_;clear n0_ n1_ n2_;have hHeld:w18.cell? ⟨gb361,0,none⟩=some (.int .u8 a0_0)∧w18.cell? ⟨gb361,1,none⟩=some (.int .i64 a0_1)∧w18.cell? ⟨gb361,2,none⟩=some (.int .u64 a0_2)∧w18.cell? ⟨gb361,3,none⟩=some (.int .i64 a0_3)∧w18.cell? ⟨gb361,4,none⟩=some (.bool a0_4)∧w18.cell? ⟨gb361,5,none⟩=some (.int .u64 a0_5)∧w18.cell? ⟨gb361,6,none⟩=some (.int .u64 a0_6)∧w18.cell? ⟨gb361,7,none⟩=some (.int .i64 a0_7)∧w18.cell? ⟨gb361,8,none⟩=some (.int .u8 a0_8)∧w18.cell? ⟨gb361,9,none⟩=some (.int .i64 a0_9)∧w18.cell? ⟨gb361,10,none⟩=some (.int .i64 a0_10)∧w18.cell? ⟨gb361,11,none⟩=some (.int .i64 a0_11):=hS_;refine norm_ (a':=?_) ?_ ?_;rotate_left;·simp only[putAll,Act.put,List.setIfInBounds_toArray,List.set_cons_zero,List.set_cons_succ];rfl
             refine two_ (i:=3) (j:=11) (Ni:=some 15) (Nj:=some 23) #[tr,tr,tr,tr,tr,tr,tr,tr,fa,tr,tr,fa,fa,tr,tr,tr,fa,fa,fa] #[tr,tr,tr,fa,tr,tr,tr,tr,fa,tr,tr,tr,fa,tr,tr,tr,fa,fa,fa] rfl rfl rfl rfl (two_of HT_.out (by kernel_rfl)) (by decide) (by decide) (fun K hK=>?_) (fun K hK=>?_)
             ·skip
              have hcv19:=own_string (P:=Try.prog) Try.underlying67 Try.underlying5 Try.underlying9 (Kd.own_of_R HO365.out);refine value_ (w1:=?_) (v:=?_) (by rfl) rfl ?_ ?_;rotate_left 2
              ·go_simp;constructor;·rfl
               ·rfl
              clear hcv19;refine hK.out _ _ ⟨(blk_cell BK361.out 0).trans rfl,(blk_cell BK361.out 1).trans rfl,(blk_cell BK361.out 2).trans rfl,(blk_cell BK361.out 3).trans rfl,(blk_cell BK361.out 4).trans rfl,(blk_cell BK361.out 5).trans rfl,(blk_cell BK361.out 6).trans rfl,(blk_cell BK361.out 7).trans rfl,(blk_cell BK361.out 8).trans rfl,(blk_cell BK361.out 9).trans rfl,(blk_cell BK361.out 10).trans rfl,(blk_cell BK361.out 11).trans rfl⟩ (fun hHeld=>?_);clear hK K;refine norm_ (a':=?_) ?_ ?_;rotate_left
              ·show Act.put _ (some 15) _=_
               simp only[sP];rfl
              refine pz 8 20 #[tr,tr,tr,tr,tr,tr,tr,tr,tr,tr,tr,fa,fa,tr,tr,tr,fa,fa,fa] HT_.out ?_
              exact norm_ (by first|(simp only[putAll,Act.put,List.setIfInBounds_toArray,List.set_cons_zero,List.set_cons_succ];done)|(simp only[putAll,Act.put,List.setIfInBounds_toArray,List.set_cons_zero,List.set_cons_succ];rfl)) (hJ2_3_7 (v364) _ ⟨hHeld,(by (with_reducible repeat (first|apply Kd.R_alloc|apply Kd.R_drewN|apply Kd.R_drew));exact HO365.out),(bf0 BK361.out),(bw1 HB.out GE361.out)⟩)
             ·skip
              refine goes_ Try.func51 (by kernel_rfl) rfl #[.int .u64 a0_2] (by rfl) rfl rfl gS ?_;with_reducible refine (spoorref01_Put.calls k a0_2 t367 _ A6.out).mono ?_
              rintro e w19 ⟨rfl,hb⟩
              refine⟨_,rfl,?_⟩;replace HO365:=Ax (Kd.R_below (by (with_reducible repeat (first|apply Kd.R_alloc|apply Kd.R_drewN|apply Kd.R_drew));exact HO365.out) hb);replace BK361:=Bx0 BK361 hb;replace HB:=Bs1 HB hb GE361.out
              (try clear hb)
              refine hK.out _ _ ⟨(blk_cell BK361.out 0).trans rfl,(blk_cell BK361.out 1).trans rfl,(blk_cell BK361.out 2).trans rfl,(blk_cell BK361.out 3).trans rfl,(blk_cell BK361.out 4).trans rfl,(blk_cell BK361.out 5).trans rfl,(blk_cell BK361.out 6).trans rfl,(blk_cell BK361.out 7).trans rfl,(blk_cell BK361.out 8).trans rfl,(blk_cell BK361.out 9).trans rfl,(blk_cell BK361.out 10).trans rfl,(blk_cell BK361.out 11).trans rfl⟩ (fun hHeld=>?_);clear hK K;refine norm_ (a':=?_) ?_ ?_;rotate_left
              ·show Act.put _ (some 23) _=_
               simp only[sP];rfl
              exact norm_ (by first|(simp only[putAll,Act.put,List.setIfInBounds_toArray,List.set_cons_zero,List.set_cons_succ];done)|(simp only[putAll,Act.put,List.setIfInBounds_toArray,List.set_cons_zero,List.set_cons_succ];rfl)) (hJ2_7_11 (v364) _ ⟨hHeld,(by (with_reducible repeat (first|apply Kd.R_alloc|apply Kd.R_drewN|apply Kd.R_drew));exact HO365.out),(bf0 BK361.out),(bw1 HB.out GE361.out)⟩)
           ·skip
            rintro v364 w18 ⟨hS_,h0_,h1_,h2_⟩
            have n0_:Aside0 (Kd.R (Kd.int .u8) 5 w18 w.heap.size (fun _=>True) v364 y363):=⟨h0_⟩;have n1_:Aside0 (w18.heap[gb361]? =some (.cells #[.int .u8 a0_0,.int .i64 a0_1,.int .u64 a0_2,.int .i64 a0_3,.bool a0_4,.int .u64 a0_5,.int .u64 a0_6,.int .i64 a0_7,.int .u8 a0_8,.int .i64 a0_9,.int .i64 a0_10,.int .i64 a0_11] 35 (0,0))):=⟨h1_⟩;have n2_:Aside0 (Below w.heap.size w w18):=⟨h2_⟩;clear BK361;clear HB;clear h0_ h1_ h2_;have HO365:=n0_;have BK361:=n1_;have HB:=n2_;clear n0_ n1_ n2_;have hHeld:w18.cell? ⟨gb361,0,none⟩=some (.int .u8 a0_0)∧w18.cell? ⟨gb361,1,none⟩=some (.int .i64 a0_1)∧w18.cell? ⟨gb361,2,none⟩=some (.int .u64 a0_2)∧w18.cell? ⟨gb361,3,none⟩=some (.int .i64 a0_3)∧w18.cell? ⟨gb361,4,none⟩=some (.bool a0_4)∧w18.cell? ⟨gb361,5,none⟩=some (.int .u64 a0_5)∧w18.cell? ⟨gb361,6,none⟩=some (.int .u64 a0_6)∧w18.cell? ⟨gb361,7,none⟩=some (.int .i64 a0_7)∧w18.cell? ⟨gb361,8,none⟩=some (.int .u8 a0_8)∧w18.cell? ⟨gb361,9,none⟩=some (.int .i64 a0_9)∧w18.cell? ⟨gb361,10,none⟩=some (.int .i64 a0_10)∧w18.cell? ⟨gb361,11,none⟩=some (.int .i64 a0_11):=hS_;refine norm_ (a':=?_) ?_ ?_;rotate_left;·simp only[putAll,Act.put,List.setIfInBounds_toArray,List.set_cons_zero,List.set_cons_succ];rfl
            refine one_ (i:=7) (N:=some 19) #[tr,tr,tr,tr,tr,tr,tr,tr,fa,tr,tr,fa,fa,tr,tr,tr,fa,fa,fa] rfl rfl (one_of HT_.out (by kernel_rfl)) (by decide) (fun K hK=>?_);refine goes_ Try.func51 (by kernel_rfl) rfl #[.int .u64 (IntKind.u64.wrap (a0_1))] (by rfl) rfl rfl gS ?_;with_reducible refine (spoorref01_Put.calls k (IntKind.u64.wrap (a0_1)) t366 _ A4.out).mono ?_
            rintro e w19 ⟨rfl,hb⟩
            refine⟨_,rfl,?_⟩;replace HO365:=Ax (Kd.R_below (by (with_reducible repeat (first|apply Kd.R_alloc|apply Kd.R_drewN|apply Kd.R_drew));exact HO365.out) hb);replace BK361:=Bx0 BK361 hb;replace HB:=Bs1 HB hb GE361.out
            (try clear hb)
            refine hK.out _ _ ⟨(blk_cell BK361.out 0).trans rfl,(blk_cell BK361.out 1).trans rfl,(blk_cell BK361.out 2).trans rfl,(blk_cell BK361.out 3).trans rfl,(blk_cell BK361.out 4).trans rfl,(blk_cell BK361.out 5).trans rfl,(blk_cell BK361.out 6).trans rfl,(blk_cell BK361.out 7).trans rfl,(blk_cell BK361.out 8).trans rfl,(blk_cell BK361.out 9).trans rfl,(blk_cell BK361.out 10).trans rfl,(blk_cell BK361.out 11).trans rfl⟩ (fun hHeld=>?_);clear hK K;refine norm_ (a':=?_) ?_ ?_;rotate_left
            ·show Act.put _ (some 19) _=_
             simp only[sP];rfl
            refine pz 8 20 #[tr,tr,tr,tr,tr,tr,tr,tr,tr,tr,tr,fa,fa,tr,tr,tr,fa,fa,fa] HT_.out ?_
            exact norm_ (by first|(simp only[putAll,Act.put,List.setIfInBounds_toArray,List.set_cons_zero,List.set_cons_succ];done)|(simp only[putAll,Act.put,List.setIfInBounds_toArray,List.set_cons_zero,List.set_cons_succ];rfl)) (hJ2_3_7 (v364) _ ⟨hHeld,(by (with_reducible repeat (first|apply Kd.R_alloc|apply Kd.R_drewN|apply Kd.R_drew));exact HO365.out),(bf0 BK361.out),(bw1 HB.out GE361.out)⟩)
          ·skip
           rintro _ w18 ⟨hS_,h0_,h1_⟩
           have n0_:Aside0 (w18.heap[gb361]? =some (.cells #[.int .u8 a0_0,.int .i64 a0_1,.int .u64 a0_2,.int .i64 a0_3,.bool a0_4,.int .u64 a0_5,.int .u64 a0_6,.int .i64 a0_7,.int .u8 a0_8,.int .i64 a0_9,.int .i64 a0_10,.int .i64 a0_11] 35 (0,0))):=⟨h0_⟩;have n1_:Aside0 (Below w.heap.size w w18):=⟨h1_⟩;clear BK361;clear HB;clear h0_ h1_;have BK361:=n0_;have HB:=n1_;clear n0_ n1_;have hHeld:w18.cell? ⟨gb361,0,none⟩=some (.int .u8 a0_0)∧w18.cell? ⟨gb361,1,none⟩=some (.int .i64 a0_1)∧w18.cell? ⟨gb361,2,none⟩=some (.int .u64 a0_2)∧w18.cell? ⟨gb361,3,none⟩=some (.int .i64 a0_3)∧w18.cell? ⟨gb361,4,none⟩=some (.bool a0_4)∧w18.cell? ⟨gb361,5,none⟩=some (.int .u64 a0_5)∧w18.cell? ⟨gb361,6,none⟩=some (.int .u64 a0_6)∧w18.cell? ⟨gb361,7,none⟩=some (.int .i64 a0_7)∧w18.cell? ⟨gb361,8,none⟩=some (.int .u8 a0_8)∧w18.cell? ⟨gb361,9,none⟩=some (.int .i64 a0_9)∧w18.cell? ⟨gb361,10,none⟩=some (.int .i64 a0_10)∧w18.cell? ⟨gb361,11,none⟩=some (.int .i64 a0_11):=hS_;refine norm_ (a':=?_) ?_ ?_;rotate_left;·simp only[putAll,Act.put,List.setIfInBounds_toArray,List.set_cons_zero,List.set_cons_succ];rfl
           refine one_ (i:=2) (N:=some 14) #[tr,tr,tr,fa,tr,tr,tr,tr,fa,tr,tr,tr,fa,tr,tr,tr,tr,fa,fa] rfl rfl (one_of HT_.out (by kernel_rfl)) (by decide) (fun K hK=>?_);refine Kd.R_lit_step (Kd.int .u8) _ 5 ?hg (N:=14) ?hd (xs:=([a0_0]:List Int)) (inner:= [.int .u8 a0_0]) (ok:=fun _=>True) (okp:=fun _=>True) ?hr ?hp (fun _ hk=>hk) trivial (Below.refl _ _) (Nat.le_refl _) (by simp) ?_;(case hd=>rfl);(case hg=>rfl);(case hr=>first|(go_simp;done)|(go_simp;rfl));(case hp=>exact (Reps.one (show Kd.M (Kd.int .u8) _ _ _ a0_0 [.int .u8 a0_0] from rfl) (Reps.none _ _)));intro v364 w19 ho20 hb hg_ hnew_;clear hg_ hnew_
           (first|rw [← Ny363.out]at ho20|(simp only[Int.reduceToNat]at ho20;rw [← Ny363.out]at ho20))
           have HO365:=Ax (Kd.R_lower ho20 (below_size (bw1 HB.out GE361.out)));replace BK361:=Bx0 BK361 hb;replace HB:=Bs1 HB hb GE361.out;clear hb ho20;refine hK.out _ _ ⟨(blk_cell BK361.out 0).trans rfl,(blk_cell BK361.out 1).trans rfl,(blk_cell BK361.out 2).trans rfl,(blk_cell BK361.out 3).trans rfl,(blk_cell BK361.out 4).trans rfl,(blk_cell BK361.out 5).trans rfl,(blk_cell BK361.out 6).trans rfl,(blk_cell BK361.out 7).trans rfl,(blk_cell BK361.out 8).trans rfl,(blk_cell BK361.out 9).trans rfl,(blk_cell BK361.out 10).trans rfl,(blk_cell BK361.out 11).trans rfl⟩ (fun hHeld=>?_);clear hK K;refine norm_ (a':=?_) ?_ ?_;rotate_left
           ·show Act.put _ (some 14) _=_
            simp only[sP];rfl
           exact norm_ (by first|(simp only[putAll,Act.put,List.setIfInBounds_toArray,List.set_cons_zero,List.set_cons_succ];done)|(simp only[putAll,Act.put,List.setIfInBounds_toArray,List.set_cons_zero,List.set_cons_succ];rfl)) (hJ2_7_11_16 (v364) _ ⟨hHeld,(by (with_reducible repeat (first|apply Kd.R_alloc|apply Kd.R_drewN|apply Kd.R_drew));exact HO365.out),(bf0 BK361.out),(bw1 HB.out GE361.out)⟩)
         ·skip
          rintro v364 w19 ⟨hS_,h0_,h1_,h2_⟩
          have n0_:Aside0 (Kd.R (Kd.int .u8) 5 w19 w.heap.size (fun _=>True) v364 y363):=⟨h0_⟩;have n1_:Aside0 (w19.heap[gb361]? =some (.cells #[.int .u8 a0_0,.int .i64 a0_1,.int .u64 a0_2,.int .i64 a0_3,.bool a0_4,.int .u64 a0_5,.int .u64 a0_6,.int .i64 a0_7,.int .u8 a0_8,.int .i64 a0_9,.int .i64 a0_10,.int .i64 a0_11] 35 (0,0))):=⟨h1_⟩;have n2_:Aside0 (Below w.heap.size w w19):=⟨h2_⟩;clear BK361;clear HB;clear h0_ h1_ h2_;have HO365:=n0_;have BK361:=n1_;have HB:=n2_;clear n0_ n1_ n2_;have hHeld:w19.cell? ⟨gb361,0,none⟩=some (.int .u8 a0_0)∧w19.cell? ⟨gb361,1,none⟩=some (.int .i64 a0_1)∧w19.cell? ⟨gb361,2,none⟩=some (.int .u64 a0_2)∧w19.cell? ⟨gb361,3,none⟩=some (.int .i64 a0_3)∧w19.cell? ⟨gb361,4,none⟩=some (.bool a0_4)∧w19.cell? ⟨gb361,5,none⟩=some (.int .u64 a0_5)∧w19.cell? ⟨gb361,6,none⟩=some (.int .u64 a0_6)∧w19.cell? ⟨gb361,7,none⟩=some (.int .i64 a0_7)∧w19.cell? ⟨gb361,8,none⟩=some (.int .u8 a0_8)∧w19.cell? ⟨gb361,9,none⟩=some (.int .i64 a0_9)∧w19.cell? ⟨gb361,10,none⟩=some (.int .i64 a0_10)∧w19.cell? ⟨gb361,11,none⟩=some (.int .i64 a0_11):=hS_;refine norm_ (a':=?_) ?_ ?_;rotate_left;·simp only[putAll,Act.put,List.setIfInBounds_toArray,List.set_cons_zero,List.set_cons_succ];rfl
          refine two_ (i:=3) (j:=16) (Ni:=some 15) (Nj:=some 28) #[tr,tr,tr,tr,tr,tr,tr,tr,fa,tr,tr,tr,fa,tr,tr,tr,fa,fa,fa] #[tr,tr,tr,fa,tr,tr,tr,tr,fa,tr,tr,tr,fa,tr,tr,tr,tr,fa,fa] rfl rfl rfl rfl (two_of HT_.out (by kernel_rfl)) (by decide) (by decide) (fun K hK=>?_) (fun K hK=>?_)
          ·skip
           have hcv20:=own_string (P:=Try.prog) Try.underlying67 Try.underlying5 Try.underlying9 (Kd.own_of_R HO365.out);refine value_ (w1:=?_) (v:=?_) (by rfl) rfl ?_ ?_;rotate_left 2
           ·go_simp;constructor;·rfl
            ·rfl
           clear hcv20;refine hK.out _ _ ⟨(blk_cell BK361.out 0).trans rfl,(blk_cell BK361.out 1).trans rfl,(blk_cell BK361.out 2).trans rfl,(blk_cell BK361.out 3).trans rfl,(blk_cell BK361.out 4).trans rfl,(blk_cell BK361.out 5).trans rfl,(blk_cell BK361.out 6).trans rfl,(blk_cell BK361.out 7).trans rfl,(blk_cell BK361.out 8).trans rfl,(blk_cell BK361.out 9).trans rfl,(blk_cell BK361.out 10).trans rfl,(blk_cell BK361.out 11).trans rfl⟩ (fun hHeld=>?_);clear hK K;refine norm_ (a':=?_) ?_ ?_;rotate_left
           ·show Act.put _ (some 15) _=_
            simp only[sP];rfl
           refine pz 8 20 #[tr,tr,tr,tr,tr,tr,tr,tr,tr,tr,tr,tr,fa,tr,tr,tr,fa,fa,fa] HT_.out ?_
           refine pz 12 24 #[tr,tr,tr,tr,tr,tr,tr,tr,tr,tr,tr,tr,tr,tr,tr,tr,fa,fa,fa] HT_.out ?_
           exact norm_ (by first|(simp only[putAll,Act.put,List.setIfInBounds_toArray,List.set_cons_zero,List.set_cons_succ];done)|(simp only[putAll,Act.put,List.setIfInBounds_toArray,List.set_cons_zero,List.set_cons_succ];rfl)) (hJ2_3_7_11 (v364) _ ⟨hHeld,(by (with_reducible repeat (first|apply Kd.R_alloc|apply Kd.R_drewN|apply Kd.R_drew));exact HO365.out),(bf0 BK361.out),(bw1 HB.out GE361.out)⟩)
          ·skip
           refine goes_ Try.func51 (by kernel_rfl) rfl #[.int .u64 (IntKind.u64.wrap (a0_3))] (by rfl) rfl rfl gS ?_;with_reducible refine (spoorref01_Put.calls k (IntKind.u64.wrap (a0_3)) t368 _ A8.out).mono ?_
           rintro e w20 ⟨rfl,hb⟩
           refine⟨_,rfl,?_⟩;replace HO365:=Ax (Kd.R_below (by (with_reducible repeat (first|apply Kd.R_alloc|apply Kd.R_drewN|apply Kd.R_drew));exact HO365.out) hb);replace BK361:=Bx0 BK361 hb;replace HB:=Bs1 HB hb GE361.out
           (try clear hb)
           refine hK.out _ _ ⟨(blk_cell BK361.out 0).trans rfl,(blk_cell BK361.out 1).trans rfl,(blk_cell BK361.out 2).trans rfl,(blk_cell BK361.out 3).trans rfl,(blk_cell BK361.out 4).trans rfl,(blk_cell BK361.out 5).trans rfl,(blk_cell BK361.out 6).trans rfl,(blk_cell BK361.out 7).trans rfl,(blk_cell BK361.out 8).trans rfl,(blk_cell BK361.out 9).trans rfl,(blk_cell BK361.out 10).trans rfl,(blk_cell BK361.out 11).trans rfl⟩ (fun hHeld=>?_);clear hK K;refine norm_ (a':=?_) ?_ ?_;rotate_left
           ·show Act.put _ (some 28) _=_
            simp only[sP];rfl
           exact norm_ (by first|(simp only[putAll,Act.put,List.setIfInBounds_toArray,List.set_cons_zero,List.set_cons_succ];done)|(simp only[putAll,Act.put,List.setIfInBounds_toArray,List.set_cons_zero,List.set_cons_succ];rfl)) (hJ2_7_11_16 (v364) _ ⟨hHeld,(by (with_reducible repeat (first|apply Kd.R_alloc|apply Kd.R_drewN|apply Kd.R_drew));exact HO365.out),(bf0 BK361.out),(bw1 HB.out GE361.out)⟩)
        ·skip
         rintro v364 w19 ⟨hS_,h0_,h1_,h2_⟩
         have n0_:Aside0 (Kd.R (Kd.int .u8) 5 w19 w.heap.size (fun _=>True) v364 y363):=⟨h0_⟩;have n1_:Aside0 (w19.heap[gb361]? =some (.cells #[.int .u8 a0_0,.int .i64 a0_1,.int .u64 a0_2,.int .i64 a0_3,.bool a0_4,.int .u64 a0_5,.int .u64 a0_6,.int .i64 a0_7,.int .u8 a0_8,.int .i64 a0_9,.int .i64 a0_10,.int .i64 a0_11] 35 (0,0))):=⟨h1_⟩;have n2_:Aside0 (Below w.heap.size w w19):=⟨h2_⟩;clear BK361;clear HB;clear h0_ h1_ h2_;have HO365:=n0_;have BK361:=n1_;have HB:=n2_;clear n0_ n1_ n2_;have hHeld:w19.cell? ⟨gb361,0,none⟩=some (.int .u8 a0_0)∧w19.cell? ⟨gb361,1,none⟩=some (.int .i64 a0_1)∧w19.cell? ⟨gb361,2,none⟩=some (.int .u64 a0_2)∧w19.cell? ⟨gb361,3,none⟩=some (.int .i64 a0_3)∧w19.cell? ⟨gb361,4,none⟩=some (.bool a0_4)∧w19.cell? ⟨gb361,5,none⟩=some (.int .u64 a0_5)∧w19.cell? ⟨gb361,6,none⟩=some (.int .u64 a0_6)∧w19.cell? ⟨gb361,7,none⟩=some (.int .i64 a0_7)∧w19.cell? ⟨gb361,8,none⟩=some (.int .u8 a0_8)∧w19.cell? ⟨gb361,9,none⟩=some (.int .i64 a0_9)∧w19.cell? ⟨gb361,10,none⟩=some (.int .i64 a0_10)∧w19.cell? ⟨gb361,11,none⟩=some (.int .i64 a0_11):=hS_;refine norm_ (a':=?_) ?_ ?_;rotate_left;·simp only[putAll,Act.put,List.setIfInBounds_toArray,List.set_cons_zero,List.set_cons_succ];rfl
         refine one_ (i:=11) (N:=some 23) #[tr,tr,tr,tr,tr,tr,tr,tr,tr,tr,tr,tr,fa,tr,tr,tr,fa,fa,fa] rfl rfl (one_of HT_.out (by kernel_rfl)) (by decide) (fun K hK=>?_);refine goes_ Try.func51 (by kernel_rfl) rfl #[.int .u64 a0_2] (by rfl) rfl rfl gS ?_;with_reducible refine (spoorref01_Put.calls k a0_2 t367 _ A6.out).mono ?_
         rintro e w20 ⟨rfl,hb⟩
         refine⟨_,rfl,?_⟩;replace HO365:=Ax (Kd.R_below (by (with_reducible repeat (first|apply Kd.R_alloc|apply Kd.R_drewN|apply Kd.R_drew));exact HO365.out) hb);replace BK361:=Bx0 BK361 hb;replace HB:=Bs1 HB hb GE361.out
         (try clear hb)
         refine hK.out _ _ ⟨(blk_cell BK361.out 0).trans rfl,(blk_cell BK361.out 1).trans rfl,(blk_cell BK361.out 2).trans rfl,(blk_cell BK361.out 3).trans rfl,(blk_cell BK361.out 4).trans rfl,(blk_cell BK361.out 5).trans rfl,(blk_cell BK361.out 6).trans rfl,(blk_cell BK361.out 7).trans rfl,(blk_cell BK361.out 8).trans rfl,(blk_cell BK361.out 9).trans rfl,(blk_cell BK361.out 10).trans rfl,(blk_cell BK361.out 11).trans rfl⟩ (fun hHeld=>?_);clear hK K;refine norm_ (a':=?_) ?_ ?_;rotate_left
         ·show Act.put _ (some 23) _=_
          simp only[sP];rfl
         refine pz 12 24 #[tr,tr,tr,tr,tr,tr,tr,tr,tr,tr,tr,tr,tr,tr,tr,tr,fa,fa,fa] HT_.out ?_
         exact norm_ (by first|(simp only[putAll,Act.put,List.setIfInBounds_toArray,List.set_cons_zero,List.set_cons_succ];done)|(simp only[putAll,Act.put,List.setIfInBounds_toArray,List.set_cons_zero,List.set_cons_succ];rfl)) (hJ2_3_7_11 (v364) _ ⟨hHeld,(by (with_reducible repeat (first|apply Kd.R_alloc|apply Kd.R_drewN|apply Kd.R_drew));exact HO365.out),(bf0 BK361.out),(bw1 HB.out GE361.out)⟩)
       ·skip
        rintro v364 w20 ⟨hS_,h0_,h1_,h2_⟩
        have n0_:Aside0 (Kd.R (Kd.int .u8) 5 w20 w.heap.size (fun _=>True) v364 y363):=⟨h0_⟩;have n1_:Aside0 (w20.heap[gb361]? =some (.cells #[.int .u8 a0_0,.int .i64 a0_1,.int .u64 a0_2,.int .i64 a0_3,.bool a0_4,.int .u64 a0_5,.int .u64 a0_6,.int .i64 a0_7,.int .u8 a0_8,.int .i64 a0_9,.int .i64 a0_10,.int .i64 a0_11] 35 (0,0))):=⟨h1_⟩;have n2_:Aside0 (Below w.heap.size w w20):=⟨h2_⟩;clear BK361;clear HB;clear h0_ h1_ h2_;have HO365:=n0_;have BK361:=n1_;have HB:=n2_;clear n0_ n1_ n2_;have hHeld:w20.cell? ⟨gb361,0,none⟩=some (.int .u8 a0_0)∧w20.cell? ⟨gb361,1,none⟩=some (.int .i64 a0_1)∧w20.cell? ⟨gb361,2,none⟩=some (.int .u64 a0_2)∧w20.cell? ⟨gb361,3,none⟩=some (.int .i64 a0_3)∧w20.cell? ⟨gb361,4,none⟩=some (.bool a0_4)∧w20.cell? ⟨gb361,5,none⟩=some (.int .u64 a0_5)∧w20.cell? ⟨gb361,6,none⟩=some (.int .u64 a0_6)∧w20.cell? ⟨gb361,7,none⟩=some (.int .i64 a0_7)∧w20.cell? ⟨gb361,8,none⟩=some (.int .u8 a0_8)∧w20.cell? ⟨gb361,9,none⟩=some (.int .i64 a0_9)∧w20.cell? ⟨gb361,10,none⟩=some (.int .i64 a0_10)∧w20.cell? ⟨gb361,11,none⟩=some (.int .i64 a0_11):=hS_;refine norm_ (a':=?_) ?_ ?_;rotate_left;·simp only[putAll,Act.put,List.setIfInBounds_toArray,List.set_cons_zero,List.set_cons_succ];rfl
        refine one_ (i:=3) (N:=some 15) #[tr,tr,tr,tr,tr,tr,tr,tr,fa,tr,tr,tr,fa,tr,tr,tr,tr,fa,fa] rfl rfl (one_of HT_.out (by kernel_rfl)) (by decide) (fun K hK=>?_);have hcv21:=own_string (P:=Try.prog) Try.underlying67 Try.underlying5 Try.underlying9 (Kd.own_of_R HO365.out);refine value_ (w1:=?_) (v:=?_) (by rfl) rfl ?_ ?_;rotate_left 2
        ·go_simp;constructor;·rfl
         ·rfl
        clear hcv21;refine hK.out _ _ ⟨(blk_cell BK361.out 0).trans rfl,(blk_cell BK361.out 1).trans rfl,(blk_cell BK361.out 2).trans rfl,(blk_cell BK361.out 3).trans rfl,(blk_cell BK361.out 4).trans rfl,(blk_cell BK361.out 5).trans rfl,(blk_cell BK361.out 6).trans rfl,(blk_cell BK361.out 7).trans rfl,(blk_cell BK361.out 8).trans rfl,(blk_cell BK361.out 9).trans rfl,(blk_cell BK361.out 10).trans rfl,(blk_cell BK361.out 11).trans rfl⟩ (fun hHeld=>?_);clear hK K;refine norm_ (a':=?_) ?_ ?_;rotate_left
        ·show Act.put _ (some 15) _=_
         simp only[sP];rfl
        refine pz 8 20 #[tr,tr,tr,tr,tr,tr,tr,tr,tr,tr,tr,tr,fa,tr,tr,tr,tr,fa,fa] HT_.out ?_
        refine pz 12 24 #[tr,tr,tr,tr,tr,tr,tr,tr,tr,tr,tr,tr,tr,tr,tr,tr,tr,fa,fa] HT_.out ?_
        exact norm_ (by first|(simp only[putAll,Act.put,List.setIfInBounds_toArray,List.set_cons_zero,List.set_cons_succ];done)|(simp only[putAll,Act.put,List.setIfInBounds_toArray,List.set_cons_zero,List.set_cons_succ];rfl)) (hJ2_3_7_11_16 (v364) _ ⟨hHeld,(by (with_reducible repeat (first|apply Kd.R_alloc|apply Kd.R_drewN|apply Kd.R_drew));exact HO365.out),(bf0 BK361.out),(bw1 HB.out GE361.out)⟩)
      ·skip
       rintro v364 w20 ⟨hS_,h0_,h1_,h2_⟩
       have n0_:Aside0 (Kd.R (Kd.int .u8) 5 w20 w.heap.size (fun _=>True) v364 y363):=⟨h0_⟩;have n1_:Aside0 (w20.heap[gb361]? =some (.cells #[.int .u8 a0_0,.int .i64 a0_1,.int .u64 a0_2,.int .i64 a0_3,.bool a0_4,.int .u64 a0_5,.int .u64 a0_6,.int .i64 a0_7,.int .u8 a0_8,.int .i64 a0_9,.int .i64 a0_10,.int .i64 a0_11] 35 (0,0))):=⟨h1_⟩;have n2_:Aside0 (Below w.heap.size w w20):=⟨h2_⟩;clear BK361;clear HB;clear h0_ h1_ h2_;have HO365:=n0_;have BK361:=n1_;have HB:=n2_;clear n0_ n1_ n2_;have hHeld:w20.cell? ⟨gb361,0,none⟩=some (.int .u8 a0_0)∧w20.cell? ⟨gb361,1,none⟩=some (.int .i64 a0_1)∧w20.cell? ⟨gb361,2,none⟩=some (.int .u64 a0_2)∧w20.cell? ⟨gb361,3,none⟩=some (.int .i64 a0_3)∧w20.cell? ⟨gb361,4,none⟩=some (.bool a0_4)∧w20.cell? ⟨gb361,5,none⟩=some (.int .u64 a0_5)∧w20.cell? ⟨gb361,6,none⟩=some (.int .u64 a0_6)∧w20.cell? ⟨gb361,7,none⟩=some (.int .i64 a0_7)∧w20.cell? ⟨gb361,8,none⟩=some (.int .u8 a0_8)∧w20.cell? ⟨gb361,9,none⟩=some (.int .i64 a0_9)∧w20.cell? ⟨gb361,10,none⟩=some (.int .i64 a0_10)∧w20.cell? ⟨gb361,11,none⟩=some (.int .i64 a0_11):=hS_;refine norm_ (a':=?_) ?_ ?_;rotate_left;·simp only[putAll,Act.put,List.setIfInBounds_toArray,List.set_cons_zero,List.set_cons_succ];rfl
       refine one_ (i:=16) (N:=some 28) #[tr,tr,tr,tr,tr,tr,tr,tr,tr,tr,tr,tr,tr,tr,tr,tr,tr,fa,fa] rfl rfl (one_of HT_.out (by kernel_rfl)) (by decide) (fun K hK=>?_);refine goes_ Try.func51 (by kernel_rfl) rfl #[.int .u64 (IntKind.u64.wrap (a0_3))] (by rfl) rfl rfl gS ?_;with_reducible refine (spoorref01_Put.calls k (IntKind.u64.wrap (a0_3)) t368 _ A8.out).mono ?_
       rintro e w21 ⟨rfl,hb⟩
       refine⟨_,rfl,?_⟩;replace HO365:=Ax (Kd.R_below (by (with_reducible repeat (first|apply Kd.R_alloc|apply Kd.R_drewN|apply Kd.R_drew));exact HO365.out) hb);replace BK361:=Bx0 BK361 hb;replace HB:=Bs1 HB hb GE361.out
       (try clear hb)
       refine hK.out _ _ ⟨(blk_cell BK361.out 0).trans rfl,(blk_cell BK361.out 1).trans rfl,(blk_cell BK361.out 2).trans rfl,(blk_cell BK361.out 3).trans rfl,(blk_cell BK361.out 4).trans rfl,(blk_cell BK361.out 5).trans rfl,(blk_cell BK361.out 6).trans rfl,(blk_cell BK361.out 7).trans rfl,(blk_cell BK361.out 8).trans rfl,(blk_cell BK361.out 9).trans rfl,(blk_cell BK361.out 10).trans rfl,(blk_cell BK361.out 11).trans rfl⟩ (fun hHeld=>?_);clear hK K;refine norm_ (a':=?_) ?_ ?_;rotate_left
       ·show Act.put _ (some 28) _=_
        simp only[sP];rfl
       exact norm_ (by first|(simp only[putAll,Act.put,List.setIfInBounds_toArray,List.set_cons_zero,List.set_cons_succ];done)|(simp only[putAll,Act.put,List.setIfInBounds_toArray,List.set_cons_zero,List.set_cons_succ];rfl)) (hJ2_3_7_11_16 (v364) _ ⟨hHeld,(by (with_reducible repeat (first|apply Kd.R_alloc|apply Kd.R_drewN|apply Kd.R_drew));exact HO365.out),(bf0 BK361.out),(bw1 HB.out GE361.out)⟩)
     rintro v364 w21 ⟨hS_,h0_,h1_,h2_⟩
     have n0_:Aside0 (Kd.R (Kd.int .u8) 5 w21 w.heap.size (fun _=>True) v364 y363):=⟨h0_⟩;have n1_:Aside0 (w21.heap[gb361]? =some (.cells #[.int .u8 a0_0,.int .i64 a0_1,.int .u64 a0_2,.int .i64 a0_3,.bool a0_4,.int .u64 a0_5,.int .u64 a0_6,.int .i64 a0_7,.int .u8 a0_8,.int .i64 a0_9,.int .i64 a0_10,.int .i64 a0_11] 35 (0,0))):=⟨h1_⟩;have n2_:Aside0 (Below w.heap.size w w21):=⟨h2_⟩;clear BK361;clear HB;clear h0_ h1_ h2_;have HO365:=n0_;have BK361:=n1_;have HB:=n2_;clear n0_ n1_ n2_;have hHeld:w21.cell? ⟨gb361,0,none⟩=some (.int .u8 a0_0)∧w21.cell? ⟨gb361,1,none⟩=some (.int .i64 a0_1)∧w21.cell? ⟨gb361,2,none⟩=some (.int .u64 a0_2)∧w21.cell? ⟨gb361,3,none⟩=some (.int .i64 a0_3)∧w21.cell? ⟨gb361,4,none⟩=some (.bool a0_4)∧w21.cell? ⟨gb361,5,none⟩=some (.int .u64 a0_5)∧w21.cell? ⟨gb361,6,none⟩=some (.int .u64 a0_6)∧w21.cell? ⟨gb361,7,none⟩=some (.int .i64 a0_7)∧w21.cell? ⟨gb361,8,none⟩=some (.int .u8 a0_8)∧w21.cell? ⟨gb361,9,none⟩=some (.int .i64 a0_9)∧w21.cell? ⟨gb361,10,none⟩=some (.int .i64 a0_10)∧w21.cell? ⟨gb361,11,none⟩=some (.int .i64 a0_11):=hS_;refine norm_ (a':=?_) ?_ ?_;rotate_left;·simp only[putAll,Act.put,List.setIfInBounds_toArray,List.set_cons_zero,List.set_cons_succ];rfl
     refine pz 17 29 #[tr,tr,tr,tr,tr,tr,tr,tr,tr,tr,tr,tr,tr,tr,tr,tr,tr,tr,fa] HT_.out ?_
     refine pz 18 4 #[tr,tr,tr,tr,tr,tr,tr,tr,tr,tr,tr,tr,tr,tr,tr,tr,tr,tr,tr] HT_.out ?_
     refine done_ (done_of HT_.out (by kernel_rfl)) ?_;go_upto_region 4 with (fail)
     go_cut [37] (fun v37 wc=> ∃ (kq:Nat) (x37_9:Bool),v37= .bool x37_9∧Aside0 (spoorref11_Put.j0 kq ((((strOfNums y363)++t366)++t367)++t368) x37_9 a0_0 a0_1 a0_2 a0_3 a0_4 a0_5 a0_6 a0_7 a0_8 a0_9 a0_10 a0_11=some (r1,r2))∧Aside0 (kq≤k)∧Aside0 (wc.heap[gb361]? =some (.cells #[.int .u8 a0_0,.int .i64 a0_1,.int .u64 a0_2,.int .i64 a0_3,.bool a0_4,.int .u64 a0_5,.int .u64 a0_6,.int .i64 a0_7,.int .u8 a0_8,.int .i64 a0_9,.int .i64 a0_10,.int .i64 a0_11] 35 (0,0)))∧Aside0 (Below w.heap.size w wc))
     case first=>
      have H:=HC10.out;clear HC10;by_cases c22:a0_0=3
      ·rw [if_pos c22]at H;have c22b0:(a0_0==3)=true:=beq_iff_eq.mpr c22;have c22b1:(a0_0 !=3)=false:=bne_eq_false_iff_eq.mpr c22;clear c22
       (first|rw [c22b0]|(simp only[i64_w,i32_w];rw [c22b0])|skip)
       have H':=Ax H;clear H;obtain⟨hcz23_0,hcz23_1,hcz23_2,hcz23_3,hcz23_4,hcz23_5,hcz23_6,hcz23_7,hcz23_8,hcz23_9,hcz23_10,hcz23_11,hfz23_0,hfz23_1,hfz23_2,hfz23_3,hfz23_4,hfz23_5,hfz23_6,hfz23_7,hfz23_8,hfz23_9,hfz23_10,hfz23_11⟩:=cl12 BK361;go_wp2;go_meet
       case rel=>exact⟨_,(true),rS,H',⟨by first|omega|exact Nat.le_refl _⟩,⟨bf0 BK361.out⟩,⟨bw1 HB.out GE361.out⟩⟩
      ·rw [if_neg c22]at H;have c22b0:(a0_0==3)=false:=beq_eq_false_iff_ne.mpr c22;have c22b1:(a0_0 !=3)=true:=bne_iff_ne.mpr c22
       (first|rw [c22b0]|(simp only[i64_w,i32_w];rw [c22b0])|skip)
       have H':=Ax H;clear H;obtain⟨hcz24_0,hcz24_1,hcz24_2,hcz24_3,hcz24_4,hcz24_5,hcz24_6,hcz24_7,hcz24_8,hcz24_9,hcz24_10,hcz24_11,hfz24_0,hfz24_1,hfz24_2,hfz24_3,hfz24_4,hfz24_5,hfz24_6,hfz24_7,hfz24_8,hfz24_9,hfz24_10,hfz24_11⟩:=cl12 BK361;go_wp2;go_meet
       case rel=>exact⟨_,((a0_0==4)),rS,H',⟨by first|omega|exact Nat.le_refl _⟩,⟨bf0 BK361.out⟩,⟨bw1 HB.out GE361.out⟩⟩
     case rest=>
      clear HC10;(try clear hcv1);(try clear c2);(try clear p2);(try clear hcv2);(try clear c5);(try clear hcv18);(try clear hcv19);(try clear hcv20);(try clear hcv21);(try clear c22);(try clear c22b0);(try clear c22b1);(try clear hcz23_0);(try clear hcz23_1);(try clear hcz23_10);(try clear hcz23_11);(try clear hcz23_2);(try clear hcz23_3);(try clear hcz23_4);(try clear hcz23_5);(try clear hcz23_6);(try clear hcz23_7);(try clear hcz23_8);(try clear hcz23_9);(try clear hcz24_0);(try clear hcz24_1);(try clear hcz24_10);(try clear hcz24_11);(try clear hcz24_2);(try clear hcz24_3);(try clear hcz24_4);(try clear hcz24_5);(try clear hcz24_6);(try clear hcz24_7);(try clear hcz24_8);(try clear hcz24_9);(try clear hfz23_0);(try clear hfz23_1);(try clear hfz23_10);(try clear hfz23_11);(try clear hfz23_2);(try clear hfz23_3);(try clear hfz23_4);(try clear hfz23_5);(try clear hfz23_6);(try clear hfz23_7);(try clear hfz23_8);(try clear hfz23_9);(try clear hfz24_0);(try clear hfz24_1);(try clear hfz24_10);(try clear hfz24_11);(try clear hfz24_2);(try clear hfz24_3);(try clear hfz24_4);(try clear hfz24_5);(try clear hfz24_6);(try clear hfz24_7);(try clear hfz24_8);(try clear hfz24_9);obtain⟨kq,x37_9,rfl,HA,HJ9,BK361,HB⟩:=hcut;cases kq with
      |zero=>exact absurd HA.out (by simp [spoorref11_Put.j0])
      |succ kj9=>
       have H:=HA.out;clear HA;simp only[spoorref11_Put.j0]at H;have HC25:=Ax H;clear H;go_upto_if 37 with (fail)
       go_cut [4] (fun v4 wc=> ∃ (kq:Nat) (x4_24:ByteArray),v4= .string x4_24∧Aside0 (spoorref11_Put.j1 kq x4_24 a0_0 a0_1 a0_2 a0_3 a0_4 a0_5 a0_6 a0_7 a0_8 a0_9 a0_10 a0_11=some (r1,r2))∧Aside0 (kq≤kj9)∧Aside0 (wc.heap[gb361]? =some (.cells #[.int .u8 a0_0,.int .i64 a0_1,.int .u64 a0_2,.int .i64 a0_3,.bool a0_4,.int .u64 a0_5,.int .u64 a0_6,.int .i64 a0_7,.int .u8 a0_8,.int .i64 a0_9,.int .i64 a0_10,.int .i64 a0_11] 35 (0,0)))∧Aside0 (Below w.heap.size w wc))
       case first=>
        have H:=HC25.out;clear HC25;by_cases c26:x37_9=true
        ·subst c26;have H1:((spoorref11_PutPrefix.f kj9 a0_4 a0_5 a0_6 a0_7).bind fun bt369=>(if ((((strOfNums y363)++t366)++t367)++t368).size+bt369.1.size≤9223372036854775807 then (spoorref11_Put.j1 kj9 (((((strOfNums y363)++t366)++t367)++t368)++bt369.1) a0_0 a0_1 a0_2 a0_3 a0_4 a0_5 a0_6 a0_7 a0_8 a0_9 a0_10 a0_11) else (none)))=some (r1,r2):=by rw [if_pos rfl]at H;exact H
         clear H;have H:=H1;clear H1;replace H:=Option.bind_eq_some_iff.mp H;obtain⟨⟨t369,t370⟩,A270,H⟩:=H;replace H:(if ((((strOfNums y363)++t366)++t367)++t368).size+t369.size≤9223372036854775807 then (spoorref11_Put.j1 kj9 (((((strOfNums y363)++t366)++t367)++t368)++t369) a0_0 a0_1 a0_2 a0_3 a0_4 a0_5 a0_6 a0_7 a0_8 a0_9 a0_10 a0_11) else (none))=some (r1,r2):=H;have A27:=Ax A270;clear A270;by_cases c28:((((strOfNums y363)++t366)++t367)++t368).size+t369.size≤9223372036854775807
         ·rw [if_pos c28]at H;have c28b0:=eq_true c28;have c28b1:decide (((((strOfNums y363)++t366)++t367)++t368).size+t369.size≤9223372036854775807)=true:=decide_eq_true c28;try have c28b2:(9223372036854775807<((((strOfNums y363)++t366)++t367)++t368).size+t369.size)=False:=eq_false (Nat.not_lt.2 c28)
          try have c28b3:(9223372036854775807<(strOfNums y363).size+t366.size+t367.size+t368.size+t369.size)=False:=eq_false (by have h_:=c28;(try simp only[ByteArray.size_append]at h_);omega)
          have H':=Ax H;clear H;obtain⟨hcz29_0,hcz29_1,hcz29_2,hcz29_3,hcz29_4,hcz29_5,hcz29_6,hcz29_7,hcz29_8,hcz29_9,hcz29_10,hcz29_11,hfz29_0,hfz29_1,hfz29_2,hfz29_3,hfz29_4,hfz29_5,hfz29_6,hfz29_7,hfz29_8,hfz29_9,hfz29_10,hfz29_11⟩:=cl12 BK361;go_wp2_with (first|((with_reducible refine gate_callee (f:=52) rfl ?_);refine goesL_ (some 41) rfl rfl Try.func52 (by kernel_rfl) rfl #[.agg #[.bool a0_4,.int .u64 a0_5,.int .u64 a0_6,.int .i64 a0_7]] rfl gS ?_;(with_reducible refine (spoorref11_PutPrefix.calls kj9 a0_4 a0_5 a0_6 a0_7 t369 t370 _ A27.out).mono ?_);rintro e w30 ⟨rfl,hb⟩;refine⟨_,rfl,?_⟩;replace BK361:=Bx0 BK361 hb;replace HB:=Bs1 HB hb GE361.out;(try clear hb)));go_meet
          case rel=>exact⟨_,(((((strOfNums y363)++t366)++t367)++t368)++t369),rS,H',⟨by have:=HJ9.out;first|omega|exact Nat.le_refl _⟩,⟨bf0 BK361.out⟩,⟨bw1 HB.out GE361.out⟩⟩
         ·rw [if_neg c28]at H;exact absurd H (by simp)
        ·replace c26:=Bool.eq_false_iff.mpr c26;subst c26;have H1:(spoorref11_Put.j1 kj9 ((((strOfNums y363)++t366)++t367)++t368) a0_0 a0_1 a0_2 a0_3 a0_4 a0_5 a0_6 a0_7 a0_8 a0_9 a0_10 a0_11)=some (r1,r2):=by rw [if_neg (show ¬ (false=true) by decide)]at H;exact H
         clear H;have H:=H1;clear H1;have H':=Ax H;clear H;go_wp2;go_meet
         case rel=>exact⟨_,(((((strOfNums y363)++t366)++t367)++t368)),rS,H',⟨by have:=HJ9.out;first|omega|exact Nat.le_refl _⟩,⟨bf0 BK361.out⟩,⟨bw1 HB.out GE361.out⟩⟩
       case rest=>
        clear HC25;(try clear hcv1);(try clear c2);(try clear p2);(try clear hcv2);(try clear c5);(try clear hcv18);(try clear hcv19);(try clear hcv20);(try clear hcv21);(try clear c22);(try clear c22b0);(try clear c22b1);(try clear c26);(try clear c28);(try clear c28b0);(try clear c28b1);(try clear c28b2);(try clear hcz23_0);(try clear hcz23_1);(try clear hcz23_10);(try clear hcz23_11);(try clear hcz23_2);(try clear hcz23_3);(try clear hcz23_4);(try clear hcz23_5);(try clear hcz23_6);(try clear hcz23_7);(try clear hcz23_8);(try clear hcz23_9);(try clear hcz24_0);(try clear hcz24_1);(try clear hcz24_10);(try clear hcz24_11);(try clear hcz24_2);(try clear hcz24_3);(try clear hcz24_4);(try clear hcz24_5);(try clear hcz24_6);(try clear hcz24_7);(try clear hcz24_8);(try clear hcz24_9);(try clear hcz29_0);(try clear hcz29_1);(try clear hcz29_10);(try clear hcz29_11);(try clear hcz29_2);(try clear hcz29_3);(try clear hcz29_4);(try clear hcz29_5);(try clear hcz29_6);(try clear hcz29_7);(try clear hcz29_8);(try clear hcz29_9);(try clear hfz23_0);(try clear hfz23_1);(try clear hfz23_10);(try clear hfz23_11);(try clear hfz23_2);(try clear hfz23_3);(try clear hfz23_4);(try clear hfz23_5);(try clear hfz23_6);(try clear hfz23_7);(try clear hfz23_8);(try clear hfz23_9);(try clear hfz24_0);(try clear hfz24_1);(try clear hfz24_10);(try clear hfz24_11);(try clear hfz24_2);(try clear hfz24_3);(try clear hfz24_4);(try clear hfz24_5);(try clear hfz24_6);(try clear hfz24_7);(try clear hfz24_8);(try clear hfz24_9);(try clear hfz29_0);(try clear hfz29_1);(try clear hfz29_10);(try clear hfz29_11);(try clear hfz29_2);(try clear hfz29_3);(try clear hfz29_4);(try clear hfz29_5);(try clear hfz29_6);(try clear hfz29_7);(try clear hfz29_8);(try clear hfz29_9);(try clear p2);obtain⟨kq,x4_24,rfl,HA,HJ24,BK361,HB⟩:=hcut;cases kq with
        |zero=>exact absurd HA.out (by simp [spoorref11_Put.j1])
        |succ kj24=>
         have H:=HA.out;clear HA;simp only[spoorref11_Put.j1]at H;have HC31:=Ax H;clear H;obtain⟨hcz32_0,hcz32_1,hcz32_2,hcz32_3,hcz32_4,hcz32_5,hcz32_6,hcz32_7,hcz32_8,hcz32_9,hcz32_10,hcz32_11,hfz32_0,hfz32_1,hfz32_2,hfz32_3,hfz32_4,hfz32_5,hfz32_6,hfz32_7,hfz32_8,hfz32_9,hfz32_10,hfz32_11⟩:=cl12 BK361;go_upto_if 49 with (fail)
         go_cut [4] (fun v4 wc=> ∃ (kq:Nat) (x4_30:ByteArray),v4= .string x4_30∧Aside0 (spoorref11_Put.j2 kq x4_30 a0_0 a0_1 a0_2 a0_3 a0_4 a0_5 a0_6 a0_7 a0_8 a0_9 a0_10 a0_11=some (r1,r2))∧Aside0 (kq≤kj24)∧Aside0 (wc.heap[gb361]? =some (.cells #[.int .u8 a0_0,.int .i64 a0_1,.int .u64 a0_2,.int .i64 a0_3,.bool a0_4,.int .u64 a0_5,.int .u64 a0_6,.int .i64 a0_7,.int .u8 a0_8,.int .i64 a0_9,.int .i64 a0_10,.int .i64 a0_11] 35 (0,0)))∧Aside0 (Below w.heap.size w wc))
         case first=>
          have H:=HC31.out;clear HC31;by_cases c33:a0_0=3
          ·rw [if_pos c33]at H;have c33b0:(a0_0==3)=true:=beq_iff_eq.mpr c33;have c33b1:(a0_0 !=3)=false:=bne_eq_false_iff_eq.mpr c33;clear c33
           (first|rw [c33b0]|(simp only[i64_w,i32_w];rw [c33b0])|skip)
           replace H:=Option.bind_eq_some_iff.mp H;obtain⟨⟨t371,t372⟩,A340,H⟩:=H;replace H:(if x4_24.size+t371.size≤9223372036854775807 then (spoorref11_Put.j2 kj24 (x4_24++t371) a0_0 a0_1 a0_2 a0_3 a0_4 a0_5 a0_6 a0_7 a0_8 a0_9 a0_10 a0_11) else (none))=some (r1,r2):=H;have A34:=Ax A340;clear A340;by_cases c35:x4_24.size+t371.size≤9223372036854775807
           ·rw [if_pos c35]at H;have c35b0:=eq_true c35;have c35b1:decide (x4_24.size+t371.size≤9223372036854775807)=true:=decide_eq_true c35;try have c35b2:(9223372036854775807<x4_24.size+t371.size)=False:=eq_false (Nat.not_lt.2 c35)
            have H':=Ax H;clear H;obtain⟨hcz36_0,hcz36_1,hcz36_2,hcz36_3,hcz36_4,hcz36_5,hcz36_6,hcz36_7,hcz36_8,hcz36_9,hcz36_10,hcz36_11,hfz36_0,hfz36_1,hfz36_2,hfz36_3,hfz36_4,hfz36_5,hfz36_6,hfz36_7,hfz36_8,hfz36_9,hfz36_10,hfz36_11⟩:=cl12 BK361;go_wp2_with (first|((with_reducible refine gate_callee (f:=53) rfl ?_);refine goesL_ (some 53) rfl rfl Try.func53 (by kernel_rfl) rfl #[.agg #[.int .u8 a0_8,.int .i64 a0_9]] rfl gS ?_;(with_reducible refine (spoorref11_PutAction.calls kj24 a0_8 a0_9 t371 t372 _ A34.out).mono ?_);rintro e w37 ⟨rfl,hb⟩;refine⟨_,rfl,?_⟩;replace BK361:=Bx0 BK361 hb;replace HB:=Bs1 HB hb GE361.out;(try clear hb)));go_meet
            case rel=>exact⟨_,(x4_24++t371),rS,H',⟨by have:=HJ9.out;have:=HJ24.out;first|omega|exact Nat.le_refl _⟩,⟨bf0 BK361.out⟩,⟨bw1 HB.out GE361.out⟩⟩
           ·rw [if_neg c35]at H;exact absurd H (by simp)
          ·rw [if_neg c33]at H;have c33b0:(a0_0==3)=false:=beq_eq_false_iff_ne.mpr c33;have c33b1:(a0_0 !=3)=true:=bne_iff_ne.mpr c33
           (first|rw [c33b0]|(simp only[i64_w,i32_w];rw [c33b0])|skip)
           have H':=Ax H;clear H;go_wp2;go_meet
           case rel=>exact⟨_,(x4_24),rS,H',⟨by have:=HJ9.out;have:=HJ24.out;first|omega|exact Nat.le_refl _⟩,⟨bf0 BK361.out⟩,⟨bw1 HB.out GE361.out⟩⟩
         case rest=>
          clear HC31;(try clear hcv1);(try clear c2);(try clear p2);(try clear hcv2);(try clear c3);(try clear c5);(try clear hcv18);(try clear hcv19);(try clear hcv20);(try clear hcv21);(try clear c22);(try clear c22b0);(try clear c22b1);(try clear c26);(try clear c28);(try clear c28b0);(try clear c28b1);(try clear c28b2);(try clear c33);(try clear c33b0);(try clear c33b1);(try clear c35);(try clear c35b0);(try clear c35b1);(try clear c35b2);(try clear hcz23_0);(try clear hcz23_1);(try clear hcz23_10);(try clear hcz23_11);(try clear hcz23_2);(try clear hcz23_3);(try clear hcz23_4);(try clear hcz23_5);(try clear hcz23_6);(try clear hcz23_7);(try clear hcz23_8);(try clear hcz23_9);(try clear hcz24_0);(try clear hcz24_1);(try clear hcz24_10);(try clear hcz24_11);(try clear hcz24_2);(try clear hcz24_3);(try clear hcz24_4);(try clear hcz24_5);(try clear hcz24_6);(try clear hcz24_7);(try clear hcz24_8);(try clear hcz24_9);(try clear hcz29_0);(try clear hcz29_1);(try clear hcz29_10);(try clear hcz29_11);(try clear hcz29_2);(try clear hcz29_3);(try clear hcz29_4);(try clear hcz29_5);(try clear hcz29_6);(try clear hcz29_7);(try clear hcz29_8);(try clear hcz29_9);(try clear hcz32_0);(try clear hcz32_1);(try clear hcz32_10);(try clear hcz32_11);(try clear hcz32_2);(try clear hcz32_3);(try clear hcz32_4);(try clear hcz32_5);(try clear hcz32_6);(try clear hcz32_7);(try clear hcz32_8);(try clear hcz32_9);(try clear hcz36_0);(try clear hcz36_1);(try clear hcz36_10);(try clear hcz36_11);(try clear hcz36_2);(try clear hcz36_3);(try clear hcz36_4);(try clear hcz36_5);(try clear hcz36_6);(try clear hcz36_7);(try clear hcz36_8);(try clear hcz36_9);(try clear hfz23_0);(try clear hfz23_1);(try clear hfz23_10);(try clear hfz23_11);(try clear hfz23_2);(try clear hfz23_3);(try clear hfz23_4);(try clear hfz23_5);(try clear hfz23_6);(try clear hfz23_7);(try clear hfz23_8);(try clear hfz23_9);(try clear hfz24_0);(try clear hfz24_1);(try clear hfz24_10);(try clear hfz24_11);(try clear hfz24_2);(try clear hfz24_3);(try clear hfz24_4);(try clear hfz24_5);(try clear hfz24_6);(try clear hfz24_7);(try clear hfz24_8);(try clear hfz24_9);(try clear hfz29_0);(try clear hfz29_1);(try clear hfz29_10);(try clear hfz29_11);(try clear hfz29_2);(try clear hfz29_3);(try clear hfz29_4);(try clear hfz29_5);(try clear hfz29_6);(try clear hfz29_7);(try clear hfz29_8);(try clear hfz29_9);(try clear hfz32_0);(try clear hfz32_1);(try clear hfz32_10);(try clear hfz32_11);(try clear hfz32_2);(try clear hfz32_3);(try clear hfz32_4);(try clear hfz32_5);(try clear hfz32_6);(try clear hfz32_7);(try clear hfz32_8);(try clear hfz32_9);(try clear hfz36_0);(try clear hfz36_1);(try clear hfz36_10);(try clear hfz36_11);(try clear hfz36_2);(try clear hfz36_3);(try clear hfz36_4);(try clear hfz36_5);(try clear hfz36_6);(try clear hfz36_7);(try clear hfz36_8);(try clear hfz36_9);(try clear p2);obtain⟨kq,x4_30,rfl,HA,HJ30,BK361,HB⟩:=hcut;cases kq with
          |zero=>exact absurd HA.out (by simp [spoorref11_Put.j2])
          |succ kj30=>
           have H:=HA.out;clear HA;simp only[spoorref11_Put.j2]at H;have HC38:=Ax H;clear H;go_upto_region 10 with (fail)
           go_cut [66] (fun v66 wc=> ∃ (kq:Nat) (x66_37:Bool),v66= .bool x66_37∧Aside0 (spoorref11_Put.j3 kq x4_30 x66_37 a0_0 a0_1 a0_2 a0_3 a0_4 a0_5 a0_6 a0_7 a0_8 a0_9 a0_10 a0_11=some (r1,r2))∧Aside0 (kq≤kj30)∧Aside0 (wc.heap[gb361]? =some (.cells #[.int .u8 a0_0,.int .i64 a0_1,.int .u64 a0_2,.int .i64 a0_3,.bool a0_4,.int .u64 a0_5,.int .u64 a0_6,.int .i64 a0_7,.int .u8 a0_8,.int .i64 a0_9,.int .i64 a0_10,.int .i64 a0_11] 35 (0,0)))∧Aside0 (Below w.heap.size w wc))
           case first=>
            have H:=HC38.out;clear HC38;by_cases c39:a0_0=5
            ·rw [if_pos c39]at H;have c39b0:(a0_0==5)=true:=beq_iff_eq.mpr c39;have c39b1:(a0_0 !=5)=false:=bne_eq_false_iff_eq.mpr c39;clear c39
             (first|rw [c39b0]|(simp only[i64_w,i32_w];rw [c39b0])|skip)
             have H':=Ax H;clear H;obtain⟨hcz40_0,hcz40_1,hcz40_2,hcz40_3,hcz40_4,hcz40_5,hcz40_6,hcz40_7,hcz40_8,hcz40_9,hcz40_10,hcz40_11,hfz40_0,hfz40_1,hfz40_2,hfz40_3,hfz40_4,hfz40_5,hfz40_6,hfz40_7,hfz40_8,hfz40_9,hfz40_10,hfz40_11⟩:=cl12 BK361;go_wp2;go_meet
             case rel=>exact⟨_,(true),rS,H',⟨by have:=HJ9.out;have:=HJ24.out;have:=HJ30.out;first|omega|exact Nat.le_refl _⟩,⟨bf0 BK361.out⟩,⟨bw1 HB.out GE361.out⟩⟩
            ·rw [if_neg c39]at H;have c39b0:(a0_0==5)=false:=beq_eq_false_iff_ne.mpr c39;have c39b1:(a0_0 !=5)=true:=bne_iff_ne.mpr c39
             (first|rw [c39b0]|(simp only[i64_w,i32_w];rw [c39b0])|skip)
             have H':=Ax H;clear H;obtain⟨hcz41_0,hcz41_1,hcz41_2,hcz41_3,hcz41_4,hcz41_5,hcz41_6,hcz41_7,hcz41_8,hcz41_9,hcz41_10,hcz41_11,hfz41_0,hfz41_1,hfz41_2,hfz41_3,hfz41_4,hfz41_5,hfz41_6,hfz41_7,hfz41_8,hfz41_9,hfz41_10,hfz41_11⟩:=cl12 BK361;go_wp2;go_meet
             case rel=>exact⟨_,((a0_0==6)),rS,H',⟨by have:=HJ9.out;have:=HJ24.out;have:=HJ30.out;first|omega|exact Nat.le_refl _⟩,⟨bf0 BK361.out⟩,⟨bw1 HB.out GE361.out⟩⟩
           case rest=>
            clear HC38;(try clear hcv1);(try clear c2);(try clear p2);(try clear hcv2);(try clear c3);(try clear c5);(try clear hcv18);(try clear hcv19);(try clear hcv20);(try clear hcv21);(try clear c22);(try clear c22b0);(try clear c22b1);(try clear c26);(try clear c28);(try clear c28b0);(try clear c28b1);(try clear c28b2);(try clear c33);(try clear c33b0);(try clear c33b1);(try clear c35);(try clear c35b0);(try clear c35b1);(try clear c35b2);(try clear c39);(try clear c39b0);(try clear c39b1);(try clear hcz23_0);(try clear hcz23_1);(try clear hcz23_10);(try clear hcz23_11);(try clear hcz23_2);(try clear hcz23_3);(try clear hcz23_4);(try clear hcz23_5);(try clear hcz23_6);(try clear hcz23_7);(try clear hcz23_8);(try clear hcz23_9);(try clear hcz24_0);(try clear hcz24_1);(try clear hcz24_10);(try clear hcz24_11);(try clear hcz24_2);(try clear hcz24_3);(try clear hcz24_4);(try clear hcz24_5);(try clear hcz24_6);(try clear hcz24_7);(try clear hcz24_8);(try clear hcz24_9);(try clear hcz29_0);(try clear hcz29_1);(try clear hcz29_10);(try clear hcz29_11);(try clear hcz29_2);(try clear hcz29_3);(try clear hcz29_4);(try clear hcz29_5);(try clear hcz29_6);(try clear hcz29_7);(try clear hcz29_8);(try clear hcz29_9);(try clear hcz32_0);(try clear hcz32_1);(try clear hcz32_10);(try clear hcz32_11);(try clear hcz32_2);(try clear hcz32_3);(try clear hcz32_4);(try clear hcz32_5);(try clear hcz32_6);(try clear hcz32_7);(try clear hcz32_8);(try clear hcz32_9);(try clear hcz36_0);(try clear hcz36_1);(try clear hcz36_10);(try clear hcz36_11);(try clear hcz36_2);(try clear hcz36_3);(try clear hcz36_4);(try clear hcz36_5);(try clear hcz36_6);(try clear hcz36_7);(try clear hcz36_8);(try clear hcz36_9);(try clear hcz40_0);(try clear hcz40_1);(try clear hcz40_10);(try clear hcz40_11);(try clear hcz40_2);(try clear hcz40_3);(try clear hcz40_4);(try clear hcz40_5);(try clear hcz40_6);(try clear hcz40_7);(try clear hcz40_8);(try clear hcz40_9);(try clear hcz41_0);(try clear hcz41_1);(try clear hcz41_10);(try clear hcz41_11);(try clear hcz41_2);(try clear hcz41_3);(try clear hcz41_4);(try clear hcz41_5);(try clear hcz41_6);(try clear hcz41_7);(try clear hcz41_8);(try clear hcz41_9);(try clear hfz23_0);(try clear hfz23_1);(try clear hfz23_10);(try clear hfz23_11);(try clear hfz23_2);(try clear hfz23_3);(try clear hfz23_4);(try clear hfz23_5);(try clear hfz23_6);(try clear hfz23_7);(try clear hfz23_8);(try clear hfz23_9);(try clear hfz24_0);(try clear hfz24_1);(try clear hfz24_10);(try clear hfz24_11);(try clear hfz24_2);(try clear hfz24_3);(try clear hfz24_4);(try clear hfz24_5);(try clear hfz24_6);(try clear hfz24_7);(try clear hfz24_8);(try clear hfz24_9);(try clear hfz29_0);(try clear hfz29_1);(try clear hfz29_10);(try clear hfz29_11);(try clear hfz29_2);(try clear hfz29_3);(try clear hfz29_4);(try clear hfz29_5);(try clear hfz29_6);(try clear hfz29_7);(try clear hfz29_8);(try clear hfz29_9);(try clear hfz32_0);(try clear hfz32_1);(try clear hfz32_10);(try clear hfz32_11);(try clear hfz32_2);(try clear hfz32_3);(try clear hfz32_4);(try clear hfz32_5);(try clear hfz32_6);(try clear hfz32_7);(try clear hfz32_8);(try clear hfz32_9);(try clear hfz36_0);(try clear hfz36_1);(try clear hfz36_10);(try clear hfz36_11);(try clear hfz36_2);(try clear hfz36_3);(try clear hfz36_4);(try clear hfz36_5);(try clear hfz36_6);(try clear hfz36_7);(try clear hfz36_8);(try clear hfz36_9);(try clear hfz40_0);(try clear hfz40_1);(try clear hfz40_10);(try clear hfz40_11);(try clear hfz40_2);(try clear hfz40_3);(try clear hfz40_4);(try clear hfz40_5);(try clear hfz40_6);(try clear hfz40_7);(try clear hfz40_8);(try clear hfz40_9);(try clear hfz41_0);(try clear hfz41_1);(try clear hfz41_10);(try clear hfz41_11);(try clear hfz41_2);(try clear hfz41_3);(try clear hfz41_4);(try clear hfz41_5);(try clear hfz41_6);(try clear hfz41_7);(try clear hfz41_8);(try clear hfz41_9);(try clear p2);obtain⟨kq,x66_37,rfl,HA,HJ37,BK361,HB⟩:=hcut;cases kq with
            |zero=>exact absurd HA.out (by simp [spoorref11_Put.j3])
            |succ kj37=>
             have H:=HA.out;clear HA;simp only[spoorref11_Put.j3]at H;by_cases c42:x66_37=true
             ·subst c42;have H1:((spoorref01_Put.f kj37 (IntKind.u64.wrap (a0_10))).bind fun t373=>(if x4_30.size+t373.size≤9223372036854775807 then (if a0_0=5 then ((spoorref01_Put.f kj37 (IntKind.u64.wrap (a0_11))).bind fun t374=>(if (x4_30++t373).size+t374.size≤9223372036854775807 then (some ((x4_30++t373)++t374,0)) else (none))) else (some (x4_30++t373,0))) else (none)))=some (r1,r2):=by rw [if_pos rfl]at H;exact H
              clear H;have H:=H1;clear H1;replace H:=Option.bind_eq_some_iff.mp H;obtain⟨t373,A430,H⟩:=H;replace H:(if x4_30.size+t373.size≤9223372036854775807 then (if a0_0=5 then ((spoorref01_Put.f kj37 (IntKind.u64.wrap (a0_11))).bind fun t374=>(if (x4_30++t373).size+t374.size≤9223372036854775807 then (some ((x4_30++t373)++t374,0)) else (none))) else (some (x4_30++t373,0))) else (none))=some (r1,r2):=H;have A43:=Ax A430;clear A430;by_cases c44:x4_30.size+t373.size≤9223372036854775807
              ·rw [if_pos c44]at H;have c44b0:=eq_true c44;have c44b1:decide (x4_30.size+t373.size≤9223372036854775807)=true:=decide_eq_true c44;try have c44b2:(9223372036854775807<x4_30.size+t373.size)=False:=eq_false (Nat.not_lt.2 c44)
               by_cases c45:a0_0=5
               ·rw [if_pos c45]at H;have c45b0:(a0_0==5)=true:=beq_iff_eq.mpr c45;have c45b1:(a0_0 !=5)=false:=bne_eq_false_iff_eq.mpr c45;clear c45;replace H:=Option.bind_eq_some_iff.mp H;obtain⟨t374,A460,H⟩:=H;replace H:(if (x4_30++t373).size+t374.size≤9223372036854775807 then (some ((x4_30++t373)++t374,0)) else (none))=some (r1,r2):=H;have A46:=Ax A460;clear A460;by_cases c47:(x4_30++t373).size+t374.size≤9223372036854775807
                ·rw [if_pos c47]at H;have c47b0:=eq_true c47;have c47b1:decide ((x4_30++t373).size+t374.size≤9223372036854775807)=true:=decide_eq_true c47;try have c47b2:(9223372036854775807<(x4_30++t373).size+t374.size)=False:=eq_false (Nat.not_lt.2 c47)
                 try have c47b3:(9223372036854775807<x4_30.size+t373.size+t374.size)=False:=eq_false (by have h_:=c47;(try simp only[ByteArray.size_append]at h_);omega)
                 simp only[Option.some.injEq,Prod.mk.injEq]at H;obtain⟨rfl,rfl⟩:=H;obtain⟨hcz48_0,hcz48_1,hcz48_2,hcz48_3,hcz48_4,hcz48_5,hcz48_6,hcz48_7,hcz48_8,hcz48_9,hcz48_10,hcz48_11,hfz48_0,hfz48_1,hfz48_2,hfz48_3,hfz48_4,hfz48_5,hfz48_6,hfz48_7,hfz48_8,hfz48_9,hfz48_10,hfz48_11⟩:=cl12 BK361;go_wp2_with (first|((with_reducible refine gate_callee (f:=51) rfl ?_);refine goesL_ (some 71) rfl rfl Try.func51 (by kernel_rfl) rfl #[.int .u64 (IntKind.u64.wrap (a0_10))] rfl gS ?_;(with_reducible refine (spoorref01_Put.calls kj37 (IntKind.u64.wrap (a0_10)) t373 _ A43.out).mono ?_);rintro e w49 ⟨rfl,hb⟩;refine⟨_,rfl,?_⟩;replace BK361:=Bx0 BK361 hb;replace HB:=Bs1 HB hb GE361.out;(try clear hb);obtain⟨hcz50_0,hcz50_1,hcz50_2,hcz50_3,hcz50_4,hcz50_5,hcz50_6,hcz50_7,hcz50_8,hcz50_9,hcz50_10,hcz50_11,hfz50_0,hfz50_1,hfz50_2,hfz50_3,hfz50_4,hfz50_5,hfz50_6,hfz50_7,hfz50_8,hfz50_9,hfz50_10,hfz50_11⟩:=cl12 BK361)|((with_reducible refine gate_callee (f:=51) rfl ?_);refine goesL_ (some 80) rfl rfl Try.func51 (by kernel_rfl) rfl #[.int .u64 (IntKind.u64.wrap (a0_11))] rfl gS ?_;(with_reducible refine (spoorref01_Put.calls kj37 (IntKind.u64.wrap (a0_11)) t374 _ A46.out).mono ?_);rintro e w51 ⟨rfl,hb⟩;refine⟨_,rfl,?_⟩;replace BK361:=Bx0 BK361 hb;replace HB:=Bs1 HB hb GE361.out;(try clear hb)));go_ret2;exact⟨eS,bw1 HB.out GE361.out⟩
                ·rw [if_neg c47]at H;exact absurd H (by simp)
               ·rw [if_neg c45]at H;have c45b0:(a0_0==5)=false:=beq_eq_false_iff_ne.mpr c45;have c45b1:(a0_0 !=5)=true:=bne_iff_ne.mpr c45;simp only[Option.some.injEq,Prod.mk.injEq]at H;obtain⟨rfl,rfl⟩:=H;obtain⟨hcz52_0,hcz52_1,hcz52_2,hcz52_3,hcz52_4,hcz52_5,hcz52_6,hcz52_7,hcz52_8,hcz52_9,hcz52_10,hcz52_11,hfz52_0,hfz52_1,hfz52_2,hfz52_3,hfz52_4,hfz52_5,hfz52_6,hfz52_7,hfz52_8,hfz52_9,hfz52_10,hfz52_11⟩:=cl12 BK361;go_wp2_with (first|((with_reducible refine gate_callee (f:=51) rfl ?_);refine goesL_ (some 71) rfl rfl Try.func51 (by kernel_rfl) rfl #[.int .u64 (IntKind.u64.wrap (a0_10))] rfl gS ?_;(with_reducible refine (spoorref01_Put.calls kj37 (IntKind.u64.wrap (a0_10)) t373 _ A43.out).mono ?_);rintro e w53 ⟨rfl,hb⟩;refine⟨_,rfl,?_⟩;replace BK361:=Bx0 BK361 hb;replace HB:=Bs1 HB hb GE361.out;(try clear hb);obtain⟨hcz54_0,hcz54_1,hcz54_2,hcz54_3,hcz54_4,hcz54_5,hcz54_6,hcz54_7,hcz54_8,hcz54_9,hcz54_10,hcz54_11,hfz54_0,hfz54_1,hfz54_2,hfz54_3,hfz54_4,hfz54_5,hfz54_6,hfz54_7,hfz54_8,hfz54_9,hfz54_10,hfz54_11⟩:=cl12 BK361));go_ret2;exact⟨eS,bw1 HB.out GE361.out⟩
              ·rw [if_neg c44]at H;exact absurd H (by simp)
             ·replace c42:=Bool.eq_false_iff.mpr c42;subst c42;have H1:(if a0_0=5 then ((spoorref01_Put.f kj37 (IntKind.u64.wrap (a0_11))).bind fun t375=>(if x4_30.size+t375.size≤9223372036854775807 then (some (x4_30++t375,0)) else (none))) else (some (x4_30,0)))=some (r1,r2):=by rw [if_neg (show ¬ (false=true) by decide)]at H;exact H
              clear H;have H:=H1;clear H1;by_cases c55:a0_0=5
              ·rw [if_pos c55]at H;have c55b0:(a0_0==5)=true:=beq_iff_eq.mpr c55;have c55b1:(a0_0 !=5)=false:=bne_eq_false_iff_eq.mpr c55;clear c55;replace H:=Option.bind_eq_some_iff.mp H;obtain⟨t375,A560,H⟩:=H;replace H:(if x4_30.size+t375.size≤9223372036854775807 then (some (x4_30++t375,0)) else (none))=some (r1,r2):=H;have A56:=Ax A560;clear A560;by_cases c57:x4_30.size+t375.size≤9223372036854775807
               ·rw [if_pos c57]at H;have c57b0:=eq_true c57;have c57b1:decide (x4_30.size+t375.size≤9223372036854775807)=true:=decide_eq_true c57;try have c57b2:(9223372036854775807<x4_30.size+t375.size)=False:=eq_false (Nat.not_lt.2 c57)
                simp only[Option.some.injEq,Prod.mk.injEq]at H;obtain⟨rfl,rfl⟩:=H;obtain⟨hcz58_0,hcz58_1,hcz58_2,hcz58_3,hcz58_4,hcz58_5,hcz58_6,hcz58_7,hcz58_8,hcz58_9,hcz58_10,hcz58_11,hfz58_0,hfz58_1,hfz58_2,hfz58_3,hfz58_4,hfz58_5,hfz58_6,hfz58_7,hfz58_8,hfz58_9,hfz58_10,hfz58_11⟩:=cl12 BK361;go_wp2_with (first|((with_reducible refine gate_callee (f:=51) rfl ?_);refine goesL_ (some 80) rfl rfl Try.func51 (by kernel_rfl) rfl #[.int .u64 (IntKind.u64.wrap (a0_11))] rfl gS ?_;(with_reducible refine (spoorref01_Put.calls kj37 (IntKind.u64.wrap (a0_11)) t375 _ A56.out).mono ?_);rintro e w59 ⟨rfl,hb⟩;refine⟨_,rfl,?_⟩;replace BK361:=Bx0 BK361 hb;replace HB:=Bs1 HB hb GE361.out;(try clear hb)));go_ret2;exact⟨eS,bw1 HB.out GE361.out⟩
               ·rw [if_neg c57]at H;exact absurd H (by simp)
              ·rw [if_neg c55]at H;have c55b0:(a0_0==5)=false:=beq_eq_false_iff_ne.mpr c55;have c55b1:(a0_0 !=5)=true:=bne_iff_ne.mpr c55;simp only[Option.some.injEq,Prod.mk.injEq]at H;obtain⟨rfl,rfl⟩:=H;obtain⟨hcz60_0,hcz60_1,hcz60_2,hcz60_3,hcz60_4,hcz60_5,hcz60_6,hcz60_7,hcz60_8,hcz60_9,hcz60_10,hcz60_11,hfz60_0,hfz60_1,hfz60_2,hfz60_3,hfz60_4,hfz60_5,hfz60_6,hfz60_7,hfz60_8,hfz60_9,hfz60_10,hfz60_11⟩:=cl12 BK361;go_wp2;go_ret2;exact⟨eS,bw1 HB.out GE361.out⟩
    ·rw [if_neg c9]at H;exact absurd H (by simp)
   ·rw [if_neg c7]at H;exact absurd H (by simp)
  ·rw [if_neg c5]at H;exact absurd H (by simp)
 ·rw [if_neg c3]at H;have c3b0:(t362==0)=false:=beq_eq_false_iff_ne.mpr c3;have c3b1:(t362 !=0)=true:=bne_iff_ne.mpr c3;simp only[Option.some.injEq,Prod.mk.injEq]at H;obtain⟨rfl,rfl⟩:=H;go_enter Try.func27,Try.ntmps27;go_wp2_with (first|((with_reducible refine gate_dst (N:=1) rfl ?_);refine box_event ?hg (N:=1) ?hd (cs:= #[.int .u8 a0_0,.int .i64 a0_1,.int .u64 a0_2,.int .i64 a0_3,.bool a0_4,.int .u64 a0_5,.int .u64 a0_6,.int .i64 a0_7,.int .u8 a0_8,.int .i64 a0_9,.int .i64 a0_10,.int .i64 a0_11]) (t:=35) ?hr ?_;(case hd=>rfl);(case hg=>rfl);(case hr=>first|(go_simp;done)|(go_simp;rfl));intro gb361 hg w61 hbox hb;have n0_:=Bs0 HB hb;have n1_:=Ax (hbox);have n2_:=Gw0 HB hg;have n3_:=Gw0 HB hg;clear HB;have HB:=n0_;have BK361:=n1_;have GW361:=n2_;have GE361:=n3_;clear n0_ n1_ n2_ n3_;clear hb hbox hg;obtain⟨hcz62_0,hcz62_1,hcz62_2,hcz62_3,hcz62_4,hcz62_5,hcz62_6,hcz62_7,hcz62_8,hcz62_9,hcz62_10,hcz62_11,hfz62_0,hfz62_1,hfz62_2,hfz62_3,hfz62_4,hfz62_5,hfz62_6,hfz62_7,hfz62_8,hfz62_9,hfz62_10,hfz62_11⟩:=cl12 BK361)|((with_reducible refine gate_callee (f:=50) rfl ?_);refine goesL_ (some 10) rfl rfl Try.func50 (by kernel_rfl) rfl #[.agg #[.int .u8 a0_0,.int .i64 a0_1,.int .u64 a0_2,.int .i64 a0_3,.bool a0_4,.int .u64 a0_5,.int .u64 a0_6,.int .i64 a0_7,.int .u8 a0_8,.int .i64 a0_9,.int .i64 a0_10,.int .i64 a0_11]] rfl gS ?_;(with_reducible refine (spoorref11_Check.calls k a0_0 a0_1 a0_2 a0_3 a0_4 a0_5 a0_6 a0_7 a0_8 a0_9 a0_10 a0_11 t362 _ A2.out).mono ?_);rintro e w63 ⟨rfl,hb⟩;refine⟨_,rfl,?_⟩;replace BK361:=Bx0 BK361 hb;replace HB:=Bs1 HB hb GE361.out;(try clear hb)));go_ret2;exact⟨eS,bw1 HB.out GE361.out⟩
def spoorref12_Wrap.f (a0:ByteArray):Option (ByteArray × Int):=if (a0.size:Int)<1 then (some ((⟨#[]⟩:ByteArray),11)) else (if (a0.size:Int) > 64 then (some ((⟨#[]⟩:ByteArray),11)) else ((some (([245,0,((a0.size:Int)) % 256]:List Int):List Int)).bind fun y376=>(if (strOfNums y376).size+a0.size≤9223372036854775807 then (some ((strOfNums y376)++a0,0)) else (none))))
end Go.Proofs.Ythkdfojmhloofaa.Q
end
section
namespace Go.Proofs.Ythkdfojmhloofaa.Q
open Go.RowKit Go.Proofs.YthkdfojmhloofaaW.PrintWords Go.Proofs.YthkdfojmhloofaaW.PrintLast Go.Proofs.YthkdfojmhloofaaW.PrintMore
attribute [local go_sem] max2_int min2_int max_two min_two max_three min_three max_four min_four   -- for this text's walks alone
set_option linter.unusedVariables false
set_option linter.unusedSimpArgs false
set_option maxHeartbeats 8000000 in
set_option maxRecDepth 100000 in
theorem spoorref12_Wrap.calls (a0:ByteArray) (r1:ByteArray) (r2:Int) (w:World) (h:spoorref12_Wrap.f a0=some (r1,r2)):
  Calls Try.prog 28 #[.string a0] w fun e w'=>e= .returned (.tuple #[.string r1,.int .i64 r2])∧Below w.heap.size w w':=by
 have HB:=Ax (Below.refl w.heap.size w);have H:(if (a0.size:Int)<1 then (some ((⟨#[]⟩:ByteArray),11)) else (if (a0.size:Int) > 64 then (some ((⟨#[]⟩:ByteArray),11)) else ((some (([245,0,((a0.size:Int)) % 256]:List Int):List Int)).bind fun y376=>(if (strOfNums y376).size+a0.size≤9223372036854775807 then (some ((strOfNums y376)++a0,0)) else (none)))))=some (r1,r2):=h;clear h;by_cases c2:(a0.size:Int)<1;·rw [if_pos c2]at H;have c2b0:decide ((a0.size:Int)<1)=true:=decide_eq_true c2;have c2b1:decide (a0.size<1)=true:=decide_eq_true (by omega);clear c2;simp only[Option.some.injEq,Prod.mk.injEq]at H;obtain⟨rfl,rfl⟩:=H;go_enter Try.func28,Try.ntmps28;go_wp2;go_ret2;exact⟨eS,bw0 HB.out⟩
 ·rw [if_neg c2]at H;have c2b0:decide ((a0.size:Int)<1)=false:=decide_eq_false c2;have c2b1:decide (a0.size<1)=false:=decide_eq_false (by omega);clear c2;by_cases c3:(a0.size:Int) > 64;·rw [if_pos c3]at H;have c3b0:decide (64<(a0.size:Int))=true:=decide_eq_true c3;have c3b1:decide (64<a0.size)=true:=decide_eq_true (by omega);clear c3;simp only[Option.some.injEq,Prod.mk.injEq]at H;obtain⟨rfl,rfl⟩:=H;go_enter Try.func28,Try.ntmps28;go_wp2;go_ret2;exact⟨eS,bw0 HB.out⟩
  ·rw [if_neg c3]at H;have c3b0:decide (64<(a0.size:Int))=false:=decide_eq_false c3;have c3b1:decide (64<a0.size)=false:=decide_eq_false (by omega);clear c3;obtain⟨y376,hy376⟩: ∃ y_:List Int,y_=(([245,0,((a0.size:Int)) % 256]:List Int)):=⟨_,rfl⟩;replace H:(if (strOfNums y376).size+a0.size≤9223372036854775807 then (some ((strOfNums y376)++a0,0)) else (none))=some (r1,r2):=by first|(rw [hy376];with_reducible exact H)|(have H2_:=(Option.bind_some _ _).symm.trans H;rw [hy376];with_reducible exact H2_)|(have H2_:=(Option.bind_some _ _).symm.trans H;with_reducible exact H2_)|with_reducible exact H|(rw [hy376];exact H)|exact H
   have Ny376:=Ax hy376;clear hy376;by_cases c4:(strOfNums y376).size+a0.size≤9223372036854775807
   ·rw [if_pos c4]at H;have c4b0:=eq_true c4;have c4b1:decide ((strOfNums y376).size+a0.size≤9223372036854775807)=true:=decide_eq_true c4;try have c4b2:(9223372036854775807<(strOfNums y376).size+a0.size)=False:=eq_false (Nat.not_lt.2 c4)
    simp only[Option.some.injEq,Prod.mk.injEq]at H;obtain⟨rfl,rfl⟩:=H;go_enter Try.func28,Try.ntmps28;go_wp2_with (first|((with_reducible refine gate_dst (N:=15) rfl ?_);refine Kd.R_lit (Kd.int .u8) _ 5 ?hg (N:=15) ?hd (xs:=([245,0,((a0.size:Int)) % 256]:List Int)) (inner:= [.int .u8 245,.int .u8 0,.int .u8 (((a0.size:Int)) % 256)]) (ok:=fun _=>True) (okp:=fun _=>True) ?hr ?hp (fun _ hk=>hk) trivial (Below.refl _ _) (Nat.le_refl _) (by simp) ?_;(case hd=>rfl);(case hg=>rfl);(case hr=>first|(go_simp;done)|(go_simp;rfl));(case hp=>exact (Reps.one (show Kd.M (Kd.int .u8) _ _ _ 245 [.int .u8 245] from rfl) (Reps.one (show Kd.M (Kd.int .u8) _ _ _ 0 [.int .u8 0] from rfl) (Reps.one (show Kd.M (Kd.int .u8) _ _ _ (((a0.size:Int)) % 256) [.int .u8 (((a0.size:Int)) % 256)] from rfl) (Reps.none _ _)))));intro v377 w5 ho6 hb hg_ hnew_;clear hg_ hnew_;(first|rw [← Ny376.out]at ho6|(simp only[Int.reduceToNat]at ho6;rw [← Ny376.out]at ho6));have HO378:=Ax (Kd.R_lower ho6 (below_size (bw0 HB.out)));replace HB:=Bs0 HB hb;clear hb ho6;have hcv7:=own_string (P:=Try.prog) Try.underlying67 Try.underlying5 Try.underlying9 (Kd.own_of_R HO378.out)));go_ret2;exact⟨eS,bw0 HB.out⟩
   ·rw [if_neg c4]at H;exact absurd H (by simp)
def spoorref13_Stream.l0 : Nat → ByteArray → List (S35) → Int → Int → Option (ByteArray × Int)
 | 0, _, _, _, _ => none
 | k + 1, x4, x11, x12, x13 => if x13 < x12 then (if 0 ≤ x13 then (if x13 < (x11.length : Int) then ((spoorref11_Put.f k ((rd_T35 x11 x13).f0) ((rd_T35 x11 x13).f1) ((rd_T35 x11 x13).f2) ((rd_T35 x11 x13).f3) ((rd_T35 x11 x13).f4.f0) ((rd_T35 x11 x13).f4.f1.f0) ((rd_T35 x11 x13).f4.f1.f1) ((rd_T35 x11 x13).f4.f2) ((rd_T35 x11 x13).f5.f0) ((rd_T35 x11 x13).f5.f1) ((rd_T35 x11 x13).f6) ((rd_T35 x11 x13).f7)).bind fun bt381 => (if bt381.2 = 0 then ((spoorref12_Wrap.f bt381.1).bind fun bt383 => (if x4.size + bt383.1.size ≤ 9223372036854775807 then (spoorref13_Stream.l0 k (x4 ++ bt383.1) x11 x12 (wrap64 (x13 + 1))) else (none))) else (some ((⟨#[]⟩ : ByteArray), bt381.2)))) else (none)) else (none)) else (some (x4, 0))
def spoorref13_Stream.f (k:Nat) (l0:List (S35)):Option (ByteArray × Int):=spoorref13_Stream.l0 k (⟨#[]⟩:ByteArray) l0 (l0.length:Int) 0
set_option maxHeartbeats 8000000 in
set_option maxRecDepth 100000 in
theorem spoorref13_Stream.calls (k:Nat) (A0:Option Addr) (c0:Nat) (l0:List (S35)) (r1:ByteArray) (r2:Int) (w:World) (hr0:Kd.C k35 w A0 l0.length l0) (hc0:l0.length≤c0) (h:spoorref13_Stream.f k l0=some (r1,r2)):
  Calls Try.prog 18 #[.slice A0 l0.length c0] w fun e w'=>e= .returned (.tuple #[.string r1,.int .i64 r2])∧Below w.heap.size w w':=by
 have hu35:=Try.underlying35;have HR0:=Ax hr0;have HC0:=Ax hc0;clear hr0 hc0;have HB:=Ax (Below.refl w.heap.size w);have H:(spoorref13_Stream.l0 k (⟨#[]⟩:ByteArray) l0 (l0.length:Int) 0)=some (r1,r2):=h;clear h;have H':=Ax H;clear H;go_enter Try.func18,Try.ntmps18;go_wp2;go_loopg [4,13] k (fun kq v4 v13 w'=> ∃ (x4_1:ByteArray) (x13_1:Int),v4= .string x4_1∧v13= .int .i64 x13_1∧Aside0 (spoorref13_Stream.l0 kq x4_1 l0 (l0.length:Int) x13_1=some (r1,r2))∧Aside0 (kq≤k)∧Aside0 (Below w.heap.size w w'))
 case atStart=>exact⟨((⟨#[]⟩:ByteArray)),(0),rS,rS,H',⟨Nat.le_refl _⟩,⟨bw0 HB.out⟩⟩
 case round=>
  clear H';try clear c1
  obtain⟨x4_1,x13_1,rfl,rfl,HA,HK1,HB⟩:=hrel;cases gk with
  |zero=>exact absurd HA.out (by simp [spoorref13_Stream.l0])
  |succ k1=>
   have H:=HA.out;clear HA;simp only[spoorref13_Stream.l0]at H;by_cases c2:x13_1<(l0.length:Int)
   ·rw [if_pos c2]at H;have c2b0:decide (x13_1<(l0.length:Int))=true:=decide_eq_true c2;clear c2;by_cases c3:0≤x13_1
    ·rw [if_pos c3]at H;have c3b0:decide (0≤x13_1)=true:=decide_eq_true c3;clear c3;by_cases c4:x13_1<(l0.length:Int)
     ·rw [if_pos c4]at H;have c4b0:decide (x13_1<(l0.length:Int))=true:=decide_eq_true c4;clear c4;replace H:=Option.bind_eq_some_iff.mp H;obtain⟨⟨t381,t382⟩,A50,H⟩:=H;replace H:(if t382=0 then ((spoorref12_Wrap.f t381).bind fun bt383=>(if x4_1.size+bt383.1.size≤9223372036854775807 then (spoorref13_Stream.l0 k1 (x4_1++bt383.1) l0 (l0.length:Int) (wrap64 (x13_1+1))) else (none))) else (some ((⟨#[]⟩:ByteArray),t382)))=some (r1,r2):=H;have A5:=Ax A50;clear A50;by_cases c6:t382=0
      ·rw [if_pos c6]at H;have c6b0:(t382==0)=true:=beq_iff_eq.mpr c6;have c6b1:(t382 !=0)=false:=bne_eq_false_iff_eq.mpr c6;clear c6;replace H:=Option.bind_eq_some_iff.mp H;obtain⟨⟨t383,t384⟩,A70,H⟩:=H;replace H:(if x4_1.size+t383.size≤9223372036854775807 then (spoorref13_Stream.l0 k1 (x4_1++t383) l0 (l0.length:Int) (wrap64 (x13_1+1))) else (none))=some (r1,r2):=H;have A7:=Ax A70;clear A70;by_cases c8:x4_1.size+t383.size≤9223372036854775807
       ·rw [if_pos c8]at H;have c8b0:=eq_true c8;have c8b1:decide (x4_1.size+t383.size≤9223372036854775807)=true:=decide_eq_true c8;try have c8b2:(9223372036854775807<x4_1.size+t383.size)=False:=eq_false (Nat.not_lt.2 c8)
        have H':=Ax H;clear H;have p379:0≤(x13_1:Int):=of_decide_eq_true (by first|(with_reducible assumption)|assumption);have q379:x13_1<(l0.length:Int):=of_decide_eq_true (by first|(with_reducible assumption)|assumption);obtain⟨ad379,e379,hx379_0,hx379_1,hx379_2,hx379_3,hx379_4,hx379_5,hx379_6,hx379_7,hx379_8,hx379_9,hx379_10,hx379_11⟩:=at_T35 HR0.out x13_1 p379 q379;cases e379;replace hx379_0:=(HB.out.cell (World.block_lt_of_cell? w _ hx379_0)).trans hx379_0;replace hx379_1:=(HB.out.cell (World.block_lt_of_cell? w _ hx379_1)).trans hx379_1;replace hx379_2:=(HB.out.cell (World.block_lt_of_cell? w _ hx379_2)).trans hx379_2;replace hx379_3:=(HB.out.cell (World.block_lt_of_cell? w _ hx379_3)).trans hx379_3;replace hx379_4:=(HB.out.cell (World.block_lt_of_cell? w _ hx379_4)).trans hx379_4;replace hx379_5:=(HB.out.cell (World.block_lt_of_cell? w _ hx379_5)).trans hx379_5;replace hx379_6:=(HB.out.cell (World.block_lt_of_cell? w _ hx379_6)).trans hx379_6;replace hx379_7:=(HB.out.cell (World.block_lt_of_cell? w _ hx379_7)).trans hx379_7;replace hx379_8:=(HB.out.cell (World.block_lt_of_cell? w _ hx379_8)).trans hx379_8;replace hx379_9:=(HB.out.cell (World.block_lt_of_cell? w _ hx379_9)).trans hx379_9;replace hx379_10:=(HB.out.cell (World.block_lt_of_cell? w _ hx379_10)).trans hx379_10;replace hx379_11:=(HB.out.cell (World.block_lt_of_cell? w _ hx379_11)).trans hx379_11;replace p379:=eq_true p379;replace q379:=eq_true q379;go_wp2_with (first|((with_reducible refine gate_dst (N:=6) rfl ?_);refine box_event ?hg (N:=6) ?hd (cs:= #[.int .u8 0,.int .i64 0,.int .u64 0,.int .i64 0,.bool false,.int .u64 0,.int .u64 0,.int .i64 0,.int .u8 0,.int .i64 0,.int .i64 0,.int .i64 0]) (t:=35) ?hr ?_;(case hd=>rfl);(case hg=>rfl);(case hr=>first|(go_simp;done)|(go_simp;rfl));intro gb380 hg w9 hbox hb;have n0_:=Bs0 HB hb;have n1_:=Ax (hbox);have n2_:=Gw0 HB hg;have n3_:=Gw0 HB hg;clear HB;have HB:=n0_;have BK380:=n1_;have GW380:=n2_;have GE380:=n3_;clear n0_ n1_ n2_ n3_;clear hb hbox hg;obtain⟨hcz10_0,hcz10_1,hcz10_2,hcz10_3,hcz10_4,hcz10_5,hcz10_6,hcz10_7,hcz10_8,hcz10_9,hcz10_10,hcz10_11,hfz10_0,hfz10_1,hfz10_2,hfz10_3,hfz10_4,hfz10_5,hfz10_6,hfz10_7,hfz10_8,hfz10_9,hfz10_10,hfz10_11⟩:=cl12 BK380)|((with_reducible refine gate_callee (f:=27) rfl ?_);refine goesL_ (some 19) rfl rfl Try.func27 (by kernel_rfl) rfl #[.agg #[.int .u8 ((rd_T35 l0 x13_1).f0),.int .i64 ((rd_T35 l0 x13_1).f1),.int .u64 ((rd_T35 l0 x13_1).f2),.int .i64 ((rd_T35 l0 x13_1).f3),.bool ((rd_T35 l0 x13_1).f4.f0),.int .u64 ((rd_T35 l0 x13_1).f4.f1.f0),.int .u64 ((rd_T35 l0 x13_1).f4.f1.f1),.int .i64 ((rd_T35 l0 x13_1).f4.f2),.int .u8 ((rd_T35 l0 x13_1).f5.f0),.int .i64 ((rd_T35 l0 x13_1).f5.f1),.int .i64 ((rd_T35 l0 x13_1).f6),.int .i64 ((rd_T35 l0 x13_1).f7)]] rfl gS ?_;(with_reducible refine (spoorref11_Put.calls k1 ((rd_T35 l0 x13_1).f0) ((rd_T35 l0 x13_1).f1) ((rd_T35 l0 x13_1).f2) ((rd_T35 l0 x13_1).f3) ((rd_T35 l0 x13_1).f4.f0) ((rd_T35 l0 x13_1).f4.f1.f0) ((rd_T35 l0 x13_1).f4.f1.f1) ((rd_T35 l0 x13_1).f4.f2) ((rd_T35 l0 x13_1).f5.f0) ((rd_T35 l0 x13_1).f5.f1) ((rd_T35 l0 x13_1).f6) ((rd_T35 l0 x13_1).f7) t381 t382 _ A5.out).mono ?_);rintro e w11 ⟨rfl,hb⟩;refine⟨_,rfl,?_⟩;have n0_:=Ax (blk_below (g:=gb380) (o:=.cells #[.int .u8 ((rd_T35 l0 x13_1).f0),.int .i64 ((rd_T35 l0 x13_1).f1),.int .u64 ((rd_T35 l0 x13_1).f2),.int .i64 ((rd_T35 l0 x13_1).f3),.bool ((rd_T35 l0 x13_1).f4.f0),.int .u64 ((rd_T35 l0 x13_1).f4.f1.f0),.int .u64 ((rd_T35 l0 x13_1).f4.f1.f1),.int .i64 ((rd_T35 l0 x13_1).f4.f2),.int .u8 ((rd_T35 l0 x13_1).f5.f0),.int .i64 ((rd_T35 l0 x13_1).f5.f1),.int .i64 ((rd_T35 l0 x13_1).f6),.int .i64 ((rd_T35 l0 x13_1).f7)] 35 (0,0)) (gB BK380.out) hb);have n1_:=Bs1 HB hb GE380.out;clear BK380;clear HB;have BK380:=n0_;have HB:=n1_;clear n0_ n1_;(try clear hb))|((with_reducible refine gate_callee (f:=28) rfl ?_);refine goesL_ (some 27) rfl rfl Try.func28 (by kernel_rfl) rfl #[.string t381] rfl gS ?_;(with_reducible refine (spoorref12_Wrap.calls t381 t383 t384 _ A7.out).mono ?_);rintro e w12 ⟨rfl,hb⟩;refine⟨_,rfl,?_⟩;replace BK380:=Bx0 BK380 hb;replace HB:=Bs1 HB hb GE380.out;(try clear hb)));go_roundg k1
        case measure=>have:=HK1.out;omega
        case rel=>exact⟨(x4_1++t383),(wrap64 (x13_1+1)),rS,rS,H',⟨by have:=HK1.out;omega⟩,⟨bw1 HB.out GE380.out⟩⟩
       ·rw [if_neg c8]at H;exact absurd H (by simp)
      ·rw [if_neg c6]at H;have c6b0:(t382==0)=false:=beq_eq_false_iff_ne.mpr c6;have c6b1:(t382 !=0)=true:=bne_iff_ne.mpr c6;simp only[Option.some.injEq,Prod.mk.injEq]at H;obtain⟨rfl,rfl⟩:=H;have p379:0≤(x13_1:Int):=of_decide_eq_true (by first|(with_reducible assumption)|assumption);have q379:x13_1<(l0.length:Int):=of_decide_eq_true (by first|(with_reducible assumption)|assumption);obtain⟨ad379,e379,hx379_0,hx379_1,hx379_2,hx379_3,hx379_4,hx379_5,hx379_6,hx379_7,hx379_8,hx379_9,hx379_10,hx379_11⟩:=at_T35 HR0.out x13_1 p379 q379;cases e379;replace hx379_0:=(HB.out.cell (World.block_lt_of_cell? w _ hx379_0)).trans hx379_0;replace hx379_1:=(HB.out.cell (World.block_lt_of_cell? w _ hx379_1)).trans hx379_1;replace hx379_2:=(HB.out.cell (World.block_lt_of_cell? w _ hx379_2)).trans hx379_2;replace hx379_3:=(HB.out.cell (World.block_lt_of_cell? w _ hx379_3)).trans hx379_3;replace hx379_4:=(HB.out.cell (World.block_lt_of_cell? w _ hx379_4)).trans hx379_4;replace hx379_5:=(HB.out.cell (World.block_lt_of_cell? w _ hx379_5)).trans hx379_5;replace hx379_6:=(HB.out.cell (World.block_lt_of_cell? w _ hx379_6)).trans hx379_6;replace hx379_7:=(HB.out.cell (World.block_lt_of_cell? w _ hx379_7)).trans hx379_7;replace hx379_8:=(HB.out.cell (World.block_lt_of_cell? w _ hx379_8)).trans hx379_8;replace hx379_9:=(HB.out.cell (World.block_lt_of_cell? w _ hx379_9)).trans hx379_9;replace hx379_10:=(HB.out.cell (World.block_lt_of_cell? w _ hx379_10)).trans hx379_10;replace hx379_11:=(HB.out.cell (World.block_lt_of_cell? w _ hx379_11)).trans hx379_11;replace p379:=eq_true p379;replace q379:=eq_true q379;go_wp2_with (first|((with_reducible refine gate_dst (N:=6) rfl ?_);refine box_event ?hg (N:=6) ?hd (cs:= #[.int .u8 0,.int .i64 0,.int .u64 0,.int .i64 0,.bool false,.int .u64 0,.int .u64 0,.int .i64 0,.int .u8 0,.int .i64 0,.int .i64 0,.int .i64 0]) (t:=35) ?hr ?_;(case hd=>rfl);(case hg=>rfl);(case hr=>first|(go_simp;done)|(go_simp;rfl));intro gb380 hg w13 hbox hb;have n0_:=Bs0 HB hb;have n1_:=Ax (hbox);have n2_:=Gw0 HB hg;have n3_:=Gw0 HB hg;clear HB;have HB:=n0_;have BK380:=n1_;have GW380:=n2_;have GE380:=n3_;clear n0_ n1_ n2_ n3_;clear hb hbox hg;obtain⟨hcz14_0,hcz14_1,hcz14_2,hcz14_3,hcz14_4,hcz14_5,hcz14_6,hcz14_7,hcz14_8,hcz14_9,hcz14_10,hcz14_11,hfz14_0,hfz14_1,hfz14_2,hfz14_3,hfz14_4,hfz14_5,hfz14_6,hfz14_7,hfz14_8,hfz14_9,hfz14_10,hfz14_11⟩:=cl12 BK380)|((with_reducible refine gate_callee (f:=27) rfl ?_);refine goesL_ (some 19) rfl rfl Try.func27 (by kernel_rfl) rfl #[.agg #[.int .u8 ((rd_T35 l0 x13_1).f0),.int .i64 ((rd_T35 l0 x13_1).f1),.int .u64 ((rd_T35 l0 x13_1).f2),.int .i64 ((rd_T35 l0 x13_1).f3),.bool ((rd_T35 l0 x13_1).f4.f0),.int .u64 ((rd_T35 l0 x13_1).f4.f1.f0),.int .u64 ((rd_T35 l0 x13_1).f4.f1.f1),.int .i64 ((rd_T35 l0 x13_1).f4.f2),.int .u8 ((rd_T35 l0 x13_1).f5.f0),.int .i64 ((rd_T35 l0 x13_1).f5.f1),.int .i64 ((rd_T35 l0 x13_1).f6),.int .i64 ((rd_T35 l0 x13_1).f7)]] rfl gS ?_;(with_reducible refine (spoorref11_Put.calls k1 ((rd_T35 l0 x13_1).f0) ((rd_T35 l0 x13_1).f1) ((rd_T35 l0 x13_1).f2) ((rd_T35 l0 x13_1).f3) ((rd_T35 l0 x13_1).f4.f0) ((rd_T35 l0 x13_1).f4.f1.f0) ((rd_T35 l0 x13_1).f4.f1.f1) ((rd_T35 l0 x13_1).f4.f2) ((rd_T35 l0 x13_1).f5.f0) ((rd_T35 l0 x13_1).f5.f1) ((rd_T35 l0 x13_1).f6) ((rd_T35 l0 x13_1).f7) t381 t382 _ A5.out).mono ?_);rintro e w15 ⟨rfl,hb⟩;refine⟨_,rfl,?_⟩;have n0_:=Ax (blk_below (g:=gb380) (o:=.cells #[.int .u8 ((rd_T35 l0 x13_1).f0),.int .i64 ((rd_T35 l0 x13_1).f1),.int .u64 ((rd_T35 l0 x13_1).f2),.int .i64 ((rd_T35 l0 x13_1).f3),.bool ((rd_T35 l0 x13_1).f4.f0),.int .u64 ((rd_T35 l0 x13_1).f4.f1.f0),.int .u64 ((rd_T35 l0 x13_1).f4.f1.f1),.int .i64 ((rd_T35 l0 x13_1).f4.f2),.int .u8 ((rd_T35 l0 x13_1).f5.f0),.int .i64 ((rd_T35 l0 x13_1).f5.f1),.int .i64 ((rd_T35 l0 x13_1).f6),.int .i64 ((rd_T35 l0 x13_1).f7)] 35 (0,0)) (gB BK380.out) hb);have n1_:=Bs1 HB hb GE380.out;clear BK380;clear HB;have BK380:=n0_;have HB:=n1_;clear n0_ n1_;(try clear hb)));go_ret2;exact⟨eS,bw1 HB.out GE380.out⟩
     ·rw [if_neg c4]at H;exact absurd H (by simp)
    ·rw [if_neg c3]at H;exact absurd H (by simp)
   ·rw [if_neg c2]at H;have c2b0:decide (x13_1<(l0.length:Int))=false:=decide_eq_false c2;clear c2;simp only[Option.some.injEq,Prod.mk.injEq]at H;obtain⟨rfl,rfl⟩:=H;go_wp2;go_ret2;exact⟨eS,bw0 HB.out⟩
def spoorlaw13_GramStreams.f (k:Nat) (l0:List (S35)):Option (Bool):=(gram_Stream.f k l0).bind fun bt385=>((spoorref13_Stream.f k l0).bind fun bt387=>((spoorlaw13_lives.f k).bind fun t389=>(if t389=true then (if bt385.1.toList=bt387.1.toList then (some (bt385.2==bt387.2)) else (none)) else (none))))
set_option maxHeartbeats 8000000 in
set_option maxRecDepth 100000 in
theorem spoorlaw13_GramStreams.calls (k:Nat) (A0:Option Addr) (c0:Nat) (l0:List (S35)) (r:Bool) (w:World) (hr0:Kd.C k35 w A0 l0.length l0) (hc0:l0.length≤c0) (h:spoorlaw13_GramStreams.f k l0=some r):
  Calls Try.prog 4 #[.slice A0 l0.length c0] w fun e w'=>e= .returned (.bool r)∧Below w.heap.size w w':=by
 have HR0:=Ax hr0;have HC0:=Ax hc0;clear hr0 hc0;have HB:=Ax (Below.refl w.heap.size w);have H:((gram_Stream.f k l0).bind fun bt385=>((spoorref13_Stream.f k l0).bind fun bt387=>((spoorlaw13_lives.f k).bind fun t389=>(if t389=true then (if bt385.1.toList=bt387.1.toList then (some (bt385.2==bt387.2)) else (none)) else (none)))))=some r:=h;clear h;replace H:=Option.bind_eq_some_iff.mp H;obtain⟨⟨t385,t386⟩,A20,H⟩:=H;replace H:((spoorref13_Stream.f k l0).bind fun bt387=>((spoorlaw13_lives.f k).bind fun t389=>(if t389=true then (if t385.toList=bt387.1.toList then (some (t386==bt387.2)) else (none)) else (none))))=some r:=H;have A2:=Ax A20;clear A20;replace H:=Option.bind_eq_some_iff.mp H;obtain⟨⟨t387,t388⟩,A30,H⟩:=H;replace H:((spoorlaw13_lives.f k).bind fun t389=>(if t389=true then (if t385.toList=t387.toList then (some (t386==t388)) else (none)) else (none)))=some r:=H;have A3:=Ax A30;clear A30;replace H:=Option.bind_eq_some_iff.mp H;obtain⟨t389,A40,H⟩:=H;replace H:(if t389=true then (if t385.toList=t387.toList then (some (t386==t388)) else (none)) else (none))=some r:=H;have A4:=Ax A40;clear A40;by_cases c5:t389=true
 ·subst c5;have H1:(if t385.toList=t387.toList then (some (t386==t388)) else (none))=some r:=by rw [if_pos rfl]at H;exact H
  clear H;have H:=H1;clear H1;by_cases c6:t385.toList=t387.toList;·rw [if_pos c6]at H;have c6b0:(t385.toList==t387.toList)=true:=beq_iff_eq.mpr c6;have c6b1:(t385.toList !=t387.toList)=false:=bne_eq_false_iff_eq.mpr c6;clear c6;obtain rfl:=Option.some.inj H;go_enter Try.func4,Try.ntmps4;go_wp2_with (first|((with_reducible refine gate_callee (f:=17) rfl ?_);refine goesL_ (some 9) rfl rfl Try.func17 (by kernel_rfl) rfl #[.slice A0 l0.length c0] rfl gS ?_;(with_reducible refine (gram_Stream.calls k _ _ l0 t385 t386 _ ?side1 ?side2 A2.out).mono ?_);(case side1=>repeat (first|exact HR0.out|(with_reducible refine Kd.C_alloc ?_ _)|(with_reducible refine Kd.C_drewN ?_ _)|(with_reducible refine Kd.C_drew ?_)));(case side2=>exact HC0.out);rintro e w7 ⟨rfl,hb⟩;refine⟨_,rfl,?_⟩;replace HB:=Bs0 HB hb;(try clear hb))|((with_reducible refine gate_callee (f:=18) rfl ?_);refine goesL_ (some 14) rfl rfl Try.func18 (by kernel_rfl) rfl #[.slice A0 l0.length c0] rfl gS ?_;(with_reducible refine (spoorref13_Stream.calls k _ _ l0 t387 t388 _ ?side1 ?side2 A3.out).mono ?_);(case side1=>repeat (first|exact (Kd.C_below HR0.out HB.out)|(with_reducible refine Kd.C_alloc ?_ _)|(with_reducible refine Kd.C_drewN ?_ _)|(with_reducible refine Kd.C_drew ?_)));(case side2=>exact HC0.out);rintro e w8 ⟨rfl,hb⟩;refine⟨_,rfl,?_⟩;replace HB:=Bs0 HB hb;(try clear hb))|((with_reducible refine gate_callee (f:=10) rfl ?_);refine goesL_ (some 17) rfl rfl Try.func10 (by kernel_rfl) rfl #[] rfl gS ?_;(with_reducible refine (spoorlaw13_lives.calls k  true _ A4.out).mono ?_);rintro e w9 ⟨rfl,hb⟩;refine⟨_,rfl,?_⟩;replace HB:=Bs0 HB hb;(try clear hb)));go_ret;exact⟨eS,bw0 HB.out⟩
  ·rw [if_neg c6]at H;exact absurd H (by simp)
 ·replace c5:=Bool.eq_false_iff.mpr c5;subst c5;have H1:(none)=some r:=by rw [if_neg (show ¬ (false=true) by decide)]at H;exact H
  clear H;have H:=H1;clear H1;exact absurd H (by simp)
def IsS95 (w0 W:World) (g:Nat) (f0:ByteArray) (f1:Bool):Prop:=W.heap[g]? =some (.cells #[.string f0,.bool f1] 95 (0,0))∧w0.heap.size≤g
theorem IsS95.grown {w0 W:World}{g:Nat}{f0:ByteArray}{f1:Bool}{W1:World}{row:Option Nat} (h:IsS95 w0 W g f0 f1) (hw:W.grownBy W1 row) (hne:some g≠row):IsS95 w0 W1 g f0 f1:=by
 obtain⟨hb,hg⟩:=h;exact⟨blk_grown hb hw hne,hg⟩
theorem IsS95.kept {w0 W:World}{g:Nat}{f0:ByteArray}{f1:Bool}{W1:World}{S:Nat→Prop} (h:IsS95 w0 W g f0 f1) (hk:Kept W W1 S) (hne: ¬ S g):IsS95 w0 W1 g f0 f1:=by
 obtain⟨hb,hg⟩:=h;exact⟨blk_kept hb hk hne,hg⟩
theorem IsS95.below {w0 W:World}{g:Nat}{f0:ByteArray}{f1:Bool}{W1:World} (h:IsS95 w0 W g f0 f1) (hw:Below W.heap.size W W1):IsS95 w0 W1 g f0 f1:=h.grown (grown_of_below hw none) (by simp)
theorem IsS95.alloc {w0 W:World}{g:Nat}{f0:ByteArray}{f1:Bool} (h:IsS95 w0 W g f0 f1) (o:Obj):IsS95 w0 (W.alloc o) g f0 f1:=h.below (below_alloc (Below.refl _ _) o)
theorem IsS95.drewN {w0 W:World}{g:Nat}{f0:ByteArray}{f1:Bool} (h:IsS95 w0 W g f0 f1) (m:Nat):IsS95 w0 (W.drewN m) g f0 f1:=h
theorem IsS95.drew {w0 W:World}{g:Nat}{f0:ByteArray}{f1:Bool} (h:IsS95 w0 W g f0 f1):IsS95 w0 W.drew g f0 f1:=h
theorem IsS95.at_ {w0 W:World}{g:Nat}{f0:ByteArray}{f1:Bool}{w':World}{m:Nat} (hq:W.drewN m=w') (h:IsS95 w0 W g f0 f1):IsS95 w0 w' g f0 f1:=by subst hq;exact IsS95.drewN h m
theorem IsS95.apart {w0 W:World}{g:Nat}{f0:ByteArray}{f1:Bool}{α:Type}{d:Kd α}{e:Nat}{base:Nat}{ok:Nat→Prop}{v:Value}{xs:List α} (h:IsS95 w0 W g f0 f1) (ho:d.R e W base ok v xs) (ht: ∀ q,q∈e :: d.E→q≠95):d.R e W base (fun k=>ok k∧k≠g) v xs:=by
 obtain⟨hb,hg⟩:=h;exact Kd.R_types ho hb ht
theorem IsS95.own_ne {w0 W:World}{g:Nat}{f0:ByteArray}{f1:Bool}{α:Type}{d:Kd α}{e:Nat}{base:Nat}{ok:Nat→Prop}{v:Value}{xs:List α} (h:IsS95 w0 W g f0 f1) (ho:d.R e W base ok v xs) (ht:e≠95):some g≠v.ownBlock:=by
 obtain⟨hb,hg⟩:=h;exact Kd.R_ne ho hb ht
theorem IsS95.lt {w0 W:World}{g:Nat}{f0:ByteArray}{f1:Bool} (h:IsS95 w0 W g f0 f1):g<W.heap.size:=by
 obtain⟨hb,hg⟩:=h;exact blk_lt hb
theorem IsS95.ge {w0 W:World}{g:Nat}{f0:ByteArray}{f1:Bool} (h:IsS95 w0 W g f0 f1):w0.heap.size≤g:=by
 obtain⟨hb,hg⟩:=h;exact hg
theorem IsS95.far {w0 W:World}{g:Nat}{f0:ByteArray}{f1:Bool}{p:Addr} (h:IsS95 w0 W g f0 f1) (hne:g≠p.block) (u:Value):IsS95 w0 (W.setCell p u) g f0 f1:=by
 obtain⟨hb,hg⟩:=h;exact⟨blk_far hb hne u,hg⟩
theorem IsS95.set_0 {w0 W:World}{g:Nat}{f0:ByteArray}{f1:Bool} (h:IsS95 w0 W g f0 f1) (x:ByteArray):IsS95 w0 (W.setCell ⟨g,0,none⟩ (.string x)) g x f1:=by
 obtain⟨hb,hg⟩:=h;exact⟨by simpa using blk_set hb 0 (.string x),hg⟩
theorem IsS95.set_1 {w0 W:World}{g:Nat}{f0:ByteArray}{f1:Bool} (h:IsS95 w0 W g f0 f1) (x:Bool):IsS95 w0 (W.setCell ⟨g,1,none⟩ (.bool x)) g f0 x:=by
 obtain⟨hb,hg⟩:=h;exact⟨by simpa using blk_set hb 1 (.bool x),hg⟩
theorem IsS95.new (w0 W:World) (f0:ByteArray) (f1:Bool) (hB:Below w0.heap.size w0 W):IsS95 w0 (W.alloc (.cells #[.string f0,.bool f1] 95)) W.heap.size f0 f1:=⟨by simpa using heap_alloc_new W _,hB.size⟩
end Go.Proofs.Ythkdfojmhloofaa.Q
end
section
namespace Go.Proofs.Ythkdfojmhloofaa.Open
set_option linter.unusedVariables false
open Go.RowKit Go.WideShapes Go.Proofs.YthkdfojmhloofaaW.PrintWords Go.Proofs.YthkdfojmhloofaaW.PrintLast Go.Proofs.YthkdfojmhloofaaW.PrintMore
open Go.Proofs.Ythkdfojmhloofaa.Rows (uptoBulk uptoBulkAll)
def Opens {α : Type} (P : Program) (t : TypeId) (K : Kd α) (wf : α → Prop) (mu : α → Nat) : Prop :=
  ∀ {H : Type} (enc : TypeId × Value → H) (W : World) (spare : Nat → Bool) (held : Bool) (n : Nat) (cs : List Value) (x : DataW H × List MemPlace),
    DataW.trod enc P W 0 spare held n t cs = some x → ∃ a, K.K W a cs ∧ wf a ∧ mu a ≤ uptoBulk x.1
def wfInt (k:IntKind) (n:Int):Prop:=(Lit.int k n).wf=true
def wfAny {α:Type} (_:α):Prop:=True
def wfAll {α:Type} (wf:α→Prop) (l:List α):Prop:= ∀ a∈l,wf a
def mu1 {α:Type} (_:α):Nat:=1
def muAll {α : Type} (mu : α → Nat) : List α → Nat
  | [] => 1
  | a :: l => mu a + muAll mu l
theorem wfAll_nil {α:Type} (wf:α→Prop):wfAll wf []:=fun _ h=>by cases h
theorem opens_int {P:Program}{t:TypeId}{k:IntKind} (hu:P.underlying t=some (.int k)):Opens P t (Kd.int k) (wfInt k) mu1:=by
  intro H enc W spare held n cs x h;obtain⟨a,rfl,rfl,hw⟩:=DataW.trod_int hu h;exact⟨a,rfl,hw,by simp [mu1,uptoBulk]⟩
theorem opens_bool {P:Program}{t:TypeId} (hu:P.underlying t=some .bool):Opens P t Kd.bool wfAny mu1:=by
  intro H enc W spare held n cs x h;obtain⟨a,rfl,rfl⟩:=DataW.trod_bool hu h;exact⟨a,rfl,trivial,by simp [mu1,uptoBulk]⟩
theorem opens_list {α H:Type}{P:Program}{e:TypeId}{K:Kd α}{wf:α→Prop}{mu:α→Nat} (he:Opens P e K wf mu) (enc:TypeId × Value→H) (W:World) (spare:Nat→Bool) (held:Bool) (n:Nat) (rd:Nat→Option (List Value)):
    ∀ (elems:List (DataW H × List MemPlace)) (off:Nat),(∀ i,i<elems.length→(rd (off+i)).bind (DataW.trod enc P W 0 spare held n e)=elems[i]?)→
      ∃ l:List α,l.length=elems.length∧(∀ i a,l[i]? =some a→ ∃ cs,rd (off+i)=some cs∧K.K W a cs)∧wfAll wf l∧muAll mu l≤uptoBulkAll (elems.map (·.1))+1
  | [],off,_=>⟨[],rfl,(fun i a h=>by simp at h),wfAll_nil _,by simp [muAll,uptoBulkAll]⟩
  |x :: elems,off,h=>by
    have h0:=h 0 (by simp);simp only[Nat.add_zero,List.getElem?_cons_zero]at h0;obtain⟨cs,hc,ht⟩:=Option.bind_eq_some_iff.1 h0;obtain⟨a,hK,hw,hm⟩:=he enc W spare held n cs x ht
    obtain⟨l,hl,hr,hwf,hmu⟩:=opens_list he enc W spare held n rd elems (off+1) (fun i hi=>by
      have:=h (i+1) (by simp;omega);rw [List.getElem?_cons_succ]at this
      rwa [show off+1+i=off+(i+1) by omega])
    refine⟨a :: l,by simp [hl],?_,?_,?_⟩
    · intro i b hb;cases i with
      |zero=>
        obtain rfl:a=b:=by simpa using hb
        exact⟨cs,hc,hK⟩
      |succ i=>
        rw [List.getElem?_cons_succ]at hb;obtain⟨cs',h1,h2⟩:=hr i b hb;exact⟨cs',by rwa [show off+(i+1)=off+1+i by omega],h2⟩
    · intro b hb;rcases List.mem_cons.1 hb with rfl|hb
      · exact hw
      · exact hwf b hb
    ·simp only[muAll,List.map_cons,uptoBulkAll];omega
theorem cells_some {W:World}{ad:Addr}{n:Nat}{cs:List Value} (h:W.cells? 0 ad n=some cs):cs.length=n∧ ∀ i u,cs[i]? =some u→W.cell? (ad.add i)=some u:=by
  obtain⟨_,hl,hc⟩:=World.cells?_some h;refine⟨hl,fun i u hi=>?_⟩;rw [hc i (by rw [← hl];exact (List.getElem?_eq_some_iff.1 hi).1)];exact hi
theorem opens_slice {α:Type}{P:Program}{t e:TypeId}{K:Kd α}{wf:α→Prop}{mu:α→Nat} (he:Opens P e K wf mu) (hu:P.underlying t=some (.slice e)) (hsz:P.cellsOf e=K.sz) (e':Nat):
    Opens P t (Kd.slice e' K) (fun l=>wfAll wf l∧l.length≤maxLen) (muAll mu):=by
  intro H enc W spare held n cs x h;rcases DataW.trod_slice hu h with ⟨rfl,rfl⟩|⟨a,len,cap,elems,rest,m,rfl,rfl,rfl,_,hlc,hcm,hel,hrd,_,_⟩
  · exact⟨[],⟨none,0,rfl,Nat.le_refl _,rfl,Nat.zero_le _,fun h=>absurd h (Nat.lt_irrefl _)⟩,⟨wfAll_nil _,by simp⟩,by simp [muAll,uptoBulk]⟩
  · obtain⟨l,hl,hr,hw,hm⟩:=opens_list he enc W spare held m (fun i=>W.cells? 0 (a.add (i * P.cellsOf e)) (P.cellsOf e)) elems 0 (fun i hi=>by
      rw [Nat.zero_add]
      exact hrd i (by omega))
    refine⟨l,⟨some a,cap,by rw [hl,hel],by omega,?_⟩,⟨hw,by omega⟩,?_⟩
    · refine⟨rfl,by simp only[maxLen]at hcm;omega,fun _=>⟨a,rfl,fun j p hp=>?_⟩⟩;obtain⟨cs,hc,hK⟩:=hr j p hp;rw [Nat.zero_add]at hc;obtain⟨h1,h2⟩:=cells_some hc;refine⟨cs,by rw [h1,hsz],hK,fun i u hi=>?_⟩;have:=h2 i u hi
      rwa [Addr.add_add,hsz]at this
    ·simp only[uptoBulk];omega
theorem sized_row {H:Type}{enc:TypeId × Value→H}{P:Program}{W:World}{base:Nat}{spare:Nat→Bool}{held:Bool}{t e:TypeId}{a:Option Addr}{len cap:Nat}{d:DataW H}{ps:List MemPlace}{ts:List TypeId}{ds:List (DataW H)}{j:Nat}
    (hsz:(DataW.weightsEach P ts ds).all (· ≤reachBytes)=true) (ht:ts[j]? =some t) (hd:ds[j]? =some d) (hu:P.underlying t=some (.slice e)) {B:Nat} (hB:P.bytesOf e=B)
    (h:DataW.Trod enc P W base spare held t (.slice a len cap) d ps):len * B≤140737488351232:=by
  obtain⟨fuel,hf⟩:=h;rcases DataW.trod_slice hu hf with ⟨hcs,_⟩|⟨a',len',cap',elems,rest,m,_,hcs,hx,_,hlc,hcm,hel,hrd,_,_⟩
  ·simp [Value.cells]at hcs;obtain⟨rfl,rfl,rfl⟩:=hcs;simp
  ·simp [Value.cells]at hcs;obtain⟨rfl,rfl,rfl⟩:=hcs;obtain⟨hx,_⟩:=Prod.mk.inj hx;subst hx;have z:=sized_slice hsz ht hd hu;rw [hB]at z;exact Nat.le_trans (Nat.mul_le_mul_right _ (by simp only[List.length_map];omega)) z
end Go.Proofs.Ythkdfojmhloofaa.Open
end
section
namespace Go.Proofs.Ythkdfojmhloofaa.Q
set_option linter.unusedVariables false
set_option linter.unusedSimpArgs false
open Go.RowKit Go.Proofs.YthkdfojmhloofaaW.PrintWords Go.Proofs.YthkdfojmhloofaaW.PrintLast Go.Proofs.YthkdfojmhloofaaW.PrintMore Go.Proofs.Ythkdfojmhloofaa.Open
open Go.Proofs.Ythkdfojmhloofaa.Rows (uptoBulk uptoBulkAll)
def wf28 (x:S28):Prop:=(wfInt .u64) x.f0∧(wfInt .u64) x.f1
def mu28 (x:S28):Nat:=mu1 x.f0+mu1 x.f1+1
set_option maxRecDepth 100000 in
theorem opn28:Opens Try.prog 28 k28 wf28 mu28:=by
  intro H enc W spare held n cs x h;obtain⟨xs,m,rfl,rfl,hl,hs,hf⟩:=DataW.trod_struct Try.underlying28 h;have hc:cs.length=2:=hl.trans (by kernel_rfl);have hx:xs.length=2:=hs;clear hl hs h
  match cs,hc,xs,hx,hf with
  | [c0,c1],_, [y0,y1],_,hf=>
    have e0:Try.prog.cellsOf 26=1:=by kernel_rfl
    have e1:Try.prog.cellsOf 26=1:=by kernel_rfl
    have g0:=hf 0 _ rfl;simp only[List.getElem_toArray,List.getElem_cons_zero,List.getElem_cons_succ,e0]at g0;obtain⟨a0,K0,w0,m0⟩:=(opens_int Try.underlying26) enc W spare held m [c0] y0 g0;have g1:=hf 1 _ rfl;simp only[List.getElem_toArray,List.getElem_cons_zero,List.getElem_cons_succ,e1]at g1;obtain⟨a1,K1,w1,m1⟩:=(opens_int Try.underlying26) enc W spare held m [c1] y1 g1;exact⟨⟨a0,a1⟩,⟨[c0], [c1],rfl,K0,K1⟩,⟨w0,w1⟩,by simp only[mu28,List.map_cons,List.map_nil,uptoBulk,uptoBulkAll];omega⟩
def wf30 (x:S30):Prop:=wfAny x.f0∧wf28 x.f1∧(wfInt .i64) x.f2
def mu30 (x:S30):Nat:=mu1 x.f0+mu28 x.f1+mu1 x.f2+1
set_option maxRecDepth 100000 in
theorem opn30:Opens Try.prog 30 k30 wf30 mu30:=by
  intro H enc W spare held n cs x h;obtain⟨xs,m,rfl,rfl,hl,hs,hf⟩:=DataW.trod_struct Try.underlying30 h;have hc:cs.length=4:=hl.trans (by kernel_rfl);have hx:xs.length=3:=hs;clear hl hs h
  match cs,hc,xs,hx,hf with
  | [c0,c1,c2,c3],_, [y0,y1,y2],_,hf=>
    have e0:Try.prog.cellsOf 4=1:=by kernel_rfl
    have e1:Try.prog.cellsOf 28=2:=by kernel_rfl
    have e2:Try.prog.cellsOf 3=1:=by kernel_rfl
    have g0:=hf 0 _ rfl;simp only[List.getElem_toArray,List.getElem_cons_zero,List.getElem_cons_succ,e0]at g0;obtain⟨a0,K0,w0,m0⟩:=(opens_bool Try.underlying4) enc W spare held m [c0] y0 g0;have g1:=hf 1 _ rfl;simp only[List.getElem_toArray,List.getElem_cons_zero,List.getElem_cons_succ,e1]at g1;obtain⟨a1,K1,w1,m1⟩:=opn28 enc W spare held m [c1,c2] y1 g1;have g2:=hf 2 _ rfl;simp only[List.getElem_toArray,List.getElem_cons_zero,List.getElem_cons_succ,e2]at g2;obtain⟨a2,K2,w2,m2⟩:=(opens_int Try.underlying3) enc W spare held m [c3] y2 g2;exact⟨⟨a0,a1,a2⟩,⟨[c0], [c1,c2,c3],rfl,K0,⟨[c1,c2], [c3],rfl,K1,K2⟩⟩,⟨w0,w1,w2⟩,by simp only[mu30,List.map_cons,List.map_nil,uptoBulk,uptoBulkAll];omega⟩
def wf33 (x:S33):Prop:=(wfInt .u8) x.f0∧(wfInt .i64) x.f1
def mu33 (x:S33):Nat:=mu1 x.f0+mu1 x.f1+1
set_option maxRecDepth 100000 in
theorem opn33:Opens Try.prog 33 k33 wf33 mu33:=by
  intro H enc W spare held n cs x h;obtain⟨xs,m,rfl,rfl,hl,hs,hf⟩:=DataW.trod_struct Try.underlying33 h;have hc:cs.length=2:=hl.trans (by kernel_rfl);have hx:xs.length=2:=hs;clear hl hs h
  match cs,hc,xs,hx,hf with
  | [c0,c1],_, [y0,y1],_,hf=>
    have e0:Try.prog.cellsOf 31=1:=by kernel_rfl
    have e1:Try.prog.cellsOf 3=1:=by kernel_rfl
    have g0:=hf 0 _ rfl;simp only[List.getElem_toArray,List.getElem_cons_zero,List.getElem_cons_succ,e0]at g0;obtain⟨a0,K0,w0,m0⟩:=(opens_int Try.underlying31) enc W spare held m [c0] y0 g0;have g1:=hf 1 _ rfl;simp only[List.getElem_toArray,List.getElem_cons_zero,List.getElem_cons_succ,e1]at g1;obtain⟨a1,K1,w1,m1⟩:=(opens_int Try.underlying3) enc W spare held m [c1] y1 g1;exact⟨⟨a0,a1⟩,⟨[c0], [c1],rfl,K0,K1⟩,⟨w0,w1⟩,by simp only[mu33,List.map_cons,List.map_nil,uptoBulk,uptoBulkAll];omega⟩
def wf35 (x:S35):Prop:=(wfInt .u8) x.f0∧(wfInt .i64) x.f1∧(wfInt .u64) x.f2∧(wfInt .i64) x.f3∧wf30 x.f4∧wf33 x.f5∧(wfInt .i64) x.f6∧(wfInt .i64) x.f7
def mu35 (x:S35):Nat:=mu1 x.f0+mu1 x.f1+mu1 x.f2+mu1 x.f3+mu30 x.f4+mu33 x.f5+mu1 x.f6+mu1 x.f7+1
set_option maxRecDepth 100000 in
theorem opn35:Opens Try.prog 35 k35 wf35 mu35:=by
  intro H enc W spare held n cs x h;obtain⟨xs,m,rfl,rfl,hl,hs,hf⟩:=DataW.trod_struct Try.underlying35 h;have hc:cs.length=12:=hl.trans (by kernel_rfl);have hx:xs.length=8:=hs;clear hl hs h
  match cs,hc,xs,hx,hf with
  | [c0,c1,c2,c3,c4,c5,c6,c7,c8,c9,c10,c11],_, [y0,y1,y2,y3,y4,y5,y6,y7],_,hf=>
    have e0:Try.prog.cellsOf 25=1:=by kernel_rfl
    have e1:Try.prog.cellsOf 3=1:=by kernel_rfl
    have e2:Try.prog.cellsOf 26=1:=by kernel_rfl
    have e3:Try.prog.cellsOf 2=1:=by kernel_rfl
    have e4:Try.prog.cellsOf 30=4:=by kernel_rfl
    have e5:Try.prog.cellsOf 33=2:=by kernel_rfl
    have e6:Try.prog.cellsOf 3=1:=by kernel_rfl
    have e7:Try.prog.cellsOf 3=1:=by kernel_rfl
    have g0:=hf 0 _ rfl;simp only[List.getElem_toArray,List.getElem_cons_zero,List.getElem_cons_succ,e0]at g0;obtain⟨a0,K0,w0,m0⟩:=(opens_int Try.underlying25) enc W spare held m [c0] y0 g0;have g1:=hf 1 _ rfl;simp only[List.getElem_toArray,List.getElem_cons_zero,List.getElem_cons_succ,e1]at g1;obtain⟨a1,K1,w1,m1⟩:=(opens_int Try.underlying3) enc W spare held m [c1] y1 g1;have g2:=hf 2 _ rfl;simp only[List.getElem_toArray,List.getElem_cons_zero,List.getElem_cons_succ,e2]at g2;obtain⟨a2,K2,w2,m2⟩:=(opens_int Try.underlying26) enc W spare held m [c2] y2 g2;have g3:=hf 3 _ rfl;simp only[List.getElem_toArray,List.getElem_cons_zero,List.getElem_cons_succ,e3]at g3;obtain⟨a3,K3,w3,m3⟩:=(opens_int Try.underlying2) enc W spare held m [c3] y3 g3;have g4:=hf 4 _ rfl;simp only[List.getElem_toArray,List.getElem_cons_zero,List.getElem_cons_succ,e4]at g4;obtain⟨a4,K4,w4,m4⟩:=opn30 enc W spare held m [c4,c5,c6,c7] y4 g4;have g5:=hf 5 _ rfl;simp only[List.getElem_toArray,List.getElem_cons_zero,List.getElem_cons_succ,e5]at g5;obtain⟨a5,K5,w5,m5⟩:=opn33 enc W spare held m [c8,c9] y5 g5;have g6:=hf 6 _ rfl;simp only[List.getElem_toArray,List.getElem_cons_zero,List.getElem_cons_succ,e6]at g6;obtain⟨a6,K6,w6,m6⟩:=(opens_int Try.underlying3) enc W spare held m [c10] y6 g6;have g7:=hf 7 _ rfl;simp only[List.getElem_toArray,List.getElem_cons_zero,List.getElem_cons_succ,e7]at g7;obtain⟨a7,K7,w7,m7⟩:=(opens_int Try.underlying3) enc W spare held m [c11] y7 g7;exact⟨⟨a0,a1,a2,a3,a4,a5,a6,a7⟩,⟨[c0], [c1,c2,c3,c4,c5,c6,c7,c8,c9,c10,c11],rfl,K0,⟨[c1], [c2,c3,c4,c5,c6,c7,c8,c9,c10,c11],rfl,K1,⟨[c2], [c3,c4,c5,c6,c7,c8,c9,c10,c11],rfl,K2,⟨[c3], [c4,c5,c6,c7,c8,c9,c10,c11],rfl,K3,⟨[c4,c5,c6,c7], [c8,c9,c10,c11],rfl,K4,⟨[c8,c9], [c10,c11],rfl,K5,⟨[c10], [c11],rfl,K6,K7⟩⟩⟩⟩⟩⟩⟩,⟨w0,w1,w2,w3,w4,w5,w6,w7⟩,by simp only[mu35,List.map_cons,List.map_nil,uptoBulk,uptoBulkAll];omega⟩
end Go.Proofs.Ythkdfojmhloofaa.Q
end
section
namespace Go.Proofs.Ythkdfojmhloofaa.Q
set_option linter.unusedVariables false
open Go.RowKit Go.Proofs.YthkdfojmhloofaaW.PrintWords Go.Proofs.YthkdfojmhloofaaW.PrintLast Go.Proofs.YthkdfojmhloofaaW.PrintMore Go.Proofs.Ythkdfojmhloofaa.Open
def spoorlaw13_GramStreams.Pure:Prop:= ∀ (l0:List (S35)),(fun l=>wfAll wf35 l∧l.length≤maxLen) l0→l0.length * 96≤140737488351232→ ∃ k,spoorlaw13_GramStreams.f k l0=some true
end Go.Proofs.Ythkdfojmhloofaa.Q
end
section
namespace Go.Proofs.Ythkdfojmhloofaa.Base
set_option linter.unusedVariables false
open Go.RowKit Go.Proofs.YthkdfojmhloofaaW.PrintWords Go.Proofs.YthkdfojmhloofaaW.PrintLast Go.Proofs.YthkdfojmhloofaaW.PrintMore
theorem Ev.pos {α:Type}{c:Prop} [Decidable c] {f g:Nat→Option α}{r:α} (h:c) (k:Ev f r):Ev (fun n=>if c then f n else g n) r:=Ev.congr (fun _=>if_pos h) k
theorem Ev.neg {α:Type}{c:Prop} [Decidable c] {f g:Nat→Option α}{r:α} (h: ¬ c) (k:Ev g r):Ev (fun n=>if c then f n else g n) r:=Ev.congr (fun _=>if_neg h) k
theorem Ev.const {α:Type}{o:Option α}{r:α} (h:o=some r):Ev (fun _=>o) r:=⟨0,fun _ _=>h⟩
theorem Ev.succ {α:Type}{g:Nat→Option α}{r:α} (h:Ev (fun k=>g (k+1)) r):Ev g r:=Ev.step (fun _=>rfl) h
theorem Ev.to {α:Type}{g:Nat→Option α}{r q:α} (h:Ev g r) (e:r=q):Ev g q:=e▸h
theorem w64 {n:Int} (h0: -9223372036854775808≤n) (h1:n≤9223372036854775807):wrap64 n=n:=by unfold wrap64;omega
theorem u64w {n:Int} (h0:0≤n) (h1:n<18446744073709551616):IntKind.u64.wrap n=n:=by
  simp [IntKind.wrap,IntKind.bits,IntKind.signed];omega
theorem u64m (n:Int):IntKind.u64.wrap n=n % 18446744073709551616:=by simp [IntKind.wrap,IntKind.bits,IntKind.signed]
theorem wf_u64 {n:Int} (h:(Lit.int .u64 n).wf=true):0≤n∧n<18446744073709551616:=by
  have h1:IntKind.u64.min≤n∧n≤IntKind.u64.max:=by simpa [Lit.wf] using h
  have a:IntKind.u64.min=0:=by decide
  have b:IntKind.u64.max=18446744073709551615:=by decide
  omega
def Bytes (l:List Int):Prop:= ∀ x∈l,0≤x∧x<256
theorem Bytes.nil:Bytes []:=fun _ h=>by cases h
theorem Bytes.cons {x:Int}{l:List Int} (h0:0≤x) (h1:x<256) (h:Bytes l):Bytes (x :: l):=fun y hy=>by
  rcases List.mem_cons.1 hy with rfl|hy
  · exact⟨h0,h1⟩
  · exact h y hy
theorem Bytes.head {x:Int}{l:List Int} (h:Bytes (x :: l)):0≤x∧x<256:=h x (by simp)
theorem Bytes.append {a b:List Int} (ha:Bytes a) (hb:Bytes b):Bytes (a++b):=fun x hx=>(List.mem_append.1 hx).elim (ha x) (hb x)
theorem Bytes.left {a b:List Int} (h:Bytes (a++b)):Bytes a:=fun x hx=>h x (by simp [hx])
theorem Bytes.right {a b:List Int} (h:Bytes (a++b)):Bytes b:=fun x hx=>h x (by simp [hx])
theorem Bytes.drop {l:List Int} (h:Bytes l) (n:Nat):Bytes (l.drop n):=fun x hx=>h x (List.mem_of_mem_drop hx)
theorem Bytes.take {l:List Int} (h:Bytes l) (n:Nat):Bytes (l.take n):=fun x hx=>h x (List.mem_of_mem_take hx)
theorem str_ext {a b:ByteArray} (h:a.data.toList=b.data.toList):a=b:=by
  cases a with|mk a=>cases b with|mk b=>
  have:a=b:=Array.toList_inj.mp h;rw [this]
theorem str_bytes (s:ByteArray):strOfNums (bytesOf s)=s:=by
  refine str_ext ?_;rw [strOfNums_data,bytesOf,List.map_map]
  conv=>rhs;rw [← List.map_id s.data.toList]
  refine List.map_congr_left fun b _=>?_
  simp
theorem bytes_str {l:List Int} (h:Bytes l):bytesOf (strOfNums l)=l:=by
  rw [bytesOf,strOfNums_data,List.map_map]
  conv=>rhs;rw [← List.map_id l]
  refine List.map_congr_left fun x hx=>?_
  obtain⟨h0,h1⟩:=h x hx;simp;omega
theorem str_append (a b:List Int):strOfNums (a++b)=strOfNums a++strOfNums b:=by
  refine str_ext ?_;rw [ByteArray.data_append,Array.toList_append,strOfNums_data,strOfNums_data,strOfNums_data,List.map_append]
theorem bytes_extract (s:ByteArray) (i j:Nat):bytesOf (s.extract i j)=((bytesOf s).take j).drop i:=by
  unfold bytesOf;rw [ByteArray.data_extract,Array.toList_extract,List.extract_eq_take_drop,List.map_take,List.map_drop,List.drop_take]
theorem bytes_from (s:ByteArray) (i:Nat):bytesOf (s.extract i s.size)=(bytesOf s).drop i:=by
  rw [bytes_extract,List.take_of_length_le (by rw [bytesOf_length];exact Nat.le_refl _)]
theorem str_from (s:ByteArray) (i:Nat):s.extract i s.size=strOfNums ((bytesOf s).drop i):=by rw [← bytes_from,str_bytes]
theorem str_part (s:ByteArray) (i j:Nat):s.extract i j=strOfNums (((bytesOf s).take j).drop i):=by rw [← bytes_extract,str_bytes]
theorem rd_drop {l:List Int}{i:Nat}{x:Int}{r:List Int} (h:l.drop i=x :: r):rd l (i:Int)=x:=by
  have h1:l[i]? =some x:=by
    have:=List.getElem?_drop (xs:=l) (i:=i) (j:=0);rw [h]at this
    simpa using this.symm
  simp [rd,List.getD_eq_getElem?_getD,h1]
theorem drop_lt {l:List Int}{i:Nat}{x:Int}{r:List Int} (h:l.drop i=x :: r):i<l.length:=by
  rcases Nat.lt_or_ge i l.length with g|g
  · exact g
  · rw [List.drop_eq_nil_of_le g]at h;cases h
theorem drop_next {α:Type}{l:List α}{i:Nat}{x:α}{r:List α} (h:l.drop i=x :: r):l.drop (i+1)=r:=by
  rw [← List.drop_drop,h];rfl
theorem drop_nil_le {α:Type}{l:List α}{i:Nat} (h:l.drop i= []):l.length≤i:=List.drop_eq_nil_iff.1 h
theorem or128 {x:Int} (h0:0≤x) (h1:x<256):Go.bits .or .u8 x 128=x % 128+128:=by
  have h: ∀ n:Fin 256,Go.bits .or .u8 ((n.val:Nat):Int) 128=((n.val:Nat):Int) % 128+128:=by decide+kernel
  have:=h ⟨x.toNat,by omega⟩
  simpa [Int.toNat_of_nonneg h0] using this
theorem wraps_u64 (n:Int) (h₀:0≤n) (h₁:n<2 ^ 64):IntKind.u64.wrap n=n:=u64w h₀ (by omega)
end Go.Proofs.Ythkdfojmhloofaa.Base
end
section
namespace Go.Proofs.Ythkdfojmhloofaa.Num
set_option linter.unusedVariables false
open Go.RowKit Go.Proofs.YthkdfojmhloofaaW.PrintWords Go.Proofs.YthkdfojmhloofaaW.PrintLast Go.Proofs.YthkdfojmhloofaaW.PrintMore Go.Proofs.Ythkdfojmhloofaa.Base
def putL (n:Nat):List Int:=if n<128 then [(n:Int)] else ((n:Int) % 128+128) :: putL (n / 128)
termination_by n
theorem putL_small {n:Nat} (h:n<128):putL n= [(n:Int)]:=by rw [putL,if_pos h]
theorem putL_great {n:Nat} (h: ¬ n<128):putL n=((n:Int) % 128+128) :: putL (n / 128):=by rw [putL,if_neg h]
theorem putL_ne (n:Nat):putL n≠ []:=by
  rw [putL]
  split <;> simp
theorem putL_pos (n:Nat):0<(putL n).length:=List.length_pos_iff.2 (putL_ne n)
theorem putL_bytes (n:Nat):Bytes (putL n):=by
  induction n using Nat.strongRecOn with
  |_ n ih=>
    by_cases h:n<128;·rw [putL_small h];exact Bytes.cons (by omega) (by omega) Bytes.nil
    ·rw [putL_great h];exact Bytes.cons (by omega) (by omega) (ih _ (by omega))
theorem putL_len_aux: ∀ (j n:Nat),n<128 ^ (j+1)→(putL n).length≤j+1
  |0,n,h=>by rw [putL_small (by simpa using h)];simp
  |j+1,n,h=>by
    by_cases g:n<128
    · rw [putL_small g];simp
    · rw [putL_great g,List.length_cons]
      have:=putL_len_aux j (n / 128) (by
        rw [Nat.div_lt_iff_lt_mul (by decide)]
        rwa [Nat.pow_succ]at h)
      omega
theorem putL_len {n:Nat} (h:n<18446744073709551616):(putL n).length≤10:=putL_len_aux 9 n (Nat.lt_of_lt_of_le h (by decide))
end Go.Proofs.Ythkdfojmhloofaa.Num
end
section
namespace Go.Proofs.Ythkdfojmhloofaa.Addr
set_option linter.unusedVariables false
open Go.RowKit Go.Proofs.YthkdfojmhloofaaW.PrintWords Go.Proofs.YthkdfojmhloofaaW.PrintLast Go.Proofs.YthkdfojmhloofaaW.PrintMore Go.Proofs.Ythkdfojmhloofaa.Base
def Wn (six:Bool):Nat:=if six then 128 else 32
theorem Wn_le (six:Bool):Wn six≤128:=by cases six <;> simp [Wn]
def hi (n:Nat):Int:=((n / 18446744073709551616:Nat):Int)
def lo (n:Nat):Int:=((n % 18446744073709551616:Nat):Int)
theorem lo_range (n:Nat):0≤lo n∧lo n<18446744073709551616:=by unfold lo;omega
theorem hi_range {n:Nat} (h:n<340282366920938463463374607431768211456):0≤hi n∧hi n<18446744073709551616:=by unfold hi;omega
theorem p2pos (n:Nat):0<2 ^ n:=Nat.two_pow_pos n
theorem p2le {n:Nat} (h:n≤128):2 ^ n≤340282366920938463463374607431768211456:=Nat.le_trans (Nat.pow_le_pow_right (by decide) h) (by decide)
theorem p2le64 {n:Nat} (h:n≤64):2 ^ n≤18446744073709551616:=Nat.le_trans (Nat.pow_le_pow_right (by decide) h) (by decide)
theorem p2lt64 {n:Nat} (h:n<64):2 ^ n≤9223372036854775808:=Nat.le_trans (Nat.pow_le_pow_right (show 0<2 by decide) (show n≤63 by omega)) (by decide)
theorem p2split {n:Nat} (h:64≤n):2 ^ n=18446744073709551616 * 2 ^ (n - 64):=by
  have:2 ^ n=2 ^ 64 * 2 ^ (n - 64):=by rw [← Nat.pow_add];congr 1;omega
  rw [this]
theorem p2split' {n:Nat} (h:n≤64):18446744073709551616=2 ^ n * 2 ^ (64 - n):=by
  have:2 ^ 64=2 ^ n * 2 ^ (64 - n):=by rw [← Nat.pow_add];congr 1;omega
  rw [← this]
theorem wn_pow (six:Bool):2 ^ Wn six≤340282366920938463463374607431768211456:=p2le (Wn_le six)
theorem wn_six {n:Nat}:(n<2 ^ Wn true)↔n<340282366920938463463374607431768211456:=Iff.rfl
theorem wn_four {n:Nat}:(n<2 ^ Wn false)↔n<4294967296:=Iff.rfl
theorem mod_parts {n N:Nat} (h:64≤n):N % 2 ^ n=0↔(N / 18446744073709551616) % 2 ^ (n - 64)=0∧N % 18446744073709551616=0:=by
  rw [p2split h,Nat.mod_mul];constructor
  · intro e;constructor
    · rcases Nat.eq_zero_or_pos (N / 18446744073709551616 % 2 ^ (n - 64)) with z|z
      · exact z
      · omega
    · omega
  · rintro⟨a,b⟩
    rw [a,b]
theorem mod_low {n N:Nat} (h:n≤64):(N % 18446744073709551616) % 2 ^ n=N % 2 ^ n:=by
  refine Nat.mod_mod_of_dvd N ⟨2 ^ (64 - n),?_⟩;exact p2split' h
theorem or_zero {x y:Int} (hx:0≤x) (hx1:x<18446744073709551616) (hy:0≤y) (hy1:y<18446744073709551616):Go.bits .or .u64 x y=0↔x=0∧y=0:=by
  obtain⟨a,rfl⟩:=Int.eq_ofNat_of_zero_le hx;obtain⟨b,rfl⟩:=Int.eq_ofNat_of_zero_le hy;rw [(bits_nat .u64 64 (by decide) wraps_u64 a b (by omega) (by omega)).2];constructor
  · intro h;have h0:a ||| b=0:=by exact_mod_cast h
    have:=Nat.or_eq_zero_iff.1 h0;omega
  · rintro⟨h1,h2⟩
    have e1:a=0:=by omega
    have e2:b=0:=by omega
    subst e1;subst e2;rfl
theorem and_mask {x:Int}{j:Nat} (hx:0≤x) (hx1:x<18446744073709551616) (hj:j≤64):Go.bits .and .u64 x ((2 ^ j - 1:Nat):Int)=x % ((2 ^ j:Nat):Int):=by
  have:=bits_mask .u64 64 (by decide) wraps_u64 j hj x hx (by omega);have e:((2 ^ j - 1:Nat):Int)=(2:Int) ^ j - 1:=by rw [Int.natCast_sub (p2pos j)];simp
  rw [e,this];simp
theorem shl1 {m:Nat} (h:m<64):shl .u64 1 (m:Int)=((2 ^ m:Nat):Int):=by
  have:=p2lt64 h;unfold shl;rw [Int.toNat_natCast,Nat.min_eq_left (by simp [IntKind.bits];omega),Int.one_mul];have e:(2:Int) ^ m=((2 ^ m:Nat):Int):=by simp
  rw [e];generalize 2 ^ m=q at *;exact u64w (by omega) (by omega)
def bitsL : Nat → Nat → List Int
  | 0, _ => []
  | w + 1, n => bitsL w (n / 2) ++ [((n % 2 : Nat) : Int)]
theorem bitsL_len : ∀ w n, (bitsL w n).length = w
  | 0, _ => rfl
  | w + 1, n => by simp [bitsL, bitsL_len w]
theorem bitsL_split: ∀ (b a n:Nat),bitsL (a+b) n=bitsL a (n / 2 ^ b)++bitsL b n
  |0,a,n=>by simp [bitsL]
  |b+1,a,n=>by
    have e:n / 2 / 2 ^ b=n / 2 ^ (b+1):=by rw [Nat.div_div_eq_div_mul,Nat.pow_succ,Nat.mul_comm]
    rw [← Nat.add_assoc,bitsL,bitsL_split b a (n / 2),e,bitsL,List.append_assoc]
theorem bitsL_zero: ∀ (w n:Nat),(∀ x∈bitsL w n,x=0)↔n % 2 ^ w=0
  |0,n=>by simp [bitsL,Nat.mod_one]
  |w+1,n=>by
    have ih:=bitsL_zero w (n / 2);have e:n % 2 ^ (w+1)=2 * (n / 2 % 2 ^ w)+n % 2:=by rw [Nat.pow_succ,Nat.mul_comm,Nat.mod_mul];omega
    rw [e];constructor;·intro h;have h1:=ih.1 (fun x hx=>h x (by simp [bitsL,hx]));have h2:=h ((n % 2:Nat):Int) (by simp [bitsL]);omega
    · intro h x hx;rcases List.mem_append.1 hx with hx|hx
      · exact ih.2 (by omega) x hx
      · simp at hx;omega
def okP (six:Bool) (n:Nat) (len:Int):Prop:=0≤len∧len≤Wn six∧n<2 ^ Wn six∧n % 2 ^ (Wn six - len.toNat)=0
instance (six:Bool) (n:Nat) (len:Int):Decidable (okP six n len):=by unfold okP;exact inferInstance
def hostN (six:Bool) (len:Int):Nat:=2 ^ (Wn six - len.toNat) - 1
def hasP (six:Bool) (n:Nat) (len:Int) (six':Bool) (m:Nat):Prop:=okP six n len∧six=six'∧m<2 ^ Wn six'∧n≤m∧m≤n+hostN six len
instance (six:Bool) (n:Nat) (len:Int) (six':Bool) (m:Nat):Decidable (hasP six n len six' m):=by unfold hasP;exact inferInstance
end Go.Proofs.Ythkdfojmhloofaa.Addr
end
section
namespace Go.Proofs.Ythkdfojmhloofaa.Be
set_option linter.unusedVariables false
open Go.RowKit Go.Proofs.YthkdfojmhloofaaW.PrintWords Go.Proofs.YthkdfojmhloofaaW.PrintLast Go.Proofs.YthkdfojmhloofaaW.PrintMore Go.Proofs.Ythkdfojmhloofaa.Base
def be : Nat → Nat → List Int
  | 0, _ => []
  | j + 1, n => be j (n / 256) ++ [((n % 256 : Nat) : Int)]
def nb (l:List Int):Nat:=l.foldl (fun a b=>256 * a+b.toNat) 0
theorem snoc_ind {P:List Int→Prop} (h0:P []) (h1: ∀ l x,P l→P (l++ [x])) (l:List Int):P l:=by
  have h: ∀ r:List Int,P r.reverse:=by
    intro r
    induction r with
    |nil=>exact h0
    |cons a r ih=>rw [List.reverse_cons];exact h1 _ _ ih
  have:=h l.reverse
  rwa [List.reverse_reverse]at this
theorem nb_snoc (l:List Int) (b:Int):nb (l++ [b])=256 * nb l+b.toNat:=by simp [nb,List.foldl_append]
theorem be_len : ∀ j n, (be j n).length = j
  | 0, _ => rfl
  | j + 1, n => by rw [be, List.length_append, be_len j]; rfl
theorem be_bytes: ∀ j n,Bytes (be j n)
  |0,_=>Bytes.nil
  |j+1,n=>by
    rw [be];exact (be_bytes j _).append (Bytes.cons (by omega) (by omega) Bytes.nil)
theorem nb_be: ∀ j n,nb (be j n)=n % 256 ^ j
  |0,n=>by simp [be,nb,Nat.mod_one]
  |j+1,n=>by
    rw [be,nb_snoc,nb_be j,Int.toNat_natCast,Nat.pow_succ,Nat.mul_comm (256 ^ j) 256,Nat.mod_mul];omega
theorem be_nb (l:List Int):Bytes l→be l.length (nb l)=l:=by
  induction l using snoc_ind with
  |h0=>intro _;rfl
  |h1 l x ih=>
    intro hb;have hx:=hb.right.head;have e:(l++ [x]).length=l.length+1:=by simp
    rw [e,be,nb_snoc];have e1:(256 * nb l+x.toNat) / 256=nb l:=by omega
    have e2:(((256 * nb l+x.toNat) % 256:Nat):Int)=x:=by omega
    rw [e1,e2,ih hb.left]
theorem be_split: ∀ (b a n:Nat),be (a+b) n=be a (n / 256 ^ b)++be b n
  |0,a,n=>by simp [be]
  |b+1,a,n=>by
    rw [show a+(b+1)=a+b+1 by omega,be,be_split b a,be,Nat.div_div_eq_div_mul,Nat.pow_succ,Nat.mul_comm 256,List.append_assoc]
theorem be_mod (j n m:Nat) (h:n % 256 ^ j=m % 256 ^ j):be j n=be j m:=by
  have e: ∀ x,be j (nb (be j x))=be j x:=fun x=>by
    have:=be_nb (be j x) (be_bytes j x)
    rwa [be_len]at this
  rw [← e n, ← e m,nb_be,nb_be,h]
end Go.Proofs.Ythkdfojmhloofaa.Be
end
section
namespace Go.Proofs.Ythkdfojmhloofaa.Msg
set_option linter.unusedVariables false
open Go.RowKit Go.Proofs.YthkdfojmhloofaaW.PrintWords Go.Proofs.YthkdfojmhloofaaW.PrintLast Go.Proofs.YthkdfojmhloofaaW.PrintMore Go.Proofs.Ythkdfojmhloofaa.Base Go.Proofs.Ythkdfojmhloofaa.Num Go.Proofs.Ythkdfojmhloofaa.Addr Go.Proofs.Ythkdfojmhloofaa.Be
def Bn (six:Bool):Nat:=if six then 16 else 4
theorem bn_wn (six:Bool):Wn six=8 * Bn six:=by cases six <;> rfl
def Kn (len:Int):Nat:=(len.toNat+7) / 8
def sixB (six:Bool):Int:=if six then 6 else 4
def preL (six:Bool) (n:Nat) (len:Int):List Int:=sixB six :: len :: (be (Bn six) n).take (Kn len)
theorem kn_le {six:Bool}{len:Int} (h:len≤Wn six):Kn len≤Bn six:=by rw [bn_wn]at h;unfold Kn;omega
theorem preL_bytes {six:Bool}{n:Nat}{len:Int} (h:okP six n len):Bytes (preL six n len):=by
  obtain⟨h0,h1,_⟩:=h;have:=Wn_le six;refine Bytes.cons (by cases six <;> simp [sixB]) (by cases six <;> simp [sixB]) (Bytes.cons h0 (by omega) ((be_bytes _ _).take _))
theorem preL_len {six:Bool}{n:Nat}{len:Int} (h:okP six n len):(preL six n len).length≤18:=by
  simp only[preL,List.length_cons,List.length_take,be_len];have:Bn six≤16:=by cases six <;> simp [Bn]
  omega
def okA (k i:Int):Prop:=k=1∧0≤i∧i≤65536∨(k=2∨k=3)∧i=0
instance (k i:Int):Decidable (okA k i):=by unfold okA;exact inferInstance
def actL (k i:Int):List Int:=k :: (if k=1 then putL i.toNat else [])
theorem okA_act {k i:Int} (h:okA k i):k=1∧0≤i∧i≤65536∨k≠1∧(k=2∨k=3)∧i=0:=by unfold okA at h;omega
theorem actL_bytes {k i:Int} (h:okA k i):Bytes (actL k i):=by
  rcases okA_act h with ⟨rfl,h0,h1⟩|⟨h1,h2,rfl⟩
  · simp only[actL,if_pos];exact Bytes.cons (by omega) (by omega) (putL_bytes _)
  · simp only[actL,if_neg h1];exact Bytes.cons (by omega) (by omega) Bytes.nil
theorem actL_len {k i:Int} (h:okA k i):(actL k i).length≤11:=by
  rcases okA_act h with ⟨rfl,h0,h1⟩|⟨h1,h2,rfl⟩
  ·simp only[actL,if_pos,List.length_cons];have:=putL_len (n:=i.toNat) (by omega);omega
  · simp [actL,h1]
structure E11 where
  kd : Int
  ro : Int
  sq : Int
  ti : Int
  six : Bool
  n : Nat
  ln : Int
  ak : Int
  ai : Int
  ifc : Int
  pe : Int
  deriving DecidableEq
def noP (e:E11):Prop:=e.six=false∧e.n=0∧e.ln=0
def noA (e:E11):Prop:=e.ak=0∧e.ai=0
def okE (e : E11) : Prop := (0 ≤ e.ro ∧ e.ro ≤ 1048576 ∧ 1 ≤ e.sq ∧ e.sq ≤ 1099511627776 ∧ 0 ≤ e.ti ∧ e.ti ≤ 1099511627776) ∧
  ((e.kd = 1 ∨ e.kd = 2) ∧ noP e ∧ noA e ∧ e.ifc = 0 ∧ e.pe = 0 ∨ e.kd = 3 ∧ okP e.six e.n e.ln ∧ okA e.ak e.ai ∧ e.ifc = 0 ∧ e.pe = 0 ∨ e.kd = 4 ∧ okP e.six e.n e.ln ∧ noA e ∧ e.ifc = 0 ∧ e.pe = 0 ∨
   e.kd = 5 ∧ noP e ∧ noA e ∧ (0 ≤ e.ifc ∧ e.ifc ≤ 65536) ∧ (0 ≤ e.pe ∧ e.pe ≤ 1048576) ∨ e.kd = 6 ∧ noP e ∧ noA e ∧ (0 ≤ e.ifc ∧ e.ifc ≤ 65536) ∧ e.pe = 0)
instance (e:E11):Decidable (noP e):=by unfold noP;exact inferInstance
instance (e:E11):Decidable (noA e):=by unfold noA;exact inferInstance
instance (e:E11):Decidable (okE e):=by unfold okE;exact inferInstance
def endL (e:E11):List Int:=if e.kd=3 then preL e.six e.n e.ln++actL e.ak e.ai else if e.kd=4 then preL e.six e.n e.ln else if e.kd=5 then putL e.ifc.toNat++putL e.pe.toNat else if e.kd=6 then putL e.ifc.toNat else []
def bodyL (e:E11):List Int:=e.kd :: (putL e.ro.toNat++(putL e.sq.toNat++(putL e.ti.toNat++endL e)))
theorem endL_bytes {e:E11} (h:okE e):Bytes (endL e):=by
  obtain⟨_,h⟩:=h;unfold endL;rcases h with ⟨hk,_⟩|⟨hk,hp,ha,_⟩|⟨hk,hp,_⟩|⟨hk,_⟩|⟨hk,_⟩
  · rw [if_neg (by omega),if_neg (by omega),if_neg (by omega),if_neg (by omega)];exact Bytes.nil
  · rw [if_pos hk];exact (preL_bytes hp).append (actL_bytes ha)
  · rw [if_neg (by omega),if_pos hk];exact preL_bytes hp
  · rw [if_neg (by omega),if_neg (by omega),if_pos hk];exact (putL_bytes _).append (putL_bytes _)
  · rw [if_neg (by omega),if_neg (by omega),if_neg (by omega),if_pos hk];exact putL_bytes _
theorem kd_range {e:E11} (h:okE e):1≤e.kd∧e.kd≤6:=by
  obtain⟨_,h⟩:=h;rcases h with ⟨hk,_⟩|⟨hk,hp,ha,_⟩|⟨hk,hp,_⟩|⟨hk,_⟩|⟨hk,_⟩ <;> omega
theorem bodyL_bytes {e:E11} (h:okE e):Bytes (bodyL e):=by
  have:=kd_range h;exact Bytes.cons (by omega) (by omega) ((putL_bytes _).append ((putL_bytes _).append ((putL_bytes _).append (endL_bytes h))))
theorem putL_len6 {n:Nat} (h:n≤1099511627776):(putL n).length≤6:=putL_len_aux 5 n (Nat.lt_of_le_of_lt h (by decide))
theorem putL_len3 {n:Nat} (h:n≤1048576):(putL n).length≤3:=putL_len_aux 2 n (Nat.lt_of_le_of_lt h (by decide))
theorem endL_len {e:E11} (h:okE e):(endL e).length≤29:=by
  obtain⟨_,h⟩:=h;unfold endL;rcases h with ⟨hk,_⟩|⟨hk,hp,ha,_⟩|⟨hk,hp,_⟩|⟨hk,_,_,h1,h2⟩|⟨hk,_,_,h1,_⟩
  · rw [if_neg (by omega),if_neg (by omega),if_neg (by omega),if_neg (by omega)];simp
  · rw [if_pos hk,List.length_append];have:=preL_len hp;have:=actL_len ha;omega
  · rw [if_neg (by omega),if_pos hk];have:=preL_len hp;omega
  ·rw [if_neg (by omega),if_neg (by omega),if_pos hk,List.length_append];have:=putL_len3 (n:=e.ifc.toNat) (by omega);have:=putL_len3 (n:=e.pe.toNat) (by omega);omega
  ·rw [if_neg (by omega),if_neg (by omega),if_neg (by omega),if_pos hk];have:=putL_len3 (n:=e.ifc.toNat) (by omega);omega
theorem bodyL_len {e:E11} (h:okE e):4≤(bodyL e).length∧(bodyL e).length≤64:=by
  have hn:=h.1;have h1:=putL_len3 (n:=e.ro.toNat) (by omega);have h2:=putL_len6 (n:=e.sq.toNat) (by omega);have h3:=putL_len6 (n:=e.ti.toNat) (by omega);have h4:=endL_len h;have g1:=putL_pos e.ro.toNat;have g2:=putL_pos e.sq.toNat;have g3:=putL_pos e.ti.toNat;unfold bodyL;simp only[List.length_cons,List.length_append];omega
end Go.Proofs.Ythkdfojmhloofaa.Msg
end
section
namespace Go.Proofs.Ythkdfojmhloofaa.Addr
set_option linter.unusedVariables false
open Go.RowKit Go.Proofs.YthkdfojmhloofaaW.PrintWords Go.Proofs.YthkdfojmhloofaaW.PrintLast Go.Proofs.YthkdfojmhloofaaW.PrintMore Go.Proofs.Ythkdfojmhloofaa.Base Go.Proofs.Ythkdfojmhloofaa.Q
theorem right_is (six:Bool) {n:Nat} (hn:n<340282366920938463463374607431768211456):addr_Right.f six (hi n) (lo n)=some (decide (n<2 ^ Wn six)):=by
  obtain⟨h1,h2⟩:=hi_range hn;obtain⟨h3,h4⟩:=lo_range n;unfold addr_Right.f;cases six with
  |true=>rw [if_pos rfl,decide_eq_true (wn_six.2 hn)]
  |false=>
    rw [if_neg (by simp)];by_cases h:n<4294967296
    · rw [decide_eq_true (wn_four.2 h),if_pos (by unfold hi;omega)];have:lo n / 4294967296=0:=by unfold lo;omega
      rw [this];rfl
    · rw [decide_eq_false (fun q=>h (wn_four.1 q))];by_cases hz:hi n=0
      · rw [if_pos hz];have:lo n / 4294967296≠0:=by unfold lo;unfold hi at hz;omega
        simp [this]
      · rw [if_neg hz]
theorem wide_is (six:Bool):addr_Wide.f six=some ((Wn six:Nat):Int):=by cases six <;> rfl
theorem below_is {n:Nat} (hn:n≤128):addr_below.f (n:Int)=some (hi (2 ^ n - 1),lo (2 ^ n - 1)):=by
  unfold addr_below.f;by_cases h:n=128
  · subst h;rw [if_pos (by omega)]
    decide+kernel
  rw [if_neg (by omega)];by_cases h2:64≤n
  · have e:wrap64 ((n:Int) - 64)=((n - 64:Nat):Int):=by rw [w64 (by omega) (by omega)];omega
    rw [if_pos (by omega),e,if_pos (by omega),shl1 (by omega)];have hp:=p2lt64 (show n - 64<64 by omega);have hq:=p2pos (n - 64);rw [p2split h2];generalize 2 ^ (n - 64)=q at *;rw [u64w (by omega) (by omega)];unfold hi lo
    congr 2 <;> omega
  · rw [if_neg (by omega),if_pos (by omega),shl1 (by omega)];have hp:=p2lt64 (show n<64 by omega);have hq:=p2pos n;generalize 2 ^ n=q at *;rw [u64w (by omega) (by omega)];unfold hi lo
    congr 2 <;> omega
theorem host_is (six:Bool) (a b:Int) {len:Int} (h0:0≤len) (h1:len≤Wn six):addr_host.f six a b len=some (hi (hostN six len),lo (hostN six len)):=by
  have hw:=Wn_le six;simp only[addr_host.f,wide_is,Option.bind_some];have e:wrap64 (((Wn six:Nat):Int) - len)=((Wn six - len.toNat:Nat):Int):=by rw [w64 (by omega) (by omega)];omega
  rw [e,below_is (by omega)];rfl
theorem check_ev (six:Bool) {n:Nat} (hn:n<340282366920938463463374607431768211456) (len:Int):Ev (fun k=>addr_Check.f k six (hi n) (lo n) len) (if okP six n len then 0 else 2):=by
  have hw:=Wn_le six;have bad: ¬ okP six n len→Ev (fun k=>addr_Check.j0 k true six (hi n) (lo n) len) (if okP six n len then 0 else 2):=by intro h;rw [if_neg h];refine Ev.succ ?_;simp only[addr_Check.j0];exact Ev.pos trivial (Ev.now _)
  simp only[addr_Check.f,wide_is,right_is six hn,Option.bind_some];by_cases h0:len<0
  · exact Ev.pos h0 (bad (fun h=>by have:=h.1;omega))
  refine Ev.neg h0 ?_;by_cases h1:len > ((Wn six:Nat):Int)
  · exact Ev.pos h1 (bad (fun h=>by have:=h.2.1;omega))
  refine Ev.neg h1 ?_;by_cases h2:n<2 ^ Wn six
  · rw [decide_eq_true h2];refine Ev.succ ?_;simp only[addr_Check.j0,host_is six _ _ (show 0≤len by omega) (show len≤((Wn six:Nat):Int) by omega),Option.bind_some];refine Ev.neg (by simp) ?_;obtain⟨a0,a1⟩:=hi_range hn;obtain⟨b0,b1⟩:=lo_range n;have hk:Wn six - len.toNat≤128:=by omega
    have key:Go.bits .or .u64 (Go.bits .and .u64 (hi n) (hi (hostN six len))) (Go.bits .and .u64 (lo n) (lo (hostN six len)))=0↔n % 2 ^ (Wn six - len.toNat)=0:=by
      unfold hostN;generalize Wn six - len.toNat=k at *;have hp:=p2pos k;by_cases g:64≤k
      · have e1:hi (2 ^ k - 1)=((2 ^ (k - 64) - 1:Nat):Int):=by rw [p2split g];have:=p2pos (k - 64);generalize 2 ^ (k - 64)=q at *;unfold hi;omega
        have e2:lo (2 ^ k - 1)=((2 ^ 64 - 1:Nat):Int):=by rw [p2split g];have:=p2pos (k - 64);generalize 2 ^ (k - 64)=q at *;unfold lo;omega
        have p64:=p2le64 (show k - 64≤64 by omega);have q64:=p2pos (k - 64);rw [e1,e2,and_mask a0 a1 (by omega),and_mask b0 b1 (by omega),mod_parts g];have hm:=Int.emod_nonneg (hi n) (show ((2 ^ (k - 64):Nat):Int)≠0 by omega);have hl:=Int.emod_lt_of_pos (hi n) (show (0:Int)<((2 ^ (k - 64):Nat):Int) by omega);rw [or_zero hm (by omega) (by omega) (by omega)];have c1:hi n % ((2 ^ (k - 64):Nat):Int)=((n / 18446744073709551616 % 2 ^ (k - 64):Nat):Int):=by unfold hi;simp
        have c2:lo n % ((2 ^ 64:Nat):Int)=((n % 18446744073709551616:Nat):Int):=by unfold lo;omega
        rw [c1,c2];omega
      · have g':k≤64:=by omega
        have p64:=p2lt64 (show k<64 by omega);have e1:hi (2 ^ k - 1)=((2 ^ 0 - 1:Nat):Int):=by generalize 2 ^ k=q at *;unfold hi;omega
        have e2:lo (2 ^ k - 1)=((2 ^ k - 1:Nat):Int):=by generalize 2 ^ k=q at *;unfold lo;omega
        rw [e1,e2,and_mask a0 a1 (by omega),and_mask b0 b1 g', ← mod_low g'];have hm:=Int.emod_nonneg (lo n) (show ((2 ^ k:Nat):Int)≠0 by omega);have hl:=Int.emod_lt_of_pos (lo n) (show (0:Int)<((2 ^ k:Nat):Int) by omega);rw [or_zero (by omega) (by omega) hm (by omega)];have c2:lo n % ((2 ^ k:Nat):Int)=((n % 18446744073709551616 % 2 ^ k:Nat):Int):=by unfold lo;simp
        rw [c2];omega
    by_cases z:n % 2 ^ (Wn six - len.toNat)=0;·rw [if_pos (show okP six n len from ⟨by omega,by omega,h2,z⟩)];exact Ev.pos (key.2 z) (Ev.now _)
    ·rw [if_neg (fun h:okP six n len=>z h.2.2.2)];exact Ev.neg (fun h=>z (key.1 h)) (Ev.now _)
  ·rw [decide_eq_false h2];exact bad (fun h=>h2 h.2.2.1)
theorem rright_is (six:Bool) {n:Nat} (hn:n<340282366920938463463374607431768211456):spoorref09_Right.f six (hi n) (lo n)=some (decide (n<2 ^ Wn six)):=by
  unfold spoorref09_Right.f;cases six with
  |true=>rw [decide_eq_true (wn_six.2 hn)];rfl
  |false=>
    rw [if_neg (by simp)];by_cases hz:hi n=0;·rw [if_pos hz];refine congrArg some (decide_eq_decide.2 ?_);rw [wn_four];unfold lo;unfold hi at hz;omega
    ·rw [if_neg hz,decide_eq_false];rw [wn_four];unfold hi at hz;omega
theorem rwide_is (six:Bool):spoorref09_Wide.f six=some ((Wn six:Nat):Int):=by cases six <;> rfl
theorem set_mid (j:Nat) (suf:List Int) (b:Int):(List.replicate (j+1) (0:Int)++suf).set j b=List.replicate j 0++(b :: suf):=by
  rw [List.replicate_succ',List.append_assoc,List.set_append_right _ _ (by simp)];simp
theorem bits_aux: ∀ (j n:Nat) (suf:List Int),n<340282366920938463463374607431768211456→j≤128→Ev (fun k=>spoorref09_bits.l0 k (List.replicate j 0++suf) (lo n) (hi n) ((j:Int) - 1)) (bitsL j n++suf)
  |0,n,suf,hn,_=>by
    refine Ev.succ ?_;simp only[spoorref09_bits.l0];exact Ev.neg (by omega) (Ev.const (by simp [bitsL]))
  |j+1,n,suf,hn,hj=>by
    refine Ev.succ ?_;simp only[spoorref09_bits.l0];refine Ev.pos (by omega) (Ev.pos (by omega) (Ev.pos (by simp;omega) ?_));have e1:wrap64 (Int.tmod (lo n) 2)=((n % 2:Nat):Int):=by rw [Int.tmod_eq_emod_of_nonneg (lo_range n).1,w64 (by omega) (by omega)];unfold lo;omega
    have e2:IntKind.u64.wrap (IntKind.u64.wrap (Int.tdiv (lo n) 2)+IntKind.u64.wrap (Int.tmod (hi n) 2 * 9223372036854775808))=lo (n / 2):=by rw [Int.tdiv_eq_ediv_of_nonneg (lo_range n).1,Int.tmod_eq_emod_of_nonneg (hi_range hn).1,u64m,u64m,u64m];unfold lo hi;omega
    have e3:IntKind.u64.wrap (Int.tdiv (hi n) 2)=hi (n / 2):=by rw [Int.tdiv_eq_ediv_of_nonneg (hi_range hn).1,u64m];unfold hi;omega
    have e4:wrap64 (((j+1:Nat):Int) - 1 - 1)=(j:Int) - 1:=by rw [w64 (by omega) (by omega)];omega
    have e5:(((j+1:Nat):Int) - 1).toNat=j:=by omega
    rw [e1,e2,e3,e4,e5,set_mid];refine Ev.to (bits_aux j (n / 2) (((n % 2:Nat):Int) :: suf) (by omega) (by omega)) ?_;simp [bitsL]
theorem bits_ev (six:Bool) {n:Nat} (hn:n<340282366920938463463374607431768211456):Ev (fun k=>spoorref09_bits.f k six (hi n) (lo n)) (bitsL (Wn six) n):=by
  have hw:=Wn_le six;simp only[spoorref09_bits.f,rwide_is,Option.bind_some,Int.toNat_natCast];refine Ev.pos (by omega) (Ev.pos (by omega) ?_);have:=bits_aux (Wn six) n [] hn hw;simp only[List.append_nil]at this;have e:wrap64 (((List.replicate (Wn six) (0:Int)).length:Int) - 1)=(Wn six:Int) - 1:=by rw [List.length_replicate,w64 (by omega) (by omega)]
  rw [e];exact this
theorem check_aux (l:List Int) (len:Int) (hl:l.length≤128) (s:Bool) (a b:Int): ∀ (r:List Int) (j:Nat),l.drop j=r→Ev (fun k=>spoorref09_Check.l0 k l (l.length:Int) (j:Int) s a b len) (if ∀ x∈r.drop (len.toNat - j),x=0 then 0 else 2)
  | [],j,hj=>by
    have:=drop_nil_le hj;refine Ev.succ ?_;simp only[spoorref09_Check.l0];exact Ev.neg (by omega) (Ev.const (by simp))
  |x :: r,j,hj=>by
    have hlt:=drop_lt hj;have hx:=rd_drop hj;have e0:wrap64 ((j:Int)+1)=((j+1:Nat):Int):=by rw [w64 (by omega) (by omega)];omega
    have ih:=check_aux l len hl s a b r (j+1) (drop_next hj);refine Ev.succ ?_;simp only[spoorref09_Check.l0];refine Ev.pos (by omega) (Ev.pos (by omega) (Ev.pos (by omega) ?_));rw [e0,hx];by_cases h:(j:Int) ≥ len
    · have d0:len.toNat - j=0:=by omega
      have d1:len.toNat - (j+1)=0:=by omega
      rw [d1,List.drop_zero]at ih;rw [d0,List.drop_zero];refine Ev.pos h ?_;by_cases hz:x=0
      · refine Ev.pos hz (Ev.to ih ?_);by_cases hr: ∀ y∈r,y=0
        · rw [if_pos hr,if_pos (fun y hy=>(List.mem_cons.1 hy).elim (fun e=>e.trans hz) (hr y))]
        · rw [if_neg hr,if_neg (fun q=>hr (fun y hy=>q y (by simp [hy])))]
      ·rw [if_neg (fun q=>hz (q x (by simp)))];exact Ev.neg hz (Ev.now _)
    · refine Ev.neg h (Ev.to ih ?_);have d0:len.toNat - j=(len.toNat - (j+1))+1:=by omega
      rw [d0,List.drop_succ_cons]
theorem bitsL_drop {w a n:Nat} (h:a≤w):(bitsL w n).drop a=bitsL (w - a) n:=by
  have e:w=a+(w - a):=by omega
  conv=>lhs;rw [e,bitsL_split (w - a) a n]
  rw [List.drop_left' (bitsL_len _ _)]
theorem rcheck_ev (six:Bool) {n:Nat} (hn:n<340282366920938463463374607431768211456) (len:Int):Ev (fun k=>spoorref09_Check.f k six (hi n) (lo n) len) (if okP six n len then 0 else 2):=by
  have hw:=Wn_le six;have bad: ¬ okP six n len→Ev (fun k=>spoorref09_Check.j0 k true six (hi n) (lo n) len) (if okP six n len then 0 else 2):=by intro h;rw [if_neg h];refine Ev.succ ?_;simp only[spoorref09_Check.j0];exact Ev.pos trivial (Ev.now _)
  simp only[spoorref09_Check.f,rwide_is,rright_is six hn,Option.bind_some];by_cases h0:len<0
  · exact Ev.pos h0 (bad (fun h=>by have:=h.1;omega))
  refine Ev.neg h0 ?_;by_cases h1:len > ((Wn six:Nat):Int)
  · exact Ev.pos h1 (bad (fun h=>by have:=h.2.1;omega))
  refine Ev.neg h1 ?_;by_cases h2:n<2 ^ Wn six
  · rw [decide_eq_true h2];refine Ev.succ ?_;simp only[spoorref09_Check.j0];refine Ev.neg (by simp) (Ev.bind (bits_ev six hn) ?_);have:=check_aux (bitsL (Wn six) n) len (by rw [bitsL_len];exact hw) six (hi n) (lo n) _ 0 rfl;rw [List.drop_zero,Nat.sub_zero,bitsL_drop (by omega)]at this;refine Ev.to this ?_;simp only[bitsL_zero];by_cases z:n % 2 ^ (Wn six - len.toNat)=0
    · rw [if_pos z,if_pos (show okP six n len from ⟨by omega,by omega,h2,z⟩)]
    · rw [if_neg z,if_neg (fun h:okP six n len=>z h.2.2.2)]
  ·rw [decide_eq_false h2];exact bad (fun h=>h2 h.2.2.1)
end Go.Proofs.Ythkdfojmhloofaa.Addr
end
section
namespace Go.Proofs.Ythkdfojmhloofaa.Num
set_option linter.unusedVariables false
open Go.RowKit Go.Proofs.YthkdfojmhloofaaW.PrintWords Go.Proofs.YthkdfojmhloofaaW.PrintLast Go.Proofs.YthkdfojmhloofaaW.PrintMore Go.Proofs.Ythkdfojmhloofaa.Base Go.Proofs.Ythkdfojmhloofaa.Q
theorem add_ev: ∀ (n:Nat) (xs:List Int),xs.length+(putL n).length≤140737488355328→Ev (fun k=>num_Add.l0 k xs (n:Int)) (xs++putL n):=by
  intro n
  induction n using Nat.strongRecOn with
  |_ n ih=>
    intro xs hl;have hp:=putL_pos n;by_cases h:n<128
    · refine Ev.step (f:=fun _=>some (xs++ [(n:Int) % 256])) (fun k=>?_) ?_;·simp only[num_Add.l0];rw [if_neg (by omega),if_pos (by omega)]
      ·rw [putL_small h];exact Ev.const (by rw [Int.emod_eq_of_lt (by omega) (by omega)])
    · have e:=putL_great h;rw [e,List.length_cons]at hl;have:=ih (n / 128) (by omega) (xs++ [(n:Int) % 128+128]) (by simp;omega);refine Ev.step (f:=fun k=>num_Add.l0 k (xs++ [(n:Int) % 128+128]) ((n / 128:Nat):Int)) (fun k=>?_) ?_
      · simp only[num_Add.l0];rw [if_pos (by omega),if_pos (by omega),or128 (by omega) (by omega)];have e1:(n:Int) % 256 % 128=(n:Int) % 128:=by omega
        have e2:((n / 128:Nat):Int)=(n:Int) / 128:=by omega
        rw [e1,e2]
      · rw [e]
        simpa using this
theorem rput_ev: ∀ (n:Nat),n<18446744073709551616→Ev (fun k=>spoorref01_Put.f k (n:Int)) (strOfNums (putL n)):=by
  intro n
  induction n using Nat.strongRecOn with
  |_ n ih=>
    intro hn;by_cases h:n<128
    · refine Ev.step (f:=fun _=>some (strOfNums ([(n:Int)]))) (fun k=>?_) ?_;·simp only[spoorref01_Put.f];rw [if_pos (by omega),Int.emod_eq_of_lt (by omega) (by omega)]
      · rw [putL_small h];exact Ev.now _
    · have e:=putL_great h;have hl:=putL_len (n:=n / 128) (by omega);have hh:=ih (n / 128) (by omega) (by omega);refine Ev.step (f:=fun k=>(spoorref01_Put.f k ((n / 128:Nat):Int)).bind fun t=>if (strOfNums [(n:Int) % 128+128]).size+t.size≤9223372036854775807 then some (strOfNums [(n:Int) % 128+128]++t) else none) (fun k=>?_) ?_
      · simp only[spoorref01_Put.f];rw [if_neg (by omega)];simp only[Option.bind_some];have e1:Int.tmod (n:Int) 128=(n:Int) % 128:=Int.tmod_eq_emod_of_nonneg (by omega);have e2:Int.tdiv (n:Int) 128=((n / 128:Nat):Int):=by rw [Int.tdiv_eq_ediv_of_nonneg (by omega)];omega
        rw [e1,e2,u64w (by omega) (by omega),u64w (by omega) (by omega),Int.emod_eq_of_lt (a:=(n:Int) % 128+128) (by omega) (by omega)]
      · refine Ev.bind hh (Ev.pos ?_ ?_)
        · rw [strOfNums_size,strOfNums_size];simp;omega
        · rw [← str_append,e];exact Ev.now _
end Go.Proofs.Ythkdfojmhloofaa.Num
end
section
namespace Go.Proofs.Ythkdfojmhloofaa.Msg
set_option linter.unusedVariables false
open Go.RowKit Go.Proofs.YthkdfojmhloofaaW.PrintWords Go.Proofs.YthkdfojmhloofaaW.PrintLast Go.Proofs.YthkdfojmhloofaaW.PrintMore Go.Proofs.Ythkdfojmhloofaa.Base Go.Proofs.Ythkdfojmhloofaa.Num Go.Proofs.Ythkdfojmhloofaa.Addr Go.Proofs.Ythkdfojmhloofaa.Be Go.Proofs.Ythkdfojmhloofaa.Q
theorem id_is (a:Int):msg_id.f a=some (decide (0≤a∧a≤1048576)):=by
  unfold msg_id.f;by_cases h:a ≥ 0
  · rw [if_pos h];congr 1;simp [h]
  · rw [if_neg h];congr 1;simp;omega
theorem iface_is (a:Int):msg_iface.f a=some (decide (0≤a∧a≤65536)):=by
  unfold msg_iface.f;by_cases h:a ≥ 0
  · rw [if_pos h];congr 1;simp [h]
  · rw [if_neg h];congr 1;simp;omega
theorem acts_is (k i:Int):msg_acts.f k i=some (decide (okA k i)):=by
  unfold msg_acts.f;rw [iface_is];by_cases h1:k=1
  · rw [if_pos h1];simp only[Option.bind_some]
    congr 1
    apply decide_eq_decide.2;unfold okA;omega
  rw [if_neg h1];by_cases h2:k=2
  · rw [if_pos h2]
    congr 1
    rw [Bool.eq_iff_iff];simp only[beq_iff_eq,decide_eq_true_eq];unfold okA;omega
  rw [if_neg h2];by_cases h3:k=3
  · rw [if_pos h3]
    congr 1
    rw [Bool.eq_iff_iff];simp only[beq_iff_eq,decide_eq_true_eq];unfold okA;omega
  rw [if_neg h3]
  congr 1
  rw [Bool.eq_iff_iff];simp only[decide_eq_true_eq];unfold okA;constructor
  · intro h;cases h
  · omega
theorem fin {B:Bool}{P:Prop} [Decidable P] (h:B=true↔ ¬ P):(if B=true then some (2:Int) else some 0)=some (if P then 0 else 2):=by
  by_cases p:P
  · rw [if_neg (by rw [h];simpa using p),if_pos p]
  · rw [if_pos (by rw [h];exact p),if_neg p]
theorem hilo0 {n:Nat}:(hi n=0∧lo n=0)↔n=0:=by unfold hi lo;omega
def okN (e:E11):Prop:=0≤e.ro∧e.ro≤1048576∧1≤e.sq∧e.sq≤1099511627776∧0≤e.ti∧e.ti≤1099511627776
instance (e:E11):Decidable (okN e):=by unfold okN;exact inferInstance
theorem j0_bad (a b c d:Int) (s:Bool) (x1 x2 x3 x4 x5 x6 x7:Int):Ev (fun k=>msg_Check.j0 k true a b c d s x1 x2 x3 x4 x5 x6 x7) 2:=by
  refine Ev.succ ?_;simp only[msg_Check.j0];exact Ev.pos trivial (Ev.now _)
theorem j1_ev (e:E11) (hn:e.n<340282366920938463463374607431768211456) (hN:okN e) (b:Bool) (hb:b=true↔e.kd=1∨e.kd=2):
    Ev (fun k=>msg_Check.j1 k true e.kd b e.kd e.ro e.sq e.ti e.six (hi e.n) (lo e.n) e.ln e.ak e.ai e.ifc e.pe 0 0 0 0 e.six (hi e.n) (lo e.n) e.ln e.ak e.ai e.ifc e.pe) (if okE e then 0 else 2):=by
  have h0:= @hilo0 e.n
  have hoe : okE e ↔ ((e.kd = 1 ∨ e.kd = 2) ∧ noP e ∧ noA e ∧ e.ifc = 0 ∧ e.pe = 0 ∨ e.kd = 3 ∧ okP e.six e.n e.ln ∧ okA e.ak e.ai ∧ e.ifc = 0 ∧ e.pe = 0 ∨ e.kd = 4 ∧ okP e.six e.n e.ln ∧ noA e ∧ e.ifc = 0 ∧ e.pe = 0 ∨
   e.kd = 5 ∧ noP e ∧ noA e ∧ (0 ≤ e.ifc ∧ e.ifc ≤ 65536) ∧ (0 ≤ e.pe ∧ e.pe ≤ 1048576) ∨ e.kd = 6 ∧ noP e ∧ noA e ∧ (0 ≤ e.ifc ∧ e.ifc ≤ 65536) ∧ e.pe = 0) := ⟨fun h => h.2, fun h => ⟨hN, h⟩⟩
  refine Ev.succ ?_;simp only[msg_Check.j1];by_cases c0:e.kd=1∨e.kd=2;·refine Ev.pos (hb.2 c0) (Ev.pos trivial (Ev.const (fin ?_)));rw [hoe];unfold noP noA;cases hsx:e.six <;> rcases c0 with c|c <;> simp [c] <;> omega
  refine Ev.neg (fun h=>c0 (hb.1 h)) ?_;by_cases c3:e.kd=3
  · refine Ev.pos c3 ?_;rw [acts_is];simp only[Option.bind_some];by_cases ca:okA e.ak e.ai
    · refine Ev.pos (decide_eq_true ca) (Ev.bind (check_ev e.six hn e.ln) ?_);by_cases cp:okP e.six e.n e.ln;·rw [if_pos cp];refine Ev.pos rfl (Ev.const (fin ?_));rw [hoe];simp [c3,cp,ca] <;> omega
      ·rw [if_neg cp];refine Ev.neg (by decide) (Ev.const ?_);rw [if_neg (by rw [hoe];simp [c3,cp])]
    ·refine Ev.neg (by simpa using ca) (Ev.const ?_);rw [if_neg (by rw [hoe];simp [c3,ca])]
  refine Ev.neg c3 ?_;by_cases c4:e.kd=4
  · refine Ev.pos c4 (Ev.pos trivial (Ev.bind (check_ev e.six hn e.ln) ?_));by_cases cp:okP e.six e.n e.ln;·rw [if_pos cp];refine Ev.pos rfl (Ev.const (fin ?_));rw [hoe];unfold noA;simp [c4,cp] <;> omega
    ·rw [if_neg cp];refine Ev.neg (by decide) (Ev.const ?_);rw [if_neg (by rw [hoe];simp [c4,cp])]
  refine Ev.neg c4 ?_;by_cases c5:e.kd=5
  · refine Ev.pos c5 ?_;rw [id_is,iface_is];simp only[Option.bind_some];by_cases ca:0≤e.pe∧e.pe≤1048576
    · refine Ev.pos (decide_eq_true ca) ?_;by_cases cb:0≤e.ifc∧e.ifc≤65536;·refine Ev.pos (decide_eq_true cb) (Ev.const (fin ?_));rw [hoe];unfold noP noA;cases hsx:e.six <;> simp [c5,ca,cb] <;> omega
      ·refine Ev.neg (by simpa using cb) (Ev.const ?_);rw [if_neg (by rw [hoe];omega)]
    ·refine Ev.neg (by simpa using ca) (Ev.const ?_);rw [if_neg (by rw [hoe];omega)]
  refine Ev.neg c5 ?_;by_cases c6:e.kd=6
  · refine Ev.pos c6 (Ev.pos trivial ?_);rw [iface_is];simp only[Option.bind_some];by_cases cb:0≤e.ifc∧e.ifc≤65536;·refine Ev.pos (decide_eq_true cb) (Ev.const (fin ?_));rw [hoe];unfold noP noA;cases hsx:e.six <;> simp [c6,cb] <;> omega
    ·refine Ev.neg (by simpa using cb) (Ev.const ?_);rw [if_neg (by rw [hoe];omega)]
  ·refine Ev.neg c6 (Ev.const ?_);rw [if_neg (by rw [hoe];omega)]
theorem echeck_ev (e:E11) (hn:e.n<340282366920938463463374607431768211456) (hs:0≤e.sq):Ev (fun k=>msg_Check.f k e.kd e.ro e.sq e.ti e.six (hi e.n) (lo e.n) e.ln e.ak e.ai e.ifc e.pe) (if okE e then 0 else 2):=by
  simp only[msg_Check.f];rw [id_is];simp only[Option.bind_some];by_cases h:okN e
  · obtain⟨h1,h2,h3,h4,h5,h6⟩:=h;refine Ev.pos (decide_eq_true ⟨h1,h2⟩) (Ev.neg (by omega) (Ev.neg (by omega) (Ev.neg (by omega) ?_)));rw [decide_eq_false (show ¬ e.ti > 1099511627776 by omega)];refine Ev.succ ?_;simp only[msg_Check.j0];refine Ev.neg (by decide) ?_;by_cases c:e.kd=1
    · exact Ev.pos c (j1_ev e hn ⟨h1,h2,h3,h4,h5,h6⟩ _ (by simp [c]))
    · exact Ev.neg c (j1_ev e hn ⟨h1,h2,h3,h4,h5,h6⟩ _ (by simp [c]))
  · rw [if_neg (fun g=>h g.1)];by_cases c1:0≤e.ro∧e.ro≤1048576
    · refine Ev.pos (decide_eq_true c1) ?_;by_cases c2:e.sq=0
      · exact Ev.pos c2 (j0_bad _ _ _ _ _ _ _ _ _ _ _ _)
      refine Ev.neg c2 ?_;by_cases c3:e.sq > 1099511627776
      · exact Ev.pos c3 (j0_bad _ _ _ _ _ _ _ _ _ _ _ _)
      refine Ev.neg c3 ?_;by_cases c4:e.ti<0
      · exact Ev.pos c4 (j0_bad _ _ _ _ _ _ _ _ _ _ _ _)
      refine Ev.neg c4 ?_;rw [decide_eq_true (show e.ti > 1099511627776 by unfold okN at h;omega)];exact j0_bad _ _ _ _ _ _ _ _ _ _ _ _
    · exact Ev.neg (by simpa using c1) (j0_bad _ _ _ _ _ _ _ _ _ _ _ _)
theorem byt8_be (n:Nat):byt8 (n:Int)=be 8 n:=by
  simp only[byt8,be,List.nil_append,List.cons_append];simp only[List.cons.injEq,and_true];omega
theorem word_six {n:Nat} (h:n<340282366920938463463374607431768211456):byt8 (hi n)++byt8 (lo n)=be 16 n:=by
  unfold hi lo;rw [byt8_be,byt8_be,show 16=8+8 from rfl,be_split 8 8 n]
  congr 1
  exact be_mod 8 _ _ (Nat.mod_mod _ _)
theorem word_four {n:Nat} (h:n<4294967296) {k:Nat} (hk:k≤4):(byt8 (lo n * 4294967296 % 18446744073709551616)++byt8 0).take k=(be 4 n).take k:=by
  have e:lo n * 4294967296 % 18446744073709551616=((n * 4294967296:Nat):Int):=by unfold lo;omega
  rw [e,byt8_be,show 8=4+4 from rfl,be_split 4 4,List.append_assoc,List.take_append_of_le_length (by rw [be_len];omega)]
  congr 2
  omega
theorem prefix_is {six:Bool}{n:Nat}{len:Int} (xs:List Int) (h:okP six n len) (hx:xs.length<140737488355000):msg_prefix.f xs six (hi n) (lo n) len=some (xs++preL six n len):=by
  obtain⟨h0,h1,h2,h3⟩:=h;have hw:=Wn_le six;have hl:=lo_range n;have hn:=Nat.lt_of_lt_of_le h2 (wn_pow six);have hh:=hi_range hn;unfold msg_prefix.f;rw [if_pos ⟨h0,by omega,hh.1,by omega,hl.1,by omega,hx⟩]
  congr 2
  unfold preL pre_word;have hk:=kn_le h1;cases six with
  |true=>
    rw [if_pos rfl,if_pos rfl,word_six hn];rfl
  |false=>
    rw [if_neg (by decide),if_neg (by decide),word_four (wn_four.1 h2) (show (len.toNat+7) / 8≤4 from hk)];rfl
theorem add_is {n:Int} (xs:List Int) (h0:0≤n) (h1:n<18446744073709551616) (hx:xs.length≤140737488355000):Ev (fun k=>num_Add.f k xs (IntKind.u64.wrap n)) (xs++putL n.toNat):=by
  rw [u64w h0 h1,show n=((n.toNat:Nat):Int) by omega];simp only[num_Add.f,Int.toNat_natCast];have:=putL_len (n:=n.toNat) (by omega);exact add_ev _ _ (by omega)
theorem add_is' {n:Int} (xs:List Int) (h0:0≤n) (h1:n<18446744073709551616) (hx:xs.length≤140737488355000):Ev (fun k=>num_Add.f k xs n) (xs++putL n.toNat):=by
  have:=add_is xs h0 h1 hx
  rwa [u64w h0 h1]at this
theorem action_ev {k i:Int} (xs:List Int) (h:okA k i) (hx:xs.length≤140737488354000):Ev (fun q=>msg_action.f q xs k i) (xs++actL k i):=by
  simp only[msg_action.f];refine Ev.pos (by omega) (Ev.bind (Ev.now _) ?_);unfold actL;rcases okA_act h with ⟨rfl,h0,h1⟩|⟨h1,h2,rfl⟩
  ·refine Ev.pos rfl (Ev.bind (add_is _ h0 (by omega) (by simp;omega)) ?_);rw [if_pos rfl,List.append_assoc];exact Ev.now _
  ·refine Ev.neg h1 ?_;rw [if_neg h1];exact Ev.now _
theorem put_ev (e:E11) (hn:e.n<340282366920938463463374607431768211456) (hs:0≤e.sq):Ev (fun k=>msg_Put.f k e.kd e.ro e.sq e.ti e.six (hi e.n) (lo e.n) e.ln e.ak e.ai e.ifc e.pe) (if okE e then (strOfNums (bodyL e),0) else ((⟨#[]⟩:ByteArray),2)):=by
  simp only[msg_Put.f];refine Ev.bind (echeck_ev e hn hs) ?_;by_cases h:okE e
  · rw [if_pos h,if_pos h];obtain⟨⟨h1,h2,h3,h4,h5,h6⟩,h7⟩:=h;have g1:=putL_len (n:=e.ro.toNat) (by omega);have g2:=putL_len (n:=e.sq.toNat) (by omega);have g3:=putL_len (n:=e.ti.toNat) (by omega);refine Ev.pos rfl (Ev.bind (add_is _ h1 (by omega) (by simp)) (Ev.bind (add_is' _ (by omega) (by omega) (by simp;omega)) (Ev.bind (add_is _ h5 (by omega) (by simp;omega)) ?_)));have hl:([e.kd]++putL e.ro.toNat++putL e.sq.toNat++putL e.ti.toNat).length≤31:=by simp;omega
    have hb:bodyL e= [e.kd]++putL e.ro.toNat++putL e.sq.toNat++putL e.ti.toNat++endL e:=by unfold bodyL;simp
    rw [hb];generalize [e.kd]++putL e.ro.toNat++putL e.sq.toNat++putL e.ti.toNat=L at hl ⊢;unfold endL;rcases h7 with ⟨hk,_⟩|⟨hk,hp,ha,_⟩|⟨hk,hp,_⟩|⟨hk,_,_,hi,hp⟩|⟨hk,_,_,hi,_⟩
    ·rw [if_neg (by omega),if_neg (by omega),if_neg (by omega),if_neg (by omega),List.append_nil];exact Ev.neg (by omega) (Ev.neg (by omega) (Ev.neg (by omega) (Ev.neg (by omega) (Ev.now _))))
    ·rw [if_pos hk];refine Ev.pos hk ?_;rw [prefix_is L hp (by omega)];simp only[Option.bind_some];have:=preL_len hp;refine Ev.bind (action_ev _ ha (by rw [List.length_append];omega)) ?_;rw [List.append_assoc];exact Ev.now _
    ·rw [if_neg (by omega),if_pos hk];refine Ev.neg (by omega) (Ev.pos hk ?_);rw [prefix_is L hp (by omega)];exact Ev.now _
    ·rw [if_neg (by omega),if_neg (by omega),if_pos hk];have:=putL_len (n:=e.ifc.toNat) (by omega);refine Ev.neg (by omega) (Ev.neg (by omega) (Ev.pos hk (Ev.bind (add_is _ hi.1 (by omega) (by omega)) (Ev.bind (add_is _ hp.1 (by omega) (by rw [List.length_append];omega)) ?_))));rw [List.append_assoc];exact Ev.now _
    ·rw [if_neg (by omega),if_neg (by omega),if_neg (by omega),if_pos hk];exact Ev.neg (by omega) (Ev.neg (by omega) (Ev.neg (by omega) (Ev.pos hk (Ev.bind (add_is _ hi.1 (by omega) (by omega)) (Ev.now _)))))
  ·rw [if_neg h,if_neg h];exact Ev.neg (by decide) (Ev.now _)
end Go.Proofs.Ythkdfojmhloofaa.Msg
end
section
namespace Go.Proofs.Ythkdfojmhloofaa.Msg
set_option linter.unusedVariables false
open Go.RowKit Go.Proofs.YthkdfojmhloofaaW.PrintWords Go.Proofs.YthkdfojmhloofaaW.PrintLast Go.Proofs.YthkdfojmhloofaaW.PrintMore Go.Proofs.Ythkdfojmhloofaa.Base Go.Proofs.Ythkdfojmhloofaa.Num Go.Proofs.Ythkdfojmhloofaa.Addr Go.Proofs.Ythkdfojmhloofaa.Be Go.Proofs.Ythkdfojmhloofaa.Q
end Go.Proofs.Ythkdfojmhloofaa.Msg
end
section
namespace Go.Proofs.Ythkdfojmhloofaa.Msg
set_option linter.unusedVariables false
open Go.RowKit Go.Proofs.YthkdfojmhloofaaW.PrintWords Go.Proofs.YthkdfojmhloofaaW.PrintLast Go.Proofs.YthkdfojmhloofaaW.PrintMore Go.Proofs.Ythkdfojmhloofaa.Base Go.Proofs.Ythkdfojmhloofaa.Num Go.Proofs.Ythkdfojmhloofaa.Addr Go.Proofs.Ythkdfojmhloofaa.Be Go.Proofs.Ythkdfojmhloofaa.Q
end Go.Proofs.Ythkdfojmhloofaa.Msg
end
section
namespace Go.Proofs.Ythkdfojmhloofaa.Q
open Go.RowKit Go.Proofs.YthkdfojmhloofaaW.PrintWords Go.Proofs.YthkdfojmhloofaaW.PrintLast Go.Proofs.YthkdfojmhloofaaW.PrintMore
attribute [local go_sem] max2_int min2_int max_two min_two max_three min_three max_four min_four   -- for this text's walks alone
set_option linter.unusedVariables false
set_option linter.unusedSimpArgs false
end Go.Proofs.Ythkdfojmhloofaa.Q
end
section
namespace Go.Proofs.Ythkdfojmhloofaa.Q
open Go.RowKit Go.Proofs.YthkdfojmhloofaaW.PrintWords Go.Proofs.YthkdfojmhloofaaW.PrintLast Go.Proofs.YthkdfojmhloofaaW.PrintMore
attribute [local go_sem] max2_int min2_int max_two min_two max_three min_three max_four min_four   -- for this text's walks alone
set_option linter.unusedVariables false
set_option linter.unusedSimpArgs false
end Go.Proofs.Ythkdfojmhloofaa.Q
end
section
namespace Go.Proofs.Ythkdfojmhloofaa.Q
open Go.RowKit Go.Proofs.YthkdfojmhloofaaW.PrintWords Go.Proofs.YthkdfojmhloofaaW.PrintLast Go.Proofs.YthkdfojmhloofaaW.PrintMore
attribute [local go_sem] max2_int min2_int max_two min_two max_three min_three max_four min_four   -- for this text's walks alone
set_option linter.unusedVariables false
set_option linter.unusedSimpArgs false
end Go.Proofs.Ythkdfojmhloofaa.Q
end
section
namespace Go.Proofs.Ythkdfojmhloofaa.Q
open Go.RowKit Go.Proofs.YthkdfojmhloofaaW.PrintWords Go.Proofs.YthkdfojmhloofaaW.PrintLast Go.Proofs.YthkdfojmhloofaaW.PrintMore
attribute [local go_sem] max2_int min2_int max_two min_two max_three min_three max_four min_four   -- for this text's walks alone
set_option linter.unusedVariables false
set_option linter.unusedSimpArgs false
attribute [local go_sem high] eqA38
def IsS80 (w0 W:World) (g:Nat) (f0:ByteArray) (f1:Bool) (f2:Int) (f3:ByteArray) (f4:List (S24)):Prop:= ∃ A4 c4,W.heap[g]? =some (.cells #[.string f0,.bool f1,.int .i64 f2,.string f3,.slice A4 f4.length c4] 80 (0,0))∧w0.heap.size≤g∧Kd.C k24 w0 A4 f4.length f4
theorem IsS80.grown {w0 W:World}{g:Nat}{f0:ByteArray}{f1:Bool}{f2:Int}{f3:ByteArray}{f4:List (S24)}{W1:World}{row:Option Nat} (h:IsS80 w0 W g f0 f1 f2 f3 f4) (hw:W.grownBy W1 row) (hne:some g≠row):IsS80 w0 W1 g f0 f1 f2 f3 f4:=by
 obtain⟨A4,c4,hb,hg,hr4⟩:=h;exact⟨A4,c4,blk_grown hb hw hne,hg,hr4⟩
theorem IsS80.kept {w0 W:World}{g:Nat}{f0:ByteArray}{f1:Bool}{f2:Int}{f3:ByteArray}{f4:List (S24)}{W1:World}{S:Nat→Prop} (h:IsS80 w0 W g f0 f1 f2 f3 f4) (hk:Kept W W1 S) (hne: ¬ S g):IsS80 w0 W1 g f0 f1 f2 f3 f4:=by
 obtain⟨A4,c4,hb,hg,hr4⟩:=h;exact⟨A4,c4,blk_kept hb hk hne,hg,hr4⟩
theorem IsS80.below {w0 W:World}{g:Nat}{f0:ByteArray}{f1:Bool}{f2:Int}{f3:ByteArray}{f4:List (S24)}{W1:World} (h:IsS80 w0 W g f0 f1 f2 f3 f4) (hw:Below W.heap.size W W1):IsS80 w0 W1 g f0 f1 f2 f3 f4:=h.grown (grown_of_below hw none) (by simp)
theorem IsS80.alloc {w0 W:World}{g:Nat}{f0:ByteArray}{f1:Bool}{f2:Int}{f3:ByteArray}{f4:List (S24)} (h:IsS80 w0 W g f0 f1 f2 f3 f4) (o:Obj):IsS80 w0 (W.alloc o) g f0 f1 f2 f3 f4:=h.below (below_alloc (Below.refl _ _) o)
theorem IsS80.drewN {w0 W:World}{g:Nat}{f0:ByteArray}{f1:Bool}{f2:Int}{f3:ByteArray}{f4:List (S24)} (h:IsS80 w0 W g f0 f1 f2 f3 f4) (m:Nat):IsS80 w0 (W.drewN m) g f0 f1 f2 f3 f4:=h
theorem IsS80.drew {w0 W:World}{g:Nat}{f0:ByteArray}{f1:Bool}{f2:Int}{f3:ByteArray}{f4:List (S24)} (h:IsS80 w0 W g f0 f1 f2 f3 f4):IsS80 w0 W.drew g f0 f1 f2 f3 f4:=h
theorem IsS80.at_ {w0 W:World}{g:Nat}{f0:ByteArray}{f1:Bool}{f2:Int}{f3:ByteArray}{f4:List (S24)}{w':World}{m:Nat} (hq:W.drewN m=w') (h:IsS80 w0 W g f0 f1 f2 f3 f4):IsS80 w0 w' g f0 f1 f2 f3 f4:=by subst hq;exact IsS80.drewN h m
theorem IsS80.apart {w0 W:World}{g:Nat}{f0:ByteArray}{f1:Bool}{f2:Int}{f3:ByteArray}{f4:List (S24)}{α:Type}{d:Kd α}{e:Nat}{base:Nat}{ok:Nat→Prop}{v:Value}{xs:List α} (h:IsS80 w0 W g f0 f1 f2 f3 f4) (ho:d.R e W base ok v xs) (ht: ∀ q,q∈e :: d.E→q≠80):d.R e W base (fun k=>ok k∧k≠g) v xs:=by
 obtain⟨A4,c4,hb,hg,hr4⟩:=h;exact Kd.R_types ho hb ht
theorem IsS80.own_ne {w0 W:World}{g:Nat}{f0:ByteArray}{f1:Bool}{f2:Int}{f3:ByteArray}{f4:List (S24)}{α:Type}{d:Kd α}{e:Nat}{base:Nat}{ok:Nat→Prop}{v:Value}{xs:List α} (h:IsS80 w0 W g f0 f1 f2 f3 f4) (ho:d.R e W base ok v xs) (ht:e≠80):some g≠v.ownBlock:=by
 obtain⟨A4,c4,hb,hg,hr4⟩:=h;exact Kd.R_ne ho hb ht
theorem IsS80.lt {w0 W:World}{g:Nat}{f0:ByteArray}{f1:Bool}{f2:Int}{f3:ByteArray}{f4:List (S24)} (h:IsS80 w0 W g f0 f1 f2 f3 f4):g<W.heap.size:=by
 obtain⟨A4,c4,hb,hg,hr4⟩:=h;exact blk_lt hb
theorem IsS80.ge {w0 W:World}{g:Nat}{f0:ByteArray}{f1:Bool}{f2:Int}{f3:ByteArray}{f4:List (S24)} (h:IsS80 w0 W g f0 f1 f2 f3 f4):w0.heap.size≤g:=by
 obtain⟨A4,c4,hb,hg,hr4⟩:=h;exact hg
theorem IsS80.far {w0 W:World}{g:Nat}{f0:ByteArray}{f1:Bool}{f2:Int}{f3:ByteArray}{f4:List (S24)}{p:Addr} (h:IsS80 w0 W g f0 f1 f2 f3 f4) (hne:g≠p.block) (u:Value):IsS80 w0 (W.setCell p u) g f0 f1 f2 f3 f4:=by
 obtain⟨A4,c4,hb,hg,hr4⟩:=h;exact⟨A4,c4,blk_far hb hne u,hg,hr4⟩
theorem IsS80.set_0 {w0 W:World}{g:Nat}{f0:ByteArray}{f1:Bool}{f2:Int}{f3:ByteArray}{f4:List (S24)} (h:IsS80 w0 W g f0 f1 f2 f3 f4) (x:ByteArray):IsS80 w0 (W.setCell ⟨g,0,none⟩ (.string x)) g x f1 f2 f3 f4:=by
 obtain⟨A4,c4,hb,hg,hr4⟩:=h;exact⟨A4,c4,by simpa using blk_set hb 0 (.string x),hg,hr4⟩
theorem IsS80.set_1 {w0 W:World}{g:Nat}{f0:ByteArray}{f1:Bool}{f2:Int}{f3:ByteArray}{f4:List (S24)} (h:IsS80 w0 W g f0 f1 f2 f3 f4) (x:Bool):IsS80 w0 (W.setCell ⟨g,1,none⟩ (.bool x)) g f0 x f2 f3 f4:=by
 obtain⟨A4,c4,hb,hg,hr4⟩:=h;exact⟨A4,c4,by simpa using blk_set hb 1 (.bool x),hg,hr4⟩
theorem IsS80.new (w0 W:World) (A4:Option Addr) (c4:Nat) (f0:ByteArray) (f1:Bool) (f2:Int) (f3:ByteArray) (f4:List (S24)) (hB:Below w0.heap.size w0 W) (hr4:Kd.C k24 w0 A4 f4.length f4):IsS80 w0 (W.alloc (.cells #[.string f0,.bool f1,.int .i64 f2,.string f3,.slice A4 f4.length c4] 80)) W.heap.size f0 f1 f2 f3 f4:=⟨A4,c4,by simpa using heap_alloc_new W _,hB.size,hr4⟩
end Go.Proofs.Ythkdfojmhloofaa.Q
end
section
namespace Go.Proofs.Ythkdfojmhloofaa.Q
open Go.RowKit Go.Proofs.YthkdfojmhloofaaW.PrintWords Go.Proofs.YthkdfojmhloofaaW.PrintLast Go.Proofs.YthkdfojmhloofaaW.PrintMore
attribute [local go_sem] max2_int min2_int max_two min_two max_three min_three max_four min_four   -- for this text's walks alone
set_option linter.unusedVariables false
set_option linter.unusedSimpArgs false
def CutI (w0 W : World) (g : Nat) (cs : Array Value) (v : Value) (out : List S24) : Prop :=
  W.heap[g]? = some (.cells cs 80 (0, 0)) ∧ w0.heap.size ≤ g ∧ Kd.R k24 24 W w0.heap.size (fun k => k ≠ g) v out ∧ Below w0.heap.size w0 W
theorem CutI.set {w0 W:World}{g:Nat}{cs:Array Value}{v:Value}{out:List S24} (h:CutI w0 W g cs v out) (j:Nat) (u:Value) {cs':Array Value} (e:cs.setIfInBounds j u=cs'):CutI w0 (W.setCell ⟨g,j,none⟩ u) g cs' v out:=by
  obtain⟨hb,hg,ho,hl⟩:=h;refine⟨e▸blk_set hb j u,hg,Kd.R_step ho (fun k hk _=>Below.heap_setCell W ⟨g,j,none⟩ u k hk),hl.setCell (p:=⟨g,j,none⟩) hg u⟩
theorem CutI.drewN {w0 W : World} {g : Nat} {cs : Array Value} {v : Value} {out : List S24} (h : CutI w0 W g cs v out) (n : Nat) : CutI w0 (W.drewN n) g cs v out :=
  ⟨h.1, h.2.1, Kd.R_drewN h.2.2.1 n, pw_below_drewN h.2.2.2 n⟩
theorem CutI.drew {w0 W:World}{g:Nat}{cs:Array Value}{v:Value}{out:List S24} (h:CutI w0 W g cs v out):CutI w0 W.drew g cs v out:=⟨h.1,h.2.1,Kd.R_drew h.2.2.1,below_drew1 h.2.2.2⟩
theorem CutI.drawn {w0 W W':World}{g:Nat}{cs:Array Value}{v:Value}{out:List S24} (h:CutI w0 W g cs v out) (hd:Drawn0 W W'):CutI w0 W' g cs v out:=by
  obtain⟨n,rfl⟩:=hd.out;exact h.drewN n
theorem CutI.lt {w0 W:World}{g:Nat}{cs:Array Value}{v:Value}{out:List S24} (h:CutI w0 W g cs v out):g<W.heap.size:=blk_lt h.1
theorem CutI.cells {w0 W:World}{g:Nat}{cs:Array Value}{v:Value}{out:List S24} (h:CutI w0 W g cs v out) (j:Nat):W.cell? ⟨g,j,none⟩=cs[j]? :=blk_cell h.1 j
end Go.Proofs.Ythkdfojmhloofaa.Q
end
section
namespace Go.Proofs.Ythkdfojmhloofaa.Cut
set_option linter.unusedVariables false
open Go.RowKit Go.Proofs.Ythkdfojmhloofaa.Q Go.Proofs.YthkdfojmhloofaaW.PrintWords Go.Proofs.YthkdfojmhloofaaW.PrintLast Go.Proofs.Ythkdfojmhloofaa.Base
def lenL (q:List Int):Int:=256 * rd q 1+rd q 2
end Go.Proofs.Ythkdfojmhloofaa.Cut
end
section
namespace Go.Proofs.Ythkdfojmhloofaa.Cut
set_option linter.unusedVariables false
open Go.RowKit Go.Proofs.Ythkdfojmhloofaa.Q Go.Proofs.YthkdfojmhloofaaW.PrintWords Go.Proofs.YthkdfojmhloofaaW.PrintLast Go.Proofs.Ythkdfojmhloofaa.Base
def Keeps (r:List Int) (b:Bool) (s:Int):Prop:=Bytes r∧0≤s∧s≤65535∧(b=true→s=0∧r= [])∧(r≠ []→s=0∧rd r 0=245∧(3≤r.length→1≤lenL r∧lenL r≤64∧(r.length:Int)<3+lenL r))
theorem Keeps.none:Keeps [] false 0:=⟨Bytes.nil,by omega,by omega,by simp,by simp⟩
def Begun (r:List Int):Prop:=rd r 0=245∧(3≤r.length→1≤lenL r∧lenL r≤64∧(r.length:Int)<3+lenL r)
instance (r:List Int):Decidable (Begun r):=by unfold Begun;infer_instance
def Right (r:List Int) (b:Bool) (s:Int):Prop:=0≤s∧s≤65535∧(b=true→s=0∧r= [])∧(r≠ []→s=0∧Begun r)
instance (r:List Int) (b:Bool) (s:Int):Decidable (Right r b s):=by unfold Right;infer_instance
theorem fit_eq (n:Int):cutter_fit.f n=some (decide (1≤n∧n≤64)):=by
  unfold cutter_fit.f;by_cases h:n ≥ 1;·rw [if_pos h];simp [h]
  ·rw [if_neg h];simp [h]
def wrapL (a:ByteArray):ByteArray × Int:=if 1≤a.size∧a.size≤64 then (strOfNums ([245,0,(a.size:Int)]++bytesOf a),0) else (⟨#[]⟩,11)
theorem wrap_eq (a:ByteArray):cutter_Wrap.f a=some (wrapL a):=by
  unfold cutter_Wrap.f wrapL;rw [fit_eq,Option.bind_some];by_cases h:1≤a.size∧a.size≤64
  · rw [if_pos (by simp;omega),if_pos h,Option.bind_some,strOfNums_size,if_pos (by simp;omega),str_append,str_bytes,show ((a.size:Int) % 256)=a.size by omega]
  · rw [if_neg (by simp;omega),if_neg h]
end Go.Proofs.Ythkdfojmhloofaa.Cut
end
section
namespace Go.Proofs.Ythkdfojmhloofaa.Stream
set_option linter.unusedVariables false
open Go.RowKit Go.Proofs.Ythkdfojmhloofaa.Q Go.Proofs.YthkdfojmhloofaaW.PrintWords Go.Proofs.YthkdfojmhloofaaW.PrintLast Go.Proofs.Ythkdfojmhloofaa.Base Go.Proofs.Ythkdfojmhloofaa.Num Go.Proofs.Ythkdfojmhloofaa.Addr Go.Proofs.Ythkdfojmhloofaa.Msg Go.Proofs.Ythkdfojmhloofaa.Cut
def msgL (e:E11):List Int:=245 :: 0 :: ((bodyL e).length:Int) :: bodyL e
def streamL : List E11 → List Int
  | [] => []
  | e :: l => msgL e ++ streamL l
end Go.Proofs.Ythkdfojmhloofaa.Stream
end
section
namespace Go.Proofs.Ythkdfojmhloofaa.Gram
set_option linter.unusedVariables false
open Go.RowKit Go.Proofs.Ythkdfojmhloofaa.Q Go.Proofs.YthkdfojmhloofaaW.PrintWords Go.Proofs.YthkdfojmhloofaaW.PrintLast Go.Proofs.Ythkdfojmhloofaa.Base Go.Proofs.Ythkdfojmhloofaa.Num Go.Proofs.Ythkdfojmhloofaa.Addr Go.Proofs.Ythkdfojmhloofaa.Msg Go.Proofs.Ythkdfojmhloofaa.Cut Go.Proofs.Ythkdfojmhloofaa.Stream Go.Proofs.Ythkdfojmhloofaa.Open
def nOf (x:S35):Nat:=x.f4.f1.f0.toNat * 18446744073709551616+x.f4.f1.f1.toNat
def E (x:S35):E11:=⟨x.f0,x.f1,x.f2,x.f3,x.f4.f0,nOf x,x.f4.f2,x.f5.f0,x.f5.f1,x.f6,x.f7⟩
theorem nOf_is {x:S35} (h:wf35 x):hi (nOf x)=x.f4.f1.f0∧lo (nOf x)=x.f4.f1.f1∧nOf x<340282366920938463463374607431768211456∧0≤x.f2:=by
  obtain⟨_,_,w2,_,⟨_,⟨h1,h2⟩,_⟩,_⟩:=h;have a:=wf_u64 h1;have b:=wf_u64 h2;have c:=wf_u64 w2;unfold nOf hi lo;omega
theorem rdE {l:List (S35)}{i:Nat}{x:S35}{r:List (S35)} (h:l.drop i=x :: r):rd_T35 l (i:Int)=x:=by
  have e:l[i]? =some x:=by rw [← List.head?_drop,h];rfl
  simp [rd_T35,List.getD_eq_getElem?_getD,e]
theorem dlt {α:Type}{l:List α}{i:Nat}{c:α}{m:List α} (h:l.drop i=c :: m):i<l.length:=by
  have:=congrArg List.length h;simp at this;omega
theorem dnext {α:Type}{l:List α}{i:Nat}{x:α}{r:List α} (h:l.drop i=x :: r):l.drop (i+1)=r:=by rw [← List.drop_drop,h];rfl
theorem stream_l_ev: ∀ (r:List (S35)) (p:List Int),(∀ x∈r,wf35 x)→p.length+67 * r.length≤140737488355328→
    Ev (fun k=>gram_Stream.l k r (strOfNums p)) (if ∀ x∈r,okE (E x) then (strOfNums (p++streamL (r.map E)),0) else ((⟨#[]⟩:ByteArray),2))
  | [],p,_,_=>by
    rw [if_pos (by simp)];exact Ev.const (by simp [streamL])
  |x :: r,p,hw,hl=>by
    obtain⟨n1,n2,n3,n4⟩:=nOf_is (hw x (by simp));have hput:=put_ev (E x) n3 n4;have e5:hi (E x).n=x.f4.f1.f0:=n1;have e6:lo (E x).n=x.f4.f1.f1:=n2;rw [e5,e6]at hput;simp only[List.length_cons]at hl;simp only[gram_Stream.l];refine Ev.bind hput ?_;by_cases ok:okE (E x)
    · rw [if_pos ok];have hlen:=bodyL_len ok;have hz:(strOfNums (bodyL (E x))).size=(bodyL (E x)).length:=strOfNums_size _;have hwr:wrapL (strOfNums (bodyL (E x)))=(strOfNums (msgL (E x)),0):=by unfold wrapL;rw [if_pos (by omega),hz,bytes_str (bodyL_bytes ok)];rfl
      have hml:(msgL (E x)).length≤67:=by simp only[msgL,List.length_cons];omega
      refine Ev.neg (by simp) (Ev.bind (Ev.const (wrap_eq _)) ?_);rw [hwr];refine Ev.neg (by simp) (Ev.pos (by show (strOfNums _).size+(strOfNums _).size≤_;rw [strOfNums_size,strOfNums_size];omega) ?_)
      show Ev (fun k=>gram_Stream.l k r (strOfNums p++strOfNums (msgL (E x)))) _
      rw [← str_append];refine Ev.to (stream_l_ev r (p++msgL (E x)) (fun y hy=>hw y (by simp [hy])) (by rw [List.length_append];omega)) ?_;by_cases hr: ∀ y∈r,okE (E y);·rw [if_pos hr,if_pos (by intro y hy;rcases List.mem_cons.1 hy with rfl|hy;exact ok;exact hr y hy)];simp [streamL]
      · rw [if_neg hr,if_neg (fun h=>hr fun y hy=>h y (by simp [hy]))]
    ·rw [if_neg ok,if_neg (fun h=>ok (h x (by simp)))];exact Ev.pos (by decide) (Ev.const rfl)
end Go.Proofs.Ythkdfojmhloofaa.Gram
end
section
namespace Go.Proofs.Ythkdfojmhloofaa.Msg
set_option linter.unusedVariables false
open Go.RowKit Go.Proofs.YthkdfojmhloofaaW.PrintWords Go.Proofs.YthkdfojmhloofaaW.PrintLast Go.Proofs.YthkdfojmhloofaaW.PrintMore Go.Proofs.Ythkdfojmhloofaa.Base Go.Proofs.Ythkdfojmhloofaa.Num Go.Proofs.Ythkdfojmhloofaa.Addr Go.Proofs.Ythkdfojmhloofaa.Be Go.Proofs.Ythkdfojmhloofaa.Q
theorem racts_is (k i:Int):spoorref11_Acts.f k i=some (decide (okA k i)):=by
  unfold spoorref11_Acts.f;by_cases h1:k=1
  · rw [if_pos h1];by_cases h2:i ≥ 0
    · rw [if_pos h2]
      congr 1
      apply decide_eq_decide.2;unfold okA;omega
    · rw [if_neg h2]
      congr 1
      symm
      rw [decide_eq_false_iff_not];unfold okA;omega
  rw [if_neg h1];by_cases h2:k=2
  · rw [if_pos h2]
    congr 1
    rw [Bool.eq_iff_iff];simp only[beq_iff_eq,decide_eq_true_eq];unfold okA;omega
  rw [if_neg h2];by_cases h3:k=3
  · rw [if_pos h3]
    congr 1
    rw [Bool.eq_iff_iff];simp only[beq_iff_eq,decide_eq_true_eq];unfold okA;omega
  rw [if_neg h3]
  congr 1
  rw [Bool.eq_iff_iff];simp only[decide_eq_true_eq];unfold okA;constructor
  · intro h;cases h
  · omega
theorem rj0_bad (a b c d:Int) (s:Bool) (x1 x2 x3 x4 x5 x6 x7:Int):Ev (fun k=>spoorref11_Check.j0 k true a b c d s x1 x2 x3 x4 x5 x6 x7) 2:=by
  refine Ev.succ ?_;simp only[spoorref11_Check.j0];exact Ev.pos trivial (Ev.now _)
theorem rj1_ev (e:E11) (hn:e.n<340282366920938463463374607431768211456) (hN:okN e) (b:Bool) (hb:b=true↔e.kd=1∨e.kd=2):
    Ev (fun k=>spoorref11_Check.j1 k true e.kd b e.kd e.ro e.sq e.ti e.six (hi e.n) (lo e.n) e.ln e.ak e.ai e.ifc e.pe e.kd e.ro e.sq e.ti false 0 0 0 0 0 0 0) (if okE e then 0 else 2):=by
  have h0:= @hilo0 e.n
  have hoe : okE e ↔ ((e.kd = 1 ∨ e.kd = 2) ∧ noP e ∧ noA e ∧ e.ifc = 0 ∧ e.pe = 0 ∨ e.kd = 3 ∧ okP e.six e.n e.ln ∧ okA e.ak e.ai ∧ e.ifc = 0 ∧ e.pe = 0 ∨ e.kd = 4 ∧ okP e.six e.n e.ln ∧ noA e ∧ e.ifc = 0 ∧ e.pe = 0 ∨
   e.kd = 5 ∧ noP e ∧ noA e ∧ (0 ≤ e.ifc ∧ e.ifc ≤ 65536) ∧ (0 ≤ e.pe ∧ e.pe ≤ 1048576) ∨ e.kd = 6 ∧ noP e ∧ noA e ∧ (0 ≤ e.ifc ∧ e.ifc ≤ 65536) ∧ e.pe = 0) := ⟨fun h => h.2, fun h => ⟨hN, h⟩⟩
  refine Ev.succ ?_;simp only[spoorref11_Check.j1];by_cases c0:e.kd=1∨e.kd=2;·refine Ev.pos (hb.2 c0) (Ev.pos trivial (Ev.const (fin ?_)));rw [hoe];unfold noP noA;cases hsx:e.six <;> rcases c0 with c|c <;> simp [c] <;> omega
  refine Ev.neg (fun h=>c0 (hb.1 h)) ?_;by_cases c3:e.kd=3
  · refine Ev.pos c3 (Ev.bind (rcheck_ev e.six hn e.ln) ?_);by_cases cp:okP e.six e.n e.ln
    · rw [if_pos cp];refine Ev.pos rfl ?_;rw [racts_is];simp only[Option.bind_some];by_cases ca:okA e.ak e.ai;·refine Ev.pos (decide_eq_true ca) (Ev.const (fin ?_));rw [hoe];simp [c3,cp,ca] <;> omega
      ·refine Ev.neg (by simpa using ca) (Ev.const ?_);rw [if_neg (by rw [hoe];simp [c3,ca])]
    ·rw [if_neg cp];refine Ev.neg (by decide) (Ev.const ?_);rw [if_neg (by rw [hoe];simp [c3,cp])]
  refine Ev.neg c3 ?_;by_cases c4:e.kd=4
  · refine Ev.pos c4 (Ev.bind (rcheck_ev e.six hn e.ln) ?_);by_cases cp:okP e.six e.n e.ln;·rw [if_pos cp];refine Ev.pos rfl (Ev.const (fin ?_));rw [hoe];unfold noA;simp [c4,cp] <;> omega
    ·rw [if_neg cp];refine Ev.neg (by decide) (Ev.const ?_);rw [if_neg (by rw [hoe];simp [c4,cp])]
  refine Ev.neg c4 ?_;by_cases c5:e.kd=5
  · refine Ev.pos c5 ?_;by_cases ca:0≤e.pe∧e.pe≤1048576
    · by_cases cb:0≤e.ifc∧e.ifc≤65536;·refine Ev.pos (by omega) (Ev.pos (by omega) (Ev.pos (by omega) (Ev.pos (by omega) (Ev.const (fin ?_)))));rw [hoe];unfold noP noA;cases hsx:e.six <;> simp [c5,ca,cb] <;> omega
      · rw [if_neg (show ¬ okE e by rw [hoe];omega)];by_cases g:e.ifc ≥ 0
        · exact Ev.pos g (Ev.neg (by omega) (Ev.now _))
        · exact Ev.neg g (Ev.now _)
    · rw [if_neg (show ¬ okE e by rw [hoe];omega)];by_cases g:e.ifc ≥ 0
      · refine Ev.pos g ?_;by_cases g2:e.ifc≤65536
        · refine Ev.pos g2 ?_;by_cases g3:e.pe ≥ 0
          · exact Ev.pos g3 (Ev.neg (by omega) (Ev.now _))
          · exact Ev.neg g3 (Ev.now _)
        · exact Ev.neg g2 (Ev.now _)
      · exact Ev.neg g (Ev.now _)
  refine Ev.neg c5 ?_;by_cases c6:e.kd=6
  · refine Ev.pos c6 ?_;by_cases cb:0≤e.ifc∧e.ifc≤65536;·refine Ev.pos (by omega) (Ev.pos (by omega) (Ev.const (fin ?_)));rw [hoe];unfold noP noA;cases hsx:e.six <;> simp [c6,cb] <;> omega
    · rw [if_neg (show ¬ okE e by rw [hoe];omega)];by_cases g:e.ifc ≥ 0
      · exact Ev.pos g (Ev.neg (by omega) (Ev.now _))
      · exact Ev.neg g (Ev.now _)
  ·refine Ev.neg c6 (Ev.const ?_);rw [if_neg (show ¬ okE e by rw [hoe];omega)]
theorem recheck_ev (e:E11) (hn:e.n<340282366920938463463374607431768211456):Ev (fun k=>spoorref11_Check.f k e.kd e.ro e.sq e.ti e.six (hi e.n) (lo e.n) e.ln e.ak e.ai e.ifc e.pe) (if okE e then 0 else 2):=by
  simp only[spoorref11_Check.f];by_cases h:okN e
  · obtain⟨h1,h2,h3,h4,h5,h6⟩:=h;refine Ev.neg (by omega) (Ev.neg (by omega) (Ev.neg (by omega) (Ev.neg (by omega) (Ev.neg (by omega) ?_))));rw [decide_eq_false (show ¬ e.ti > 1099511627776 by omega)];refine Ev.succ ?_;simp only[spoorref11_Check.j0];refine Ev.neg (by decide) ?_;by_cases c:e.kd=1
    · exact Ev.pos c (rj1_ev e hn ⟨h1,h2,h3,h4,h5,h6⟩ _ (by simp [c]))
    · exact Ev.neg c (rj1_ev e hn ⟨h1,h2,h3,h4,h5,h6⟩ _ (by simp [c]))
  · rw [if_neg (fun g=>h g.1)];by_cases c1:e.ro<0
    · exact Ev.pos c1 (rj0_bad _ _ _ _ _ _ _ _ _ _ _ _)
    refine Ev.neg c1 ?_;by_cases c2:e.ro > 1048576
    · exact Ev.pos c2 (rj0_bad _ _ _ _ _ _ _ _ _ _ _ _)
    refine Ev.neg c2 ?_;by_cases c2:e.sq<1
    · exact Ev.pos c2 (rj0_bad _ _ _ _ _ _ _ _ _ _ _ _)
    refine Ev.neg c2 ?_;by_cases c3:e.sq > 1099511627776
    · exact Ev.pos c3 (rj0_bad _ _ _ _ _ _ _ _ _ _ _ _)
    refine Ev.neg c3 ?_;by_cases c4:e.ti<0
    · exact Ev.pos c4 (rj0_bad _ _ _ _ _ _ _ _ _ _ _ _)
    refine Ev.neg c4 ?_;rw [decide_eq_true (show e.ti > 1099511627776 by unfold okN at h;omega)];exact rj0_bad _ _ _ _ _ _ _ _ _ _ _ _
theorem eight_step {n:Int}{l:List Int}{i:Int}{r:ByteArray} (h0:0≤n) (h1:n<18446744073709551616) (hi:0≤i) (hi1:i≤7) (hl:l.length=8)
    (h:Ev (fun k=>spoorref05_Eight.l0 k (n / 256) (l.set i.toNat (n % 256)) (i - 1)) r):Ev (fun k=>spoorref05_Eight.l0 k n l i) r:=by
  refine Ev.succ ?_;simp only[spoorref05_Eight.l0];refine Ev.pos hi (Ev.pos hi (Ev.pos (by omega) ?_));have e1:IntKind.u64.wrap (Int.tdiv n 256)=n / 256:=by rw [Int.tdiv_eq_ediv_of_nonneg h0];exact u64w (by omega) (by omega)
  have e2:Int.tmod n 256 % 256=n % 256:=by rw [Int.tmod_eq_emod_of_nonneg h0];omega
  rw [e1,e2,w64 (by omega) (by omega)];exact h
theorem eight_ev (n:Int) (h0:0≤n) (h1:n<18446744073709551616):Ev (fun k=>spoorref05_Eight.f k n) (strOfNums (byt8 n)):=by
  simp only[spoorref05_Eight.f];refine eight_step h0 h1 (by omega) (by omega) rfl ?_;refine eight_step (by omega) (by omega) (by omega) (by omega) rfl ?_;refine eight_step (by omega) (by omega) (by omega) (by omega) rfl ?_;refine eight_step (by omega) (by omega) (by omega) (by omega) rfl ?_;refine eight_step (by omega) (by omega) (by omega) (by omega) rfl ?_;refine eight_step (by omega) (by omega) (by omega) (by omega) rfl ?_;refine eight_step (by omega) (by omega) (by omega) (by omega) rfl ?_;refine eight_step (by omega) (by omega) (by omega) (by omega) rfl ?_;refine Ev.succ ?_;simp only[spoorref05_Eight.l0];refine Ev.neg (by omega) (Ev.const ?_)
  congr 2
  simp only[List.replicate,byt8]
  show [_,_,_,_,_,_,_,_]=_
  simp only[List.cons.injEq,and_true];omega
theorem address_ev (six:Bool) {n:Nat} (hn:n<340282366920938463463374607431768211456):Ev (fun k=>spoorref11_address.f k six (hi n) (lo n)) (strOfNums (be (Bn six) n)):=by
  have h1:=hi_range hn;have h2:=lo_range n;simp only[spoorref11_address.f];refine Ev.bind (eight_ev _ h1.1 h1.2) (Ev.bind (eight_ev _ h2.1 h2.2) ?_);have e:=word_six hn;rw [← str_append,e];refine Ev.pos (by rw [strOfNums_size,strOfNums_size];exact (by decide:8+8≤9223372036854775807)) ?_;cases six with
  |true=>exact Ev.pos rfl (Ev.now _)
  |false=>
    refine Ev.neg (by decide) (Ev.pos (by rw [strOfNums_size,be_len];decide) (Ev.const ?_));rw [str_from,bytes_str (be_bytes _ _),show 16=12+4 from rfl,be_split 4 12,List.drop_left' (be_len _ _)];rfl
theorem kn_tdiv {len:Int} (h0:0≤len) (h1:len≤128):wrap64 (Int.tdiv (wrap64 (len+7)) 8)=(Kn len:Int):=by
  rw [w64 (n:=len+7) (by omega) (by omega),Int.tdiv_eq_ediv_of_nonneg (by omega),w64 (by omega) (by omega)];unfold Kn;omega
theorem rputprefix_ev (six:Bool) {n:Nat} (hn:n<340282366920938463463374607431768211456) (len:Int):Ev (fun k=>spoorref11_PutPrefix.f k six (hi n) (lo n) len) (if okP six n len then (strOfNums (preL six n len),0) else ((⟨#[]⟩:ByteArray),2)):=by
  simp only[spoorref11_PutPrefix.f];refine Ev.bind (rcheck_ev six hn len) ?_;by_cases h:okP six n len
  · rw [if_pos h,if_pos h];have h':=h;obtain⟨h0,h1,_⟩:=h';have hw:=Wn_le six;have hk:=kn_le h1;rw [kn_tdiv h0 (by omega)];refine Ev.pos rfl ?_;have hB:Bn six≤16:=by cases six <;> simp [Bn]
    have hx:strOfNums [sixB six,len % 256]++(strOfNums (be (Bn six) n)).extract 0 (Kn len:Int).toNat=strOfNums (preL six n len):=by
      rw [str_part,bytes_str (be_bytes _ _),List.drop_zero, ← str_append,Int.toNat_natCast]
      congr 1
      show sixB six :: len % 256 :: _=_
      rw [show len % 256=len by omega];rfl
    have hz:(strOfNums [sixB six,len % 256]).size+((strOfNums (be (Bn six) n)).extract 0 (Kn len:Int).toNat).size≤9223372036854775807:=by rw [str_part,strOfNums_size,strOfNums_size,bytes_str (be_bytes _ _),List.drop_zero,List.length_take,be_len];simp only[List.length_cons,List.length_nil];omega
    cases six with
    |true=>
      refine Ev.pos rfl (Ev.bind (Ev.now _) (Ev.bind (address_ev true hn) (Ev.pos (by omega) (Ev.pos (by rw [strOfNums_size,be_len];omega) (Ev.pos hz (Ev.const ?_))))));rw [← hx];rfl
    |false=>
      refine Ev.neg (by decide) (Ev.bind (Ev.now _) (Ev.bind (address_ev false hn) (Ev.pos (by omega) (Ev.pos (by rw [strOfNums_size,be_len];omega) (Ev.pos hz (Ev.const ?_))))));rw [← hx];rfl
  ·rw [if_neg h,if_neg h];exact Ev.neg (by decide) (Ev.now _)
theorem rnum_ev {m:Int} (h0:0≤m) (h1:m<18446744073709551616):Ev (fun k=>spoorref01_Put.f k (IntKind.u64.wrap m)) (strOfNums (putL m.toNat)):=by
  rw [u64w h0 h1,show m=((m.toNat:Nat):Int) by omega];exact rput_ev _ (by omega)
theorem rnum_ev' {m:Int} (h0:0≤m) (h1:m<18446744073709551616):Ev (fun k=>spoorref01_Put.f k m) (strOfNums (putL m.toNat)):=by
  have:=rnum_ev h0 h1
  rwa [u64w h0 h1]at this
theorem rputaction_ev (k i:Int):Ev (fun q=>spoorref11_PutAction.f q k i) (if okA k i then (strOfNums (actL k i),0) else ((⟨#[]⟩:ByteArray),2)):=by
  simp only[spoorref11_PutAction.f];rw [racts_is];simp only[Option.bind_some];by_cases h:okA k i
  · rw [if_pos h];refine Ev.pos (decide_eq_true h) ?_;unfold actL;rcases okA_act h with ⟨rfl,h0,h1⟩|⟨h1,h2,rfl⟩
    ·rw [if_pos rfl];have:=putL_len (n:=i.toNat) (by omega);refine Ev.pos rfl (Ev.bind (rnum_ev h0 (by omega)) (Ev.pos (by rw [strOfNums_size,strOfNums_size];simp only[List.length_cons,List.length_nil];omega) (Ev.const ?_)));rw [← str_append];rfl
    ·rw [if_neg h1];exact Ev.neg h1 (Ev.now _)
  ·rw [if_neg h];exact Ev.neg (by simpa using h) (Ev.now _)
end Go.Proofs.Ythkdfojmhloofaa.Msg
end
section
namespace Go.Proofs.Ythkdfojmhloofaa.Msg
set_option linter.unusedVariables false
open Go.RowKit Go.Proofs.YthkdfojmhloofaaW.PrintWords Go.Proofs.YthkdfojmhloofaaW.PrintLast Go.Proofs.YthkdfojmhloofaaW.PrintMore Go.Proofs.Ythkdfojmhloofaa.Base Go.Proofs.Ythkdfojmhloofaa.Num Go.Proofs.Ythkdfojmhloofaa.Addr Go.Proofs.Ythkdfojmhloofaa.Be Go.Proofs.Ythkdfojmhloofaa.Q
theorem rputev (e:E11) (hn:e.n<340282366920938463463374607431768211456):Ev (fun k=>spoorref11_Put.f k e.kd e.ro e.sq e.ti e.six (hi e.n) (lo e.n) e.ln e.ak e.ai e.ifc e.pe) (if okE e then (strOfNums (bodyL e),0) else ((⟨#[]⟩:ByteArray),2)):=by
  simp only[spoorref11_Put.f];refine Ev.bind (recheck_ev e hn) ?_;by_cases h:okE e
  · rw [if_pos h,if_pos h];have hlen:=bodyL_len h;obtain⟨⟨h1,h2,h3,h4,h5,h6⟩,h7⟩:=h;have g1:=putL_len (n:=e.ro.toNat) (by omega);have g2:=putL_len (n:=e.sq.toNat) (by omega);have g3:=putL_len (n:=e.ti.toNat) (by omega);refine Ev.pos rfl (Ev.bind (Ev.now _) (Ev.bind (rnum_ev h1 (by omega)) (Ev.pos (by rw [strOfNums_size,strOfNums_size];simp only[List.length_cons,List.length_nil];omega) (Ev.bind (rnum_ev' (by omega) (by omega)) ?_))));rw [← str_append];refine Ev.pos (by rw [strOfNums_size,strOfNums_size];simp only[List.length_append,List.length_cons,List.length_nil];omega) (Ev.bind (rnum_ev h5 (by omega)) ?_);rw [← str_append];refine Ev.pos (by rw [strOfNums_size,strOfNums_size];simp only[List.length_append,List.length_cons,List.length_nil];omega) ?_;rw [← str_append];have hl:([e.kd]++putL e.ro.toNat++putL e.sq.toNat++putL e.ti.toNat).length≤31:=by simp;omega
    have hb:bodyL e= [e.kd]++putL e.ro.toNat++putL e.sq.toNat++putL e.ti.toNat++endL e:=by unfold bodyL;simp
    rw [hb];generalize [e.kd]++putL e.ro.toNat++putL e.sq.toNat++putL e.ti.toNat=L at hl ⊢;have none3: ∀ (M:List Int),M.length≤100→e.kd≠5→e.kd≠6→Ev (fun k=>spoorref11_Put.j2 k (strOfNums M) e.kd e.ro e.sq e.ti e.six (hi e.n) (lo e.n) e.ln e.ak e.ai e.ifc e.pe) (strOfNums M,0):=by intro M hM c5 c6;refine Ev.succ ?_;simp only[spoorref11_Put.j2];refine Ev.neg c5 (Ev.succ ?_);simp only[spoorref11_Put.j3];exact Ev.neg (by simpa using c6) (Ev.neg c5 (Ev.now _))
    unfold endL;rcases h7 with ⟨hk,_⟩|⟨hk,hp,ha,_⟩|⟨hk,hp,_⟩|⟨hk,_,_,hi,hp⟩|⟨hk,_,_,hi,_⟩
    ·rw [if_neg (by omega),if_neg (by omega),if_neg (by omega),if_neg (by omega),List.append_nil];refine Ev.neg (by omega) (Ev.succ ?_);simp only[spoorref11_Put.j0];refine Ev.neg (by simp;omega) (Ev.succ ?_);simp only[spoorref11_Put.j1];exact Ev.neg (by omega) (none3 L (by omega) (by omega) (by omega))
    ·rw [if_pos hk];refine Ev.pos hk (Ev.succ ?_);simp only[spoorref11_Put.j0];have q:=rputprefix_ev e.six hn e.ln;rw [if_pos hp]at q;have l1:=preL_len hp;have l2:=actL_len ha;refine Ev.pos trivial (Ev.bind q (Ev.pos (by rw [strOfNums_size,strOfNums_size];omega) ?_));rw [← str_append];refine Ev.succ ?_;simp only[spoorref11_Put.j1];have q2:=rputaction_ev e.ak e.ai;rw [if_pos ha]at q2;refine Ev.pos hk (Ev.bind q2 (Ev.pos (by rw [strOfNums_size,strOfNums_size,List.length_append];omega) ?_));rw [← str_append,List.append_assoc];exact none3 _ (by rw [List.length_append,List.length_append];omega) (by omega) (by omega)
    ·rw [if_neg (by omega),if_pos hk];refine Ev.neg (by omega) (Ev.succ ?_);simp only[spoorref11_Put.j0];have q:=rputprefix_ev e.six hn e.ln;rw [if_pos hp]at q;have l1:=preL_len hp;refine Ev.pos (by simpa using hk) (Ev.bind q (Ev.pos (by rw [strOfNums_size,strOfNums_size];omega) ?_));rw [← str_append];refine Ev.succ ?_;simp only[spoorref11_Put.j1];exact Ev.neg (by omega) (none3 _ (by rw [List.length_append];omega) (by omega) (by omega))
    ·rw [if_neg (by omega),if_neg (by omega),if_pos hk];have l1:=putL_len (n:=e.ifc.toNat) (by omega);have l2:=putL_len (n:=e.pe.toNat) (by omega);refine Ev.neg (by omega) (Ev.succ ?_);simp only[spoorref11_Put.j0];refine Ev.neg (by simp;omega) (Ev.succ ?_);simp only[spoorref11_Put.j1];refine Ev.neg (by omega) (Ev.succ ?_);simp only[spoorref11_Put.j2];refine Ev.pos hk (Ev.succ ?_);simp only[spoorref11_Put.j3];refine Ev.pos trivial (Ev.bind (rnum_ev hi.1 (by omega)) (Ev.pos (by rw [strOfNums_size,strOfNums_size];omega) (Ev.pos hk (Ev.bind (rnum_ev hp.1 (by omega)) ?_))));rw [← str_append];refine Ev.pos (by rw [strOfNums_size,strOfNums_size,List.length_append];omega) (Ev.const ?_);rw [← str_append,List.append_assoc]
    ·rw [if_neg (by omega),if_neg (by omega),if_neg (by omega),if_pos hk];have l1:=putL_len (n:=e.ifc.toNat) (by omega);refine Ev.neg (by omega) (Ev.succ ?_);simp only[spoorref11_Put.j0];refine Ev.neg (by simp;omega) (Ev.succ ?_);simp only[spoorref11_Put.j1];refine Ev.neg (by omega) (Ev.succ ?_);simp only[spoorref11_Put.j2];refine Ev.neg (by omega) (Ev.succ ?_);simp only[spoorref11_Put.j3];refine Ev.pos (by simpa using hk) (Ev.bind (rnum_ev hi.1 (by omega)) (Ev.pos (by rw [strOfNums_size,strOfNums_size];omega) (Ev.neg (by omega) (Ev.const ?_))));rw [← str_append]
  ·rw [if_neg h,if_neg h];exact Ev.neg (by decide) (Ev.now _)
end Go.Proofs.Ythkdfojmhloofaa.Msg
end
section
namespace Go.Proofs.Ythkdfojmhloofaa.Gram
set_option linter.unusedVariables false
open Go.RowKit Go.Proofs.Ythkdfojmhloofaa.Q Go.Proofs.YthkdfojmhloofaaW.PrintWords Go.Proofs.YthkdfojmhloofaaW.PrintLast Go.Proofs.Ythkdfojmhloofaa.Base Go.Proofs.Ythkdfojmhloofaa.Num Go.Proofs.Ythkdfojmhloofaa.Addr Go.Proofs.Ythkdfojmhloofaa.Msg Go.Proofs.Ythkdfojmhloofaa.Cut Go.Proofs.Ythkdfojmhloofaa.Stream Go.Proofs.Ythkdfojmhloofaa.Open
theorem rwrap_eq (a:ByteArray):spoorref12_Wrap.f a=some (wrapL a):=by
  unfold spoorref12_Wrap.f wrapL;by_cases h:1≤a.size∧a.size≤64
  · rw [if_neg (by omega),if_neg (by omega),if_pos h,Option.bind_some,strOfNums_size,if_pos (by simp;omega),str_append,str_bytes,show ((a.size:Int) % 256)=a.size by omega]
  · rw [if_neg h];by_cases h1:(a.size:Int)<1
    · rw [if_pos h1]
    · rw [if_neg h1,if_pos (by omega)]
theorem rstream_l (l:List (S35)) (hw: ∀ x∈l,wf35 x) (hn:l.length≤1466015503659): ∀ (r:List (S35)) (i:Nat) (p:List Int),l.drop i=r→p.length+67 * r.length≤140737488355328→
    Ev (fun k=>spoorref13_Stream.l0 k (strOfNums p) l (l.length:Int) (i:Int)) (if ∀ x∈r,okE (E x) then (strOfNums (p++streamL (r.map E)),0) else ((⟨#[]⟩:ByteArray),2))
  | [],i,p,hd,_=>by
    have:l.length≤i:=List.drop_eq_nil_iff.1 hd;rw [if_pos (by simp)];refine Ev.succ ?_;simp only[spoorref13_Stream.l0];exact Ev.neg (by omega) (Ev.const (by simp [streamL]))
  |x :: r,i,p,hd,hl=>by
    have hlt:=dlt hd;have hx:x∈l:=List.mem_of_mem_drop (i:=i) (by rw [hd];simp);obtain⟨n1,n2,n3,n4⟩:=nOf_is (hw x hx);have hput:=rputev (E x) n3;have e5:hi (E x).n=x.f4.f1.f0:=n1;have e6:lo (E x).n=x.f4.f1.f1:=n2;rw [e5,e6]at hput;simp only[List.length_cons]at hl;refine Ev.succ ?_;simp only[spoorref13_Stream.l0,rdE hd];refine Ev.pos (by omega) (Ev.pos (by omega) (Ev.pos (by omega) (Ev.bind hput ?_)));by_cases ok:okE (E x)
    · rw [if_pos ok];have hlen:=bodyL_len ok;have hz:(strOfNums (bodyL (E x))).size=(bodyL (E x)).length:=strOfNums_size _;have hwr:wrapL (strOfNums (bodyL (E x)))=(strOfNums (msgL (E x)),0):=by unfold wrapL;rw [if_pos (by omega),hz,bytes_str (bodyL_bytes ok)];rfl
      have hml:(msgL (E x)).length≤67:=by simp only[msgL,List.length_cons];omega
      refine Ev.pos rfl (Ev.bind (Ev.const (rwrap_eq _)) ?_);rw [hwr];refine Ev.pos (by show (strOfNums _).size+(strOfNums _).size≤_;rw [strOfNums_size,strOfNums_size];omega) ?_
      show Ev (fun k=>spoorref13_Stream.l0 k (strOfNums p++strOfNums (msgL (E x))) l (l.length:Int) (wrap64 ((i:Int)+1))) _
      rw [← str_append,w64 (by omega) (by omega),show ((i:Int)+1)=((i+1:Nat):Int) by omega];refine Ev.to (rstream_l l hw hn r (i+1) (p++msgL (E x)) (dnext hd) (by rw [List.length_append];omega)) ?_;by_cases hr: ∀ y∈r,okE (E y);·rw [if_pos hr,if_pos (by intro y hy;rcases List.mem_cons.1 hy with rfl|hy;exact ok;exact hr y hy)];simp [streamL]
      · rw [if_neg hr,if_neg (fun h=>hr fun y hy=>h y (by simp [hy]))]
    ·rw [if_neg ok,if_neg (fun h=>ok (h x (by simp)))];exact Ev.neg (by decide) (Ev.const rfl)
theorem rstream_ev (l:List (S35)) (hw: ∀ x∈l,wf35 x) (hn:l.length≤1466015503659) (hl:67 * l.length≤140737488355328):Ev (fun k=>spoorref13_Stream.f k l) (if ∀ x∈l,okE (E x) then (strOfNums (streamL (l.map E)),0) else ((⟨#[]⟩:ByteArray),2)):=by
  have h:=rstream_l l hw hn l 0 [] rfl (by simp;omega);exact h
end Go.Proofs.Ythkdfojmhloofaa.Gram
end
section
namespace Go.Proofs.Ythkdfojmhloofaa.Pure
set_option linter.unusedVariables false
open Go.RowKit Go.Proofs.Ythkdfojmhloofaa.Q Go.Proofs.YthkdfojmhloofaaW.PrintWords Go.Proofs.YthkdfojmhloofaaW.PrintLast Go.Proofs.Ythkdfojmhloofaa.Base Go.Proofs.Ythkdfojmhloofaa.Num Go.Proofs.Ythkdfojmhloofaa.Addr Go.Proofs.Ythkdfojmhloofaa.Msg Go.Proofs.Ythkdfojmhloofaa.Cut Go.Proofs.Ythkdfojmhloofaa.Stream Go.Proofs.Ythkdfojmhloofaa.Gram Go.Proofs.Ythkdfojmhloofaa.Open
theorem lives_evS:Ev spoorlaw13_lives.f true:=Ev.of spoorlaw13_lives.mono (k:=200) (by decide+kernel)
theorem few96 {n:Nat} (h:n * 96≤140737488351232):n≤1466015503659:=by omega
theorem few67 {n:Nat} (h:n * 96≤140737488351232):67 * n≤140737488355328:=by
  refine Nat.le_trans (Nat.mul_le_mul_right n (show 67≤96 by decide)) ?_;rw [Nat.mul_comm];exact Nat.le_trans h (by decide)
theorem GramStreams:spoorlaw13_GramStreams.Pure:=by
  intro l h0 hz;have hw: ∀ x∈l,wf35 x:=h0.1;have h67:=few67 hz;have h1:=stream_l_ev l [] hw (by simpa using h67);refine Ev.rounds ?_;simp only[spoorlaw13_GramStreams.f];refine Ev.bind h1 (Ev.bind (rstream_ev l hw (few96 hz) h67) (Ev.bind lives_evS (Ev.pos rfl (Ev.pos rfl (Ev.const ?_)))));by_cases ok: ∀ x∈l,okE (E x);·rw [if_pos ok,if_pos ok];rfl
  ·rw [if_neg ok,if_neg ok];rfl
end Go.Proofs.Ythkdfojmhloofaa.Pure
end
section
namespace Go.Proofs.Ythkdfojmhloofaa.gramStreams
open Go.ChangeShapes Go.WideShapes Go.ChangeAt Go.RowKit Go.Proofs.Ythkdfojmhloofaa.Open Go.Proofs.Ythkdfojmhloofaa.Q
open Go.ChangeMaps (open_string shut_string)
set_option linter.unusedVariables false
theorem own:ownKnob Try.prog.godebug=none:=by kernel_rfl
theorem laidOut:laidOutB Try.prog=true:=by kernel_rfl
set_option maxRecDepth 100000 in
theorem contract (H:Type) (enc:TypeId × Value→H) (W:World) (base:Nat) (args:Array Value) (ds gs:List (DataW H)) (before:List MemPlace)
    (hval: ∀ (j:Nat) t v,Try.f4.params[j]? =some t→args[j]? =some v→Value.okWide Try.prog W .any base t v)
    (hW:DataW.Whole enc Try.prog Try.f4.params.toList Rows.gramStreamsSpec.vars false W args.toList ds gs before) (hsz0:(DataW.weightsEach Try.prog (Try.f4.params.toList++Rows.gramStreamsSpec.plain.varTypes Try.prog) (ds++gs)).all (· ≤reachBytes)=true):
    Calls Try.prog 4 args W fun e W'=> ∃ v,e= .returned v∧Rows.gramStreamsSpec.post enc Try.prog Try.f4 false true false false W args v W':=by
  have hW':=hW;obtain⟨p,q,hA0,hV,rfl,hfz,hnd⟩:=hW;have hA:DataW.TrodAll enc Try.prog W 0 (fun _=>true) true Try.f4.params.toList args.toList ds p:=hA0;have hsz:(DataW.weightsEach Try.prog (Try.f4.params.toList++Rows.gramStreamsSpec.plain.varTypes Try.prog) (ds++gs)).all (· ≤reachBytes)=true:=hsz0;rw [Try.params4]at hA hval hsz;obtain⟨v0,vs0,d0,ds0,p0,q0,hargs,rfl,rfl,h0,r0⟩:=trodAll_cons hA;obtain⟨rfl,rfl,rfl⟩:=trodAll_nil r0;obtain rfl:args= #[v0]:=by cases args;simp_all
  obtain⟨rfl,rfl⟩:=trodVars_none hV;have k0:=h0;have lt0: ∀ x∈p0,x.block<W.heap.size:=by obtain⟨m,hm⟩:=k0;exact DataW.trod_lt m _ _ _ hm
  obtain⟨fu0,hf0⟩:=h0;obtain⟨b0,K0,o0,u0⟩:=(opens_slice opn35 Try.underlying49 (by kernel_rfl) 35) enc W _ _ _ _ _ hf0;obtain⟨A0,c0,z0,lc0,C0⟩:=K0;obtain rfl:v0= .slice A0 b0.length c0:=by obtain⟨x,y,z,rfl⟩:=okWide_slice Try.underlying49 (hval 0 49 v0 rfl rfl);exact (List.cons.inj (show [Value.slice x y z]= [Value.slice A0 b0.length c0] from z0)).1
  have sz0:b0.length * 96≤140737488351232:=sized_row hsz (j:=0) (t:=49) rfl rfl Try.underlying49 (by kernel_rfl) k0;obtain⟨k,h⟩:=Pure.GramStreams b0 o0 sz0;refine (spoorlaw13_GramStreams.calls k A0 c0 b0 true W C0 lc0 h).mono fun e W' ⟨he,hd⟩=>?_
  have bel:=hd;subst he;exact⟨_,rfl,_,_,_, [],_, [],hW',trodAll_mk1 (shut_bool Try.underlying4 _),(trodAll_cons_mk (Below.trod laidOut (by kernel_rfl) (of_decide_eq_true (by kernel_rfl)) k0 bel lt0) trodAll_mk0),rfl,bel.frame _,fun h=>by cases h⟩
set_option maxRecDepth 100000 in
theorem lifted (os:Os) (started:os.Started) (H:Type) (enc:TypeId × Value→H):
    ReturnsInHanded {} Try.checked os 4 .any (Rows.gramStreamsSpec.pre6 enc Try.prog Try.f4 Rows.gramStreamsRow.domain false) (Rows.gramStreamsSpec.post enc Try.prog Try.f4 false true false false):=by
  refine returnsInHanded_of_change_sized (C := Try.checked) own started (by kernel_rfl) Try.func4
    (ChangeSpec.witness6 (enc := enc) (C := Try.checked) false ⟨#[], #[.slice none 0 0], []⟩ 8 (by kernel_rfl) (by kernel_rfl) (by kernel_rfl) (by kernel_rfl)) ?_
  intro W base args ds gs before hval hW _ hsz _;exact contract H enc W base args ds gs before hval hW hsz
theorem over : Rows.gramStreamsRow.holds Try.pinned (OpenSpec.ofChange Rows.gramStreamsSpec) :=
  OpenClaim.holds_of_wide 4 Try.f4 rfl rfl rfl rfl rfl rfl rfl ⟨rfl, rfl, rfl, rfl, rfl⟩ rfl rfl rfl rfl rfl (by kernel_rfl) Try.func4 (by kernel_rfl)
    (of_decide_eq_true (by kernel_rfl)) (by unfold Func.isWrapper; first | (rw [if_pos (by decide +kernel)]; kernel_rfl) | (rw [if_neg (by decide +kernel)]; exact ⟨rfl, rfl⟩))
    (fun os started H enc _ => lifted os started H enc)
theorem proved:Rows.GramStreamsSaid:=over
#print axioms proved
end Go.Proofs.Ythkdfojmhloofaa.gramStreams
namespace Go.Proofs.Ythkdfojmhloofaa
theorem gramStreams_holds:Rows.GramStreamsSaid:=gramStreams.proved
end Go.Proofs.Ythkdfojmhloofaa
end
