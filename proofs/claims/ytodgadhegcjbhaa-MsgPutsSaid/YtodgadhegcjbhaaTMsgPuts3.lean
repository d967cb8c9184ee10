-- Merged and trimmed by this session's program wip/tools/trim.py.
import Derived.Test.YtodgadhegcjbhaaTMsgPuts2
section
namespace Go.Proofs.Ytodgadhegcjbhaa.Q
open Go.RowKit Go.Proofs.YtodgadhegcjbhaaW.PrintWords Go.Proofs.YtodgadhegcjbhaaW.PrintLast Go.Proofs.YtodgadhegcjbhaaW.PrintMore
attribute [local go_sem] max2_int min2_int max_two min_two max_three min_three max_four min_four   -- for this text's walks alone
set_option linter.unusedVariables false
set_option linter.unusedSimpArgs false
set_option maxHeartbeats 8000000 in
set_option maxRecDepth 100000 in
theorem msg_Put.calls (k:Nat) (a0_0:Int) (a0_1:Int) (a0_2:Int) (a0_3:Int) (a0_4:Bool) (a0_5:Int) (a0_6:Int) (a0_7:Int) (a0_8:Int) (a0_9:Int) (a0_10:Int) (a0_11:Int) (r1:ByteArray) (r2:Int) (w:World) (h:msg_Put.f k a0_0 a0_1 a0_2 a0_3 a0_4 a0_5 a0_6 a0_7 a0_8 a0_9 a0_10 a0_11=some (r1,r2)):
  Calls Try.prog 8 #[.agg #[.int .u8 a0_0,.int .i64 a0_1,.int .u64 a0_2,.int .i64 a0_3,.bool a0_4,.int .u64 a0_5,.int .u64 a0_6,.int .i64 a0_7,.int .u8 a0_8,.int .i64 a0_9,.int .i64 a0_10,.int .i64 a0_11]] w fun e w'=>e= .returned (.tuple #[.string r1,.int .i64 r2])∧Below w.heap.size w w':=by
 have hu32:=Try.underlying32;have hu27:=Try.underlying27;have hu30:=Try.underlying30;have HB:=Ax (Below.refl w.heap.size w);have H:((msg_Check.f k a0_0 a0_1 a0_2 a0_3 a0_4 a0_5 a0_6 a0_7 a0_8 a0_9 a0_10 a0_11).bind fun t148=>(if t148=0 then ((num_Add.f k (([a0_0]:List Int)) (IntKind.u64.wrap (a0_1))).bind fun t152=>((num_Add.f k t152 a0_2).bind fun t155=>((num_Add.f k t155 (IntKind.u64.wrap (a0_3))).bind fun t158=>(if a0_0=3 then ((msg_prefix.f t158 a0_4 a0_5 a0_6 a0_7).bind fun t161=>((msg_action.f k t161 a0_8 a0_9).bind fun t164=>(some (strOfNums t164,0)))) else (if a0_0=4 then ((msg_prefix.f t158 a0_4 a0_5 a0_6 a0_7).bind fun t167=>(some (strOfNums t167,0))) else (if a0_0=5 then ((num_Add.f k t158 (IntKind.u64.wrap (a0_10))).bind fun t170=>((num_Add.f k t170 (IntKind.u64.wrap (a0_11))).bind fun t173=>(some (strOfNums t173,0)))) else (if a0_0=6 then ((num_Add.f k t158 (IntKind.u64.wrap (a0_10))).bind fun t176=>(some (strOfNums t176,0))) else (some (strOfNums t158,0))))))))) else (some ((⟨#[]⟩:ByteArray),t148))))=some (r1,r2):=h;clear h;replace H:=Option.bind_eq_some_iff.mp H;obtain⟨t148,A20,H⟩:=H;replace H:(if t148=0 then ((num_Add.f k (([a0_0]:List Int)) (IntKind.u64.wrap (a0_1))).bind fun t152=>((num_Add.f k t152 a0_2).bind fun t155=>((num_Add.f k t155 (IntKind.u64.wrap (a0_3))).bind fun t158=>(if a0_0=3 then ((msg_prefix.f t158 a0_4 a0_5 a0_6 a0_7).bind fun t161=>((msg_action.f k t161 a0_8 a0_9).bind fun t164=>(some (strOfNums t164,0)))) else (if a0_0=4 then ((msg_prefix.f t158 a0_4 a0_5 a0_6 a0_7).bind fun t167=>(some (strOfNums t167,0))) else (if a0_0=5 then ((num_Add.f k t158 (IntKind.u64.wrap (a0_10))).bind fun t170=>((num_Add.f k t170 (IntKind.u64.wrap (a0_11))).bind fun t173=>(some (strOfNums t173,0)))) else (if a0_0=6 then ((num_Add.f k t158 (IntKind.u64.wrap (a0_10))).bind fun t176=>(some (strOfNums t176,0))) else (some (strOfNums t158,0))))))))) else (some ((⟨#[]⟩:ByteArray),t148)))=some (r1,r2):=H;have A2:=Ax A20;clear A20;by_cases c3:t148=0
 ·rw [if_pos c3]at H;have c3b0:(t148==0)=true:=beq_iff_eq.mpr c3;have c3b1:(t148 !=0)=false:=bne_eq_false_iff_eq.mpr c3;clear c3;obtain⟨y149,hy149⟩: ∃ y_:List Int,y_=(([a0_0]:List Int)):=⟨_,rfl⟩;replace H:((num_Add.f k y149 (IntKind.u64.wrap (a0_1))).bind fun t152=>((num_Add.f k t152 a0_2).bind fun t155=>((num_Add.f k t155 (IntKind.u64.wrap (a0_3))).bind fun t158=>(if a0_0=3 then ((msg_prefix.f t158 a0_4 a0_5 a0_6 a0_7).bind fun t161=>((msg_action.f k t161 a0_8 a0_9).bind fun t164=>(some (strOfNums t164,0)))) else (if a0_0=4 then ((msg_prefix.f t158 a0_4 a0_5 a0_6 a0_7).bind fun t167=>(some (strOfNums t167,0))) else (if a0_0=5 then ((num_Add.f k t158 (IntKind.u64.wrap (a0_10))).bind fun t170=>((num_Add.f k t170 (IntKind.u64.wrap (a0_11))).bind fun t173=>(some (strOfNums t173,0)))) else (if a0_0=6 then ((num_Add.f k t158 (IntKind.u64.wrap (a0_10))).bind fun t176=>(some (strOfNums t176,0))) else (some (strOfNums t158,0)))))))))=some (r1,r2):=by first|(rw [hy149];with_reducible exact H)|(have H2_:=(Option.bind_some _ _).symm.trans H;rw [hy149];with_reducible exact H2_)|(have H2_:=(Option.bind_some _ _).symm.trans H;with_reducible exact H2_)|with_reducible exact H|(rw [hy149];exact H)|exact H
  have Ny149:=Ax hy149;clear hy149;replace H:=Option.bind_eq_some_iff.mp H;obtain⟨t152,A40,H⟩:=H;replace H:((num_Add.f k t152 a0_2).bind fun t155=>((num_Add.f k t155 (IntKind.u64.wrap (a0_3))).bind fun t158=>(if a0_0=3 then ((msg_prefix.f t158 a0_4 a0_5 a0_6 a0_7).bind fun t161=>((msg_action.f k t161 a0_8 a0_9).bind fun t164=>(some (strOfNums t164,0)))) else (if a0_0=4 then ((msg_prefix.f t158 a0_4 a0_5 a0_6 a0_7).bind fun t167=>(some (strOfNums t167,0))) else (if a0_0=5 then ((num_Add.f k t158 (IntKind.u64.wrap (a0_10))).bind fun t170=>((num_Add.f k t170 (IntKind.u64.wrap (a0_11))).bind fun t173=>(some (strOfNums t173,0)))) else (if a0_0=6 then ((num_Add.f k t158 (IntKind.u64.wrap (a0_10))).bind fun t176=>(some (strOfNums t176,0))) else (some (strOfNums t158,0))))))))=some (r1,r2):=H;have A4:=Ax A40;clear A40;replace H:=Option.bind_eq_some_iff.mp H;obtain⟨t155,A50,H⟩:=H;replace H:((num_Add.f k t155 (IntKind.u64.wrap (a0_3))).bind fun t158=>(if a0_0=3 then ((msg_prefix.f t158 a0_4 a0_5 a0_6 a0_7).bind fun t161=>((msg_action.f k t161 a0_8 a0_9).bind fun t164=>(some (strOfNums t164,0)))) else (if a0_0=4 then ((msg_prefix.f t158 a0_4 a0_5 a0_6 a0_7).bind fun t167=>(some (strOfNums t167,0))) else (if a0_0=5 then ((num_Add.f k t158 (IntKind.u64.wrap (a0_10))).bind fun t170=>((num_Add.f k t170 (IntKind.u64.wrap (a0_11))).bind fun t173=>(some (strOfNums t173,0)))) else (if a0_0=6 then ((num_Add.f k t158 (IntKind.u64.wrap (a0_10))).bind fun t176=>(some (strOfNums t176,0))) else (some (strOfNums t158,0)))))))=some (r1,r2):=H;have A5:=Ax A50;clear A50;replace H:=Option.bind_eq_some_iff.mp H;obtain⟨t158,A60,H⟩:=H;replace H:(if a0_0=3 then ((msg_prefix.f t158 a0_4 a0_5 a0_6 a0_7).bind fun t161=>((msg_action.f k t161 a0_8 a0_9).bind fun t164=>(some (strOfNums t164,0)))) else (if a0_0=4 then ((msg_prefix.f t158 a0_4 a0_5 a0_6 a0_7).bind fun t167=>(some (strOfNums t167,0))) else (if a0_0=5 then ((num_Add.f k t158 (IntKind.u64.wrap (a0_10))).bind fun t170=>((num_Add.f k t170 (IntKind.u64.wrap (a0_11))).bind fun t173=>(some (strOfNums t173,0)))) else (if a0_0=6 then ((num_Add.f k t158 (IntKind.u64.wrap (a0_10))).bind fun t176=>(some (strOfNums t176,0))) else (some (strOfNums t158,0))))))=some (r1,r2):=H;have A6:=Ax A60;clear A60;by_cases c7:a0_0=3
  ·rw [if_pos c7]at H;have c7b0:(a0_0==3)=true:=beq_iff_eq.mpr c7;have c7b1:(a0_0 !=3)=false:=bne_eq_false_iff_eq.mpr c7;clear c7;replace H:=Option.bind_eq_some_iff.mp H;obtain⟨t161,A80,H⟩:=H;replace H:((msg_action.f k t161 a0_8 a0_9).bind fun t164=>(some (strOfNums t164,0)))=some (r1,r2):=H;have A8:=Ax A80;clear A80;replace H:=Option.bind_eq_some_iff.mp H;obtain⟨t164,A90,H⟩:=H;replace H:(some (strOfNums t164,0))=some (r1,r2):=H;have A9:=Ax A90;clear A90;simp only[Option.some.injEq,Prod.mk.injEq]at H;obtain⟨rfl,rfl⟩:=H;go_enter Try.func8,Try.ntmps8;try go_wp2_with (first|((with_reducible refine gate_dst (N:=1) rfl ?_);refine box_event ?hg (N:=1) ?hd (cs:= #[.int .u8 a0_0,.int .i64 a0_1,.int .u64 a0_2,.int .i64 a0_3,.bool a0_4,.int .u64 a0_5,.int .u64 a0_6,.int .i64 a0_7,.int .u8 a0_8,.int .i64 a0_9,.int .i64 a0_10,.int .i64 a0_11]) (t:=32) ?hr ?_;(case hd=>rfl);(case hg=>rfl);(case hr=>first|(go_simp;done)|(go_simp;rfl));intro gb147 hg w10 hbox hb;have n0_:=Bs0 HB hb;have n1_:=Ax (hbox);have n2_:=Gw0 HB hg;have n3_:=Gw0 HB hg;clear HB;have HB:=n0_;have BK147:=n1_;have GW147:=n2_;have GE147:=n3_;clear n0_ n1_ n2_ n3_;clear hb hbox hg;obtain⟨hcz11_0,hcz11_1,hcz11_2,hcz11_3,hcz11_4,hcz11_5,hcz11_6,hcz11_7,hcz11_8,hcz11_9,hcz11_10,hcz11_11,hfz11_0,hfz11_1,hfz11_2,hfz11_3,hfz11_4,hfz11_5,hfz11_6,hfz11_7,hfz11_8,hfz11_9,hfz11_10,hfz11_11⟩:=cl12 BK147)|((with_reducible refine gate_callee (f:=13) rfl ?_);refine goesL_ (some 7) rfl rfl Try.func13 (by kernel_rfl) rfl #[.agg #[.int .u8 a0_0,.int .i64 a0_1,.int .u64 a0_2,.int .i64 a0_3,.bool a0_4,.int .u64 a0_5,.int .u64 a0_6,.int .i64 a0_7,.int .u8 a0_8,.int .i64 a0_9,.int .i64 a0_10,.int .i64 a0_11]] rfl gS ?_;(with_reducible refine (msg_Check.calls k a0_0 a0_1 a0_2 a0_3 a0_4 a0_5 a0_6 a0_7 a0_8 a0_9 a0_10 a0_11 t148 _ A2.out).mono ?_);rintro e w12 ⟨rfl,hb⟩;refine⟨_,rfl,?_⟩;replace BK147:=Bx0 BK147 hb;replace HB:=Bs1 HB hb GE147.out;(try clear hb)))
   replace BK147:=Ax (blk_drew BK147.out);replace HB:=Ax (below_drew1 HB.out);refine start_ (n:=15) (S:=fun w'=>w'.cell? ⟨gb147,0,none⟩=some (.int .u8 a0_0)∧w'.cell? ⟨gb147,1,none⟩=some (.int .i64 a0_1)∧w'.cell? ⟨gb147,2,none⟩=some (.int .u64 a0_2)∧w'.cell? ⟨gb147,3,none⟩=some (.int .i64 a0_3)∧w'.cell? ⟨gb147,4,none⟩=some (.bool a0_4)∧w'.cell? ⟨gb147,5,none⟩=some (.int .u64 a0_5)∧w'.cell? ⟨gb147,6,none⟩=some (.int .u64 a0_6)∧w'.cell? ⟨gb147,7,none⟩=some (.int .i64 a0_7)∧w'.cell? ⟨gb147,8,none⟩=some (.int .u8 a0_8)∧w'.cell? ⟨gb147,9,none⟩=some (.int .i64 a0_9)∧w'.cell? ⟨gb147,10,none⟩=some (.int .i64 a0_10)∧w'.cell? ⟨gb147,11,none⟩=some (.int .i64 a0_11)) (ds:= []) #[Y,Y,Y,Y,Y,Y,Y,Y,Y,Y,Y,Y,Y,Y,Y] (by kernel_rfl) rfl rfl (bqc12 BK147.out) (fun hHeld=>?_);refine with_tabW msg_Put.tab4 msg_Put.bits4 (fun HT_ HW_=>?_);generalize w12.drew=w13 at BK147 HB hHeld ⊢;refine pz 0 11 #[Z,Y,Y,Y,Y,Y,Y,Y,Y,Y,Y,Y,Y,Y,Y] HT_.out ?_
   refine pz 3 14 #[Z,Y,Y,Z,Y,Y,Y,Y,Y,Y,Y,Y,Y,Y,Y] HT_.out ?_
   refine pz 7 18 #[Z,Y,Y,Z,Y,Y,Y,Z,Y,Y,Y,Y,Y,Y,Y] HT_.out ?_
   refine pz 10 21 #[Z,Y,Y,Z,Y,Y,Y,Z,Y,Y,Z,Y,Y,Y,Y] HT_.out ?_
   refine take_ (i:=1) (N:=some 12) (v:=?_) (a':=?_) #[Z,Z,Y,Z,Y,Y,Y,Z,Y,Y,Z,Y,Y,Y,Y] rfl rfl (take_ofW HT_.out HW_.out (by kernel_rfl)) (fun _ _ _ h=>h) (Or.inl ⟨by rfl,?_⟩) hHeld ?_ ?_;rotate_left
   ·rintro w' ⟨s0,s1,s2,s3,s4,s5,s6,s7,s8,s9,s10,s11⟩
    go_simp;with_reducible rfl
   rotate_left;·simp only[sP];rfl
   refine take_ (i:=4) (N:=some 15) (v:=?_) (a':=?_) #[Z,Z,Y,Z,Z,Y,Y,Z,Y,Y,Z,Y,Y,Y,Y] rfl rfl (take_ofW HT_.out HW_.out (by kernel_rfl)) (fun _ _ _ h=>h) (Or.inl ⟨by rfl,?_⟩) hHeld ?_ ?_;rotate_left
   ·rintro w' ⟨s0,s1,s2,s3,s4,s5,s6,s7,s8,s9,s10,s11⟩
    go_simp;with_reducible rfl
   rotate_left;·simp only[sP];rfl
   refine pz 5 16 #[Z,Z,Y,Z,Z,Z,Y,Z,Y,Y,Z,Y,Y,Y,Y] HT_.out ?_
   refine take_ (i:=8) (N:=some 19) (v:=?_) (a':=?_) #[Z,Z,Y,Z,Z,Z,Y,Z,Z,Y,Z,Y,Y,Y,Y] rfl rfl (take_ofW HT_.out HW_.out (by kernel_rfl)) (fun _ _ _ h=>h) (Or.inl ⟨by rfl,?_⟩) hHeld ?_ ?_;rotate_left
   ·rintro w' ⟨s0,s1,s2,s3,s4,s5,s6,s7,s8,s9,s10,s11⟩
    go_simp;with_reducible rfl
   rotate_left;·simp only[sP];rfl
   refine take_ (i:=11) (N:=some 22) (v:=?_) (a':=?_) #[Z,Z,Y,Z,Z,Z,Y,Z,Z,Y,Z,Z,Y,Y,Y] rfl rfl (take_ofW HT_.out HW_.out (by kernel_rfl)) (fun _ _ _ h=>h) (Or.inl ⟨by rfl,?_⟩) hHeld ?_ ?_;rotate_left
   ·rintro w' ⟨s0,s1,s2,s3,s4,s5,s6,s7,s8,s9,s10,s11⟩
    go_simp;with_reducible rfl
   rotate_left;·simp only[sP];rfl
   refine pz 12 23 #[Z,Z,Y,Z,Z,Z,Y,Z,Z,Y,Z,Z,Z,Y,Y] HT_.out ?_
   refine one_ (i:=2) (N:=some 13) #[Z,Z,Z,Z,Z,Z,Y,Z,Z,Y,Z,Z,Z,Y,Y] rfl rfl (one_of HT_.out (by kernel_rfl)) (by decide) (fun K hK=>?_);refine Kd.R_lit_step (Kd.int .u8) _ 5 ?hg (N:=13) ?hd (xs:=([a0_0]:List Int)) (inner:= [.int .u8 a0_0]) (ok:=fun _=>True) (okp:=fun _=>True) ?hr ?hp (fun _ hk=>hk) trivial (Below.refl _ _) (Nat.le_refl _) (by simp) ?_;(case hd=>rfl);(case hg=>rfl);(case hr=>first|(go_simp;done)|(go_simp;rfl));(case hp=>exact (Reps.one (show Kd.M (Kd.int .u8) _ _ _ a0_0 [.int .u8 a0_0] from rfl) (Reps.none _ _)));intro v150 w14 ho15 hb hg_ hnew_;clear hg_ hnew_
   (first|rw [← Ny149.out]at ho15|(simp only[Int.reduceToNat]at ho15;rw [← Ny149.out]at ho15))
   have HO151:=Ax (Kd.R_lower ho15 (below_size (bw1 HB.out GE147.out)));replace BK147:=Bx0 BK147 hb;replace HB:=Bs1 HB hb GE147.out;clear hb ho15;obtain⟨Ao16,co16,eo16⟩:=Kd.R_slice HO151.out
   (first|subst eo16|(injection eo16 with f1_ f2_ f3_;have f4_:=f1_.symm;have f5_:=f3_.symm;clear f1_ f2_ f3_;subst f4_;subst f5_))
   refine hK.out _ _ (bqc12 BK147.out) (fun hHeld=>?_);clear hK K;refine norm_ (a':=?_) ?_ ?_;rotate_left
   ·show Act.put _ (some 13) _=_
    simp only[sP];rfl
   refine one_ (i:=6) (N:=some 17) #[Z,Z,Z,Z,Z,Z,Z,Z,Z,Y,Z,Z,Z,Y,Y] rfl rfl (one_of HT_.out (by kernel_rfl)) (by decide) (fun K hK=>?_);refine goes_ Try.func23 (by kernel_rfl) rfl #[.slice Ao16 y149.length co16,.int .u64 (IntKind.u64.wrap (a0_1))] (by rfl) rfl rfl gS ?_;with_reducible refine (num_Add.calls k (fun k_=>some k_=(.slice Ao16 y149.length co16:Value).ownBlock) (.slice Ao16 y149.length co16) y149 (IntKind.u64.wrap (a0_1)) t152 w _ ?side1 ?side2 A4.out).mono ?_
   (case side1=>repeat (first|(with_reducible first|exact HB.out|apply below_alloc|apply pw_below_drewN|apply below_drew1|refine below_set ?_ GE147.out)|exact HB.out))
   (case side2=>exact Kd.R_tight rfl HO151.out)
   rintro e w17 ⟨v153,rfl,ho0,hb,hkp⟩
   refine⟨_,rfl,?_⟩;have n0_:=Ax (blk_kept (bf0 BK147.out) hkp (fun hs_=>(fun e_=>(Kd.R_ne HO151.out BK147.out (by decide)) e_) hs_));have n1_:=Ax (Kd.R_mono (ok':=fun k_=>True) ho0 (fun k_ hk_=>trivial));have n2_:=Ax (hb);clear BK147;clear HB;clear HO151;have BK147:=n0_;have HO154:=n1_;have HB:=n2_;clear n0_ n1_ n2_
   (try clear hb)
   (try clear hkp)
   (try clear ho0)
   obtain⟨Ao18,co18,eo18⟩:=Kd.R_slice HO154.out
   (first|subst eo18|(injection eo18 with f1_ f2_ f3_;have f4_:=f1_.symm;have f5_:=f3_.symm;clear f1_ f2_ f3_;subst f4_;subst f5_))
   refine hK.out _ _ (bqc12 BK147.out) (fun hHeld=>?_);clear hK K;refine norm_ (a':=?_) ?_ ?_;rotate_left
   ·show Act.put _ (some 17) _=_
    simp only[sP];rfl
   refine one_ (i:=9) (N:=some 20) #[Z,Z,Z,Z,Z,Z,Z,Z,Z,Z,Z,Z,Z,Y,Y] rfl rfl (one_of HT_.out (by kernel_rfl)) (by decide) (fun K hK=>?_);refine goes_ Try.func23 (by kernel_rfl) rfl #[.slice Ao18 t152.length co18,.int .u64 a0_2] (by rfl) rfl rfl gS ?_;with_reducible refine (num_Add.calls k (fun k_=>some k_=(.slice Ao18 t152.length co18:Value).ownBlock) (.slice Ao18 t152.length co18) t152 a0_2 t155 w _ ?side1 ?side2 A5.out).mono ?_
   (case side1=>repeat (first|(with_reducible first|exact HB.out|apply below_alloc|apply pw_below_drewN|apply below_drew1|refine below_set ?_ GE147.out)|exact HB.out))
   (case side2=>exact Kd.R_tight rfl HO154.out)
   rintro e w19 ⟨v156,rfl,ho0,hb,hkp⟩
   refine⟨_,rfl,?_⟩;have n0_:=Ax (blk_kept (bf0 BK147.out) hkp (fun hs_=>(fun e_=>(Kd.R_ne HO154.out BK147.out (by decide)) e_) hs_));have n1_:=Ax (Kd.R_mono (ok':=fun k_=>True) ho0 (fun k_ hk_=>trivial));have n2_:=Ax (hb);clear BK147;clear HB;clear HO154;have BK147:=n0_;have HO157:=n1_;have HB:=n2_;clear n0_ n1_ n2_
   (try clear hb)
   (try clear hkp)
   (try clear ho0)
   obtain⟨Ao20,co20,eo20⟩:=Kd.R_slice HO157.out
   (first|subst eo20|(injection eo20 with f1_ f2_ f3_;have f4_:=f1_.symm;have f5_:=f3_.symm;clear f1_ f2_ f3_;subst f4_;subst f5_))
   refine hK.out _ _ (bqc12 BK147.out) (fun hHeld=>?_);clear hK K;refine norm_ (a':=?_) ?_ ?_;rotate_left
   ·show Act.put _ (some 20) _=_
    simp only[sP];rfl
   refine one_ (i:=13) (N:=some 24) #[Z,Z,Z,Z,Z,Z,Z,Z,Z,Z,Z,Z,Z,Z,Y] rfl rfl (one_of HT_.out (by kernel_rfl)) (by decide) (fun K hK=>?_);refine goes_ Try.func23 (by kernel_rfl) rfl #[.slice Ao20 t155.length co20,.int .u64 (IntKind.u64.wrap (a0_3))] (by rfl) rfl rfl gS ?_;with_reducible refine (num_Add.calls k (fun k_=>some k_=(.slice Ao20 t155.length co20:Value).ownBlock) (.slice Ao20 t155.length co20) t155 (IntKind.u64.wrap (a0_3)) t158 w _ ?side1 ?side2 A6.out).mono ?_
   (case side1=>repeat (first|(with_reducible first|exact HB.out|apply below_alloc|apply pw_below_drewN|apply below_drew1|refine below_set ?_ GE147.out)|exact HB.out))
   (case side2=>exact Kd.R_tight rfl HO157.out)
   rintro e w21 ⟨v159,rfl,ho0,hb,hkp⟩
   refine⟨_,rfl,?_⟩;have n0_:=Ax (blk_kept (bf0 BK147.out) hkp (fun hs_=>(fun e_=>(Kd.R_ne HO157.out BK147.out (by decide)) e_) hs_));have n1_:=Ax (Kd.R_mono (ok':=fun k_=>True) ho0 (fun k_ hk_=>trivial));have n2_:=Ax (hb);clear BK147;clear HB;clear HO157;have BK147:=n0_;have HO160:=n1_;have HB:=n2_;clear n0_ n1_ n2_
   (try clear hb)
   (try clear hkp)
   (try clear ho0)
   refine hK.out _ _ (bqc12 BK147.out) (fun hHeld=>?_);clear hK K;refine norm_ (a':=?_) ?_ ?_;rotate_left
   ·show Act.put _ (some 24) _=_
    simp only[sP];rfl
   refine pz 14 5 #[Z,Z,Z,Z,Z,Z,Z,Z,Z,Z,Z,Z,Z,Z,Z] HT_.out ?_
   refine done_ (done_of HT_.out (by kernel_rfl)) ?_;obtain⟨hcz22_0,hcz22_1,hcz22_2,hcz22_3,hcz22_4,hcz22_5,hcz22_6,hcz22_7,hcz22_8,hcz22_9,hcz22_10,hcz22_11,hfz22_0,hfz22_1,hfz22_2,hfz22_3,hfz22_4,hfz22_5,hfz22_6,hfz22_7,hfz22_8,hfz22_9,hfz22_10,hfz22_11⟩:=cl12 BK147;try go_wp2
   replace HO160:=Ax (Kd.R_drew HO160.out);replace BK147:=Ax (blk_drew BK147.out);replace HB:=Ax (below_drew1 HB.out);obtain⟨Ao24,co24,eo24⟩:=Kd.R_slice HO160.out
   (first|subst eo24|(injection eo24 with f1_ f2_ f3_;have f4_:=f1_.symm;have f5_:=f3_.symm;clear f1_ f2_ f3_;subst f4_;subst f5_))
   refine start_ (n:=8) (S:=fun w'=>w'.cell? ⟨gb147,0,none⟩=some (.int .u8 a0_0)∧w'.cell? ⟨gb147,1,none⟩=some (.int .i64 a0_1)∧w'.cell? ⟨gb147,2,none⟩=some (.int .u64 a0_2)∧w'.cell? ⟨gb147,3,none⟩=some (.int .i64 a0_3)∧w'.cell? ⟨gb147,4,none⟩=some (.bool a0_4)∧w'.cell? ⟨gb147,5,none⟩=some (.int .u64 a0_5)∧w'.cell? ⟨gb147,6,none⟩=some (.int .u64 a0_6)∧w'.cell? ⟨gb147,7,none⟩=some (.int .i64 a0_7)∧w'.cell? ⟨gb147,8,none⟩=some (.int .u8 a0_8)∧w'.cell? ⟨gb147,9,none⟩=some (.int .i64 a0_9)∧w'.cell? ⟨gb147,10,none⟩=some (.int .i64 a0_10)∧w'.cell? ⟨gb147,11,none⟩=some (.int .i64 a0_11)) (ds:= []) #[Y,Y,Y,Y,Y,Y,Y,Y] (by kernel_rfl) rfl rfl (bqc12 BK147.out) (fun hHeld=>?_);refine with_tabW msg_Put.tab7 msg_Put.bits7 (fun HT_ HW_=>?_);generalize w21.drew=w23 at HO160 BK147 HB hHeld ⊢;refine pz 0 29 #[Z,Y,Y,Y,Y,Y,Y,Y] HT_.out ?_
   refine pz 1 30 #[Z,Z,Y,Y,Y,Y,Y,Y] HT_.out ?_
   refine pz 4 33 #[Z,Z,Y,Y,Z,Y,Y,Y] HT_.out ?_
   refine take_ (i:=2) (N:=some 31) (v:=?_) (a':=?_) #[Z,Z,Z,Y,Z,Y,Y,Y] rfl rfl (take_ofW HT_.out HW_.out (by kernel_rfl)) (fun _ _ _ h=>h) (Or.inl ⟨by rfl,?_⟩) hHeld ?_ ?_;rotate_left
   ·rintro w' ⟨s0,s1,s2,s3,s4,s5,s6,s7,s8,s9,s10,s11⟩
    go_simp;with_reducible rfl
   rotate_left;·simp only[sP];rfl
   refine take_ (i:=5) (N:=some 34) (v:=?_) (a':=?_) #[Z,Z,Z,Y,Z,Z,Y,Y] rfl rfl (take_ofW HT_.out HW_.out (by kernel_rfl)) (fun _ _ _ h=>h) (Or.inl ⟨by rfl,?_⟩) hHeld ?_ ?_;rotate_left
   ·rintro w' ⟨s0,s1,s2,s3,s4,s5,s6,s7,s8,s9,s10,s11⟩
    go_simp;with_reducible rfl
   rotate_left;·simp only[sP];rfl
   refine one_ (i:=3) (N:=some 32) #[Z,Z,Z,Z,Z,Z,Y,Y] rfl rfl (one_of HT_.out (by kernel_rfl)) (by decide) (fun K hK=>?_);refine goes_ Try.func25 (by kernel_rfl) rfl #[.slice Ao24 t158.length co24,.agg #[.bool a0_4,.int .u64 a0_5,.int .u64 a0_6,.int .i64 a0_7]] (by rfl) rfl rfl gS ?_;with_reducible refine (msg_prefix.calls (fun k_=>some k_=(.slice Ao24 t158.length co24:Value).ownBlock) (.slice Ao24 t158.length co24) t158 a0_4 a0_5 a0_6 a0_7 t161 w _ ?side1 ?side2 A8.out).mono ?_
   (case side1=>repeat (first|(with_reducible first|exact HB.out|apply below_alloc|apply pw_below_drewN|apply below_drew1|refine below_set ?_ GE147.out)|exact HB.out))
   (case side2=>exact Kd.R_tight rfl HO160.out)
   rintro e w25 ⟨v162,rfl,ho0,hb,hkp⟩
   refine⟨_,rfl,?_⟩;have n0_:=Ax (blk_kept (bf0 BK147.out) hkp (fun hs_=>(fun e_=>(Kd.R_ne HO160.out BK147.out (by decide)) e_) hs_));have n1_:=Ax (Kd.R_mono (ok':=fun k_=>True) ho0 (fun k_ hk_=>trivial));have n2_:=Ax (hb);clear BK147;clear HB;clear HO160;have BK147:=n0_;have HO163:=n1_;have HB:=n2_;clear n0_ n1_ n2_
   (try clear hb)
   (try clear hkp)
   (try clear ho0)
   obtain⟨Ao26,co26,eo26⟩:=Kd.R_slice HO163.out
   (first|subst eo26|(injection eo26 with f1_ f2_ f3_;have f4_:=f1_.symm;have f5_:=f3_.symm;clear f1_ f2_ f3_;subst f4_;subst f5_))
   refine hK.out _ _ (bqc12 BK147.out) (fun hHeld=>?_);clear hK K;refine norm_ (a':=?_) ?_ ?_;rotate_left
   ·show Act.put _ (some 32) _=_
    simp only[sP];rfl
   refine one_ (i:=6) (N:=some 35) #[Z,Z,Z,Z,Z,Z,Z,Y] rfl rfl (one_of HT_.out (by kernel_rfl)) (by decide) (fun K hK=>?_);refine goes_ Try.func24 (by kernel_rfl) rfl #[.slice Ao26 t161.length co26,.agg #[.int .u8 a0_8,.int .i64 a0_9]] (by rfl) rfl rfl gS ?_;with_reducible refine (msg_action.calls k (fun k_=>some k_=(.slice Ao26 t161.length co26:Value).ownBlock) (.slice Ao26 t161.length co26) t161 a0_8 a0_9 t164 w _ ?side1 ?side2 A9.out).mono ?_
   (case side1=>repeat (first|(with_reducible first|exact HB.out|apply below_alloc|apply pw_below_drewN|apply below_drew1|refine below_set ?_ GE147.out)|exact HB.out))
   (case side2=>exact Kd.R_tight rfl HO163.out)
   rintro e w27 ⟨v165,rfl,ho0,hb,hkp⟩
   refine⟨_,rfl,?_⟩;have n0_:=Ax (blk_kept (bf0 BK147.out) hkp (fun hs_=>(fun e_=>(Kd.R_ne HO163.out BK147.out (by decide)) e_) hs_));have n1_:=Ax (Kd.R_mono (ok':=fun k_=>True) ho0 (fun k_ hk_=>trivial));have n2_:=Ax (hb);clear BK147;clear HB;clear HO163;have BK147:=n0_;have HO166:=n1_;have HB:=n2_;clear n0_ n1_ n2_
   (try clear hb)
   (try clear hkp)
   (try clear ho0)
   refine hK.out _ _ (bqc12 BK147.out) (fun hHeld=>?_);clear hK K;refine norm_ (a':=?_) ?_ ?_;rotate_left
   ·show Act.put _ (some 35) _=_
    simp only[sP];rfl
   refine pz 7 5 #[Z,Z,Z,Z,Z,Z,Z,Z] HT_.out ?_
   refine done_ (done_of HT_.out (by kernel_rfl)) ?_;have hcv28:=own_string (P:=Try.prog) Try.underlying49 Try.underlying5 Try.underlying9 (Kd.own_of_R HO166.out);try go_wp2
   go_ret2;exact⟨eS,bw1 HB.out GE147.out⟩
  ·rw [if_neg c7]at H;have c7b0:(a0_0==3)=false:=beq_eq_false_iff_ne.mpr c7;have c7b1:(a0_0 !=3)=true:=bne_iff_ne.mpr c7;by_cases c29:a0_0=4
   ·rw [if_pos c29]at H;have c29b0:(a0_0==4)=true:=beq_iff_eq.mpr c29;have c29b1:(a0_0 !=4)=false:=bne_eq_false_iff_eq.mpr c29;clear c29;replace H:=Option.bind_eq_some_iff.mp H;obtain⟨t167,A300,H⟩:=H;replace H:(some (strOfNums t167,0))=some (r1,r2):=H;have A30:=Ax A300;clear A300;simp only[Option.some.injEq,Prod.mk.injEq]at H;obtain⟨rfl,rfl⟩:=H;go_enter Try.func8,Try.ntmps8;try go_wp2_with (first|((with_reducible refine gate_dst (N:=1) rfl ?_);refine box_event ?hg (N:=1) ?hd (cs:= #[.int .u8 a0_0,.int .i64 a0_1,.int .u64 a0_2,.int .i64 a0_3,.bool a0_4,.int .u64 a0_5,.int .u64 a0_6,.int .i64 a0_7,.int .u8 a0_8,.int .i64 a0_9,.int .i64 a0_10,.int .i64 a0_11]) (t:=32) ?hr ?_;(case hd=>rfl);(case hg=>rfl);(case hr=>first|(go_simp;done)|(go_simp;rfl));intro gb147 hg w31 hbox hb;have n0_:=Bs0 HB hb;have n1_:=Ax (hbox);have n2_:=Gw0 HB hg;have n3_:=Gw0 HB hg;clear HB;have HB:=n0_;have BK147:=n1_;have GW147:=n2_;have GE147:=n3_;clear n0_ n1_ n2_ n3_;clear hb hbox hg;obtain⟨hcz32_0,hcz32_1,hcz32_2,hcz32_3,hcz32_4,hcz32_5,hcz32_6,hcz32_7,hcz32_8,hcz32_9,hcz32_10,hcz32_11,hfz32_0,hfz32_1,hfz32_2,hfz32_3,hfz32_4,hfz32_5,hfz32_6,hfz32_7,hfz32_8,hfz32_9,hfz32_10,hfz32_11⟩:=cl12 BK147)|((with_reducible refine gate_callee (f:=13) rfl ?_);refine goesL_ (some 7) rfl rfl Try.func13 (by kernel_rfl) rfl #[.agg #[.int .u8 a0_0,.int .i64 a0_1,.int .u64 a0_2,.int .i64 a0_3,.bool a0_4,.int .u64 a0_5,.int .u64 a0_6,.int .i64 a0_7,.int .u8 a0_8,.int .i64 a0_9,.int .i64 a0_10,.int .i64 a0_11]] rfl gS ?_;(with_reducible refine (msg_Check.calls k a0_0 a0_1 a0_2 a0_3 a0_4 a0_5 a0_6 a0_7 a0_8 a0_9 a0_10 a0_11 t148 _ A2.out).mono ?_);rintro e w33 ⟨rfl,hb⟩;refine⟨_,rfl,?_⟩;replace BK147:=Bx0 BK147 hb;replace HB:=Bs1 HB hb GE147.out;(try clear hb)))
    replace BK147:=Ax (blk_drew BK147.out);replace HB:=Ax (below_drew1 HB.out);refine start_ (n:=15) (S:=fun w'=>w'.cell? ⟨gb147,0,none⟩=some (.int .u8 a0_0)∧w'.cell? ⟨gb147,1,none⟩=some (.int .i64 a0_1)∧w'.cell? ⟨gb147,2,none⟩=some (.int .u64 a0_2)∧w'.cell? ⟨gb147,3,none⟩=some (.int .i64 a0_3)∧w'.cell? ⟨gb147,4,none⟩=some (.bool a0_4)∧w'.cell? ⟨gb147,5,none⟩=some (.int .u64 a0_5)∧w'.cell? ⟨gb147,6,none⟩=some (.int .u64 a0_6)∧w'.cell? ⟨gb147,7,none⟩=some (.int .i64 a0_7)∧w'.cell? ⟨gb147,8,none⟩=some (.int .u8 a0_8)∧w'.cell? ⟨gb147,9,none⟩=some (.int .i64 a0_9)∧w'.cell? ⟨gb147,10,none⟩=some (.int .i64 a0_10)∧w'.cell? ⟨gb147,11,none⟩=some (.int .i64 a0_11)) (ds:= []) #[Y,Y,Y,Y,Y,Y,Y,Y,Y,Y,Y,Y,Y,Y,Y] (by kernel_rfl) rfl rfl (bqc12 BK147.out) (fun hHeld=>?_);refine with_tabW msg_Put.tab4 msg_Put.bits4 (fun HT_ HW_=>?_);generalize w33.drew=w34 at BK147 HB hHeld ⊢;refine pz 0 11 #[Z,Y,Y,Y,Y,Y,Y,Y,Y,Y,Y,Y,Y,Y,Y] HT_.out ?_
    refine pz 3 14 #[Z,Y,Y,Z,Y,Y,Y,Y,Y,Y,Y,Y,Y,Y,Y] HT_.out ?_
    refine pz 7 18 #[Z,Y,Y,Z,Y,Y,Y,Z,Y,Y,Y,Y,Y,Y,Y] HT_.out ?_
    refine pz 10 21 #[Z,Y,Y,Z,Y,Y,Y,Z,Y,Y,Z,Y,Y,Y,Y] HT_.out ?_
    refine take_ (i:=1) (N:=some 12) (v:=?_) (a':=?_) #[Z,Z,Y,Z,Y,Y,Y,Z,Y,Y,Z,Y,Y,Y,Y] rfl rfl (take_ofW HT_.out HW_.out (by kernel_rfl)) (fun _ _ _ h=>h) (Or.inl ⟨by rfl,?_⟩) hHeld ?_ ?_;rotate_left
    ·rintro w' ⟨s0,s1,s2,s3,s4,s5,s6,s7,s8,s9,s10,s11⟩
     go_simp;with_reducible rfl
    rotate_left;·simp only[sP];rfl
    refine take_ (i:=4) (N:=some 15) (v:=?_) (a':=?_) #[Z,Z,Y,Z,Z,Y,Y,Z,Y,Y,Z,Y,Y,Y,Y] rfl rfl (take_ofW HT_.out HW_.out (by kernel_rfl)) (fun _ _ _ h=>h) (Or.inl ⟨by rfl,?_⟩) hHeld ?_ ?_;rotate_left
    ·rintro w' ⟨s0,s1,s2,s3,s4,s5,s6,s7,s8,s9,s10,s11⟩
     go_simp;with_reducible rfl
    rotate_left;·simp only[sP];rfl
    refine pz 5 16 #[Z,Z,Y,Z,Z,Z,Y,Z,Y,Y,Z,Y,Y,Y,Y] HT_.out ?_
    refine take_ (i:=8) (N:=some 19) (v:=?_) (a':=?_) #[Z,Z,Y,Z,Z,Z,Y,Z,Z,Y,Z,Y,Y,Y,Y] rfl rfl (take_ofW HT_.out HW_.out (by kernel_rfl)) (fun _ _ _ h=>h) (Or.inl ⟨by rfl,?_⟩) hHeld ?_ ?_;rotate_left
    ·rintro w' ⟨s0,s1,s2,s3,s4,s5,s6,s7,s8,s9,s10,s11⟩
     go_simp;with_reducible rfl
    rotate_left;·simp only[sP];rfl
    refine take_ (i:=11) (N:=some 22) (v:=?_) (a':=?_) #[Z,Z,Y,Z,Z,Z,Y,Z,Z,Y,Z,Z,Y,Y,Y] rfl rfl (take_ofW HT_.out HW_.out (by kernel_rfl)) (fun _ _ _ h=>h) (Or.inl ⟨by rfl,?_⟩) hHeld ?_ ?_;rotate_left
    ·rintro w' ⟨s0,s1,s2,s3,s4,s5,s6,s7,s8,s9,s10,s11⟩
     go_simp;with_reducible rfl
    rotate_left;·simp only[sP];rfl
    refine pz 12 23 #[Z,Z,Y,Z,Z,Z,Y,Z,Z,Y,Z,Z,Z,Y,Y] HT_.out ?_
    refine one_ (i:=2) (N:=some 13) #[Z,Z,Z,Z,Z,Z,Y,Z,Z,Y,Z,Z,Z,Y,Y] rfl rfl (one_of HT_.out (by kernel_rfl)) (by decide) (fun K hK=>?_);refine Kd.R_lit_step (Kd.int .u8) _ 5 ?hg (N:=13) ?hd (xs:=([a0_0]:List Int)) (inner:= [.int .u8 a0_0]) (ok:=fun _=>True) (okp:=fun _=>True) ?hr ?hp (fun _ hk=>hk) trivial (Below.refl _ _) (Nat.le_refl _) (by simp) ?_;(case hd=>rfl);(case hg=>rfl);(case hr=>first|(go_simp;done)|(go_simp;rfl));(case hp=>exact (Reps.one (show Kd.M (Kd.int .u8) _ _ _ a0_0 [.int .u8 a0_0] from rfl) (Reps.none _ _)));intro v150 w35 ho36 hb hg_ hnew_;clear hg_ hnew_
    (first|rw [← Ny149.out]at ho36|(simp only[Int.reduceToNat]at ho36;rw [← Ny149.out]at ho36))
    have HO151:=Ax (Kd.R_lower ho36 (below_size (bw1 HB.out GE147.out)));replace BK147:=Bx0 BK147 hb;replace HB:=Bs1 HB hb GE147.out;clear hb ho36;obtain⟨Ao37,co37,eo37⟩:=Kd.R_slice HO151.out
    (first|subst eo37|(injection eo37 with f1_ f2_ f3_;have f4_:=f1_.symm;have f5_:=f3_.symm;clear f1_ f2_ f3_;subst f4_;subst f5_))
    refine hK.out _ _ (bqc12 BK147.out) (fun hHeld=>?_);clear hK K;refine norm_ (a':=?_) ?_ ?_;rotate_left
    ·show Act.put _ (some 13) _=_
     simp only[sP];rfl
    refine one_ (i:=6) (N:=some 17) #[Z,Z,Z,Z,Z,Z,Z,Z,Z,Y,Z,Z,Z,Y,Y] rfl rfl (one_of HT_.out (by kernel_rfl)) (by decide) (fun K hK=>?_);refine goes_ Try.func23 (by kernel_rfl) rfl #[.slice Ao37 y149.length co37,.int .u64 (IntKind.u64.wrap (a0_1))] (by rfl) rfl rfl gS ?_;with_reducible refine (num_Add.calls k (fun k_=>some k_=(.slice Ao37 y149.length co37:Value).ownBlock) (.slice Ao37 y149.length co37) y149 (IntKind.u64.wrap (a0_1)) t152 w _ ?side1 ?side2 A4.out).mono ?_
    (case side1=>repeat (first|(with_reducible first|exact HB.out|apply below_alloc|apply pw_below_drewN|apply below_drew1|refine below_set ?_ GE147.out)|exact HB.out))
    (case side2=>exact Kd.R_tight rfl HO151.out)
    rintro e w38 ⟨v153,rfl,ho0,hb,hkp⟩
    refine⟨_,rfl,?_⟩;have n0_:=Ax (blk_kept (bf0 BK147.out) hkp (fun hs_=>(fun e_=>(Kd.R_ne HO151.out BK147.out (by decide)) e_) hs_));have n1_:=Ax (Kd.R_mono (ok':=fun k_=>True) ho0 (fun k_ hk_=>trivial));have n2_:=Ax (hb);clear BK147;clear HB;clear HO151;have BK147:=n0_;have HO154:=n1_;have HB:=n2_;clear n0_ n1_ n2_
    (try clear hb)
    (try clear hkp)
    (try clear ho0)
    obtain⟨Ao39,co39,eo39⟩:=Kd.R_slice HO154.out
    (first|subst eo39|(injection eo39 with f1_ f2_ f3_;have f4_:=f1_.symm;have f5_:=f3_.symm;clear f1_ f2_ f3_;subst f4_;subst f5_))
    refine hK.out _ _ (bqc12 BK147.out) (fun hHeld=>?_);clear hK K;refine norm_ (a':=?_) ?_ ?_;rotate_left
    ·show Act.put _ (some 17) _=_
     simp only[sP];rfl
    refine one_ (i:=9) (N:=some 20) #[Z,Z,Z,Z,Z,Z,Z,Z,Z,Z,Z,Z,Z,Y,Y] rfl rfl (one_of HT_.out (by kernel_rfl)) (by decide) (fun K hK=>?_);refine goes_ Try.func23 (by kernel_rfl) rfl #[.slice Ao39 t152.length co39,.int .u64 a0_2] (by rfl) rfl rfl gS ?_;with_reducible refine (num_Add.calls k (fun k_=>some k_=(.slice Ao39 t152.length co39:Value).ownBlock) (.slice Ao39 t152.length co39) t152 a0_2 t155 w _ ?side1 ?side2 A5.out).mono ?_
    (case side1=>repeat (first|(with_reducible first|exact HB.out|apply below_alloc|apply pw_below_drewN|apply below_drew1|refine below_set ?_ GE147.out)|exact HB.out))
    (case side2=>exact Kd.R_tight rfl HO154.out)
    rintro e w40 ⟨v156,rfl,ho0,hb,hkp⟩
    refine⟨_,rfl,?_⟩;have n0_:=Ax (blk_kept (bf0 BK147.out) hkp (fun hs_=>(fun e_=>(Kd.R_ne HO154.out BK147.out (by decide)) e_) hs_));have n1_:=Ax (Kd.R_mono (ok':=fun k_=>True) ho0 (fun k_ hk_=>trivial));have n2_:=Ax (hb);clear BK147;clear HB;clear HO154;have BK147:=n0_;have HO157:=n1_;have HB:=n2_;clear n0_ n1_ n2_
    (try clear hb)
    (try clear hkp)
    (try clear ho0)
    obtain⟨Ao41,co41,eo41⟩:=Kd.R_slice HO157.out
    (first|subst eo41|(injection eo41 with f1_ f2_ f3_;have f4_:=f1_.symm;have f5_:=f3_.symm;clear f1_ f2_ f3_;subst f4_;subst f5_))
    refine hK.out _ _ (bqc12 BK147.out) (fun hHeld=>?_);clear hK K;refine norm_ (a':=?_) ?_ ?_;rotate_left
    ·show Act.put _ (some 20) _=_
     simp only[sP];rfl
    refine one_ (i:=13) (N:=some 24) #[Z,Z,Z,Z,Z,Z,Z,Z,Z,Z,Z,Z,Z,Z,Y] rfl rfl (one_of HT_.out (by kernel_rfl)) (by decide) (fun K hK=>?_);refine goes_ Try.func23 (by kernel_rfl) rfl #[.slice Ao41 t155.length co41,.int .u64 (IntKind.u64.wrap (a0_3))] (by rfl) rfl rfl gS ?_;with_reducible refine (num_Add.calls k (fun k_=>some k_=(.slice Ao41 t155.length co41:Value).ownBlock) (.slice Ao41 t155.length co41) t155 (IntKind.u64.wrap (a0_3)) t158 w _ ?side1 ?side2 A6.out).mono ?_
    (case side1=>repeat (first|(with_reducible first|exact HB.out|apply below_alloc|apply pw_below_drewN|apply below_drew1|refine below_set ?_ GE147.out)|exact HB.out))
    (case side2=>exact Kd.R_tight rfl HO157.out)
    rintro e w42 ⟨v159,rfl,ho0,hb,hkp⟩
    refine⟨_,rfl,?_⟩;have n0_:=Ax (blk_kept (bf0 BK147.out) hkp (fun hs_=>(fun e_=>(Kd.R_ne HO157.out BK147.out (by decide)) e_) hs_));have n1_:=Ax (Kd.R_mono (ok':=fun k_=>True) ho0 (fun k_ hk_=>trivial));have n2_:=Ax (hb);clear BK147;clear HB;clear HO157;have BK147:=n0_;have HO160:=n1_;have HB:=n2_;clear n0_ n1_ n2_
    (try clear hb)
    (try clear hkp)
    (try clear ho0)
    refine hK.out _ _ (bqc12 BK147.out) (fun hHeld=>?_);clear hK K;refine norm_ (a':=?_) ?_ ?_;rotate_left
    ·show Act.put _ (some 24) _=_
     simp only[sP];rfl
    refine pz 14 5 #[Z,Z,Z,Z,Z,Z,Z,Z,Z,Z,Z,Z,Z,Z,Z] HT_.out ?_
    refine done_ (done_of HT_.out (by kernel_rfl)) ?_;obtain⟨hcz43_0,hcz43_1,hcz43_2,hcz43_3,hcz43_4,hcz43_5,hcz43_6,hcz43_7,hcz43_8,hcz43_9,hcz43_10,hcz43_11,hfz43_0,hfz43_1,hfz43_2,hfz43_3,hfz43_4,hfz43_5,hfz43_6,hfz43_7,hfz43_8,hfz43_9,hfz43_10,hfz43_11⟩:=cl12 BK147;obtain⟨Ao44,co44,eo44⟩:=Kd.R_slice HO160.out;subst eo44;try go_wp2_with (first|((with_reducible refine gate_callee (f:=25) rfl ?_);refine goesL_ (some 41) rfl rfl Try.func25 (by kernel_rfl) rfl #[.slice Ao44 t158.length co44,.agg #[.bool a0_4,.int .u64 a0_5,.int .u64 a0_6,.int .i64 a0_7]] rfl gS ?_;(with_reducible refine (msg_prefix.calls (fun k_=>some k_=(.slice Ao44 t158.length co44:Value).ownBlock) (.slice Ao44 t158.length co44) t158 a0_4 a0_5 a0_6 a0_7 t167 w _ ?side1 ?side2 A30.out).mono ?_);(case side1=>repeat (first|(with_reducible first|exact HB.out|apply below_alloc|apply pw_below_drewN|apply below_drew1|refine below_set ?_ GE147.out)|exact HB.out));(case side2=>exact Kd.R_tight rfl HO160.out);rintro e w45 ⟨v168,rfl,ho0,hb,hkp⟩;refine⟨_,rfl,?_⟩;have n0_:=Ax (blk_kept (bf0 BK147.out) hkp (fun hs_=>(fun e_=>(Kd.R_ne HO160.out BK147.out (by decide)) e_) hs_));have n1_:=Ax (Kd.R_mono (ok':=fun k_=>True) ho0 (fun k_ hk_=>trivial));have n2_:=Ax (hb);clear BK147;clear HB;clear HO160;have BK147:=n0_;have HO169:=n1_;have HB:=n2_;clear n0_ n1_ n2_;(try clear hb);(try clear hkp);(try clear ho0);have hcv46:=own_string (P:=Try.prog) Try.underlying49 Try.underlying5 Try.underlying9 (Kd.own_of_R HO169.out)))
    go_ret2;exact⟨eS,bw1 HB.out GE147.out⟩
   ·rw [if_neg c29]at H;have c29b0:(a0_0==4)=false:=beq_eq_false_iff_ne.mpr c29;have c29b1:(a0_0 !=4)=true:=bne_iff_ne.mpr c29;by_cases c47:a0_0=5
    ·rw [if_pos c47]at H;have c47b0:(a0_0==5)=true:=beq_iff_eq.mpr c47;have c47b1:(a0_0 !=5)=false:=bne_eq_false_iff_eq.mpr c47;clear c47;replace H:=Option.bind_eq_some_iff.mp H;obtain⟨t170,A480,H⟩:=H;replace H:((num_Add.f k t170 (IntKind.u64.wrap (a0_11))).bind fun t173=>(some (strOfNums t173,0)))=some (r1,r2):=H;have A48:=Ax A480;clear A480;replace H:=Option.bind_eq_some_iff.mp H;obtain⟨t173,A490,H⟩:=H;replace H:(some (strOfNums t173,0))=some (r1,r2):=H;have A49:=Ax A490;clear A490;simp only[Option.some.injEq,Prod.mk.injEq]at H;obtain⟨rfl,rfl⟩:=H;go_enter Try.func8,Try.ntmps8;try go_wp2_with (first|((with_reducible refine gate_dst (N:=1) rfl ?_);refine box_event ?hg (N:=1) ?hd (cs:= #[.int .u8 a0_0,.int .i64 a0_1,.int .u64 a0_2,.int .i64 a0_3,.bool a0_4,.int .u64 a0_5,.int .u64 a0_6,.int .i64 a0_7,.int .u8 a0_8,.int .i64 a0_9,.int .i64 a0_10,.int .i64 a0_11]) (t:=32) ?hr ?_;(case hd=>rfl);(case hg=>rfl);(case hr=>first|(go_simp;done)|(go_simp;rfl));intro gb147 hg w50 hbox hb;have n0_:=Bs0 HB hb;have n1_:=Ax (hbox);have n2_:=Gw0 HB hg;have n3_:=Gw0 HB hg;clear HB;have HB:=n0_;have BK147:=n1_;have GW147:=n2_;have GE147:=n3_;clear n0_ n1_ n2_ n3_;clear hb hbox hg;obtain⟨hcz51_0,hcz51_1,hcz51_2,hcz51_3,hcz51_4,hcz51_5,hcz51_6,hcz51_7,hcz51_8,hcz51_9,hcz51_10,hcz51_11,hfz51_0,hfz51_1,hfz51_2,hfz51_3,hfz51_4,hfz51_5,hfz51_6,hfz51_7,hfz51_8,hfz51_9,hfz51_10,hfz51_11⟩:=cl12 BK147)|((with_reducible refine gate_callee (f:=13) rfl ?_);refine goesL_ (some 7) rfl rfl Try.func13 (by kernel_rfl) rfl #[.agg #[.int .u8 a0_0,.int .i64 a0_1,.int .u64 a0_2,.int .i64 a0_3,.bool a0_4,.int .u64 a0_5,.int .u64 a0_6,.int .i64 a0_7,.int .u8 a0_8,.int .i64 a0_9,.int .i64 a0_10,.int .i64 a0_11]] rfl gS ?_;(with_reducible refine (msg_Check.calls k a0_0 a0_1 a0_2 a0_3 a0_4 a0_5 a0_6 a0_7 a0_8 a0_9 a0_10 a0_11 t148 _ A2.out).mono ?_);rintro e w52 ⟨rfl,hb⟩;refine⟨_,rfl,?_⟩;replace BK147:=Bx0 BK147 hb;replace HB:=Bs1 HB hb GE147.out;(try clear hb)))
     replace BK147:=Ax (blk_drew BK147.out);replace HB:=Ax (below_drew1 HB.out);refine start_ (n:=15) (S:=fun w'=>w'.cell? ⟨gb147,0,none⟩=some (.int .u8 a0_0)∧w'.cell? ⟨gb147,1,none⟩=some (.int .i64 a0_1)∧w'.cell? ⟨gb147,2,none⟩=some (.int .u64 a0_2)∧w'.cell? ⟨gb147,3,none⟩=some (.int .i64 a0_3)∧w'.cell? ⟨gb147,4,none⟩=some (.bool a0_4)∧w'.cell? ⟨gb147,5,none⟩=some (.int .u64 a0_5)∧w'.cell? ⟨gb147,6,none⟩=some (.int .u64 a0_6)∧w'.cell? ⟨gb147,7,none⟩=some (.int .i64 a0_7)∧w'.cell? ⟨gb147,8,none⟩=some (.int .u8 a0_8)∧w'.cell? ⟨gb147,9,none⟩=some (.int .i64 a0_9)∧w'.cell? ⟨gb147,10,none⟩=some (.int .i64 a0_10)∧w'.cell? ⟨gb147,11,none⟩=some (.int .i64 a0_11)) (ds:= []) #[Y,Y,Y,Y,Y,Y,Y,Y,Y,Y,Y,Y,Y,Y,Y] (by kernel_rfl) rfl rfl (bqc12 BK147.out) (fun hHeld=>?_);refine with_tabW msg_Put.tab4 msg_Put.bits4 (fun HT_ HW_=>?_);generalize w52.drew=w53 at BK147 HB hHeld ⊢;refine pz 0 11 #[Z,Y,Y,Y,Y,Y,Y,Y,Y,Y,Y,Y,Y,Y,Y] HT_.out ?_
     refine pz 3 14 #[Z,Y,Y,Z,Y,Y,Y,Y,Y,Y,Y,Y,Y,Y,Y] HT_.out ?_
     refine pz 7 18 #[Z,Y,Y,Z,Y,Y,Y,Z,Y,Y,Y,Y,Y,Y,Y] HT_.out ?_
     refine pz 10 21 #[Z,Y,Y,Z,Y,Y,Y,Z,Y,Y,Z,Y,Y,Y,Y] HT_.out ?_
     refine take_ (i:=1) (N:=some 12) (v:=?_) (a':=?_) #[Z,Z,Y,Z,Y,Y,Y,Z,Y,Y,Z,Y,Y,Y,Y] rfl rfl (take_ofW HT_.out HW_.out (by kernel_rfl)) (fun _ _ _ h=>h) (Or.inl ⟨by rfl,?_⟩) hHeld ?_ ?_;rotate_left
     ·rintro w' ⟨s0,s1,s2,s3,s4,s5,s6,s7,s8,s9,s10,s11⟩
      go_simp;with_reducible rfl
     rotate_left;·simp only[sP];rfl
     refine take_ (i:=4) (N:=some 15) (v:=?_) (a':=?_) #[Z,Z,Y,Z,Z,Y,Y,Z,Y,Y,Z,Y,Y,Y,Y] rfl rfl (take_ofW HT_.out HW_.out (by kernel_rfl)) (fun _ _ _ h=>h) (Or.inl ⟨by rfl,?_⟩) hHeld ?_ ?_;rotate_left
     ·rintro w' ⟨s0,s1,s2,s3,s4,s5,s6,s7,s8,s9,s10,s11⟩
      go_simp;with_reducible rfl
     rotate_left;·simp only[sP];rfl
     refine pz 5 16 #[Z,Z,Y,Z,Z,Z,Y,Z,Y,Y,Z,Y,Y,Y,Y] HT_.out ?_
     refine take_ (i:=8) (N:=some 19) (v:=?_) (a':=?_) #[Z,Z,Y,Z,Z,Z,Y,Z,Z,Y,Z,Y,Y,Y,Y] rfl rfl (take_ofW HT_.out HW_.out (by kernel_rfl)) (fun _ _ _ h=>h) (Or.inl ⟨by rfl,?_⟩) hHeld ?_ ?_;rotate_left
     ·rintro w' ⟨s0,s1,s2,s3,s4,s5,s6,s7,s8,s9,s10,s11⟩
      go_simp;with_reducible rfl
     rotate_left;·simp only[sP];rfl
     refine take_ (i:=11) (N:=some 22) (v:=?_) (a':=?_) #[Z,Z,Y,Z,Z,Z,Y,Z,Z,Y,Z,Z,Y,Y,Y] rfl rfl (take_ofW HT_.out HW_.out (by kernel_rfl)) (fun _ _ _ h=>h) (Or.inl ⟨by rfl,?_⟩) hHeld ?_ ?_;rotate_left
     ·rintro w' ⟨s0,s1,s2,s3,s4,s5,s6,s7,s8,s9,s10,s11⟩
      go_simp;with_reducible rfl
     rotate_left;·simp only[sP];rfl
     refine pz 12 23 #[Z,Z,Y,Z,Z,Z,Y,Z,Z,Y,Z,Z,Z,Y,Y] HT_.out ?_
     refine one_ (i:=2) (N:=some 13) #[Z,Z,Z,Z,Z,Z,Y,Z,Z,Y,Z,Z,Z,Y,Y] rfl rfl (one_of HT_.out (by kernel_rfl)) (by decide) (fun K hK=>?_);refine Kd.R_lit_step (Kd.int .u8) _ 5 ?hg (N:=13) ?hd (xs:=([a0_0]:List Int)) (inner:= [.int .u8 a0_0]) (ok:=fun _=>True) (okp:=fun _=>True) ?hr ?hp (fun _ hk=>hk) trivial (Below.refl _ _) (Nat.le_refl _) (by simp) ?_;(case hd=>rfl);(case hg=>rfl);(case hr=>first|(go_simp;done)|(go_simp;rfl));(case hp=>exact (Reps.one (show Kd.M (Kd.int .u8) _ _ _ a0_0 [.int .u8 a0_0] from rfl) (Reps.none _ _)));intro v150 w54 ho55 hb hg_ hnew_;clear hg_ hnew_
     (first|rw [← Ny149.out]at ho55|(simp only[Int.reduceToNat]at ho55;rw [← Ny149.out]at ho55))
     have HO151:=Ax (Kd.R_lower ho55 (below_size (bw1 HB.out GE147.out)));replace BK147:=Bx0 BK147 hb;replace HB:=Bs1 HB hb GE147.out;clear hb ho55;obtain⟨Ao56,co56,eo56⟩:=Kd.R_slice HO151.out
     (first|subst eo56|(injection eo56 with f1_ f2_ f3_;have f4_:=f1_.symm;have f5_:=f3_.symm;clear f1_ f2_ f3_;subst f4_;subst f5_))
     refine hK.out _ _ (bqc12 BK147.out) (fun hHeld=>?_);clear hK K;refine norm_ (a':=?_) ?_ ?_;rotate_left
     ·show Act.put _ (some 13) _=_
      simp only[sP];rfl
     refine one_ (i:=6) (N:=some 17) #[Z,Z,Z,Z,Z,Z,Z,Z,Z,Y,Z,Z,Z,Y,Y] rfl rfl (one_of HT_.out (by kernel_rfl)) (by decide) (fun K hK=>?_);refine goes_ Try.func23 (by kernel_rfl) rfl #[.slice Ao56 y149.length co56,.int .u64 (IntKind.u64.wrap (a0_1))] (by rfl) rfl rfl gS ?_;with_reducible refine (num_Add.calls k (fun k_=>some k_=(.slice Ao56 y149.length co56:Value).ownBlock) (.slice Ao56 y149.length co56) y149 (IntKind.u64.wrap (a0_1)) t152 w _ ?side1 ?side2 A4.out).mono ?_
     (case side1=>repeat (first|(with_reducible first|exact HB.out|apply below_alloc|apply pw_below_drewN|apply below_drew1|refine below_set ?_ GE147.out)|exact HB.out))
     (case side2=>exact Kd.R_tight rfl HO151.out)
     rintro e w57 ⟨v153,rfl,ho0,hb,hkp⟩
     refine⟨_,rfl,?_⟩;have n0_:=Ax (blk_kept (bf0 BK147.out) hkp (fun hs_=>(fun e_=>(Kd.R_ne HO151.out BK147.out (by decide)) e_) hs_));have n1_:=Ax (Kd.R_mono (ok':=fun k_=>True) ho0 (fun k_ hk_=>trivial));have n2_:=Ax (hb);clear BK147;clear HB;clear HO151;have BK147:=n0_;have HO154:=n1_;have HB:=n2_;clear n0_ n1_ n2_
     (try clear hb)
     (try clear hkp)
     (try clear ho0)
     obtain⟨Ao58,co58,eo58⟩:=Kd.R_slice HO154.out
     (first|subst eo58|(injection eo58 with f1_ f2_ f3_;have f4_:=f1_.symm;have f5_:=f3_.symm;clear f1_ f2_ f3_;subst f4_;subst f5_))
     refine hK.out _ _ (bqc12 BK147.out) (fun hHeld=>?_);clear hK K;refine norm_ (a':=?_) ?_ ?_;rotate_left
     ·show Act.put _ (some 17) _=_
      simp only[sP];rfl
     refine one_ (i:=9) (N:=some 20) #[Z,Z,Z,Z,Z,Z,Z,Z,Z,Z,Z,Z,Z,Y,Y] rfl rfl (one_of HT_.out (by kernel_rfl)) (by decide) (fun K hK=>?_);refine goes_ Try.func23 (by kernel_rfl) rfl #[.slice Ao58 t152.length co58,.int .u64 a0_2] (by rfl) rfl rfl gS ?_;with_reducible refine (num_Add.calls k (fun k_=>some k_=(.slice Ao58 t152.length co58:Value).ownBlock) (.slice Ao58 t152.length co58) t152 a0_2 t155 w _ ?side1 ?side2 A5.out).mono ?_
     (case side1=>repeat (first|(with_reducible first|exact HB.out|apply below_alloc|apply pw_below_drewN|apply below_drew1|refine below_set ?_ GE147.out)|exact HB.out))
     (case side2=>exact Kd.R_tight rfl HO154.out)
     rintro e w59 ⟨v156,rfl,ho0,hb,hkp⟩
     refine⟨_,rfl,?_⟩;have n0_:=Ax (blk_kept (bf0 BK147.out) hkp (fun hs_=>(fun e_=>(Kd.R_ne HO154.out BK147.out (by decide)) e_) hs_));have n1_:=Ax (Kd.R_mono (ok':=fun k_=>True) ho0 (fun k_ hk_=>trivial));have n2_:=Ax (hb);clear BK147;clear HB;clear HO154;have BK147:=n0_;have HO157:=n1_;have HB:=n2_;clear n0_ n1_ n2_
     (try clear hb)
     (try clear hkp)
     (try clear ho0)
     obtain⟨Ao60,co60,eo60⟩:=Kd.R_slice HO157.out
     (first|subst eo60|(injection eo60 with f1_ f2_ f3_;have f4_:=f1_.symm;have f5_:=f3_.symm;clear f1_ f2_ f3_;subst f4_;subst f5_))
     refine hK.out _ _ (bqc12 BK147.out) (fun hHeld=>?_);clear hK K;refine norm_ (a':=?_) ?_ ?_;rotate_left
     ·show Act.put _ (some 20) _=_
      simp only[sP];rfl
     refine one_ (i:=13) (N:=some 24) #[Z,Z,Z,Z,Z,Z,Z,Z,Z,Z,Z,Z,Z,Z,Y] rfl rfl (one_of HT_.out (by kernel_rfl)) (by decide) (fun K hK=>?_);refine goes_ Try.func23 (by kernel_rfl) rfl #[.slice Ao60 t155.length co60,.int .u64 (IntKind.u64.wrap (a0_3))] (by rfl) rfl rfl gS ?_;with_reducible refine (num_Add.calls k (fun k_=>some k_=(.slice Ao60 t155.length co60:Value).ownBlock) (.slice Ao60 t155.length co60) t155 (IntKind.u64.wrap (a0_3)) t158 w _ ?side1 ?side2 A6.out).mono ?_
     (case side1=>repeat (first|(with_reducible first|exact HB.out|apply below_alloc|apply pw_below_drewN|apply below_drew1|refine below_set ?_ GE147.out)|exact HB.out))
     (case side2=>exact Kd.R_tight rfl HO157.out)
     rintro e w61 ⟨v159,rfl,ho0,hb,hkp⟩
     refine⟨_,rfl,?_⟩;have n0_:=Ax (blk_kept (bf0 BK147.out) hkp (fun hs_=>(fun e_=>(Kd.R_ne HO157.out BK147.out (by decide)) e_) hs_));have n1_:=Ax (Kd.R_mono (ok':=fun k_=>True) ho0 (fun k_ hk_=>trivial));have n2_:=Ax (hb);clear BK147;clear HB;clear HO157;have BK147:=n0_;have HO160:=n1_;have HB:=n2_;clear n0_ n1_ n2_
     (try clear hb)
     (try clear hkp)
     (try clear ho0)
     refine hK.out _ _ (bqc12 BK147.out) (fun hHeld=>?_);clear hK K;refine norm_ (a':=?_) ?_ ?_;rotate_left
     ·show Act.put _ (some 24) _=_
      simp only[sP];rfl
     refine pz 14 5 #[Z,Z,Z,Z,Z,Z,Z,Z,Z,Z,Z,Z,Z,Z,Z] HT_.out ?_
     refine done_ (done_of HT_.out (by kernel_rfl)) ?_;obtain⟨hcz62_0,hcz62_1,hcz62_2,hcz62_3,hcz62_4,hcz62_5,hcz62_6,hcz62_7,hcz62_8,hcz62_9,hcz62_10,hcz62_11,hfz62_0,hfz62_1,hfz62_2,hfz62_3,hfz62_4,hfz62_5,hfz62_6,hfz62_7,hfz62_8,hfz62_9,hfz62_10,hfz62_11⟩:=cl12 BK147;try go_wp2
     replace HO160:=Ax (Kd.R_drew HO160.out);replace BK147:=Ax (blk_drew BK147.out);replace HB:=Ax (below_drew1 HB.out);obtain⟨Ao64,co64,eo64⟩:=Kd.R_slice HO160.out
     (first|subst eo64|(injection eo64 with f1_ f2_ f3_;have f4_:=f1_.symm;have f5_:=f3_.symm;clear f1_ f2_ f3_;subst f4_;subst f5_))
     refine start_ (n:=10) (S:=fun w'=>w'.cell? ⟨gb147,0,none⟩=some (.int .u8 a0_0)∧w'.cell? ⟨gb147,1,none⟩=some (.int .i64 a0_1)∧w'.cell? ⟨gb147,2,none⟩=some (.int .u64 a0_2)∧w'.cell? ⟨gb147,3,none⟩=some (.int .i64 a0_3)∧w'.cell? ⟨gb147,4,none⟩=some (.bool a0_4)∧w'.cell? ⟨gb147,5,none⟩=some (.int .u64 a0_5)∧w'.cell? ⟨gb147,6,none⟩=some (.int .u64 a0_6)∧w'.cell? ⟨gb147,7,none⟩=some (.int .i64 a0_7)∧w'.cell? ⟨gb147,8,none⟩=some (.int .u8 a0_8)∧w'.cell? ⟨gb147,9,none⟩=some (.int .i64 a0_9)∧w'.cell? ⟨gb147,10,none⟩=some (.int .i64 a0_10)∧w'.cell? ⟨gb147,11,none⟩=some (.int .i64 a0_11)) (ds:= []) #[Y,Y,Y,Y,Y,Y,Y,Y,Y,Y] (by kernel_rfl) rfl rfl (bqc12 BK147.out) (fun hHeld=>?_);refine with_tabW msg_Put.tab11 msg_Put.bits11 (fun HT_ HW_=>?_);generalize w61.drew=w63 at HO160 BK147 HB hHeld ⊢;refine pz 0 44 #[Z,Y,Y,Y,Y,Y,Y,Y,Y,Y] HT_.out ?_
     refine pz 1 45 #[Z,Z,Y,Y,Y,Y,Y,Y,Y,Y] HT_.out ?_
     refine pz 5 49 #[Z,Z,Y,Y,Y,Z,Y,Y,Y,Y] HT_.out ?_
     refine take_ (i:=2) (N:=some 46) (v:=?_) (a':=?_) #[Z,Z,Z,Y,Y,Z,Y,Y,Y,Y] rfl rfl (take_ofW HT_.out HW_.out (by kernel_rfl)) (fun _ _ _ h=>h) (Or.inl ⟨by rfl,?_⟩) hHeld ?_ ?_;rotate_left
     ·rintro w' ⟨s0,s1,s2,s3,s4,s5,s6,s7,s8,s9,s10,s11⟩
      go_simp;with_reducible rfl
     rotate_left;·simp only[sP];rfl
     refine pz 3 47 #[Z,Z,Z,Z,Y,Z,Y,Y,Y,Y] HT_.out ?_
     refine take_ (i:=6) (N:=some 50) (v:=?_) (a':=?_) #[Z,Z,Z,Z,Y,Z,Z,Y,Y,Y] rfl rfl (take_ofW HT_.out HW_.out (by kernel_rfl)) (fun _ _ _ h=>h) (Or.inl ⟨by rfl,?_⟩) hHeld ?_ ?_;rotate_left
     ·rintro w' ⟨s0,s1,s2,s3,s4,s5,s6,s7,s8,s9,s10,s11⟩
      go_simp;with_reducible rfl
     rotate_left;·simp only[sP];rfl
     refine pz 7 51 #[Z,Z,Z,Z,Y,Z,Z,Z,Y,Y] HT_.out ?_
     refine one_ (i:=4) (N:=some 48) #[Z,Z,Z,Z,Z,Z,Z,Z,Y,Y] rfl rfl (one_of HT_.out (by kernel_rfl)) (by decide) (fun K hK=>?_);refine goes_ Try.func23 (by kernel_rfl) rfl #[.slice Ao64 t158.length co64,.int .u64 (IntKind.u64.wrap (a0_10))] (by rfl) rfl rfl gS ?_;with_reducible refine (num_Add.calls k (fun k_=>some k_=(.slice Ao64 t158.length co64:Value).ownBlock) (.slice Ao64 t158.length co64) t158 (IntKind.u64.wrap (a0_10)) t170 w _ ?side1 ?side2 A48.out).mono ?_
     (case side1=>repeat (first|(with_reducible first|exact HB.out|apply below_alloc|apply pw_below_drewN|apply below_drew1|refine below_set ?_ GE147.out)|exact HB.out))
     (case side2=>exact Kd.R_tight rfl HO160.out)
     rintro e w65 ⟨v171,rfl,ho0,hb,hkp⟩
     refine⟨_,rfl,?_⟩;have n0_:=Ax (blk_kept (bf0 BK147.out) hkp (fun hs_=>(fun e_=>(Kd.R_ne HO160.out BK147.out (by decide)) e_) hs_));have n1_:=Ax (Kd.R_mono (ok':=fun k_=>True) ho0 (fun k_ hk_=>trivial));have n2_:=Ax (hb);clear BK147;clear HB;clear HO160;have BK147:=n0_;have HO172:=n1_;have HB:=n2_;clear n0_ n1_ n2_
     (try clear hb)
     (try clear hkp)
     (try clear ho0)
     obtain⟨Ao66,co66,eo66⟩:=Kd.R_slice HO172.out
     (first|subst eo66|(injection eo66 with f1_ f2_ f3_;have f4_:=f1_.symm;have f5_:=f3_.symm;clear f1_ f2_ f3_;subst f4_;subst f5_))
     refine hK.out _ _ (bqc12 BK147.out) (fun hHeld=>?_);clear hK K;refine norm_ (a':=?_) ?_ ?_;rotate_left
     ·show Act.put _ (some 48) _=_
      simp only[sP];rfl
     refine one_ (i:=8) (N:=some 52) #[Z,Z,Z,Z,Z,Z,Z,Z,Z,Y] rfl rfl (one_of HT_.out (by kernel_rfl)) (by decide) (fun K hK=>?_);refine goes_ Try.func23 (by kernel_rfl) rfl #[.slice Ao66 t170.length co66,.int .u64 (IntKind.u64.wrap (a0_11))] (by rfl) rfl rfl gS ?_;with_reducible refine (num_Add.calls k (fun k_=>some k_=(.slice Ao66 t170.length co66:Value).ownBlock) (.slice Ao66 t170.length co66) t170 (IntKind.u64.wrap (a0_11)) t173 w _ ?side1 ?side2 A49.out).mono ?_
     (case side1=>repeat (first|(with_reducible first|exact HB.out|apply below_alloc|apply pw_below_drewN|apply below_drew1|refine below_set ?_ GE147.out)|exact HB.out))
     (case side2=>exact Kd.R_tight rfl HO172.out)
     rintro e w67 ⟨v174,rfl,ho0,hb,hkp⟩
     refine⟨_,rfl,?_⟩;have n0_:=Ax (blk_kept (bf0 BK147.out) hkp (fun hs_=>(fun e_=>(Kd.R_ne HO172.out BK147.out (by decide)) e_) hs_));have n1_:=Ax (Kd.R_mono (ok':=fun k_=>True) ho0 (fun k_ hk_=>trivial));have n2_:=Ax (hb);clear BK147;clear HB;clear HO172;have BK147:=n0_;have HO175:=n1_;have HB:=n2_;clear n0_ n1_ n2_
     (try clear hb)
     (try clear hkp)
     (try clear ho0)
     refine hK.out _ _ (bqc12 BK147.out) (fun hHeld=>?_);clear hK K;refine norm_ (a':=?_) ?_ ?_;rotate_left
     ·show Act.put _ (some 52) _=_
      simp only[sP];rfl
     refine pz 9 5 #[Z,Z,Z,Z,Z,Z,Z,Z,Z,Z] HT_.out ?_
     refine done_ (done_of HT_.out (by kernel_rfl)) ?_;have hcv68:=own_string (P:=Try.prog) Try.underlying49 Try.underlying5 Try.underlying9 (Kd.own_of_R HO175.out);try go_wp2
     go_ret2;exact⟨eS,bw1 HB.out GE147.out⟩
    ·rw [if_neg c47]at H;have c47b0:(a0_0==5)=false:=beq_eq_false_iff_ne.mpr c47;have c47b1:(a0_0 !=5)=true:=bne_iff_ne.mpr c47;by_cases c69:a0_0=6
     ·rw [if_pos c69]at H;have c69b0:(a0_0==6)=true:=beq_iff_eq.mpr c69;have c69b1:(a0_0 !=6)=false:=bne_eq_false_iff_eq.mpr c69;clear c69;replace H:=Option.bind_eq_some_iff.mp H;obtain⟨t176,A700,H⟩:=H;replace H:(some (strOfNums t176,0))=some (r1,r2):=H;have A70:=Ax A700;clear A700;simp only[Option.some.injEq,Prod.mk.injEq]at H;obtain⟨rfl,rfl⟩:=H;go_enter Try.func8,Try.ntmps8;try go_wp2_with (first|((with_reducible refine gate_dst (N:=1) rfl ?_);refine box_event ?hg (N:=1) ?hd (cs:= #[.int .u8 a0_0,.int .i64 a0_1,.int .u64 a0_2,.int .i64 a0_3,.bool a0_4,.int .u64 a0_5,.int .u64 a0_6,.int .i64 a0_7,.int .u8 a0_8,.int .i64 a0_9,.int .i64 a0_10,.int .i64 a0_11]) (t:=32) ?hr ?_;(case hd=>rfl);(case hg=>rfl);(case hr=>first|(go_simp;done)|(go_simp;rfl));intro gb147 hg w71 hbox hb;have n0_:=Bs0 HB hb;have n1_:=Ax (hbox);have n2_:=Gw0 HB hg;have n3_:=Gw0 HB hg;clear HB;have HB:=n0_;have BK147:=n1_;have GW147:=n2_;have GE147:=n3_;clear n0_ n1_ n2_ n3_;clear hb hbox hg;obtain⟨hcz72_0,hcz72_1,hcz72_2,hcz72_3,hcz72_4,hcz72_5,hcz72_6,hcz72_7,hcz72_8,hcz72_9,hcz72_10,hcz72_11,hfz72_0,hfz72_1,hfz72_2,hfz72_3,hfz72_4,hfz72_5,hfz72_6,hfz72_7,hfz72_8,hfz72_9,hfz72_10,hfz72_11⟩:=cl12 BK147)|((with_reducible refine gate_callee (f:=13) rfl ?_);refine goesL_ (some 7) rfl rfl Try.func13 (by kernel_rfl) rfl #[.agg #[.int .u8 a0_0,.int .i64 a0_1,.int .u64 a0_2,.int .i64 a0_3,.bool a0_4,.int .u64 a0_5,.int .u64 a0_6,.int .i64 a0_7,.int .u8 a0_8,.int .i64 a0_9,.int .i64 a0_10,.int .i64 a0_11]] rfl gS ?_;(with_reducible refine (msg_Check.calls k a0_0 a0_1 a0_2 a0_3 a0_4 a0_5 a0_6 a0_7 a0_8 a0_9 a0_10 a0_11 t148 _ A2.out).mono ?_);rintro e w73 ⟨rfl,hb⟩;refine⟨_,rfl,?_⟩;replace BK147:=Bx0 BK147 hb;replace HB:=Bs1 HB hb GE147.out;(try clear hb)))
      replace BK147:=Ax (blk_drew BK147.out);replace HB:=Ax (below_drew1 HB.out);refine start_ (n:=15) (S:=fun w'=>w'.cell? ⟨gb147,0,none⟩=some (.int .u8 a0_0)∧w'.cell? ⟨gb147,1,none⟩=some (.int .i64 a0_1)∧w'.cell? ⟨gb147,2,none⟩=some (.int .u64 a0_2)∧w'.cell? ⟨gb147,3,none⟩=some (.int .i64 a0_3)∧w'.cell? ⟨gb147,4,none⟩=some (.bool a0_4)∧w'.cell? ⟨gb147,5,none⟩=some (.int .u64 a0_5)∧w'.cell? ⟨gb147,6,none⟩=some (.int .u64 a0_6)∧w'.cell? ⟨gb147,7,none⟩=some (.int .i64 a0_7)∧w'.cell? ⟨gb147,8,none⟩=some (.int .u8 a0_8)∧w'.cell? ⟨gb147,9,none⟩=some (.int .i64 a0_9)∧w'.cell? ⟨gb147,10,none⟩=some (.int .i64 a0_10)∧w'.cell? ⟨gb147,11,none⟩=some (.int .i64 a0_11)) (ds:= []) #[Y,Y,Y,Y,Y,Y,Y,Y,Y,Y,Y,Y,Y,Y,Y] (by kernel_rfl) rfl rfl (bqc12 BK147.out) (fun hHeld=>?_);refine with_tabW msg_Put.tab4 msg_Put.bits4 (fun HT_ HW_=>?_);generalize w73.drew=w74 at BK147 HB hHeld ⊢;refine pz 0 11 #[Z,Y,Y,Y,Y,Y,Y,Y,Y,Y,Y,Y,Y,Y,Y] HT_.out ?_
      refine pz 3 14 #[Z,Y,Y,Z,Y,Y,Y,Y,Y,Y,Y,Y,Y,Y,Y] HT_.out ?_
      refine pz 7 18 #[Z,Y,Y,Z,Y,Y,Y,Z,Y,Y,Y,Y,Y,Y,Y] HT_.out ?_
      refine pz 10 21 #[Z,Y,Y,Z,Y,Y,Y,Z,Y,Y,Z,Y,Y,Y,Y] HT_.out ?_
      refine take_ (i:=1) (N:=some 12) (v:=?_) (a':=?_) #[Z,Z,Y,Z,Y,Y,Y,Z,Y,Y,Z,Y,Y,Y,Y] rfl rfl (take_ofW HT_.out HW_.out (by kernel_rfl)) (fun _ _ _ h=>h) (Or.inl ⟨by rfl,?_⟩) hHeld ?_ ?_;rotate_left
      ·rintro w' ⟨s0,s1,s2,s3,s4,s5,s6,s7,s8,s9,s10,s11⟩
       go_simp;with_reducible rfl
      rotate_left;·simp only[sP];rfl
      refine take_ (i:=4) (N:=some 15) (v:=?_) (a':=?_) #[Z,Z,Y,Z,Z,Y,Y,Z,Y,Y,Z,Y,Y,Y,Y] rfl rfl (take_ofW HT_.out HW_.out (by kernel_rfl)) (fun _ _ _ h=>h) (Or.inl ⟨by rfl,?_⟩) hHeld ?_ ?_;rotate_left
      ·rintro w' ⟨s0,s1,s2,s3,s4,s5,s6,s7,s8,s9,s10,s11⟩
       go_simp;with_reducible rfl
      rotate_left;·simp only[sP];rfl
      refine pz 5 16 #[Z,Z,Y,Z,Z,Z,Y,Z,Y,Y,Z,Y,Y,Y,Y] HT_.out ?_
      refine take_ (i:=8) (N:=some 19) (v:=?_) (a':=?_) #[Z,Z,Y,Z,Z,Z,Y,Z,Z,Y,Z,Y,Y,Y,Y] rfl rfl (take_ofW HT_.out HW_.out (by kernel_rfl)) (fun _ _ _ h=>h) (Or.inl ⟨by rfl,?_⟩) hHeld ?_ ?_;rotate_left
      ·rintro w' ⟨s0,s1,s2,s3,s4,s5,s6,s7,s8,s9,s10,s11⟩
       go_simp;with_reducible rfl
      rotate_left;·simp only[sP];rfl
      refine take_ (i:=11) (N:=some 22) (v:=?_) (a':=?_) #[Z,Z,Y,Z,Z,Z,Y,Z,Z,Y,Z,Z,Y,Y,Y] rfl rfl (take_ofW HT_.out HW_.out (by kernel_rfl)) (fun _ _ _ h=>h) (Or.inl ⟨by rfl,?_⟩) hHeld ?_ ?_;rotate_left
      ·rintro w' ⟨s0,s1,s2,s3,s4,s5,s6,s7,s8,s9,s10,s11⟩
       go_simp;with_reducible rfl
      rotate_left;·simp only[sP];rfl
      refine pz 12 23 #[Z,Z,Y,Z,Z,Z,Y,Z,Z,Y,Z,Z,Z,Y,Y] HT_.out ?_
      refine one_ (i:=2) (N:=some 13) #[Z,Z,Z,Z,Z,Z,Y,Z,Z,Y,Z,Z,Z,Y,Y] rfl rfl (one_of HT_.out (by kernel_rfl)) (by decide) (fun K hK=>?_);refine Kd.R_lit_step (Kd.int .u8) _ 5 ?hg (N:=13) ?hd (xs:=([a0_0]:List Int)) (inner:= [.int .u8 a0_0]) (ok:=fun _=>True) (okp:=fun _=>True) ?hr ?hp (fun _ hk=>hk) trivial (Below.refl _ _) (Nat.le_refl _) (by simp) ?_;(case hd=>rfl);(case hg=>rfl);(case hr=>first|(go_simp;done)|(go_simp;rfl));(case hp=>exact (Reps.one (show Kd.M (Kd.int .u8) _ _ _ a0_0 [.int .u8 a0_0] from rfl) (Reps.none _ _)));intro v150 w75 ho76 hb hg_ hnew_;clear hg_ hnew_
      (first|rw [← Ny149.out]at ho76|(simp only[Int.reduceToNat]at ho76;rw [← Ny149.out]at ho76))
      have HO151:=Ax (Kd.R_lower ho76 (below_size (bw1 HB.out GE147.out)));replace BK147:=Bx0 BK147 hb;replace HB:=Bs1 HB hb GE147.out;clear hb ho76;obtain⟨Ao77,co77,eo77⟩:=Kd.R_slice HO151.out
      (first|subst eo77|(injection eo77 with f1_ f2_ f3_;have f4_:=f1_.symm;have f5_:=f3_.symm;clear f1_ f2_ f3_;subst f4_;subst f5_))
      refine hK.out _ _ (bqc12 BK147.out) (fun hHeld=>?_);clear hK K;refine norm_ (a':=?_) ?_ ?_;rotate_left
      ·show Act.put _ (some 13) _=_
       simp only[sP];rfl
      refine one_ (i:=6) (N:=some 17) #[Z,Z,Z,Z,Z,Z,Z,Z,Z,Y,Z,Z,Z,Y,Y] rfl rfl (one_of HT_.out (by kernel_rfl)) (by decide) (fun K hK=>?_);refine goes_ Try.func23 (by kernel_rfl) rfl #[.slice Ao77 y149.length co77,.int .u64 (IntKind.u64.wrap (a0_1))] (by rfl) rfl rfl gS ?_;with_reducible refine (num_Add.calls k (fun k_=>some k_=(.slice Ao77 y149.length co77:Value).ownBlock) (.slice Ao77 y149.length co77) y149 (IntKind.u64.wrap (a0_1)) t152 w _ ?side1 ?side2 A4.out).mono ?_
      (case side1=>repeat (first|(with_reducible first|exact HB.out|apply below_alloc|apply pw_below_drewN|apply below_drew1|refine below_set ?_ GE147.out)|exact HB.out))
      (case side2=>exact Kd.R_tight rfl HO151.out)
      rintro e w78 ⟨v153,rfl,ho0,hb,hkp⟩
      refine⟨_,rfl,?_⟩;have n0_:=Ax (blk_kept (bf0 BK147.out) hkp (fun hs_=>(fun e_=>(Kd.R_ne HO151.out BK147.out (by decide)) e_) hs_));have n1_:=Ax (Kd.R_mono (ok':=fun k_=>True) ho0 (fun k_ hk_=>trivial));have n2_:=Ax (hb);clear BK147;clear HB;clear HO151;have BK147:=n0_;have HO154:=n1_;have HB:=n2_;clear n0_ n1_ n2_
      (try clear hb)
      (try clear hkp)
      (try clear ho0)
      obtain⟨Ao79,co79,eo79⟩:=Kd.R_slice HO154.out
      (first|subst eo79|(injection eo79 with f1_ f2_ f3_;have f4_:=f1_.symm;have f5_:=f3_.symm;clear f1_ f2_ f3_;subst f4_;subst f5_))
      refine hK.out _ _ (bqc12 BK147.out) (fun hHeld=>?_);clear hK K;refine norm_ (a':=?_) ?_ ?_;rotate_left
      ·show Act.put _ (some 17) _=_
       simp only[sP];rfl
      refine one_ (i:=9) (N:=some 20) #[Z,Z,Z,Z,Z,Z,Z,Z,Z,Z,Z,Z,Z,Y,Y] rfl rfl (one_of HT_.out (by kernel_rfl)) (by decide) (fun K hK=>?_);refine goes_ Try.func23 (by kernel_rfl) rfl #[.slice Ao79 t152.length co79,.int .u64 a0_2] (by rfl) rfl rfl gS ?_;with_reducible refine (num_Add.calls k (fun k_=>some k_=(.slice Ao79 t152.length co79:Value).ownBlock) (.slice Ao79 t152.length co79) t152 a0_2 t155 w _ ?side1 ?side2 A5.out).mono ?_
      (case side1=>repeat (first|(with_reducible first|exact HB.out|apply below_alloc|apply pw_below_drewN|apply below_drew1|refine below_set ?_ GE147.out)|exact HB.out))
      (case side2=>exact Kd.R_tight rfl HO154.out)
      rintro e w80 ⟨v156,rfl,ho0,hb,hkp⟩
      refine⟨_,rfl,?_⟩;have n0_:=Ax (blk_kept (bf0 BK147.out) hkp (fun hs_=>(fun e_=>(Kd.R_ne HO154.out BK147.out (by decide)) e_) hs_));have n1_:=Ax (Kd.R_mono (ok':=fun k_=>True) ho0 (fun k_ hk_=>trivial));have n2_:=Ax (hb);clear BK147;clear HB;clear HO154;have BK147:=n0_;have HO157:=n1_;have HB:=n2_;clear n0_ n1_ n2_
      (try clear hb)
      (try clear hkp)
      (try clear ho0)
      obtain⟨Ao81,co81,eo81⟩:=Kd.R_slice HO157.out
      (first|subst eo81|(injection eo81 with f1_ f2_ f3_;have f4_:=f1_.symm;have f5_:=f3_.symm;clear f1_ f2_ f3_;subst f4_;subst f5_))
      refine hK.out _ _ (bqc12 BK147.out) (fun hHeld=>?_);clear hK K;refine norm_ (a':=?_) ?_ ?_;rotate_left
      ·show Act.put _ (some 20) _=_
       simp only[sP];rfl
      refine one_ (i:=13) (N:=some 24) #[Z,Z,Z,Z,Z,Z,Z,Z,Z,Z,Z,Z,Z,Z,Y] rfl rfl (one_of HT_.out (by kernel_rfl)) (by decide) (fun K hK=>?_);refine goes_ Try.func23 (by kernel_rfl) rfl #[.slice Ao81 t155.length co81,.int .u64 (IntKind.u64.wrap (a0_3))] (by rfl) rfl rfl gS ?_;with_reducible refine (num_Add.calls k (fun k_=>some k_=(.slice Ao81 t155.length co81:Value).ownBlock) (.slice Ao81 t155.length co81) t155 (IntKind.u64.wrap (a0_3)) t158 w _ ?side1 ?side2 A6.out).mono ?_
      (case side1=>repeat (first|(with_reducible first|exact HB.out|apply below_alloc|apply pw_below_drewN|apply below_drew1|refine below_set ?_ GE147.out)|exact HB.out))
      (case side2=>exact Kd.R_tight rfl HO157.out)
      rintro e w82 ⟨v159,rfl,ho0,hb,hkp⟩
      refine⟨_,rfl,?_⟩;have n0_:=Ax (blk_kept (bf0 BK147.out) hkp (fun hs_=>(fun e_=>(Kd.R_ne HO157.out BK147.out (by decide)) e_) hs_));have n1_:=Ax (Kd.R_mono (ok':=fun k_=>True) ho0 (fun k_ hk_=>trivial));have n2_:=Ax (hb);clear BK147;clear HB;clear HO157;have BK147:=n0_;have HO160:=n1_;have HB:=n2_;clear n0_ n1_ n2_
      (try clear hb)
      (try clear hkp)
      (try clear ho0)
      refine hK.out _ _ (bqc12 BK147.out) (fun hHeld=>?_);clear hK K;refine norm_ (a':=?_) ?_ ?_;rotate_left
      ·show Act.put _ (some 24) _=_
       simp only[sP];rfl
      refine pz 14 5 #[Z,Z,Z,Z,Z,Z,Z,Z,Z,Z,Z,Z,Z,Z,Z] HT_.out ?_
      refine done_ (done_of HT_.out (by kernel_rfl)) ?_;obtain⟨hcz83_0,hcz83_1,hcz83_2,hcz83_3,hcz83_4,hcz83_5,hcz83_6,hcz83_7,hcz83_8,hcz83_9,hcz83_10,hcz83_11,hfz83_0,hfz83_1,hfz83_2,hfz83_3,hfz83_4,hfz83_5,hfz83_6,hfz83_7,hfz83_8,hfz83_9,hfz83_10,hfz83_11⟩:=cl12 BK147;obtain⟨Ao84,co84,eo84⟩:=Kd.R_slice HO160.out;subst eo84;try go_wp2_with (first|((with_reducible refine gate_callee (f:=23) rfl ?_);refine goesL_ (some 59) rfl rfl Try.func23 (by kernel_rfl) rfl #[.slice Ao84 t158.length co84,.int .u64 (IntKind.u64.wrap (a0_10))] rfl gS ?_;(with_reducible refine (num_Add.calls k (fun k_=>some k_=(.slice Ao84 t158.length co84:Value).ownBlock) (.slice Ao84 t158.length co84) t158 (IntKind.u64.wrap (a0_10)) t176 w _ ?side1 ?side2 A70.out).mono ?_);(case side1=>repeat (first|(with_reducible first|exact HB.out|apply below_alloc|apply pw_below_drewN|apply below_drew1|refine below_set ?_ GE147.out)|exact HB.out));(case side2=>exact Kd.R_tight rfl HO160.out);rintro e w85 ⟨v177,rfl,ho0,hb,hkp⟩;refine⟨_,rfl,?_⟩;have n0_:=Ax (blk_kept (bf0 BK147.out) hkp (fun hs_=>(fun e_=>(Kd.R_ne HO160.out BK147.out (by decide)) e_) hs_));have n1_:=Ax (Kd.R_mono (ok':=fun k_=>True) ho0 (fun k_ hk_=>trivial));have n2_:=Ax (hb);clear BK147;clear HB;clear HO160;have BK147:=n0_;have HO178:=n1_;have HB:=n2_;clear n0_ n1_ n2_;(try clear hb);(try clear hkp);(try clear ho0);have hcv86:=own_string (P:=Try.prog) Try.underlying49 Try.underlying5 Try.underlying9 (Kd.own_of_R HO178.out)))
      go_ret2;exact⟨eS,bw1 HB.out GE147.out⟩
     ·rw [if_neg c69]at H;have c69b0:(a0_0==6)=false:=beq_eq_false_iff_ne.mpr c69;have c69b1:(a0_0 !=6)=true:=bne_iff_ne.mpr c69;simp only[Option.some.injEq,Prod.mk.injEq]at H;obtain⟨rfl,rfl⟩:=H;go_enter Try.func8,Try.ntmps8;try go_wp2_with (first|((with_reducible refine gate_dst (N:=1) rfl ?_);refine box_event ?hg (N:=1) ?hd (cs:= #[.int .u8 a0_0,.int .i64 a0_1,.int .u64 a0_2,.int .i64 a0_3,.bool a0_4,.int .u64 a0_5,.int .u64 a0_6,.int .i64 a0_7,.int .u8 a0_8,.int .i64 a0_9,.int .i64 a0_10,.int .i64 a0_11]) (t:=32) ?hr ?_;(case hd=>rfl);(case hg=>rfl);(case hr=>first|(go_simp;done)|(go_simp;rfl));intro gb147 hg w87 hbox hb;have n0_:=Bs0 HB hb;have n1_:=Ax (hbox);have n2_:=Gw0 HB hg;have n3_:=Gw0 HB hg;clear HB;have HB:=n0_;have BK147:=n1_;have GW147:=n2_;have GE147:=n3_;clear n0_ n1_ n2_ n3_;clear hb hbox hg;obtain⟨hcz88_0,hcz88_1,hcz88_2,hcz88_3,hcz88_4,hcz88_5,hcz88_6,hcz88_7,hcz88_8,hcz88_9,hcz88_10,hcz88_11,hfz88_0,hfz88_1,hfz88_2,hfz88_3,hfz88_4,hfz88_5,hfz88_6,hfz88_7,hfz88_8,hfz88_9,hfz88_10,hfz88_11⟩:=cl12 BK147)|((with_reducible refine gate_callee (f:=13) rfl ?_);refine goesL_ (some 7) rfl rfl Try.func13 (by kernel_rfl) rfl #[.agg #[.int .u8 a0_0,.int .i64 a0_1,.int .u64 a0_2,.int .i64 a0_3,.bool a0_4,.int .u64 a0_5,.int .u64 a0_6,.int .i64 a0_7,.int .u8 a0_8,.int .i64 a0_9,.int .i64 a0_10,.int .i64 a0_11]] rfl gS ?_;(with_reducible refine (msg_Check.calls k a0_0 a0_1 a0_2 a0_3 a0_4 a0_5 a0_6 a0_7 a0_8 a0_9 a0_10 a0_11 t148 _ A2.out).mono ?_);rintro e w89 ⟨rfl,hb⟩;refine⟨_,rfl,?_⟩;replace BK147:=Bx0 BK147 hb;replace HB:=Bs1 HB hb GE147.out;(try clear hb)))
      replace BK147:=Ax (blk_drew BK147.out);replace HB:=Ax (below_drew1 HB.out);refine start_ (n:=15) (S:=fun w'=>w'.cell? ⟨gb147,0,none⟩=some (.int .u8 a0_0)∧w'.cell? ⟨gb147,1,none⟩=some (.int .i64 a0_1)∧w'.cell? ⟨gb147,2,none⟩=some (.int .u64 a0_2)∧w'.cell? ⟨gb147,3,none⟩=some (.int .i64 a0_3)∧w'.cell? ⟨gb147,4,none⟩=some (.bool a0_4)∧w'.cell? ⟨gb147,5,none⟩=some (.int .u64 a0_5)∧w'.cell? ⟨gb147,6,none⟩=some (.int .u64 a0_6)∧w'.cell? ⟨gb147,7,none⟩=some (.int .i64 a0_7)∧w'.cell? ⟨gb147,8,none⟩=some (.int .u8 a0_8)∧w'.cell? ⟨gb147,9,none⟩=some (.int .i64 a0_9)∧w'.cell? ⟨gb147,10,none⟩=some (.int .i64 a0_10)∧w'.cell? ⟨gb147,11,none⟩=some (.int .i64 a0_11)) (ds:= []) #[Y,Y,Y,Y,Y,Y,Y,Y,Y,Y,Y,Y,Y,Y,Y] (by kernel_rfl) rfl rfl (bqc12 BK147.out) (fun hHeld=>?_);refine with_tabW msg_Put.tab4 msg_Put.bits4 (fun HT_ HW_=>?_);generalize w89.drew=w90 at BK147 HB hHeld ⊢;refine pz 0 11 #[Z,Y,Y,Y,Y,Y,Y,Y,Y,Y,Y,Y,Y,Y,Y] HT_.out ?_
      refine pz 3 14 #[Z,Y,Y,Z,Y,Y,Y,Y,Y,Y,Y,Y,Y,Y,Y] HT_.out ?_
      refine pz 7 18 #[Z,Y,Y,Z,Y,Y,Y,Z,Y,Y,Y,Y,Y,Y,Y] HT_.out ?_
      refine pz 10 21 #[Z,Y,Y,Z,Y,Y,Y,Z,Y,Y,Z,Y,Y,Y,Y] HT_.out ?_
      refine take_ (i:=1) (N:=some 12) (v:=?_) (a':=?_) #[Z,Z,Y,Z,Y,Y,Y,Z,Y,Y,Z,Y,Y,Y,Y] rfl rfl (take_ofW HT_.out HW_.out (by kernel_rfl)) (fun _ _ _ h=>h) (Or.inl ⟨by rfl,?_⟩) hHeld ?_ ?_;rotate_left
      ·rintro w' ⟨s0,s1,s2,s3,s4,s5,s6,s7,s8,s9,s10,s11⟩
       go_simp;with_reducible rfl
      rotate_left;·simp only[sP];rfl
      refine take_ (i:=4) (N:=some 15) (v:=?_) (a':=?_) #[Z,Z,Y,Z,Z,Y,Y,Z,Y,Y,Z,Y,Y,Y,Y] rfl rfl (take_ofW HT_.out HW_.out (by kernel_rfl)) (fun _ _ _ h=>h) (Or.inl ⟨by rfl,?_⟩) hHeld ?_ ?_;rotate_left
      ·rintro w' ⟨s0,s1,s2,s3,s4,s5,s6,s7,s8,s9,s10,s11⟩
       go_simp;with_reducible rfl
      rotate_left;·simp only[sP];rfl
      refine pz 5 16 #[Z,Z,Y,Z,Z,Z,Y,Z,Y,Y,Z,Y,Y,Y,Y] HT_.out ?_
      refine take_ (i:=8) (N:=some 19) (v:=?_) (a':=?_) #[Z,Z,Y,Z,Z,Z,Y,Z,Z,Y,Z,Y,Y,Y,Y] rfl rfl (take_ofW HT_.out HW_.out (by kernel_rfl)) (fun _ _ _ h=>h) (Or.inl ⟨by rfl,?_⟩) hHeld ?_ ?_;rotate_left
      ·rintro w' ⟨s0,s1,s2,s3,s4,s5,s6,s7,s8,s9,s10,s11⟩
       go_simp;with_reducible rfl
      rotate_left;·simp only[sP];rfl
      refine take_ (i:=11) (N:=some 22) (v:=?_) (a':=?_) #[Z,Z,Y,Z,Z,Z,Y,Z,Z,Y,Z,Z,Y,Y,Y] rfl rfl (take_ofW HT_.out HW_.out (by kernel_rfl)) (fun _ _ _ h=>h) (Or.inl ⟨by rfl,?_⟩) hHeld ?_ ?_;rotate_left
      ·rintro w' ⟨s0,s1,s2,s3,s4,s5,s6,s7,s8,s9,s10,s11⟩
       go_simp;with_reducible rfl
      rotate_left;·simp only[sP];rfl
      refine pz 12 23 #[Z,Z,Y,Z,Z,Z,Y,Z,Z,Y,Z,Z,Z,Y,Y] HT_.out ?_
      refine one_ (i:=2) (N:=some 13) #[Z,Z,Z,Z,Z,Z,Y,Z,Z,Y,Z,Z,Z,Y,Y] rfl rfl (one_of HT_.out (by kernel_rfl)) (by decide) (fun K hK=>?_);refine Kd.R_lit_step (Kd.int .u8) _ 5 ?hg (N:=13) ?hd (xs:=([a0_0]:List Int)) (inner:= [.int .u8 a0_0]) (ok:=fun _=>True) (okp:=fun _=>True) ?hr ?hp (fun _ hk=>hk) trivial (Below.refl _ _) (Nat.le_refl _) (by simp) ?_;(case hd=>rfl);(case hg=>rfl);(case hr=>first|(go_simp;done)|(go_simp;rfl));(case hp=>exact (Reps.one (show Kd.M (Kd.int .u8) _ _ _ a0_0 [.int .u8 a0_0] from rfl) (Reps.none _ _)));intro v150 w91 ho92 hb hg_ hnew_;clear hg_ hnew_
      (first|rw [← Ny149.out]at ho92|(simp only[Int.reduceToNat]at ho92;rw [← Ny149.out]at ho92))
      have HO151:=Ax (Kd.R_lower ho92 (below_size (bw1 HB.out GE147.out)));replace BK147:=Bx0 BK147 hb;replace HB:=Bs1 HB hb GE147.out;clear hb ho92;obtain⟨Ao93,co93,eo93⟩:=Kd.R_slice HO151.out
      (first|subst eo93|(injection eo93 with f1_ f2_ f3_;have f4_:=f1_.symm;have f5_:=f3_.symm;clear f1_ f2_ f3_;subst f4_;subst f5_))
      refine hK.out _ _ (bqc12 BK147.out) (fun hHeld=>?_);clear hK K;refine norm_ (a':=?_) ?_ ?_;rotate_left
      ·show Act.put _ (some 13) _=_
       simp only[sP];rfl
      refine one_ (i:=6) (N:=some 17) #[Z,Z,Z,Z,Z,Z,Z,Z,Z,Y,Z,Z,Z,Y,Y] rfl rfl (one_of HT_.out (by kernel_rfl)) (by decide) (fun K hK=>?_);refine goes_ Try.func23 (by kernel_rfl) rfl #[.slice Ao93 y149.length co93,.int .u64 (IntKind.u64.wrap (a0_1))] (by rfl) rfl rfl gS ?_;with_reducible refine (num_Add.calls k (fun k_=>some k_=(.slice Ao93 y149.length co93:Value).ownBlock) (.slice Ao93 y149.length co93) y149 (IntKind.u64.wrap (a0_1)) t152 w _ ?side1 ?side2 A4.out).mono ?_
      (case side1=>repeat (first|(with_reducible first|exact HB.out|apply below_alloc|apply pw_below_drewN|apply below_drew1|refine below_set ?_ GE147.out)|exact HB.out))
      (case side2=>exact Kd.R_tight rfl HO151.out)
      rintro e w94 ⟨v153,rfl,ho0,hb,hkp⟩
      refine⟨_,rfl,?_⟩;have n0_:=Ax (blk_kept (bf0 BK147.out) hkp (fun hs_=>(fun e_=>(Kd.R_ne HO151.out BK147.out (by decide)) e_) hs_));have n1_:=Ax (Kd.R_mono (ok':=fun k_=>True) ho0 (fun k_ hk_=>trivial));have n2_:=Ax (hb);clear BK147;clear HB;clear HO151;have BK147:=n0_;have HO154:=n1_;have HB:=n2_;clear n0_ n1_ n2_
      (try clear hb)
      (try clear hkp)
      (try clear ho0)
      obtain⟨Ao95,co95,eo95⟩:=Kd.R_slice HO154.out
      (first|subst eo95|(injection eo95 with f1_ f2_ f3_;have f4_:=f1_.symm;have f5_:=f3_.symm;clear f1_ f2_ f3_;subst f4_;subst f5_))
      refine hK.out _ _ (bqc12 BK147.out) (fun hHeld=>?_);clear hK K;refine norm_ (a':=?_) ?_ ?_;rotate_left
      ·show Act.put _ (some 17) _=_
       simp only[sP];rfl
      refine one_ (i:=9) (N:=some 20) #[Z,Z,Z,Z,Z,Z,Z,Z,Z,Z,Z,Z,Z,Y,Y] rfl rfl (one_of HT_.out (by kernel_rfl)) (by decide) (fun K hK=>?_);refine goes_ Try.func23 (by kernel_rfl) rfl #[.slice Ao95 t152.length co95,.int .u64 a0_2] (by rfl) rfl rfl gS ?_;with_reducible refine (num_Add.calls k (fun k_=>some k_=(.slice Ao95 t152.length co95:Value).ownBlock) (.slice Ao95 t152.length co95) t152 a0_2 t155 w _ ?side1 ?side2 A5.out).mono ?_
      (case side1=>repeat (first|(with_reducible first|exact HB.out|apply below_alloc|apply pw_below_drewN|apply below_drew1|refine below_set ?_ GE147.out)|exact HB.out))
      (case side2=>exact Kd.R_tight rfl HO154.out)
      rintro e w96 ⟨v156,rfl,ho0,hb,hkp⟩
      refine⟨_,rfl,?_⟩;have n0_:=Ax (blk_kept (bf0 BK147.out) hkp (fun hs_=>(fun e_=>(Kd.R_ne HO154.out BK147.out (by decide)) e_) hs_));have n1_:=Ax (Kd.R_mono (ok':=fun k_=>True) ho0 (fun k_ hk_=>trivial));have n2_:=Ax (hb);clear BK147;clear HB;clear HO154;have BK147:=n0_;have HO157:=n1_;have HB:=n2_;clear n0_ n1_ n2_
      (try clear hb)
      (try clear hkp)
      (try clear ho0)
      obtain⟨Ao97,co97,eo97⟩:=Kd.R_slice HO157.out
      (first|subst eo97|(injection eo97 with f1_ f2_ f3_;have f4_:=f1_.symm;have f5_:=f3_.symm;clear f1_ f2_ f3_;subst f4_;subst f5_))
      refine hK.out _ _ (bqc12 BK147.out) (fun hHeld=>?_);clear hK K;refine norm_ (a':=?_) ?_ ?_;rotate_left
      ·show Act.put _ (some 20) _=_
       simp only[sP];rfl
      refine one_ (i:=13) (N:=some 24) #[Z,Z,Z,Z,Z,Z,Z,Z,Z,Z,Z,Z,Z,Z,Y] rfl rfl (one_of HT_.out (by kernel_rfl)) (by decide) (fun K hK=>?_);refine goes_ Try.func23 (by kernel_rfl) rfl #[.slice Ao97 t155.length co97,.int .u64 (IntKind.u64.wrap (a0_3))] (by rfl) rfl rfl gS ?_;with_reducible refine (num_Add.calls k (fun k_=>some k_=(.slice Ao97 t155.length co97:Value).ownBlock) (.slice Ao97 t155.length co97) t155 (IntKind.u64.wrap (a0_3)) t158 w _ ?side1 ?side2 A6.out).mono ?_
      (case side1=>repeat (first|(with_reducible first|exact HB.out|apply below_alloc|apply pw_below_drewN|apply below_drew1|refine below_set ?_ GE147.out)|exact HB.out))
      (case side2=>exact Kd.R_tight rfl HO157.out)
      rintro e w98 ⟨v159,rfl,ho0,hb,hkp⟩
      refine⟨_,rfl,?_⟩;have n0_:=Ax (blk_kept (bf0 BK147.out) hkp (fun hs_=>(fun e_=>(Kd.R_ne HO157.out BK147.out (by decide)) e_) hs_));have n1_:=Ax (Kd.R_mono (ok':=fun k_=>True) ho0 (fun k_ hk_=>trivial));have n2_:=Ax (hb);clear BK147;clear HB;clear HO157;have BK147:=n0_;have HO160:=n1_;have HB:=n2_;clear n0_ n1_ n2_
      (try clear hb)
      (try clear hkp)
      (try clear ho0)
      refine hK.out _ _ (bqc12 BK147.out) (fun hHeld=>?_);clear hK K;refine norm_ (a':=?_) ?_ ?_;rotate_left
      ·show Act.put _ (some 24) _=_
       simp only[sP];rfl
      refine pz 14 5 #[Z,Z,Z,Z,Z,Z,Z,Z,Z,Z,Z,Z,Z,Z,Z] HT_.out ?_
      refine done_ (done_of HT_.out (by kernel_rfl)) ?_;obtain⟨hcz99_0,hcz99_1,hcz99_2,hcz99_3,hcz99_4,hcz99_5,hcz99_6,hcz99_7,hcz99_8,hcz99_9,hcz99_10,hcz99_11,hfz99_0,hfz99_1,hfz99_2,hfz99_3,hfz99_4,hfz99_5,hfz99_6,hfz99_7,hfz99_8,hfz99_9,hfz99_10,hfz99_11⟩:=cl12 BK147;have hcv100:=own_string (P:=Try.prog) Try.underlying49 Try.underlying5 Try.underlying9 (Kd.own_of_R HO160.out);try go_wp2
      go_ret2;exact⟨eS,bw1 HB.out GE147.out⟩
 ·rw [if_neg c3]at H;have c3b0:(t148==0)=false:=beq_eq_false_iff_ne.mpr c3;have c3b1:(t148 !=0)=true:=bne_iff_ne.mpr c3;simp only[Option.some.injEq,Prod.mk.injEq]at H;obtain⟨rfl,rfl⟩:=H;go_enter Try.func8,Try.ntmps8;go_wp2_with (first|((with_reducible refine gate_dst (N:=1) rfl ?_);refine box_event ?hg (N:=1) ?hd (cs:= #[.int .u8 a0_0,.int .i64 a0_1,.int .u64 a0_2,.int .i64 a0_3,.bool a0_4,.int .u64 a0_5,.int .u64 a0_6,.int .i64 a0_7,.int .u8 a0_8,.int .i64 a0_9,.int .i64 a0_10,.int .i64 a0_11]) (t:=32) ?hr ?_;(case hd=>rfl);(case hg=>rfl);(case hr=>first|(go_simp;done)|(go_simp;rfl));intro gb147 hg w101 hbox hb;have n0_:=Bs0 HB hb;have n1_:=Ax (hbox);have n2_:=Gw0 HB hg;have n3_:=Gw0 HB hg;clear HB;have HB:=n0_;have BK147:=n1_;have GW147:=n2_;have GE147:=n3_;clear n0_ n1_ n2_ n3_;clear hb hbox hg;obtain⟨hcz102_0,hcz102_1,hcz102_2,hcz102_3,hcz102_4,hcz102_5,hcz102_6,hcz102_7,hcz102_8,hcz102_9,hcz102_10,hcz102_11,hfz102_0,hfz102_1,hfz102_2,hfz102_3,hfz102_4,hfz102_5,hfz102_6,hfz102_7,hfz102_8,hfz102_9,hfz102_10,hfz102_11⟩:=cl12 BK147)|((with_reducible refine gate_callee (f:=13) rfl ?_);refine goesL_ (some 7) rfl rfl Try.func13 (by kernel_rfl) rfl #[.agg #[.int .u8 a0_0,.int .i64 a0_1,.int .u64 a0_2,.int .i64 a0_3,.bool a0_4,.int .u64 a0_5,.int .u64 a0_6,.int .i64 a0_7,.int .u8 a0_8,.int .i64 a0_9,.int .i64 a0_10,.int .i64 a0_11]] rfl gS ?_;(with_reducible refine (msg_Check.calls k a0_0 a0_1 a0_2 a0_3 a0_4 a0_5 a0_6 a0_7 a0_8 a0_9 a0_10 a0_11 t148 _ A2.out).mono ?_);rintro e w103 ⟨rfl,hb⟩;refine⟨_,rfl,?_⟩;replace BK147:=Bx0 BK147 hb;replace HB:=Bs1 HB hb GE147.out;(try clear hb)));go_ret2;exact⟨eS,bw1 HB.out GE147.out⟩
def spoorref09_Wide.f (a0:Bool):Option (Int):=if a0=true then (some 128) else (some 32)
set_option maxHeartbeats 8000000 in
set_option maxRecDepth 100000 in
theorem spoorref09_Wide.calls (a0:Bool) (r:Int) (w:World) (h:spoorref09_Wide.f a0=some r):
  Calls Try.prog 40 #[.bool a0] w fun e w'=>e= .returned (.int .i64 r)∧Drawn0 w w':=by
 have H:(if a0=true then (some 128) else (some 32))=some r:=h;clear h;by_cases c2:a0=true
 ·subst c2;have H1:(some 128)=some r:=by rw [if_pos rfl]at H;exact H
  clear H;have H:=H1;clear H1;obtain rfl:=Option.some.inj H;go_enter Try.func40,Try.ntmps40;go_wp2;go_ret;exact⟨by first|rfl|(simp;done)|(simp [*];done),by repeat (first|exact Drawn0.refl _|apply Drawn0.step)⟩
 ·replace c2:=Bool.eq_false_iff.mpr c2;subst c2;have H1:(some 32)=some r:=by rw [if_neg (show ¬ (false=true) by decide)]at H;exact H
  clear H;have H:=H1;clear H1;obtain rfl:=Option.some.inj H;go_enter Try.func40,Try.ntmps40;go_wp2;go_ret;exact⟨by first|rfl|(simp;done)|(simp [*];done),by repeat (first|exact Drawn0.refl _|apply Drawn0.step)⟩
def spoorref09_Right.f (a0:Bool) (a1_0:Int) (a1_1:Int):Option (Bool):=if a0=true then (some true) else (if a1_0=0 then (some (decide (a1_1<4294967296))) else (some false))
set_option maxHeartbeats 8000000 in
set_option maxRecDepth 100000 in
theorem spoorref09_Right.calls (a0:Bool) (a1_0:Int) (a1_1:Int) (r:Bool) (w:World) (h:spoorref09_Right.f a0 a1_0 a1_1=some r):
  Calls Try.prog 47 #[.bool a0,.agg #[.int .u64 a1_0,.int .u64 a1_1]] w fun e w'=>e= .returned (.bool r)∧Below w.heap.size w w':=by
 have hu25:=Try.underlying25;have HB:=Ax (Below.refl w.heap.size w);have H:(if a0=true then (some true) else (if a1_0=0 then (some (decide (a1_1<4294967296))) else (some false)))=some r:=h;clear h;by_cases c3:a0=true
 ·subst c3;have H1:(some true)=some r:=by rw [if_pos rfl]at H;exact H
  clear H;have H:=H1;clear H1;obtain rfl:=Option.some.inj H;go_enter Try.func47,Try.ntmps47;go_wp2_with (first|((with_reducible refine gate_dst (N:=3) rfl ?_);refine box_event ?hg (N:=3) ?hd (cs:= #[.int .u64 a1_0,.int .u64 a1_1]) (t:=25) ?hr ?_;(case hd=>rfl);(case hg=>rfl);(case hr=>first|(go_simp;done)|(go_simp;rfl));intro gb179 hg w4 hbox hb;have n0_:=Bs0 HB hb;have n1_:=Ax (hbox);have n2_:=Gw0 HB hg;have n3_:=Gw0 HB hg;clear HB;have HB:=n0_;have BK179:=n1_;have GW179:=n2_;have GE179:=n3_;clear n0_ n1_ n2_ n3_;clear hb hbox hg));go_ret;exact⟨eS,bw1 HB.out GE179.out⟩
 ·replace c3:=Bool.eq_false_iff.mpr c3;subst c3;have H1:(if a1_0=0 then (some (decide (a1_1<4294967296))) else (some false))=some r:=by rw [if_neg (show ¬ (false=true) by decide)]at H;exact H
  clear H;have H:=H1;clear H1;by_cases c5:a1_0=0;·rw [if_pos c5]at H;have c5b0:(a1_0==0)=true:=beq_iff_eq.mpr c5;have c5b1:(a1_0 !=0)=false:=bne_eq_false_iff_eq.mpr c5;clear c5;obtain rfl:=Option.some.inj H;go_enter Try.func47,Try.ntmps47;go_wp2_with (first|((with_reducible refine gate_dst (N:=3) rfl ?_);refine box_event ?hg (N:=3) ?hd (cs:= #[.int .u64 a1_0,.int .u64 a1_1]) (t:=25) ?hr ?_;(case hd=>rfl);(case hg=>rfl);(case hr=>first|(go_simp;done)|(go_simp;rfl));intro gb179 hg w6 hbox hb;have n0_:=Bs0 HB hb;have n1_:=Ax (hbox);have n2_:=Gw0 HB hg;have n3_:=Gw0 HB hg;clear HB;have HB:=n0_;have BK179:=n1_;have GW179:=n2_;have GE179:=n3_;clear n0_ n1_ n2_ n3_;clear hb hbox hg;obtain⟨hcz7_0,hcz7_1,hfz7_0,hfz7_1⟩:=cl2 BK179));go_ret;exact⟨eS,bw1 HB.out GE179.out⟩
  ·rw [if_neg c5]at H;have c5b0:(a1_0==0)=false:=beq_eq_false_iff_ne.mpr c5;have c5b1:(a1_0 !=0)=true:=bne_iff_ne.mpr c5;obtain rfl:=Option.some.inj H;go_enter Try.func47,Try.ntmps47;go_wp2_with (first|((with_reducible refine gate_dst (N:=3) rfl ?_);refine box_event ?hg (N:=3) ?hd (cs:= #[.int .u64 a1_0,.int .u64 a1_1]) (t:=25) ?hr ?_;(case hd=>rfl);(case hg=>rfl);(case hr=>first|(go_simp;done)|(go_simp;rfl));intro gb179 hg w8 hbox hb;have n0_:=Bs0 HB hb;have n1_:=Ax (hbox);have n2_:=Gw0 HB hg;have n3_:=Gw0 HB hg;clear HB;have HB:=n0_;have BK179:=n1_;have GW179:=n2_;have GE179:=n3_;clear n0_ n1_ n2_ n3_;clear hb hbox hg;obtain⟨hcz9_0,hcz9_1,hfz9_0,hfz9_1⟩:=cl2 BK179));go_ret;exact⟨eS,bw1 HB.out GE179.out⟩
def spoorref09_bits.l0 : Nat → List Int → Int → Int → Int → Option (List Int)
 | 0, _, _, _, _ => none
 | k + 1, x5, x6, x7, x8 => if x8 ≥ 0 then (if 0 ≤ x8 then (if x8 < (x5.length : Int) then (spoorref09_bits.l0 k (x5.set (x8 : Int).toNat (wrap64 (Int.tmod x6 2))) (IntKind.u64.wrap ((IntKind.u64.wrap (Int.tdiv x6 2)) + (IntKind.u64.wrap ((Int.tmod x7 2) * 9223372036854775808)))) (IntKind.u64.wrap (Int.tdiv x7 2)) (wrap64 (x8 - 1))) else (none)) else (none)) else (some x5)
def spoorref09_bits.f (k:Nat) (a0:Bool) (a1_0:Int) (a1_1:Int):Option (List Int):=(spoorref09_Wide.f a0).bind fun t181=>(if 0≤t181 then (if (t181:Int).toNat≤35184372088832 then ((some (List.replicate (t181:Int).toNat 0:List Int)).bind fun y182=>(spoorref09_bits.l0 k y182 a1_1 a1_0 (wrap64 ((y182.length:Int) - 1)))) else (none)) else (none))
end Go.Proofs.Ytodgadhegcjbhaa.Q
end
section
namespace Go.Proofs.Ytodgadhegcjbhaa.Q
open Go.RowKit Go.Proofs.YtodgadhegcjbhaaW.PrintWords Go.Proofs.YtodgadhegcjbhaaW.PrintLast Go.Proofs.YtodgadhegcjbhaaW.PrintMore
attribute [local go_sem] max2_int min2_int max_two min_two max_three min_three max_four min_four   -- for this text's walks alone
set_option linter.unusedVariables false
set_option linter.unusedSimpArgs false
attribute [local go_sem high] eqA32
set_option maxHeartbeats 8000000 in
set_option maxRecDepth 100000 in
theorem spoorref09_bits.calls (k:Nat) (a0:Bool) (a1_0:Int) (a1_1:Int) (r:List Int) (w:World) (h:spoorref09_bits.f k a0 a1_0 a1_1=some r):
  Calls Try.prog 48 #[.bool a0,.agg #[.int .u64 a1_0,.int .u64 a1_1]] w fun e w'=> ∃ v0_:Value,e= .returned (v0_)∧Kd.R (Kd.int .i64) 3 w' w.heap.size (fun _=>True) v0_ r∧Below w.heap.size w w':=by
 have hu25:=Try.underlying25;have HB:=Ax (Below.refl w.heap.size w);have H:((spoorref09_Wide.f a0).bind fun t181=>(if 0≤t181 then (if (t181:Int).toNat≤35184372088832 then ((some (List.replicate (t181:Int).toNat 0:List Int)).bind fun y182=>(spoorref09_bits.l0 k y182 a1_1 a1_0 (wrap64 ((y182.length:Int) - 1)))) else (none)) else (none)))=some r:=h;clear h;replace H:=Option.bind_eq_some_iff.mp H;obtain⟨t181,A30,H⟩:=H;replace H:(if 0≤t181 then (if (t181:Int).toNat≤35184372088832 then ((some (List.replicate (t181:Int).toNat 0:List Int)).bind fun y182=>(spoorref09_bits.l0 k y182 a1_1 a1_0 (wrap64 ((y182.length:Int) - 1)))) else (none)) else (none))=some r:=H;have A3:=Ax A30;clear A30;by_cases c4:0≤t181
 ·rw [if_pos c4]at H;have c4b0:=eq_true c4;have c4b1:decide (0≤t181)=true:=decide_eq_true c4;clear c4;by_cases c5:(t181:Int).toNat≤35184372088832
  ·rw [if_pos c5]at H;have c5b0:=eq_true c5;have c5b1:decide ((t181:Int).toNat≤35184372088832)=true:=decide_eq_true c5;clear c5;obtain⟨y182,hy182⟩: ∃ y_:List Int,y_=(List.replicate (t181:Int).toNat 0):=⟨_,rfl⟩;replace H:(spoorref09_bits.l0 k y182 a1_1 a1_0 (wrap64 ((y182.length:Int) - 1)))=some r:=by first|(rw [hy182];with_reducible exact H)|(have H2_:=(Option.bind_some _ _).symm.trans H;rw [hy182];with_reducible exact H2_)|(have H2_:=(Option.bind_some _ _).symm.trans H;with_reducible exact H2_)|with_reducible exact H|(rw [hy182];exact H)|exact H
   have Ny182:=Ax hy182;clear hy182;have H':=Ax H;clear H;go_enter Try.func48,Try.ntmps48;go_wp2_with (first|((with_reducible refine gate_dst (N:=3) rfl ?_);refine box_event ?hg (N:=3) ?hd (cs:= #[.int .u64 a1_0,.int .u64 a1_1]) (t:=25) ?hr ?_;(case hd=>rfl);(case hg=>rfl);(case hr=>first|(go_simp;done)|(go_simp;rfl));intro gb180 hg w6 hbox hb;have n0_:=Bs0 HB hb;have n1_:=Ax (hbox);have n2_:=Gw0 HB hg;have n3_:=Gw0 HB hg;clear HB;have HB:=n0_;have BK180:=n1_;have GW180:=n2_;have GE180:=n3_;clear n0_ n1_ n2_ n3_;clear hb hbox hg)|(go_at_call 40;(with_reducible refine (spoorref09_Wide.calls a0 t181 _ A3.out).mono ?_);rintro e w' ⟨rfl,⟨nd,rfl⟩⟩;(try first|exact⟨rfl,_,World.drewN_drewN _ _ _⟩|exact⟨rfl,_,Eq.trans (World.drewN_drewN _ _ _) (congrArg (World.drewN _) (Nat.add_assoc _ _ _))⟩))|((with_reducible refine gate_dst (N:=11) rfl ?_);refine Kd.R_make (Kd.int .i64) _ 3 rfl (N:=11) rfl 81 _ _ rfl t181 rfl rfl Try.underlying81 (.int .i64 0) 8 info3 rfl (by decide) (by omega) 0 (ok:=fun _=>True) (okp:=fun _=>True) rfl (fun _ hk=>hk) trivial (of_decide_eq_true (by first|(with_reducible assumption)|assumption)) (Nat.le_trans (Nat.mul_le_mul_right _ (of_decide_eq_true (by first|(with_reducible assumption)|assumption):t181.toNat≤35184372088832)) (by omega)) (Below.refl _ _) (Nat.le_refl _) ?_;intro v183 w7 ho8 hb hg_ hnew_;clear hg_ hnew_;(first|rw [← Ny182.out]at ho8|(simp only[Int.reduceToNat]at ho8;rw [← Ny182.out]at ho8));have HO184:=Ax (Kd.R_lower ho8 (below_size (bw1 HB.out GE180.out)));replace BK180:=Bx0 BK180 hb;replace HB:=Bs1 HB hb GE180.out;clear hb ho8;obtain⟨hcz9_0,hcz9_1,hfz9_0,hfz9_1⟩:=cl2 BK180;obtain⟨Ao10,co10,eo10⟩:=Kd.R_slice HO184.out;subst eo10))
   repeat (go_quiet (first|((with_reducible refine gate_dst (N:=3) rfl ?_);refine box_event ?hg (N:=3) ?hd (cs:= #[.int .u64 a1_0,.int .u64 a1_1]) (t:=25) ?hr ?_;(case hd=>rfl);(case hg=>rfl);(case hr=>first|(go_simp;done)|(go_simp;rfl));intro gb180 hg w6 hbox hb;have n0_:=Bs0 HB hb;have n1_:=Ax (hbox);have n2_:=Gw0 HB hg;have n3_:=Gw0 HB hg;clear HB;have HB:=n0_;have BK180:=n1_;have GW180:=n2_;have GE180:=n3_;clear n0_ n1_ n2_ n3_;clear hb hbox hg)|(go_at_call 40;(with_reducible refine (spoorref09_Wide.calls a0 t181 _ A3.out).mono ?_);rintro e w' ⟨rfl,⟨nd,rfl⟩⟩;(try first|exact⟨rfl,_,World.drewN_drewN _ _ _⟩|exact⟨rfl,_,Eq.trans (World.drewN_drewN _ _ _) (congrArg (World.drewN _) (Nat.add_assoc _ _ _))⟩))|((with_reducible refine gate_dst (N:=11) rfl ?_);refine Kd.R_make (Kd.int .i64) _ 3 rfl (N:=11) rfl 81 _ _ rfl t181 rfl rfl Try.underlying81 (.int .i64 0) 8 info3 rfl (by decide) (by omega) 0 (ok:=fun _=>True) (okp:=fun _=>True) rfl (fun _ hk=>hk) trivial (of_decide_eq_true (by first|(with_reducible assumption)|assumption)) (Nat.le_trans (Nat.mul_le_mul_right _ (of_decide_eq_true (by first|(with_reducible assumption)|assumption):t181.toNat≤35184372088832)) (by omega)) (Below.refl _ _) (Nat.le_refl _) ?_;intro v183 w7 ho8 hb hg_ hnew_;clear hg_ hnew_;(first|rw [← Ny182.out]at ho8|(simp only[Int.reduceToNat]at ho8;rw [← Ny182.out]at ho8));have HO184:=Ax (Kd.R_lower ho8 (below_size (bw1 HB.out GE180.out)));replace BK180:=Bx0 BK180 hb;replace HB:=Bs1 HB hb GE180.out;clear hb ho8;obtain⟨hcz9_0,hcz9_1,hfz9_0,hfz9_1⟩:=cl2 BK180;obtain⟨Ao10,co10,eo10⟩:=Kd.R_slice HO184.out;subst eo10));try go_wp2_with (first|((with_reducible refine gate_dst (N:=3) rfl ?_);refine box_event ?hg (N:=3) ?hd (cs:= #[.int .u64 a1_0,.int .u64 a1_1]) (t:=25) ?hr ?_;(case hd=>rfl);(case hg=>rfl);(case hr=>first|(go_simp;done)|(go_simp;rfl));intro gb180 hg w6 hbox hb;have n0_:=Bs0 HB hb;have n1_:=Ax (hbox);have n2_:=Gw0 HB hg;have n3_:=Gw0 HB hg;clear HB;have HB:=n0_;have BK180:=n1_;have GW180:=n2_;have GE180:=n3_;clear n0_ n1_ n2_ n3_;clear hb hbox hg)|(go_at_call 40;(with_reducible refine (spoorref09_Wide.calls a0 t181 _ A3.out).mono ?_);rintro e w' ⟨rfl,⟨nd,rfl⟩⟩;(try first|exact⟨rfl,_,World.drewN_drewN _ _ _⟩|exact⟨rfl,_,Eq.trans (World.drewN_drewN _ _ _) (congrArg (World.drewN _) (Nat.add_assoc _ _ _))⟩))|((with_reducible refine gate_dst (N:=11) rfl ?_);refine Kd.R_make (Kd.int .i64) _ 3 rfl (N:=11) rfl 81 _ _ rfl t181 rfl rfl Try.underlying81 (.int .i64 0) 8 info3 rfl (by decide) (by omega) 0 (ok:=fun _=>True) (okp:=fun _=>True) rfl (fun _ hk=>hk) trivial (of_decide_eq_true (by first|(with_reducible assumption)|assumption)) (Nat.le_trans (Nat.mul_le_mul_right _ (of_decide_eq_true (by first|(with_reducible assumption)|assumption):t181.toNat≤35184372088832)) (by omega)) (Below.refl _ _) (Nat.le_refl _) ?_;intro v183 w7 ho8 hb hg_ hnew_;clear hg_ hnew_;(first|rw [← Ny182.out]at ho8|(simp only[Int.reduceToNat]at ho8;rw [← Ny182.out]at ho8));have HO184:=Ax (Kd.R_lower ho8 (below_size (bw1 HB.out GE180.out)));replace BK180:=Bx0 BK180 hb;replace HB:=Bs1 HB hb GE180.out;clear hb ho8;obtain⟨hcz9_0,hcz9_1,hfz9_0,hfz9_1⟩:=cl2 BK180;obtain⟨Ao10,co10,eo10⟩:=Kd.R_slice HO184.out;subst eo10)))
   go_loopg [6,7,8] k (fun kq v6 v7 v8 w'=> ∃ (x5_1:List Int) (x6_1:Int) (x7_1:Int) (x8_1:Int),v6= .int .u64 x6_1∧v7= .int .u64 x7_1∧v8= .int .i64 x8_1∧Aside0 (spoorref09_bits.l0 kq x5_1 x6_1 x7_1 x8_1=some r)∧Aside0 (kq≤k)∧Aside0 (Kd.R (Kd.int .i64) 3 w' w.heap.size (fun _=>True) (.slice Ao10 y182.length co10) x5_1)∧Aside0 (w'.heap[gb180]? =some (.cells #[.int .u64 a1_0,.int .u64 a1_1] 25 (0,0)))∧Aside0 (Below w.heap.size w w'))
   case atStart=>exact⟨(y182),(a1_1),(a1_0),(wrap64 ((y182.length:Int) - 1)),rS,rS,rS,H',⟨Nat.le_refl _⟩,⟨by (with_reducible repeat (first|apply Kd.R_alloc|apply Kd.R_drewN|apply Kd.R_drew));exact HO184.out⟩,⟨bf0 BK180.out⟩,⟨bw1 HB.out GE180.out⟩⟩
   case round=>
    clear H';(try clear p2);(try clear c4);(try clear c4b0);(try clear c4b1);(try clear c5);(try clear c5b0);(try clear c5b1);(try clear p6);(try clear hcz9_0 hcz9_1);(try clear hfz9_0 hfz9_1);obtain⟨x5_1,x6_1,x7_1,x8_1,rfl,rfl,rfl,HA,HK1,HO_5,BK180,HB⟩:=hrel;have hl5_1:=(Kd.R_reads' HO_5.out).1;rw [hl5_1]at HO_5
    (try simp only[hl5_1])
    (try simp only[hl5_1]at BK180)
    cases gk with
    |zero=>exact absurd HA.out (by simp [spoorref09_bits.l0])
    |succ k1=>
     have H:=HA.out;clear HA;simp only[spoorref09_bits.l0]at H;by_cases c11:x8_1 ≥ 0
     ·rw [if_pos c11]at H;have c11b0:decide (0≤x8_1)=true:=decide_eq_true c11;clear c11;by_cases c12:0≤x8_1
      ·rw [if_pos c12]at H;have c12b0:decide (0≤x8_1)=true:=decide_eq_true c12;clear c12;by_cases c13:x8_1<(x5_1.length:Int)
       ·rw [if_pos c13]at H;have c13b0:decide (x8_1<(x5_1.length:Int))=true:=decide_eq_true c13;clear c13;obtain⟨y185,hy185⟩: ∃ y_:List Int,y_=(x5_1.set (x8_1:Int).toNat (wrap64 (Int.tmod x6_1 2))):=⟨_,rfl⟩;replace H:(spoorref09_bits.l0 k1 y185 (IntKind.u64.wrap ((IntKind.u64.wrap (Int.tdiv x6_1 2))+(IntKind.u64.wrap ((Int.tmod x7_1 2) * 9223372036854775808)))) (IntKind.u64.wrap (Int.tdiv x7_1 2)) (wrap64 (x8_1 - 1)))=some r:=by first|(rw [hy185];with_reducible exact H)|(have H2_:=(Option.bind_some _ _).symm.trans H;rw [hy185];with_reducible exact H2_)|(have H2_:=(Option.bind_some _ _).symm.trans H;with_reducible exact H2_)|with_reducible exact H|(rw [hy185];exact H)|exact H
        have Ny185:=Ax hy185;clear hy185;have H':=Ax H;clear H;have p14:0≤(x8_1:Int):=of_decide_eq_true (by first|(with_reducible assumption)|assumption);have q14:(x8_1:Int)<((x5_1.length:Int):Int):=of_decide_eq_true (by first|(with_reducible assumption)|assumption);obtain⟨go14,co14,eo14,gb14,gl14,cl14,HG14⟩:=Kd.R_form HO_5.out (by omega)
        (first|cases eo14|(injection eo14 with ea_ en_ ec_;(first|subst ea_|(injection ea_ with ea_;subst ea_));subst ec_;clear en_))
        have GB14:=Ax gb14;have GG14:=Ax HG14;clear gb14 gl14 HG14;obtain⟨hx14_0,hf14_0⟩:=Kd.R_celln 0 HO_5.out (x8_1:Int) p14 q14;replace p14:=eq_true p14;replace q14:=eq_true q14;have HP15:=Kd.R_putg HO_5.out (x8_1:Int) (wrap64 (Int.tmod x6_1 2));go_wp2_with (first|((with_reducible refine gate_store (t:=3) (p:=28) rfl ?_);(try (rw [drewN_self wr];generalize hq_:World.drewN wr _=wr;have n0_:=Ax (Kd.R_at hq_ HO_5.out);have n1_:=Ax (blk_at hq_ BK180.out);have n2_:=Ax (below_at hq_ HB.out);clear hq_ HO_5 BK180 HB;have HO_5:=n0_;have BK180:=n1_;have HB:=n2_;clear n0_ n1_ n2_;(try (have HP15:=Kd.R_putg HO_5.out (x8_1:Int) (wrap64 (Int.tmod x6_1 2))))));refine store_event (t:=3) (p:=28) (v:= ?vo_w16) (w1:=(wr.setCell ⟨go14,(x8_1:Int).toNat,none⟩ (.int .i64 (wrap64 (Int.tmod x6_1 2))))) ?hg ?ho ?hn ?hr ?_;(case ho=>rfl);(case hg=>rfl);(case hn=>rfl);(case hr=>first|(go_simp;done)|(go_simp;rfl));intro w16 hw;have hg:wr.grownBy w16 (some go14):=(by rw [hw];exact HP15.2);have hp_:Kd.R (Kd.int .i64) 3 w16 w.heap.size (fun _=>True) (.slice (some ⟨go14,0,none⟩) x5_1.length co10) y185:=(by rw [hw,Ny185.out];exact HP15.1);clear HP15;have n0_:=Ax (hp_);have n1_:=Ax (blk_grown (g:=gb180) (o:=.cells #[.int .u64 a1_0,.int .u64 a1_1] 25 (0,0)) (bf0 BK180.out) hg (Kd.R_ne HO_5.out BK180.out (by decide)));have n2_:=Ax ((by rw [hw];exact below_set (HB.out) GB14.out:Below w.heap.size w w16));clear HO_5;clear BK180;clear HB;have HO_5:=n0_;have BK180:=n1_;have HB:=n2_;clear n0_ n1_ n2_;clear hg hw hp_))
        repeat (go_quiet (first|((with_reducible refine gate_store (t:=3) (p:=28) rfl ?_);(try (rw [drewN_self wr];generalize hq_:World.drewN wr _=wr;have n0_:=Ax (Kd.R_at hq_ HO_5.out);have n1_:=Ax (blk_at hq_ BK180.out);have n2_:=Ax (below_at hq_ HB.out);clear hq_ HO_5 BK180 HB;have HO_5:=n0_;have BK180:=n1_;have HB:=n2_;clear n0_ n1_ n2_;(try (have HP15:=Kd.R_putg HO_5.out (x8_1:Int) (wrap64 (Int.tmod x6_1 2))))));refine store_event (t:=3) (p:=28) (v:= ?vo_w16) (w1:=(wr.setCell ⟨go14,(x8_1:Int).toNat,none⟩ (.int .i64 (wrap64 (Int.tmod x6_1 2))))) ?hg ?ho ?hn ?hr ?_;(case ho=>rfl);(case hg=>rfl);(case hn=>rfl);(case hr=>first|(go_simp;done)|(go_simp;rfl));intro w16 hw;have hg:wr.grownBy w16 (some go14):=(by rw [hw];exact HP15.2);have hp_:Kd.R (Kd.int .i64) 3 w16 w.heap.size (fun _=>True) (.slice (some ⟨go14,0,none⟩) x5_1.length co10) y185:=(by rw [hw,Ny185.out];exact HP15.1);clear HP15;have n0_:=Ax (hp_);have n1_:=Ax (blk_grown (g:=gb180) (o:=.cells #[.int .u64 a1_0,.int .u64 a1_1] 25 (0,0)) (bf0 BK180.out) hg (Kd.R_ne HO_5.out BK180.out (by decide)));have n2_:=Ax ((by rw [hw];exact below_set (HB.out) GB14.out:Below w.heap.size w w16));clear HO_5;clear BK180;clear HB;have HO_5:=n0_;have BK180:=n1_;have HB:=n2_;clear n0_ n1_ n2_;clear hg hw hp_));try go_wp2_with (first|((with_reducible refine gate_store (t:=3) (p:=28) rfl ?_);(try (rw [drewN_self wr];generalize hq_:World.drewN wr _=wr;have n0_:=Ax (Kd.R_at hq_ HO_5.out);have n1_:=Ax (blk_at hq_ BK180.out);have n2_:=Ax (below_at hq_ HB.out);clear hq_ HO_5 BK180 HB;have HO_5:=n0_;have BK180:=n1_;have HB:=n2_;clear n0_ n1_ n2_;(try (have HP15:=Kd.R_putg HO_5.out (x8_1:Int) (wrap64 (Int.tmod x6_1 2))))));refine store_event (t:=3) (p:=28) (v:= ?vo_w16) (w1:=(wr.setCell ⟨go14,(x8_1:Int).toNat,none⟩ (.int .i64 (wrap64 (Int.tmod x6_1 2))))) ?hg ?ho ?hn ?hr ?_;(case ho=>rfl);(case hg=>rfl);(case hn=>rfl);(case hr=>first|(go_simp;done)|(go_simp;rfl));intro w16 hw;have hg:wr.grownBy w16 (some go14):=(by rw [hw];exact HP15.2);have hp_:Kd.R (Kd.int .i64) 3 w16 w.heap.size (fun _=>True) (.slice (some ⟨go14,0,none⟩) x5_1.length co10) y185:=(by rw [hw,Ny185.out];exact HP15.1);clear HP15;have n0_:=Ax (hp_);have n1_:=Ax (blk_grown (g:=gb180) (o:=.cells #[.int .u64 a1_0,.int .u64 a1_1] 25 (0,0)) (bf0 BK180.out) hg (Kd.R_ne HO_5.out BK180.out (by decide)));have n2_:=Ax ((by rw [hw];exact below_set (HB.out) GB14.out:Below w.heap.size w w16));clear HO_5;clear BK180;clear HB;have HO_5:=n0_;have BK180:=n1_;have HB:=n2_;clear n0_ n1_ n2_;clear hg hw hp_)))
        (try simp only[← hl5_1])
        go_roundg k1
        case measure=>have:=HK1.out;omega
        case rel=>exact⟨(y185),(IntKind.u64.wrap ((IntKind.u64.wrap (Int.tdiv x6_1 2))+(IntKind.u64.wrap ((Int.tmod x7_1 2) * 9223372036854775808)))),(IntKind.u64.wrap (Int.tdiv x7_1 2)),(wrap64 (x8_1 - 1)),rS,rS,rS,H',⟨by have:=HK1.out;omega⟩,⟨by (try simp only[hl5_1]);(with_reducible repeat (first|apply Kd.R_alloc|apply Kd.R_drewN|apply Kd.R_drew));exact HO_5.out⟩,⟨by (try simp only[hl5_1]);(with_reducible repeat (first|refine blk_drewN ?_ _|refine blk_drew ?_|refine blk_alloc ?_ _));exact BK180.out⟩,⟨bw1 HB.out GE180.out⟩⟩
       ·rw [if_neg c13]at H;exact absurd H (by simp)
      ·rw [if_neg c12]at H;exact absurd H (by simp)
     ·rw [if_neg c11]at H;have c11b0:decide (0≤x8_1)=false:=decide_eq_false c11;clear c11;obtain rfl:=Option.some.inj H;go_wp2
      repeat (go_quiet (fail);try go_wp2)
      go_ret;exact⟨_,eS,by (with_reducible repeat (first|apply Kd.R_alloc|apply Kd.R_drewN|apply Kd.R_drew));exact HO_5.out,bw1 HB.out GE180.out⟩
  ·rw [if_neg c5]at H;exact absurd H (by simp)
 ·rw [if_neg c4]at H;exact absurd H (by simp)
mutual
def spoorref09_Check.j0 : Nat → Bool → Bool → Int → Int → Int → Option (Int)
 | 0, _, _, _, _, _ => none
 | k + 1, x23, x187000, x187001, x187002, x187003 => if x23 = true then (some 2) else ((spoorref09_bits.f k x187000 x187001 x187002).bind fun t189 => (spoorref09_Check.l0 k t189 (t189.length : Int) 0 x187000 x187001 x187002 x187003))
def spoorref09_Check.l0 : Nat → List Int → Int → Int → Bool → Int → Int → Int → Option (Int)
 | 0, _, _, _, _, _, _, _ => none
 | k + 1, x28, x29, x30, x187000, x187001, x187002, x187003 => if x30 < x29 then (if 0 ≤ x30 then (if x30 < (x28.length : Int) then (if x30 ≥ x187003 then (if (rd x28 x30) = 0 then (spoorref09_Check.l0 k x28 x29 (wrap64 (x30 + 1)) x187000 x187001 x187002 x187003) else (some 2)) else (spoorref09_Check.l0 k x28 x29 (wrap64 (x30 + 1)) x187000 x187001 x187002 x187003)) else (none)) else (none)) else (some 0)
end
def spoorref09_Check.f (k:Nat) (a0_0:Bool) (a0_1:Int) (a0_2:Int) (a0_3:Int):Option (Int):=if a0_3<0 then (spoorref09_Check.j0 k true a0_0 a0_1 a0_2 a0_3) else ((spoorref09_Wide.f a0_0).bind fun t187=>(if a0_3 > t187 then (spoorref09_Check.j0 k true a0_0 a0_1 a0_2 a0_3) else ((spoorref09_Right.f a0_0 a0_1 a0_2).bind fun t188=>(spoorref09_Check.j0 k (!t188) a0_0 a0_1 a0_2 a0_3))))
def spoorref09_Check.T1:Bool × List (List Nat × List Nat):=(true, [([], []),([0], [0]),([1], [1]),([2], [2]),([3], [3]),([4,3], [3,4]),([3], [3]),([6,3], [3,6]),([7,3,3], [3,7]),([5,8,3], [3,5,8]),([3,9], [3,9]),([10,8], [10]),([11], [11]),([12,11], [11,12]),([11], [11]),([14,11], [11,14]),([13,15,11,11], [11,13,15]),([16,11], [11,16]),([11,17], [11,17])])
def spoorref09_Check.B1:List Nat:= [0,1,3,7,15,31,15,79,207,511,1023,2047,4095,8191,4095,20479,65535,131071,262143]
theorem spoorref09_Check.tab1:rtab .any (opsOf Try.f36 1)=spoorref09_Check.T1:=by kernel_rfl
theorem spoorref09_Check.bits1:waitsOk spoorref09_Check.T1.2 spoorref09_Check.B1=true:=by kernel_rfl
set_option maxHeartbeats 8000000 in
set_option maxRecDepth 100000 in
theorem spoorref09_Check.calls (k:Nat) (a0_0:Bool) (a0_1:Int) (a0_2:Int) (a0_3:Int) (r:Int) (w:World) (h:spoorref09_Check.f k a0_0 a0_1 a0_2 a0_3=some r):
  Calls Try.prog 36 #[.agg #[.bool a0_0,.int .u64 a0_1,.int .u64 a0_2,.int .i64 a0_3]] w fun e w'=>e= .returned (.int .i64 r)∧Below w.heap.size w w':=by
 have hu27:=Try.underlying27;have hu25:=Try.underlying25;have HB:=Ax (Below.refl w.heap.size w);have H:(if a0_3<0 then (spoorref09_Check.j0 k true a0_0 a0_1 a0_2 a0_3) else ((spoorref09_Wide.f a0_0).bind fun t187=>(if a0_3 > t187 then (spoorref09_Check.j0 k true a0_0 a0_1 a0_2 a0_3) else ((spoorref09_Right.f a0_0 a0_1 a0_2).bind fun t188=>(spoorref09_Check.j0 k (!t188) a0_0 a0_1 a0_2 a0_3)))))=some r:=h;clear h;have HC2:=Ax H;clear H;go_enter Try.func36,Try.ntmps36;go_upto_region 1 with (first|((with_reducible refine gate_dst (N:=1) rfl ?_);refine box_event ?hg (N:=1) ?hd (cs:= #[.bool a0_0,.int .u64 a0_1,.int .u64 a0_2,.int .i64 a0_3]) (t:=27) ?hr ?_;(case hd=>rfl);(case hg=>rfl);(case hr=>first|(go_simp;done)|(go_simp;rfl));intro gb186 hg w3 hbox hb;have n0_:=Bs0 HB hb;have n1_:=Ax (hbox);have n2_:=Gw0 HB hg;have n3_:=Gw0 HB hg;clear HB;have HB:=n0_;have BK186:=n1_;have GW186:=n2_;have GE186:=n3_;clear n0_ n1_ n2_ n3_;clear hb hbox hg))
 (try simp only[Act.put,List.setIfInBounds_toArray,List.set_cons_zero,List.set_cons_succ])
 go_cut [23] (fun v23 wc=> ∃ (kq:Nat) (x23_1:Bool),v23= .bool x23_1∧Aside0 (spoorref09_Check.j0 kq x23_1 a0_0 a0_1 a0_2 a0_3=some r)∧Aside0 (kq≤k)∧Aside0 (wc.heap[gb186]? =some (.cells #[.bool a0_0,.int .u64 a0_1,.int .u64 a0_2,.int .i64 a0_3] 27 (0,0)))∧Aside0 (Below w.heap.size w wc))
 case first=>
  have H:=HC2.out;clear HC2;by_cases c4:a0_3<0
  ·rw [if_pos c4]at H;have c4b0:decide (a0_3<0)=true:=decide_eq_true c4;clear c4
   (first|rw [c4b0]|(simp only[i64_w,i32_w];rw [c4b0])|skip)
   have H':=Ax H;clear H;try go_wp2
   replace BK186:=Ax (blk_drew BK186.out);replace HB:=Ax (below_drew1 HB.out);refine start_ (n:=19) (S:=fun w'=>w'.cell? ⟨gb186,0,none⟩=some (.bool a0_0)∧w'.cell? ⟨gb186,1,none⟩=some (.int .u64 a0_1)∧w'.cell? ⟨gb186,2,none⟩=some (.int .u64 a0_2)∧w'.cell? ⟨gb186,3,none⟩=some (.int .i64 a0_3)) (ds:= []) #[Y,Y,Y,Y,Y,Y,Y,Y,Y,Y,Y,Y,Y,Y,Y,Y,Y,Y,Y] (by kernel_rfl) rfl rfl (bqc4 BK186.out) (fun hHeld=>?_);refine with_tabW spoorref09_Check.tab1 spoorref09_Check.bits1 (fun HT_ HW_=>?_);generalize w3.drew=w5 at BK186 HB hHeld ⊢;refine pz 0 5 #[Z,Y,Y,Y,Y,Y,Y,Y,Y,Y,Y,Y,Y,Y,Y,Y,Y,Y,Y] HT_.out ?_
   refine take_ (i:=1) (N:=some 6) (v:=?_) (a':=?_) #[Z,Z,Y,Y,Y,Y,Y,Y,Y,Y,Y,Y,Y,Y,Y,Y,Y,Y,Y] rfl rfl (take_ofW HT_.out HW_.out (by kernel_rfl)) (fun _ _ _ h=>h) (Or.inl ⟨by rfl,?_⟩) hHeld ?_ ?_;rotate_left
   ·rintro w' ⟨s0,s1,s2,s3⟩
    go_simp;with_reducible rfl
   rotate_left;·simp only[sP];rfl
   refine pz 2 7 #[Z,Z,Z,Y,Y,Y,Y,Y,Y,Y,Y,Y,Y,Y,Y,Y,Y,Y,Y] HT_.out ?_
   refine pz 3 8 #[Z,Z,Z,Z,Y,Y,Y,Y,Y,Y,Y,Y,Y,Y,Y,Y,Y,Y,Y] HT_.out ?_
   refine pu 4 9 #[Z,Z,Z,Z,Z,Y,Y,Y,Y,Y,Y,Y,Y,Y,Y,Y,Y,Y,Y] HT_.out ?_
   refine pu 5 10 #[Z,Z,Z,Z,Z,Z,Y,Y,Y,Y,Y,Y,Y,Y,Y,Y,Y,Y,Y] HT_.out ?_
   refine pu 6 11 #[Z,Z,Z,Z,Z,Z,Z,Y,Y,Y,Y,Y,Y,Y,Y,Y,Y,Y,Y] HT_.out ?_
   refine pu 7 12 #[Z,Z,Z,Z,Z,Z,Z,Z,Y,Y,Y,Y,Y,Y,Y,Y,Y,Y,Y] HT_.out ?_
   refine pu 8 13 #[Z,Z,Z,Z,Z,Z,Z,Z,Z,Y,Y,Y,Y,Y,Y,Y,Y,Y,Y] HT_.out ?_
   refine pu 9 14 #[Z,Z,Z,Z,Z,Z,Z,Z,Z,Z,Y,Y,Y,Y,Y,Y,Y,Y,Y] HT_.out ?_
   refine pz 10 15 #[Z,Z,Z,Z,Z,Z,Z,Z,Z,Z,Z,Y,Y,Y,Y,Y,Y,Y,Y] HT_.out ?_
   refine pz 11 16 #[Z,Z,Z,Z,Z,Z,Z,Z,Z,Z,Z,Z,Y,Y,Y,Y,Y,Y,Y] HT_.out ?_
   refine pu 12 17 #[Z,Z,Z,Z,Z,Z,Z,Z,Z,Z,Z,Z,Z,Y,Y,Y,Y,Y,Y] HT_.out ?_
   refine pu 13 18 #[Z,Z,Z,Z,Z,Z,Z,Z,Z,Z,Z,Z,Z,Z,Y,Y,Y,Y,Y] HT_.out ?_
   refine pu 14 19 #[Z,Z,Z,Z,Z,Z,Z,Z,Z,Z,Z,Z,Z,Z,Z,Y,Y,Y,Y] HT_.out ?_
   refine pu 15 20 #[Z,Z,Z,Z,Z,Z,Z,Z,Z,Z,Z,Z,Z,Z,Z,Z,Y,Y,Y] HT_.out ?_
   refine pu 16 21 #[Z,Z,Z,Z,Z,Z,Z,Z,Z,Z,Z,Z,Z,Z,Z,Z,Z,Y,Y] HT_.out ?_
   refine pu 17 22 #[Z,Z,Z,Z,Z,Z,Z,Z,Z,Z,Z,Z,Z,Z,Z,Z,Z,Z,Y] HT_.out ?_
   refine pz 18 23 #[Z,Z,Z,Z,Z,Z,Z,Z,Z,Z,Z,Z,Z,Z,Z,Z,Z,Z,Z] HT_.out ?_
   refine done_ (done_of HT_.out (by kernel_rfl)) ?_;try go_wp2
   go_meet
   case rel=>exact⟨_,(true),rS,H',⟨by first|omega|exact Nat.le_refl _⟩,⟨bf0 BK186.out⟩,⟨bw1 HB.out GE186.out⟩⟩
  ·rw [if_neg c4]at H;have c4b0:decide (a0_3<0)=false:=decide_eq_false c4;clear c4
   (first|rw [c4b0]|(simp only[i64_w,i32_w];rw [c4b0])|skip)
   replace H:=Option.bind_eq_some_iff.mp H;obtain⟨t187,A60,H⟩:=H;replace H:(if a0_3 > t187 then (spoorref09_Check.j0 k true a0_0 a0_1 a0_2 a0_3) else ((spoorref09_Right.f a0_0 a0_1 a0_2).bind fun t188=>(spoorref09_Check.j0 k (!t188) a0_0 a0_1 a0_2 a0_3)))=some r:=H;have A6:=Ax A60;clear A60;by_cases c7:a0_3 > t187
   ·rw [if_pos c7]at H;have c7b0:decide (t187<a0_3)=true:=decide_eq_true c7;clear c7;have H':=Ax H;clear H;try go_wp2
    replace BK186:=Ax (blk_drew BK186.out);replace HB:=Ax (below_drew1 HB.out);refine start_ (n:=19) (S:=fun w'=>w'.cell? ⟨gb186,0,none⟩=some (.bool a0_0)∧w'.cell? ⟨gb186,1,none⟩=some (.int .u64 a0_1)∧w'.cell? ⟨gb186,2,none⟩=some (.int .u64 a0_2)∧w'.cell? ⟨gb186,3,none⟩=some (.int .i64 a0_3)) (ds:= []) #[Y,Y,Y,Y,Y,Y,Y,Y,Y,Y,Y,Y,Y,Y,Y,Y,Y,Y,Y] (by kernel_rfl) rfl rfl (bqc4 BK186.out) (fun hHeld=>?_);refine with_tabW spoorref09_Check.tab1 spoorref09_Check.bits1 (fun HT_ HW_=>?_);generalize w3.drew=w8 at BK186 HB hHeld ⊢;refine pz 0 5 #[Z,Y,Y,Y,Y,Y,Y,Y,Y,Y,Y,Y,Y,Y,Y,Y,Y,Y,Y] HT_.out ?_
    refine take_ (i:=1) (N:=some 6) (v:=?_) (a':=?_) #[Z,Z,Y,Y,Y,Y,Y,Y,Y,Y,Y,Y,Y,Y,Y,Y,Y,Y,Y] rfl rfl (take_ofW HT_.out HW_.out (by kernel_rfl)) (fun _ _ _ h=>h) (Or.inl ⟨by rfl,?_⟩) hHeld ?_ ?_;rotate_left
    ·rintro w' ⟨s0,s1,s2,s3⟩
     go_simp;with_reducible rfl
    rotate_left;·simp only[sP];rfl
    refine pz 2 7 #[Z,Z,Z,Y,Y,Y,Y,Y,Y,Y,Y,Y,Y,Y,Y,Y,Y,Y,Y] HT_.out ?_
    refine pz 3 8 #[Z,Z,Z,Z,Y,Y,Y,Y,Y,Y,Y,Y,Y,Y,Y,Y,Y,Y,Y] HT_.out ?_
    refine pz 4 9 #[Z,Z,Z,Z,Z,Y,Y,Y,Y,Y,Y,Y,Y,Y,Y,Y,Y,Y,Y] HT_.out ?_
    refine pz 6 11 #[Z,Z,Z,Z,Z,Y,Z,Y,Y,Y,Y,Y,Y,Y,Y,Y,Y,Y,Y] HT_.out ?_
    refine take_ (i:=5) (N:=some 10) (v:=?_) (a':=?_) #[Z,Z,Z,Z,Z,Z,Z,Y,Y,Y,Y,Y,Y,Y,Y,Y,Y,Y,Y] rfl rfl (take_ofW HT_.out HW_.out (by kernel_rfl)) (fun _ _ _ h=>h) (Or.inl ⟨by rfl,?_⟩) hHeld ?_ ?_;rotate_left
    ·rintro w' ⟨s0,s1,s2,s3⟩
     go_simp;with_reducible rfl
    rotate_left;·simp only[sP];rfl
    refine take_ (i:=7) (N:=some 12) (v:=?_) (a':=?_) #[Z,Z,Z,Z,Z,Z,Z,Z,Y,Y,Y,Y,Y,Y,Y,Y,Y,Y,Y] rfl rfl (take_ofW HT_.out HW_.out (by kernel_rfl)) (fun _ _ _ h=>h) (Or.inl ⟨by rfl,?_⟩) hHeld ?_ ?_;rotate_left
    ·rintro w' ⟨s0,s1,s2,s3⟩
     go_simp;with_reducible rfl
    rotate_left;·simp only[sP];rfl
    refine one_ (i:=8) (N:=some 13) #[Z,Z,Z,Z,Z,Z,Z,Z,Z,Y,Y,Y,Y,Y,Y,Y,Y,Y,Y] rfl rfl (one_of HT_.out (by kernel_rfl)) (by decide) (fun K hK=>?_);refine goes_ Try.func40 (by kernel_rfl) rfl #[.bool a0_0] (by rfl) rfl rfl gS ?_;with_reducible refine (spoorref09_Wide.calls a0_0 t187 _ A6.out).mono ?_
    rintro e w' ⟨rfl,⟨nd,rfl⟩⟩
    refine⟨_,rfl,?_⟩;refine hK.out _ _ (bqc4 BK186.out) (fun hHeld=>?_);clear hK K;refine norm_ (a':=?_) ?_ ?_;rotate_left
    ·show Act.put _ (some 13) _=_
     simp only[sP];rfl
    refine pz 9 14 #[Z,Z,Z,Z,Z,Z,Z,Z,Z,Z,Y,Y,Y,Y,Y,Y,Y,Y,Y] HT_.out ?_
    refine pz 10 15 #[Z,Z,Z,Z,Z,Z,Z,Z,Z,Z,Z,Y,Y,Y,Y,Y,Y,Y,Y] HT_.out ?_
    refine pz 11 16 #[Z,Z,Z,Z,Z,Z,Z,Z,Z,Z,Z,Z,Y,Y,Y,Y,Y,Y,Y] HT_.out ?_
    refine pu 12 17 #[Z,Z,Z,Z,Z,Z,Z,Z,Z,Z,Z,Z,Z,Y,Y,Y,Y,Y,Y] HT_.out ?_
    refine pu 13 18 #[Z,Z,Z,Z,Z,Z,Z,Z,Z,Z,Z,Z,Z,Z,Y,Y,Y,Y,Y] HT_.out ?_
    refine pu 14 19 #[Z,Z,Z,Z,Z,Z,Z,Z,Z,Z,Z,Z,Z,Z,Z,Y,Y,Y,Y] HT_.out ?_
    refine pu 15 20 #[Z,Z,Z,Z,Z,Z,Z,Z,Z,Z,Z,Z,Z,Z,Z,Z,Y,Y,Y] HT_.out ?_
    refine pu 16 21 #[Z,Z,Z,Z,Z,Z,Z,Z,Z,Z,Z,Z,Z,Z,Z,Z,Z,Y,Y] HT_.out ?_
    refine pu 17 22 #[Z,Z,Z,Z,Z,Z,Z,Z,Z,Z,Z,Z,Z,Z,Z,Z,Z,Z,Y] HT_.out ?_
    refine pz 18 23 #[Z,Z,Z,Z,Z,Z,Z,Z,Z,Z,Z,Z,Z,Z,Z,Z,Z,Z,Z] HT_.out ?_
    refine done_ (done_of HT_.out (by kernel_rfl)) ?_;try go_wp2
    go_meet
    case rel=>exact⟨_,(true),rS,H',⟨by first|omega|exact Nat.le_refl _⟩,⟨bf0 BK186.out⟩,⟨bw1 HB.out GE186.out⟩⟩
   ·rw [if_neg c7]at H;have c7b0:decide (t187<a0_3)=false:=decide_eq_false c7;clear c7;replace H:=Option.bind_eq_some_iff.mp H;obtain⟨t188,A90,H⟩:=H;replace H:(spoorref09_Check.j0 k (!t188) a0_0 a0_1 a0_2 a0_3)=some r:=H;have A9:=Ax A90;clear A90;have H':=Ax H;clear H;try go_wp2
    replace BK186:=Ax (blk_drew BK186.out);replace HB:=Ax (below_drew1 HB.out);refine start_ (n:=19) (S:=fun w'=>w'.cell? ⟨gb186,0,none⟩=some (.bool a0_0)∧w'.cell? ⟨gb186,1,none⟩=some (.int .u64 a0_1)∧w'.cell? ⟨gb186,2,none⟩=some (.int .u64 a0_2)∧w'.cell? ⟨gb186,3,none⟩=some (.int .i64 a0_3)) (ds:= []) #[Y,Y,Y,Y,Y,Y,Y,Y,Y,Y,Y,Y,Y,Y,Y,Y,Y,Y,Y] (by kernel_rfl) rfl rfl (bqc4 BK186.out) (fun hHeld=>?_);refine with_tabW spoorref09_Check.tab1 spoorref09_Check.bits1 (fun HT_ HW_=>?_);generalize w3.drew=w10 at BK186 HB hHeld ⊢;refine pz 0 5 #[Z,Y,Y,Y,Y,Y,Y,Y,Y,Y,Y,Y,Y,Y,Y,Y,Y,Y,Y] HT_.out ?_
    refine take_ (i:=1) (N:=some 6) (v:=?_) (a':=?_) #[Z,Z,Y,Y,Y,Y,Y,Y,Y,Y,Y,Y,Y,Y,Y,Y,Y,Y,Y] rfl rfl (take_ofW HT_.out HW_.out (by kernel_rfl)) (fun _ _ _ h=>h) (Or.inl ⟨by rfl,?_⟩) hHeld ?_ ?_;rotate_left
    ·rintro w' ⟨s0,s1,s2,s3⟩
     go_simp;with_reducible rfl
    rotate_left;·simp only[sP];rfl
    refine pz 2 7 #[Z,Z,Z,Y,Y,Y,Y,Y,Y,Y,Y,Y,Y,Y,Y,Y,Y,Y,Y] HT_.out ?_
    refine pz 3 8 #[Z,Z,Z,Z,Y,Y,Y,Y,Y,Y,Y,Y,Y,Y,Y,Y,Y,Y,Y] HT_.out ?_
    refine pz 4 9 #[Z,Z,Z,Z,Z,Y,Y,Y,Y,Y,Y,Y,Y,Y,Y,Y,Y,Y,Y] HT_.out ?_
    refine pz 6 11 #[Z,Z,Z,Z,Z,Y,Z,Y,Y,Y,Y,Y,Y,Y,Y,Y,Y,Y,Y] HT_.out ?_
    refine take_ (i:=5) (N:=some 10) (v:=?_) (a':=?_) #[Z,Z,Z,Z,Z,Z,Z,Y,Y,Y,Y,Y,Y,Y,Y,Y,Y,Y,Y] rfl rfl (take_ofW HT_.out HW_.out (by kernel_rfl)) (fun _ _ _ h=>h) (Or.inl ⟨by rfl,?_⟩) hHeld ?_ ?_;rotate_left
    ·rintro w' ⟨s0,s1,s2,s3⟩
     go_simp;with_reducible rfl
    rotate_left;·simp only[sP];rfl
    refine take_ (i:=7) (N:=some 12) (v:=?_) (a':=?_) #[Z,Z,Z,Z,Z,Z,Z,Z,Y,Y,Y,Y,Y,Y,Y,Y,Y,Y,Y] rfl rfl (take_ofW HT_.out HW_.out (by kernel_rfl)) (fun _ _ _ h=>h) (Or.inl ⟨by rfl,?_⟩) hHeld ?_ ?_;rotate_left
    ·rintro w' ⟨s0,s1,s2,s3⟩
     go_simp;with_reducible rfl
    rotate_left;·simp only[sP];rfl
    refine one_ (i:=8) (N:=some 13) #[Z,Z,Z,Z,Z,Z,Z,Z,Z,Y,Y,Y,Y,Y,Y,Y,Y,Y,Y] rfl rfl (one_of HT_.out (by kernel_rfl)) (by decide) (fun K hK=>?_);refine goes_ Try.func40 (by kernel_rfl) rfl #[.bool a0_0] (by rfl) rfl rfl gS ?_;with_reducible refine (spoorref09_Wide.calls a0_0 t187 _ A6.out).mono ?_
    rintro e w' ⟨rfl,⟨nd,rfl⟩⟩
    refine⟨_,rfl,?_⟩;refine hK.out _ _ (bqc4 BK186.out) (fun hHeld=>?_);clear hK K;refine norm_ (a':=?_) ?_ ?_;rotate_left
    ·show Act.put _ (some 13) _=_
     simp only[sP];rfl
    refine pz 9 14 #[Z,Z,Z,Z,Z,Z,Z,Z,Z,Z,Y,Y,Y,Y,Y,Y,Y,Y,Y] HT_.out ?_
    refine pz 10 15 #[Z,Z,Z,Z,Z,Z,Z,Z,Z,Z,Z,Y,Y,Y,Y,Y,Y,Y,Y] HT_.out ?_
    refine pz 11 16 #[Z,Z,Z,Z,Z,Z,Z,Z,Z,Z,Z,Z,Y,Y,Y,Y,Y,Y,Y] HT_.out ?_
    refine pz 12 17 #[Z,Z,Z,Z,Z,Z,Z,Z,Z,Z,Z,Z,Z,Y,Y,Y,Y,Y,Y] HT_.out ?_
    refine pz 14 19 #[Z,Z,Z,Z,Z,Z,Z,Z,Z,Z,Z,Z,Z,Y,Z,Y,Y,Y,Y] HT_.out ?_
    refine take_ (i:=13) (N:=some 18) (v:=?_) (a':=?_) #[Z,Z,Z,Z,Z,Z,Z,Z,Z,Z,Z,Z,Z,Z,Z,Y,Y,Y,Y] rfl rfl (take_ofW HT_.out HW_.out (by kernel_rfl)) (fun _ _ _ h=>h) (Or.inl ⟨by rfl,?_⟩) hHeld ?_ ?_;rotate_left
    ·rintro w' ⟨s0,s1,s2,s3⟩
     go_simp;with_reducible rfl
    rotate_left;·simp only[sP];rfl
    refine take_ (i:=15) (N:=some 20) (v:=?_) (a':=?_) #[Z,Z,Z,Z,Z,Z,Z,Z,Z,Z,Z,Z,Z,Z,Z,Z,Y,Y,Y] rfl rfl (take_ofW HT_.out HW_.out (by kernel_rfl)) (fun _ _ _ h=>h) (Or.inl ⟨by rfl,?_⟩) hHeld ?_ ?_;rotate_left
    ·rintro w' ⟨s0,s1,s2,s3⟩
     go_simp;with_reducible rfl
    rotate_left;·simp only[sP];rfl
    refine one_ (i:=16) (N:=some 21) #[Z,Z,Z,Z,Z,Z,Z,Z,Z,Z,Z,Z,Z,Z,Z,Z,Z,Y,Y] rfl rfl (one_of HT_.out (by kernel_rfl)) (by decide) (fun K hK=>?_);refine goes_ Try.func47 (by kernel_rfl) rfl #[.bool a0_0,.agg #[.int .u64 a0_1,.int .u64 a0_2]] (by rfl) rfl rfl gS ?_;with_reducible refine (spoorref09_Right.calls a0_0 a0_1 a0_2 t188 _ A9.out).mono ?_
    rintro e w11 ⟨rfl,hb⟩
    refine⟨_,rfl,?_⟩;replace BK186:=Bx0 BK186 hb;replace HB:=Bs1 HB hb GE186.out
    (try clear hb)
    refine hK.out _ _ (bqc4 BK186.out) (fun hHeld=>?_);clear hK K;refine norm_ (a':=?_) ?_ ?_;rotate_left
    ·show Act.put _ (some 21) _=_
     simp only[sP];rfl
    refine pz 17 22 #[Z,Z,Z,Z,Z,Z,Z,Z,Z,Z,Z,Z,Z,Z,Z,Z,Z,Z,Y] HT_.out ?_
    refine pz 18 23 #[Z,Z,Z,Z,Z,Z,Z,Z,Z,Z,Z,Z,Z,Z,Z,Z,Z,Z,Z] HT_.out ?_
    refine done_ (done_of HT_.out (by kernel_rfl)) ?_;try go_wp2
    go_meet
    case rel=>exact⟨_,(!t188),rS,H',⟨by first|omega|exact Nat.le_refl _⟩,⟨bf0 BK186.out⟩,⟨bw1 HB.out GE186.out⟩⟩
 case rest=>
  clear HC2;try clear p2
  try clear c3
  try clear c4
  try clear c4b0
  try clear c7
  try clear c7b0
  obtain⟨kq,x23_1,rfl,HA,HJ1,BK186,HB⟩:=hcut;cases kq with
  |zero=>exact absurd HA.out (by simp [spoorref09_Check.j0])
  |succ kj1=>
   have H:=HA.out;clear HA;simp only[spoorref09_Check.j0]at H;by_cases c12:x23_1=true
   ·subst c12;have H1:(some 2)=some r:=by rw [if_pos rfl]at H;exact H
    clear H;have H:=H1;clear H1;obtain rfl:=Option.some.inj H;go_wp2;go_ret;exact⟨eS,bw1 HB.out GE186.out⟩
   ·replace c12:=Bool.eq_false_iff.mpr c12;subst c12;have H1:((spoorref09_bits.f kj1 a0_0 a0_1 a0_2).bind fun t189=>(spoorref09_Check.l0 kj1 t189 (t189.length:Int) 0 a0_0 a0_1 a0_2 a0_3))=some r:=by rw [if_neg (show ¬ (false=true) by decide)]at H;exact H
    clear H;have H:=H1;clear H1;replace H:=Option.bind_eq_some_iff.mp H;obtain⟨t189,A130,H⟩:=H;replace H:(spoorref09_Check.l0 kj1 t189 (t189.length:Int) 0 a0_0 a0_1 a0_2 a0_3)=some r:=H;have A13:=Ax A130;clear A130;have H':=Ax H;clear H;obtain⟨hcz14_0,hcz14_1,hcz14_2,hcz14_3,hfz14_0,hfz14_1,hfz14_2,hfz14_3⟩:=cl4 BK186;go_wp2_with (first|((with_reducible refine gate_callee (f:=48) rfl ?_);refine goesL_ (some 28) rfl rfl Try.func48 (by kernel_rfl) rfl #[.bool a0_0,.agg #[.int .u64 a0_1,.int .u64 a0_2]] rfl gS ?_;(with_reducible refine (spoorref09_bits.calls kj1 a0_0 a0_1 a0_2 t189 _ A13.out).mono ?_);rintro e w15 ⟨v190,rfl,ho0,hb⟩;refine⟨_,rfl,?_⟩;have HO191:=Ax (Kd.R_lower ho0 (below_size (bw1 HB.out GE186.out)));replace BK186:=Bx0 BK186 hb;replace HB:=Bs1 HB hb GE186.out;(try clear hb);(try clear ho0);obtain⟨Ao16,co16,eo16⟩:=Kd.R_slice HO191.out;subst eo16));go_loopg [30] kj1 (fun kq v30 w'=> ∃ (x30_2:Int),v30= .int .i64 x30_2∧Aside0 (spoorref09_Check.l0 kq t189 (t189.length:Int) x30_2 a0_0 a0_1 a0_2 a0_3=some r)∧Aside0 (kq≤kj1)∧Aside0 (Kd.R (Kd.int .i64) 3 w' w.heap.size (fun _=>True) (.slice Ao16 t189.length co16) t189)∧Aside0 (w'.heap[gb186]? =some (.cells #[.bool a0_0,.int .u64 a0_1,.int .u64 a0_2,.int .i64 a0_3] 27 (0,0)))∧Aside0 (Below w.heap.size w w'))
    case atStart=>exact⟨(0),rS,H',⟨Nat.le_refl _⟩,⟨by (with_reducible repeat (first|apply Kd.R_alloc|apply Kd.R_drewN|apply Kd.R_drew));exact HO191.out⟩,⟨bf0 BK186.out⟩,⟨bw1 HB.out GE186.out⟩⟩
    case round=>
     clear H';(try clear c1);(try clear p2 p2);(try clear c3);(try clear c4);(try clear c4b0);(try clear c7);(try clear c7b0);(try clear c12);(try clear hcz14_0 hcz14_1 hcz14_2 hcz14_3);(try clear hfz14_0 hfz14_1 hfz14_2 hfz14_3);obtain⟨x30_2,rfl,HA,HK2,HO_28,BK186,HB⟩:=hrel;cases gk with
     |zero=>exact absurd HA.out (by simp [spoorref09_Check.l0])
     |succ k2=>
      have H:=HA.out;clear HA;simp only[spoorref09_Check.l0]at H;by_cases c17:x30_2<(t189.length:Int)
      ·rw [if_pos c17]at H;have c17b0:decide (x30_2<(t189.length:Int))=true:=decide_eq_true c17;clear c17;by_cases c18:0≤x30_2
       ·rw [if_pos c18]at H;have c18b0:decide (0≤x30_2)=true:=decide_eq_true c18;clear c18;by_cases c19:x30_2<(t189.length:Int)
        ·rw [if_pos c19]at H;have c19b0:decide (x30_2<(t189.length:Int))=true:=decide_eq_true c19;clear c19;by_cases c20:x30_2 ≥ a0_3
         ·rw [if_pos c20]at H;have c20b0:decide (a0_3≤x30_2)=true:=decide_eq_true c20;clear c20;by_cases c21:(rd t189 x30_2)=0
          ·rw [if_pos c21]at H;have c21b0:((rd t189 x30_2)==0)=true:=beq_iff_eq.mpr c21;have c21b1:((rd t189 x30_2) !=0)=false:=bne_eq_false_iff_eq.mpr c21;clear c21;have H':=Ax H;clear H;have p192:0≤(x30_2:Int):=of_decide_eq_true (by first|(with_reducible assumption)|assumption);have q192:x30_2<(t189.length:Int):=of_decide_eq_true (by first|(with_reducible assumption)|assumption);obtain⟨ad192,e192,hx192_0⟩:=Kd.at_int (Kd.R_reads' HO_28.out).2.2 x30_2 p192 q192;cases e192;replace p192:=eq_true p192;replace q192:=eq_true q192;obtain⟨hcz22_0,hcz22_1,hcz22_2,hcz22_3,hfz22_0,hfz22_1,hfz22_2,hfz22_3⟩:=cl4 BK186;go_wp2;go_roundg k2
           case measure=>have:=HJ1.out;have:=HK2.out;omega
           case rel=>exact⟨(wrap64 (x30_2+1)),rS,H',⟨by have:=HJ1.out;have:=HK2.out;omega⟩,⟨by (with_reducible repeat (first|apply Kd.R_alloc|apply Kd.R_drewN|apply Kd.R_drew));exact HO_28.out⟩,⟨bf0 BK186.out⟩,⟨bw1 HB.out GE186.out⟩⟩
          ·rw [if_neg c21]at H;have c21b0:((rd t189 x30_2)==0)=false:=beq_eq_false_iff_ne.mpr c21;have c21b1:((rd t189 x30_2) !=0)=true:=bne_iff_ne.mpr c21;obtain rfl:=Option.some.inj H;have p192:0≤(x30_2:Int):=of_decide_eq_true (by first|(with_reducible assumption)|assumption);have q192:x30_2<(t189.length:Int):=of_decide_eq_true (by first|(with_reducible assumption)|assumption);obtain⟨ad192,e192,hx192_0⟩:=Kd.at_int (Kd.R_reads' HO_28.out).2.2 x30_2 p192 q192;cases e192;replace p192:=eq_true p192;replace q192:=eq_true q192;obtain⟨hcz23_0,hcz23_1,hcz23_2,hcz23_3,hfz23_0,hfz23_1,hfz23_2,hfz23_3⟩:=cl4 BK186;go_wp2;go_ret;exact⟨eS,bw1 HB.out GE186.out⟩
         ·rw [if_neg c20]at H;have c20b0:decide (a0_3≤x30_2)=false:=decide_eq_false c20;clear c20;have H':=Ax H;clear H;have p192:0≤(x30_2:Int):=of_decide_eq_true (by first|(with_reducible assumption)|assumption);have q192:x30_2<(t189.length:Int):=of_decide_eq_true (by first|(with_reducible assumption)|assumption);obtain⟨ad192,e192,hx192_0⟩:=Kd.at_int (Kd.R_reads' HO_28.out).2.2 x30_2 p192 q192;cases e192;replace p192:=eq_true p192;replace q192:=eq_true q192;obtain⟨hcz24_0,hcz24_1,hcz24_2,hcz24_3,hfz24_0,hfz24_1,hfz24_2,hfz24_3⟩:=cl4 BK186;go_wp2;go_roundg k2
          case measure=>have:=HJ1.out;have:=HK2.out;omega
          case rel=>exact⟨(wrap64 (x30_2+1)),rS,H',⟨by have:=HJ1.out;have:=HK2.out;omega⟩,⟨by (with_reducible repeat (first|apply Kd.R_alloc|apply Kd.R_drewN|apply Kd.R_drew));exact HO_28.out⟩,⟨bf0 BK186.out⟩,⟨bw1 HB.out GE186.out⟩⟩
        ·rw [if_neg c19]at H;exact absurd H (by simp)
       ·rw [if_neg c18]at H;exact absurd H (by simp)
      ·rw [if_neg c17]at H;have c17b0:decide (x30_2<(t189.length:Int))=false:=decide_eq_false c17;clear c17;obtain rfl:=Option.some.inj H;go_wp2;go_ret;exact⟨eS,bw1 HB.out GE186.out⟩
def spoorref11_Acts.f (a0_0:Int) (a0_1:Int):Option (Bool):=if a0_0=1 then (if a0_1 ≥ 0 then (some (decide (a0_1≤65536))) else (some false)) else (if a0_0=2 then (some (a0_1==0)) else (if a0_0=3 then (some (a0_1==0)) else (some false)))
set_option maxHeartbeats 8000000 in
set_option maxRecDepth 100000 in
theorem spoorref11_Acts.calls (a0_0:Int) (a0_1:Int) (r:Bool) (w:World) (h:spoorref11_Acts.f a0_0 a0_1=some r):
  Calls Try.prog 37 #[.agg #[.int .u8 a0_0,.int .i64 a0_1]] w fun e w'=>e= .returned (.bool r)∧Below w.heap.size w w':=by
 have hu30:=Try.underlying30;have HB:=Ax (Below.refl w.heap.size w);have H:(if a0_0=1 then (if a0_1 ≥ 0 then (some (decide (a0_1≤65536))) else (some false)) else (if a0_0=2 then (some (a0_1==0)) else (if a0_0=3 then (some (a0_1==0)) else (some false))))=some r:=h;clear h;by_cases c2:a0_0=1
 ·rw [if_pos c2]at H;have c2b0:(a0_0==1)=true:=beq_iff_eq.mpr c2;have c2b1:(a0_0 !=1)=false:=bne_eq_false_iff_eq.mpr c2;clear c2;by_cases c3:a0_1 ≥ 0;·rw [if_pos c3]at H;have c3b0:decide (0≤a0_1)=true:=decide_eq_true c3;clear c3;obtain rfl:=Option.some.inj H;go_enter Try.func37,Try.ntmps37;go_wp2_with (first|((with_reducible refine gate_dst (N:=1) rfl ?_);refine box_event ?hg (N:=1) ?hd (cs:= #[.int .u8 a0_0,.int .i64 a0_1]) (t:=30) ?hr ?_;(case hd=>rfl);(case hg=>rfl);(case hr=>first|(go_simp;done)|(go_simp;rfl));intro gb193 hg w4 hbox hb;have n0_:=Bs0 HB hb;have n1_:=Ax (hbox);have n2_:=Gw0 HB hg;have n3_:=Gw0 HB hg;clear HB;have HB:=n0_;have BK193:=n1_;have GW193:=n2_;have GE193:=n3_;clear n0_ n1_ n2_ n3_;clear hb hbox hg;obtain⟨hcz5_0,hcz5_1,hfz5_0,hfz5_1⟩:=cl2 BK193));go_ret;exact⟨eS,bw1 HB.out GE193.out⟩
  ·rw [if_neg c3]at H;have c3b0:decide (0≤a0_1)=false:=decide_eq_false c3;clear c3;obtain rfl:=Option.some.inj H;go_enter Try.func37,Try.ntmps37;go_wp2_with (first|((with_reducible refine gate_dst (N:=1) rfl ?_);refine box_event ?hg (N:=1) ?hd (cs:= #[.int .u8 a0_0,.int .i64 a0_1]) (t:=30) ?hr ?_;(case hd=>rfl);(case hg=>rfl);(case hr=>first|(go_simp;done)|(go_simp;rfl));intro gb193 hg w6 hbox hb;have n0_:=Bs0 HB hb;have n1_:=Ax (hbox);have n2_:=Gw0 HB hg;have n3_:=Gw0 HB hg;clear HB;have HB:=n0_;have BK193:=n1_;have GW193:=n2_;have GE193:=n3_;clear n0_ n1_ n2_ n3_;clear hb hbox hg;obtain⟨hcz7_0,hcz7_1,hfz7_0,hfz7_1⟩:=cl2 BK193));go_ret;exact⟨eS,bw1 HB.out GE193.out⟩
 ·rw [if_neg c2]at H;have c2b0:(a0_0==1)=false:=beq_eq_false_iff_ne.mpr c2;have c2b1:(a0_0 !=1)=true:=bne_iff_ne.mpr c2;by_cases c8:a0_0=2;·rw [if_pos c8]at H;have c8b0:(a0_0==2)=true:=beq_iff_eq.mpr c8;have c8b1:(a0_0 !=2)=false:=bne_eq_false_iff_eq.mpr c8;clear c8;obtain rfl:=Option.some.inj H;go_enter Try.func37,Try.ntmps37;go_wp2_with (first|((with_reducible refine gate_dst (N:=1) rfl ?_);refine box_event ?hg (N:=1) ?hd (cs:= #[.int .u8 a0_0,.int .i64 a0_1]) (t:=30) ?hr ?_;(case hd=>rfl);(case hg=>rfl);(case hr=>first|(go_simp;done)|(go_simp;rfl));intro gb193 hg w9 hbox hb;have n0_:=Bs0 HB hb;have n1_:=Ax (hbox);have n2_:=Gw0 HB hg;have n3_:=Gw0 HB hg;clear HB;have HB:=n0_;have BK193:=n1_;have GW193:=n2_;have GE193:=n3_;clear n0_ n1_ n2_ n3_;clear hb hbox hg;obtain⟨hcz10_0,hcz10_1,hfz10_0,hfz10_1⟩:=cl2 BK193));go_ret;exact⟨eS,bw1 HB.out GE193.out⟩
  ·rw [if_neg c8]at H;have c8b0:(a0_0==2)=false:=beq_eq_false_iff_ne.mpr c8;have c8b1:(a0_0 !=2)=true:=bne_iff_ne.mpr c8;by_cases c11:a0_0=3;·rw [if_pos c11]at H;have c11b0:(a0_0==3)=true:=beq_iff_eq.mpr c11;have c11b1:(a0_0 !=3)=false:=bne_eq_false_iff_eq.mpr c11;clear c11;obtain rfl:=Option.some.inj H;go_enter Try.func37,Try.ntmps37;go_wp2_with (first|((with_reducible refine gate_dst (N:=1) rfl ?_);refine box_event ?hg (N:=1) ?hd (cs:= #[.int .u8 a0_0,.int .i64 a0_1]) (t:=30) ?hr ?_;(case hd=>rfl);(case hg=>rfl);(case hr=>first|(go_simp;done)|(go_simp;rfl));intro gb193 hg w12 hbox hb;have n0_:=Bs0 HB hb;have n1_:=Ax (hbox);have n2_:=Gw0 HB hg;have n3_:=Gw0 HB hg;clear HB;have HB:=n0_;have BK193:=n1_;have GW193:=n2_;have GE193:=n3_;clear n0_ n1_ n2_ n3_;clear hb hbox hg;obtain⟨hcz13_0,hcz13_1,hfz13_0,hfz13_1⟩:=cl2 BK193));go_ret;exact⟨eS,bw1 HB.out GE193.out⟩
   ·rw [if_neg c11]at H;have c11b0:(a0_0==3)=false:=beq_eq_false_iff_ne.mpr c11;have c11b1:(a0_0 !=3)=true:=bne_iff_ne.mpr c11;obtain rfl:=Option.some.inj H;go_enter Try.func37,Try.ntmps37;go_wp2_with (first|((with_reducible refine gate_dst (N:=1) rfl ?_);refine box_event ?hg (N:=1) ?hd (cs:= #[.int .u8 a0_0,.int .i64 a0_1]) (t:=30) ?hr ?_;(case hd=>rfl);(case hg=>rfl);(case hr=>first|(go_simp;done)|(go_simp;rfl));intro gb193 hg w14 hbox hb;have n0_:=Bs0 HB hb;have n1_:=Ax (hbox);have n2_:=Gw0 HB hg;have n3_:=Gw0 HB hg;clear HB;have HB:=n0_;have BK193:=n1_;have GW193:=n2_;have GE193:=n3_;clear n0_ n1_ n2_ n3_;clear hb hbox hg;obtain⟨hcz15_0,hcz15_1,hfz15_0,hfz15_1⟩:=cl2 BK193));go_ret;exact⟨eS,bw1 HB.out GE193.out⟩
mutual
def spoorref11_Check.j0 : Nat → Bool → Int → Int → Int → Int → Bool → Int → Int → Int → Int → Int → Int → Int → Option (Int)
 | 0, _, _, _, _, _, _, _, _, _, _, _, _, _ => none
 | k + 1, x32, x195000, x195001, x195002, x195003, x195004, x195005, x195006, x195007, x195008, x195009, x195010, x195011 => if x32 = true then (some 2) else (if x195000 = 1 then (spoorref11_Check.j1 k true x195000 (x195000 == 1) x195000 x195001 x195002 x195003 x195004 x195005 x195006 x195007 x195008 x195009 x195010 x195011 x195000 x195001 x195002 x195003 false 0 0 0 0 0 0 0) else (spoorref11_Check.j1 k true x195000 (x195000 == 2) x195000 x195001 x195002 x195003 x195004 x195005 x195006 x195007 x195008 x195009 x195010 x195011 x195000 x195001 x195002 x195003 false 0 0 0 0 0 0 0))
def spoorref11_Check.j1 : Nat → Bool → Int → Bool → Int → Int → Int → Int → Bool → Int → Int → Int → Int → Int → Int → Int → Int → Int → Int → Int → Bool → Int → Int → Int → Int → Int → Int → Int → Option (Int)
 | 0, _, _, _, _, _, _, _, _, _, _, _, _, _, _, _, _, _, _, _, _, _, _, _, _, _, _, _ => none
 | k + 1, x4, x43, x44, x195000, x195001, x195002, x195003, x195004, x195005, x195006, x195007, x195008, x195009, x195010, x195011, x196000, x196001, x196002, x196003, x196004, x196005, x196006, x196007, x196008, x196009, x196010, x196011 => if x44 = true then (if x4 = true then (if (!(x196000 == x195000) || (!(x196001 == x195001) || (!(x196002 == x195002) || (!(x196003 == x195003) || ((!(x196004 == x195004) || ((!(x196005 == x195005) || (!(x196006 == x195006))) || (!(x196007 == x195007)))) || ((!(x196008 == x195008) || (!(x196009 == x195009))) || (!(x196010 == x195010) || (!(x196011 == x195011))))))))) = true then (some 2) else (some 0)) else (some 2)) else (if x43 = 3 then ((spoorref09_Check.f k x195004 x195005 x195006 x195007).bind fun t196 => (if t196 = 0 then ((spoorref11_Acts.f x195008 x195009).bind fun t197 => (if t197 = true then (if (!(x196000 == x195000) || (!(x196001 == x195001) || (!(x196002 == x195002) || (!(x196003 == x195003) || (!(x196010 == x195010) || (!(x196011 == x195011))))))) = true then (some 2) else (some 0)) else (some 2))) else (some 2))) else (if x43 = 4 then ((spoorref09_Check.f k x195004 x195005 x195006 x195007).bind fun t198 => (if t198 = 0 then (if (!(x196000 == x195000) || (!(x196001 == x195001) || (!(x196002 == x195002) || (!(x196003 == x195003) || ((!(x196008 == x195008) || (!(x196009 == x195009))) || (!(x196010 == x195010) || (!(x196011 == x195011)))))))) = true then (some 2) else (some 0)) else (some 2))) else (if x43 = 5 then (if x195010 ≥ 0 then (if x195010 ≤ 65536 then (if x195011 ≥ 0 then (if x195011 ≤ 1048576 then (if (!(x196000 == x195000) || (!(x196001 == x195001) || (!(x196002 == x195002) || (!(x196003 == x195003) || ((!(x196004 == x195004) || ((!(x196005 == x195005) || (!(x196006 == x195006))) || (!(x196007 == x195007)))) || ((!(x196008 == x195008) || (!(x196009 == x195009))))))))) = true then (some 2) else (some 0)) else (some 2)) else (some 2)) else (some 2)) else (some 2)) else (if x43 = 6 then (if x195010 ≥ 0 then (if x195010 ≤ 65536 then (if (!(x196000 == x195000) || (!(x196001 == x195001) || (!(x196002 == x195002) || (!(x196003 == x195003) || ((!(x196004 == x195004) || ((!(x196005 == x195005) || (!(x196006 == x195006))) || (!(x196007 == x195007)))) || ((!(x196008 == x195008) || (!(x196009 == x195009))) || (!(x196011 == x195011)))))))) = true then (some 2) else (some 0)) else (some 2)) else (some 2)) else (some 2)))))
end
def spoorref11_Check.f (k:Nat) (a0_0:Int) (a0_1:Int) (a0_2:Int) (a0_3:Int) (a0_4:Bool) (a0_5:Int) (a0_6:Int) (a0_7:Int) (a0_8:Int) (a0_9:Int) (a0_10:Int) (a0_11:Int):Option (Int):=if a0_1<0 then (spoorref11_Check.j0 k true a0_0 a0_1 a0_2 a0_3 a0_4 a0_5 a0_6 a0_7 a0_8 a0_9 a0_10 a0_11) else (if a0_1 > 1048576 then (spoorref11_Check.j0 k true a0_0 a0_1 a0_2 a0_3 a0_4 a0_5 a0_6 a0_7 a0_8 a0_9 a0_10 a0_11) else (if a0_2<1 then (spoorref11_Check.j0 k true a0_0 a0_1 a0_2 a0_3 a0_4 a0_5 a0_6 a0_7 a0_8 a0_9 a0_10 a0_11) else (if a0_2 > 1099511627776 then (spoorref11_Check.j0 k true a0_0 a0_1 a0_2 a0_3 a0_4 a0_5 a0_6 a0_7 a0_8 a0_9 a0_10 a0_11) else (if a0_3<0 then (spoorref11_Check.j0 k true a0_0 a0_1 a0_2 a0_3 a0_4 a0_5 a0_6 a0_7 a0_8 a0_9 a0_10 a0_11) else (spoorref11_Check.j0 k (decide (a0_3 > 1099511627776)) a0_0 a0_1 a0_2 a0_3 a0_4 a0_5 a0_6 a0_7 a0_8 a0_9 a0_10 a0_11)))))
def spoorref11_Check.T10:Bool × List (List Nat × List Nat):=(true, [([], []),([0], [0]),([], []),([2], [2]),([0,1], []),([4,1,0,1], [1,4]),([0,1,2,3,4,5], []),([6,3,5,0,1,2,3,4,5], [3,6])])
def spoorref11_Check.B10:List Nat:= [0,1,0,4,3,19,63,127]
theorem spoorref11_Check.tab10:rtab .any (opsOf Try.f14 10)=spoorref11_Check.T10:=by kernel_rfl
theorem spoorref11_Check.bits10:waitsOk spoorref11_Check.T10.2 spoorref11_Check.B10=true:=by kernel_rfl
def spoorref11_Check.T16:Bool × List (List Nat × List Nat):=(true, [([], []),([0], [0]),([], []),([2], [2]),([0,1], []),([4,1,0,1], [1,4]),([0,1,2,3,4,5], []),([6,3,5,0,1,2,3,4,5], [3,6])])
def spoorref11_Check.B16:List Nat:= [0,1,0,4,3,19,63,127]
theorem spoorref11_Check.tab16:rtab .any (opsOf Try.f14 16)=spoorref11_Check.T16:=by kernel_rfl
theorem spoorref11_Check.bits16:waitsOk spoorref11_Check.T16.2 spoorref11_Check.B16=true:=by kernel_rfl
end Go.Proofs.Ytodgadhegcjbhaa.Q
end
