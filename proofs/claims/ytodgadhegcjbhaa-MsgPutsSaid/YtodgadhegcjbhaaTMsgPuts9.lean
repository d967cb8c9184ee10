-- Merged and trimmed by this session's program wip/tools/trim.py.
import Derived.Test.YtodgadhegcjbhaaRows
import Derived.ChangeArms
import Derived.WideShapes
import Derived.SizedLaws
import Derived.Laws.BytesArg
import Derived.Laws.BitsLemmas
import Derived.Test.YtodgadhegcjbhaaTMsgPuts8
section
namespace Go.Proofs.Ytodgadhegcjbhaa.Q
open Go.RowKit Go.Proofs.YtodgadhegcjbhaaW.PrintWords Go.Proofs.YtodgadhegcjbhaaW.PrintLast Go.Proofs.YtodgadhegcjbhaaW.PrintMore
attribute [local go_sem] max2_int min2_int max_two min_two max_three min_three max_four min_four   -- for this text's walks alone
set_option linter.unusedVariables false
set_option linter.unusedSimpArgs false
attribute [local go_sem high] eqA27 eqA30 eqA32
def msg_PutPrefix.f (k:Nat) (a0_0:Bool) (a0_1:Int) (a0_2:Int) (a0_3:Int):Option (ByteArray × Int):=(addr_Check.f k a0_0 a0_1 a0_2 a0_3).bind fun t354=>(if t354=0 then ((msg_prefix.f ([]:List Int) a0_0 a0_1 a0_2 a0_3).bind fun t355=>(some (strOfNums t355,0))) else (some ((⟨#[]⟩:ByteArray),t354)))
theorem msg_PutPrefix.mono: ∀ a0 a1 a2 a3 k,LeO (msg_PutPrefix.f k a0 a1 a2 a3) (msg_PutPrefix.f (k+1) a0 a1 a2 a3):=by
 intro a0 a1 a2 a3 k;unfold msg_PutPrefix.f
 repeat' first
   | (with_reducible exact addr_Check.mono _ _ _ _ _)
   | (with_reducible exact LeO.refl _)
   | (with_reducible exact LeO.none _)
   | (with_reducible refine LeO.ite ?_ ?_)
   | (with_reducible refine LeO.bind ?_ (fun _ => ?_))
   | exact addr_Check.mono _ _ _ _ _
   | exact LeO.none _
   | refine LeO.ite ?_ ?_
   | refine LeO.bind ?_ (fun _ => ?_)
set_option maxHeartbeats 8000000 in
set_option maxRecDepth 100000 in
theorem msg_PutPrefix.calls (k:Nat) (a0_0:Bool) (a0_1:Int) (a0_2:Int) (a0_3:Int) (r1:ByteArray) (r2:Int) (w:World) (h:msg_PutPrefix.f k a0_0 a0_1 a0_2 a0_3=some (r1,r2)):
  Calls Try.prog 15 #[.agg #[.bool a0_0,.int .u64 a0_1,.int .u64 a0_2,.int .i64 a0_3]] w fun e w'=>e= .returned (.tuple #[.string r1,.int .i64 r2])∧Below w.heap.size w w':=by
 have hu27:=Try.underlying27;have HB:=Ax (Below.refl w.heap.size w);have H:((addr_Check.f k a0_0 a0_1 a0_2 a0_3).bind fun t354=>(if t354=0 then ((msg_prefix.f ([]:List Int) a0_0 a0_1 a0_2 a0_3).bind fun t355=>(some (strOfNums t355,0))) else (some ((⟨#[]⟩:ByteArray),t354))))=some (r1,r2):=h;clear h;replace H:=Option.bind_eq_some_iff.mp H;obtain⟨t354,A20,H⟩:=H;replace H:(if t354=0 then ((msg_prefix.f ([]:List Int) a0_0 a0_1 a0_2 a0_3).bind fun t355=>(some (strOfNums t355,0))) else (some ((⟨#[]⟩:ByteArray),t354)))=some (r1,r2):=H;have A2:=Ax A20;clear A20;by_cases c3:t354=0;·rw [if_pos c3]at H;have c3b0:(t354==0)=true:=beq_iff_eq.mpr c3;have c3b1:(t354 !=0)=false:=bne_eq_false_iff_eq.mpr c3;clear c3;replace H:=Option.bind_eq_some_iff.mp H;obtain⟨t355,A40,H⟩:=H;replace H:(some (strOfNums t355,0))=some (r1,r2):=H;have A4:=Ax A40;clear A40;simp only[Option.some.injEq,Prod.mk.injEq]at H;obtain⟨rfl,rfl⟩:=H;go_enter Try.func15,Try.ntmps15;go_wp2_with (first|((with_reducible refine gate_dst (N:=1) rfl ?_);refine box_event ?hg (N:=1) ?hd (cs:= #[.bool a0_0,.int .u64 a0_1,.int .u64 a0_2,.int .i64 a0_3]) (t:=27) ?hr ?_;(case hd=>rfl);(case hg=>rfl);(case hr=>first|(go_simp;done)|(go_simp;rfl));intro gb353 hg w5 hbox hb;have n0_:=Bs0 HB hb;have n1_:=Ax (hbox);have n2_:=Gw0 HB hg;have n3_:=Gw0 HB hg;clear HB;have HB:=n0_;have BK353:=n1_;have GW353:=n2_;have GE353:=n3_;clear n0_ n1_ n2_ n3_;clear hb hbox hg;obtain⟨hcz6_0,hcz6_1,hcz6_2,hcz6_3,hfz6_0,hfz6_1,hfz6_2,hfz6_3⟩:=cl4 BK353)|((with_reducible refine gate_callee (f:=34) rfl ?_);refine goesL_ (some 6) rfl rfl Try.func34 (by kernel_rfl) rfl #[.agg #[.bool a0_0,.int .u64 a0_1,.int .u64 a0_2,.int .i64 a0_3]] rfl gS ?_;(with_reducible refine (addr_Check.calls k a0_0 a0_1 a0_2 a0_3 t354 _ A2.out).mono ?_);rintro e w7 ⟨rfl,hb⟩;refine⟨_,rfl,?_⟩;replace BK353:=Bx0 BK353 hb;replace HB:=Bs1 HB hb GE353.out;(try clear hb);obtain⟨hcz8_0,hcz8_1,hcz8_2,hcz8_3,hfz8_0,hfz8_1,hfz8_2,hfz8_3⟩:=cl4 BK353)|((with_reducible refine gate_callee (f:=25) rfl ?_);refine goesL_ (some 11) rfl rfl Try.func25 (by kernel_rfl) rfl #[.slice none 0 0,.agg #[.bool a0_0,.int .u64 a0_1,.int .u64 a0_2,.int .i64 a0_3]] rfl gS ?_;(refine (msg_prefix.calls (fun k_=>some k_=(.slice none 0 0:Value).ownBlock) (.slice none 0 0) ([]:List Int) a0_0 a0_1 a0_2 a0_3 t355 w _ ?side1 ?side2 A4.out).mono ?_);(case side1=>repeat (first|(with_reducible first|exact HB.out|apply below_alloc|apply pw_below_drewN|apply below_drew1|refine below_set ?_ GE353.out)|exact HB.out));(case side2=>exact Kd.R_nil _ _ _ _ _);rintro e w9 ⟨v356,rfl,ho0,hb,hkp⟩;refine⟨_,rfl,?_⟩;replace BK353:=Ax (blk_kept (bf0 BK353.out) hkp (fun hs_=>(fun e_=>by simp [Value.ownBlock]at e_) hs_));have HO357:=Ax (Kd.R_mono (ok':=fun k_=>True) ho0 (fun k_ hk_=>trivial));replace HB:=Ax (hb);(try clear hb);(try clear hkp);(try clear ho0);have hcv10:=own_string (P:=Try.prog) Try.underlying49 Try.underlying5 Try.underlying9 (Kd.own_of_R HO357.out)));go_ret2;exact⟨eS,bw1 HB.out GE353.out⟩
 ·rw [if_neg c3]at H;have c3b0:(t354==0)=false:=beq_eq_false_iff_ne.mpr c3;have c3b1:(t354 !=0)=true:=bne_iff_ne.mpr c3;simp only[Option.some.injEq,Prod.mk.injEq]at H;obtain⟨rfl,rfl⟩:=H;go_enter Try.func15,Try.ntmps15;go_wp2_with (first|((with_reducible refine gate_dst (N:=1) rfl ?_);refine box_event ?hg (N:=1) ?hd (cs:= #[.bool a0_0,.int .u64 a0_1,.int .u64 a0_2,.int .i64 a0_3]) (t:=27) ?hr ?_;(case hd=>rfl);(case hg=>rfl);(case hr=>first|(go_simp;done)|(go_simp;rfl));intro gb353 hg w11 hbox hb;have n0_:=Bs0 HB hb;have n1_:=Ax (hbox);have n2_:=Gw0 HB hg;have n3_:=Gw0 HB hg;clear HB;have HB:=n0_;have BK353:=n1_;have GW353:=n2_;have GE353:=n3_;clear n0_ n1_ n2_ n3_;clear hb hbox hg;obtain⟨hcz12_0,hcz12_1,hcz12_2,hcz12_3,hfz12_0,hfz12_1,hfz12_2,hfz12_3⟩:=cl4 BK353)|((with_reducible refine gate_callee (f:=34) rfl ?_);refine goesL_ (some 6) rfl rfl Try.func34 (by kernel_rfl) rfl #[.agg #[.bool a0_0,.int .u64 a0_1,.int .u64 a0_2,.int .i64 a0_3]] rfl gS ?_;(with_reducible refine (addr_Check.calls k a0_0 a0_1 a0_2 a0_3 t354 _ A2.out).mono ?_);rintro e w13 ⟨rfl,hb⟩;refine⟨_,rfl,?_⟩;replace BK353:=Bx0 BK353 hb;replace HB:=Bs1 HB hb GE353.out;(try clear hb)));go_ret2;exact⟨eS,bw1 HB.out GE353.out⟩
def msg_PutAction.f (k:Nat) (a0_0:Int) (a0_1:Int):Option (ByteArray × Int):=(msg_acts.f a0_0 a0_1).bind fun t359=>(if t359=true then ((msg_action.f k ([]:List Int) a0_0 a0_1).bind fun t360=>(some (strOfNums t360,0))) else (some ((⟨#[]⟩:ByteArray),2)))
theorem msg_PutAction.mono: ∀ a0 a1 k,LeO (msg_PutAction.f k a0 a1) (msg_PutAction.f (k+1) a0 a1):=by
 intro a0 a1 k;unfold msg_PutAction.f
 repeat' first
   | (with_reducible exact msg_action.mono _ _ _ _)
   | (with_reducible exact LeO.refl _)
   | (with_reducible exact LeO.none _)
   | (with_reducible refine LeO.ite ?_ ?_)
   | (with_reducible refine LeO.bind ?_ (fun _ => ?_))
   | exact msg_action.mono _ _ _ _
   | exact LeO.none _
   | refine LeO.ite ?_ ?_
   | refine LeO.bind ?_ (fun _ => ?_)
set_option maxHeartbeats 8000000 in
set_option maxRecDepth 100000 in
theorem msg_PutAction.calls (k:Nat) (a0_0:Int) (a0_1:Int) (r1:ByteArray) (r2:Int) (w:World) (h:msg_PutAction.f k a0_0 a0_1=some (r1,r2)):
  Calls Try.prog 19 #[.agg #[.int .u8 a0_0,.int .i64 a0_1]] w fun e w'=>e= .returned (.tuple #[.string r1,.int .i64 r2])∧Below w.heap.size w w':=by
 have hu30:=Try.underlying30;have HB:=Ax (Below.refl w.heap.size w);have H:((msg_acts.f a0_0 a0_1).bind fun t359=>(if t359=true then ((msg_action.f k ([]:List Int) a0_0 a0_1).bind fun t360=>(some (strOfNums t360,0))) else (some ((⟨#[]⟩:ByteArray),2))))=some (r1,r2):=h;clear h;replace H:=Option.bind_eq_some_iff.mp H;obtain⟨t359,A20,H⟩:=H;replace H:(if t359=true then ((msg_action.f k ([]:List Int) a0_0 a0_1).bind fun t360=>(some (strOfNums t360,0))) else (some ((⟨#[]⟩:ByteArray),2)))=some (r1,r2):=H;have A2:=Ax A20;clear A20;by_cases c3:t359=true
 ·subst c3;have H1:((msg_action.f k ([]:List Int) a0_0 a0_1).bind fun t360=>(some (strOfNums t360,0)))=some (r1,r2):=by rw [if_pos rfl]at H;exact H
  clear H;have H:=H1;clear H1;replace H:=Option.bind_eq_some_iff.mp H;obtain⟨t360,A40,H⟩:=H;replace H:(some (strOfNums t360,0))=some (r1,r2):=H;have A4:=Ax A40;clear A40;simp only[Option.some.injEq,Prod.mk.injEq]at H;obtain⟨rfl,rfl⟩:=H;go_enter Try.func19,Try.ntmps19;go_wp2_with (first|((with_reducible refine gate_dst (N:=1) rfl ?_);refine box_event ?hg (N:=1) ?hd (cs:= #[.int .u8 a0_0,.int .i64 a0_1]) (t:=30) ?hr ?_;(case hd=>rfl);(case hg=>rfl);(case hr=>first|(go_simp;done)|(go_simp;rfl));intro gb358 hg w5 hbox hb;have n0_:=Bs0 HB hb;have n1_:=Ax (hbox);have n2_:=Gw0 HB hg;have n3_:=Gw0 HB hg;clear HB;have HB:=n0_;have BK358:=n1_;have GW358:=n2_;have GE358:=n3_;clear n0_ n1_ n2_ n3_;clear hb hbox hg;obtain⟨hcz6_0,hcz6_1,hfz6_0,hfz6_1⟩:=cl2 BK358)|((with_reducible refine gate_callee (f:=33) rfl ?_);refine goesL_ (some 5) rfl rfl Try.func33 (by kernel_rfl) rfl #[.agg #[.int .u8 a0_0,.int .i64 a0_1]] rfl gS ?_;(with_reducible refine (msg_acts.calls a0_0 a0_1 true _ A2.out).mono ?_);rintro e w7 ⟨rfl,hb⟩;refine⟨_,rfl,?_⟩;replace BK358:=Bx0 BK358 hb;replace HB:=Bs1 HB hb GE358.out;(try clear hb);obtain⟨hcz8_0,hcz8_1,hfz8_0,hfz8_1⟩:=cl2 BK358)|((with_reducible refine gate_callee (f:=24) rfl ?_);refine goesL_ (some 8) rfl rfl Try.func24 (by kernel_rfl) rfl #[.slice none 0 0,.agg #[.int .u8 a0_0,.int .i64 a0_1]] rfl gS ?_;(refine (msg_action.calls k (fun k_=>some k_=(.slice none 0 0:Value).ownBlock) (.slice none 0 0) ([]:List Int) a0_0 a0_1 t360 w _ ?side1 ?side2 A4.out).mono ?_);(case side1=>repeat (first|(with_reducible first|exact HB.out|apply below_alloc|apply pw_below_drewN|apply below_drew1|refine below_set ?_ GE358.out)|exact HB.out));(case side2=>exact Kd.R_nil _ _ _ _ _);rintro e w9 ⟨v361,rfl,ho0,hb,hkp⟩;refine⟨_,rfl,?_⟩;replace BK358:=Ax (blk_kept (bf0 BK358.out) hkp (fun hs_=>(fun e_=>by simp [Value.ownBlock]at e_) hs_));have HO362:=Ax (Kd.R_mono (ok':=fun k_=>True) ho0 (fun k_ hk_=>trivial));replace HB:=Ax (hb);(try clear hb);(try clear hkp);(try clear ho0);have hcv10:=own_string (P:=Try.prog) Try.underlying49 Try.underlying5 Try.underlying9 (Kd.own_of_R HO362.out)));go_ret2;exact⟨eS,bw1 HB.out GE358.out⟩
 ·replace c3:=Bool.eq_false_iff.mpr c3;subst c3;have H1:(some ((⟨#[]⟩:ByteArray),2))=some (r1,r2):=by rw [if_neg (show ¬ (false=true) by decide)]at H;exact H
  clear H;have H:=H1;clear H1;simp only[Option.some.injEq,Prod.mk.injEq]at H;obtain⟨rfl,rfl⟩:=H;go_enter Try.func19,Try.ntmps19;go_wp2_with (first|((with_reducible refine gate_dst (N:=1) rfl ?_);refine box_event ?hg (N:=1) ?hd (cs:= #[.int .u8 a0_0,.int .i64 a0_1]) (t:=30) ?hr ?_;(case hd=>rfl);(case hg=>rfl);(case hr=>first|(go_simp;done)|(go_simp;rfl));intro gb358 hg w11 hbox hb;have n0_:=Bs0 HB hb;have n1_:=Ax (hbox);have n2_:=Gw0 HB hg;have n3_:=Gw0 HB hg;clear HB;have HB:=n0_;have BK358:=n1_;have GW358:=n2_;have GE358:=n3_;clear n0_ n1_ n2_ n3_;clear hb hbox hg;obtain⟨hcz12_0,hcz12_1,hfz12_0,hfz12_1⟩:=cl2 BK358)|((with_reducible refine gate_callee (f:=33) rfl ?_);refine goesL_ (some 5) rfl rfl Try.func33 (by kernel_rfl) rfl #[.agg #[.int .u8 a0_0,.int .i64 a0_1]] rfl gS ?_;(with_reducible refine (msg_acts.calls a0_0 a0_1 false _ A2.out).mono ?_);rintro e w13 ⟨rfl,hb⟩;refine⟨_,rfl,?_⟩;replace BK358:=Bx0 BK358 hb;replace HB:=Bs1 HB hb GE358.out;(try clear hb)));go_ret2;exact⟨eS,bw1 HB.out GE358.out⟩
def spoorlaw11_lives.f (k:Nat)  :Option (Bool):=(msg_Put.f k 1 1 1 5 false 0 0 0 0 0 0 0).bind fun bt364=>((msg_Put.f k 3 1 2 300 false 0 167772160 8 1 7 0 0).bind fun bt367=>((msg_Get.f k bt367.1).bind fun bt369=>(if bt367.1.size+1≤9223372036854775807 then ((msg_Get.f k (bt367.1++(⟨#[0]⟩:ByteArray))).bind fun bt383=>((msg_PutPrefix.f k false 0 167772160 8).bind fun bt397=>(if bt397.1.size+1≤9223372036854775807 then ((msg_GetPrefix.f k (bt397.1++(⟨#[122]⟩:ByteArray))).bind fun bt399=>((msg_PutAction.f k 2 0).bind fun bt406=>(if bt406.1.size+1≤9223372036854775807 then ((msg_GetAction.f k (bt406.1++(⟨#[122]⟩:ByteArray))).bind fun bt408=>(if bt364.1.toList=([1,1,1,5]:List UInt8) then (if bt364.2=0 then (if bt367.1.toList=([3,1,2,172,2,4,8,10,1,7]:List UInt8) then (if bt367.2=0 then (if (!bt369.2.2.2.2.1&&((bt369.2.2.2.2.2.1==0&&(bt369.2.2.2.2.2.2.1==167772160))&&(bt369.2.2.2.2.2.2.2.1==8)))=true then (if bt369.2.2.2.2.2.2.2.2.2.1=7 then (if bt369.2.2.2.2.2.2.2.2.2.2.2.2=0 then (if bt383.2.2.2.2.2.2.2.2.2.2.2.2=7 then (if bt397.1.toList=([4,8,10]:List UInt8) then (if bt397.2=0 then (if (!bt399.1&&((bt399.2.1==0&&(bt399.2.2.1==167772160))&&(bt399.2.2.2.1==8)))=true then (if bt399.2.2.2.2.1.toList=([122]:List UInt8) then (if bt399.2.2.2.2.2=0 then (if bt406.1.toList=([2]:List UInt8) then (if bt406.2=0 then (if bt408.1=2 then (if bt408.2.2.1.toList=([122]:List UInt8) then (if bt408.2.2.2=0 then ((msg_Check.f k 3 1 2 300 false 0 167772160 8 1 7 1 0).bind fun t413=>(if t413=2 then ((msg_Check.f k bt369.1 bt369.2.1 bt369.2.2.1 bt369.2.2.2.1 bt369.2.2.2.2.1 bt369.2.2.2.2.2.1 bt369.2.2.2.2.2.2.1 bt369.2.2.2.2.2.2.2.1 bt369.2.2.2.2.2.2.2.2.1 bt369.2.2.2.2.2.2.2.2.2.1 bt369.2.2.2.2.2.2.2.2.2.2.1 bt369.2.2.2.2.2.2.2.2.2.2.2.1).bind fun t414=>(some (t414==0))) else (none))) else (none)) else (none)) else (none)) else (none)) else (none)) else (none)) else (none)) else (none)) else (none)) else (none)) else (none)) else (none)) else (none)) else (none)) else (none)) else (none)) else (none)) else (none))) else (none)))) else (none)))) else (none))))
theorem spoorlaw11_lives.mono: ∀ k,LeO (spoorlaw11_lives.f k) (spoorlaw11_lives.f (k+1)):=by
 intro  k;unfold spoorlaw11_lives.f
 repeat' first
   | (with_reducible exact msg_Check.mono _ _ _ _ _ _ _ _ _ _ _ _ _)
   | (with_reducible exact msg_Get.mono _ _)
   | (with_reducible exact msg_GetAction.mono _ _)
   | (with_reducible exact msg_GetPrefix.mono _ _)
   | (with_reducible exact msg_Put.mono _ _ _ _ _ _ _ _ _ _ _ _ _)
   | (with_reducible exact msg_PutAction.mono _ _ _)
   | (with_reducible exact msg_PutPrefix.mono _ _ _ _ _)
   | (with_reducible exact LeO.refl _)
   | (with_reducible exact LeO.none _)
   | (with_reducible refine LeO.ite ?_ ?_)
   | (with_reducible refine LeO.bind ?_ (fun _ => ?_))
   | exact msg_Check.mono _ _ _ _ _ _ _ _ _ _ _ _ _
   | exact msg_Get.mono _ _
   | exact msg_GetAction.mono _ _
   | exact msg_GetPrefix.mono _ _
   | exact msg_Put.mono _ _ _ _ _ _ _ _ _ _ _ _ _
   | exact msg_PutAction.mono _ _ _
   | exact msg_PutPrefix.mono _ _ _ _ _
   | exact LeO.none _
   | refine LeO.ite ?_ ?_
   | refine LeO.bind ?_ (fun _ => ?_)
set_option maxHeartbeats 8000000 in
set_option maxRecDepth 100000 in
theorem spoorlaw11_lives.calls (k:Nat)  (r:Bool) (w:World) (h:spoorlaw11_lives.f k  =some r):
  Calls Try.prog 12 #[] w fun e w'=>e= .returned (.bool r)∧Below w.heap.size w w':=by
 have hu25:=Try.underlying25;have hu27:=Try.underlying27;have hu32:=Try.underlying32;have hu30:=Try.underlying30;have HB:=Ax (Below.refl w.heap.size w);have H:((msg_Put.f k 1 1 1 5 false 0 0 0 0 0 0 0).bind fun bt364=>((msg_Put.f k 3 1 2 300 false 0 167772160 8 1 7 0 0).bind fun bt367=>((msg_Get.f k bt367.1).bind fun bt369=>(if bt367.1.size+1≤9223372036854775807 then ((msg_Get.f k (bt367.1++(⟨#[0]⟩:ByteArray))).bind fun bt383=>((msg_PutPrefix.f k false 0 167772160 8).bind fun bt397=>(if bt397.1.size+1≤9223372036854775807 then ((msg_GetPrefix.f k (bt397.1++(⟨#[122]⟩:ByteArray))).bind fun bt399=>((msg_PutAction.f k 2 0).bind fun bt406=>(if bt406.1.size+1≤9223372036854775807 then ((msg_GetAction.f k (bt406.1++(⟨#[122]⟩:ByteArray))).bind fun bt408=>(if bt364.1.toList=([1,1,1,5]:List UInt8) then (if bt364.2=0 then (if bt367.1.toList=([3,1,2,172,2,4,8,10,1,7]:List UInt8) then (if bt367.2=0 then (if (!bt369.2.2.2.2.1&&((bt369.2.2.2.2.2.1==0&&(bt369.2.2.2.2.2.2.1==167772160))&&(bt369.2.2.2.2.2.2.2.1==8)))=true then (if bt369.2.2.2.2.2.2.2.2.2.1=7 then (if bt369.2.2.2.2.2.2.2.2.2.2.2.2=0 then (if bt383.2.2.2.2.2.2.2.2.2.2.2.2=7 then (if bt397.1.toList=([4,8,10]:List UInt8) then (if bt397.2=0 then (if (!bt399.1&&((bt399.2.1==0&&(bt399.2.2.1==167772160))&&(bt399.2.2.2.1==8)))=true then (if bt399.2.2.2.2.1.toList=([122]:List UInt8) then (if bt399.2.2.2.2.2=0 then (if bt406.1.toList=([2]:List UInt8) then (if bt406.2=0 then (if bt408.1=2 then (if bt408.2.2.1.toList=([122]:List UInt8) then (if bt408.2.2.2=0 then ((msg_Check.f k 3 1 2 300 false 0 167772160 8 1 7 1 0).bind fun t413=>(if t413=2 then ((msg_Check.f k bt369.1 bt369.2.1 bt369.2.2.1 bt369.2.2.2.1 bt369.2.2.2.2.1 bt369.2.2.2.2.2.1 bt369.2.2.2.2.2.2.1 bt369.2.2.2.2.2.2.2.1 bt369.2.2.2.2.2.2.2.2.1 bt369.2.2.2.2.2.2.2.2.2.1 bt369.2.2.2.2.2.2.2.2.2.2.1 bt369.2.2.2.2.2.2.2.2.2.2.2.1).bind fun t414=>(some (t414==0))) else (none))) else (none)) else (none)) else (none)) else (none)) else (none)) else (none)) else (none)) else (none)) else (none)) else (none)) else (none)) else (none)) else (none)) else (none)) else (none)) else (none)) else (none)) else (none))) else (none)))) else (none)))) else (none)))))=some r:=h;clear h;replace H:=Option.bind_eq_some_iff.mp H;obtain⟨⟨t364,t365⟩,A10,H⟩:=H;replace H:((msg_Put.f k 3 1 2 300 false 0 167772160 8 1 7 0 0).bind fun bt367=>((msg_Get.f k bt367.1).bind fun bt369=>(if bt367.1.size+1≤9223372036854775807 then ((msg_Get.f k (bt367.1++(⟨#[0]⟩:ByteArray))).bind fun bt383=>((msg_PutPrefix.f k false 0 167772160 8).bind fun bt397=>(if bt397.1.size+1≤9223372036854775807 then ((msg_GetPrefix.f k (bt397.1++(⟨#[122]⟩:ByteArray))).bind fun bt399=>((msg_PutAction.f k 2 0).bind fun bt406=>(if bt406.1.size+1≤9223372036854775807 then ((msg_GetAction.f k (bt406.1++(⟨#[122]⟩:ByteArray))).bind fun bt408=>(if t364.toList=([1,1,1,5]:List UInt8) then (if t365=0 then (if bt367.1.toList=([3,1,2,172,2,4,8,10,1,7]:List UInt8) then (if bt367.2=0 then (if (!bt369.2.2.2.2.1&&((bt369.2.2.2.2.2.1==0&&(bt369.2.2.2.2.2.2.1==167772160))&&(bt369.2.2.2.2.2.2.2.1==8)))=true then (if bt369.2.2.2.2.2.2.2.2.2.1=7 then (if bt369.2.2.2.2.2.2.2.2.2.2.2.2=0 then (if bt383.2.2.2.2.2.2.2.2.2.2.2.2=7 then (if bt397.1.toList=([4,8,10]:List UInt8) then (if bt397.2=0 then (if (!bt399.1&&((bt399.2.1==0&&(bt399.2.2.1==167772160))&&(bt399.2.2.2.1==8)))=true then (if bt399.2.2.2.2.1.toList=([122]:List UInt8) then (if bt399.2.2.2.2.2=0 then (if bt406.1.toList=([2]:List UInt8) then (if bt406.2=0 then (if bt408.1=2 then (if bt408.2.2.1.toList=([122]:List UInt8) then (if bt408.2.2.2=0 then ((msg_Check.f k 3 1 2 300 false 0 167772160 8 1 7 1 0).bind fun t413=>(if t413=2 then ((msg_Check.f k bt369.1 bt369.2.1 bt369.2.2.1 bt369.2.2.2.1 bt369.2.2.2.2.1 bt369.2.2.2.2.2.1 bt369.2.2.2.2.2.2.1 bt369.2.2.2.2.2.2.2.1 bt369.2.2.2.2.2.2.2.2.1 bt369.2.2.2.2.2.2.2.2.2.1 bt369.2.2.2.2.2.2.2.2.2.2.1 bt369.2.2.2.2.2.2.2.2.2.2.2.1).bind fun t414=>(some (t414==0))) else (none))) else (none)) else (none)) else (none)) else (none)) else (none)) else (none)) else (none)) else (none)) else (none)) else (none)) else (none)) else (none)) else (none)) else (none)) else (none)) else (none)) else (none)) else (none))) else (none)))) else (none)))) else (none))))=some r:=H;have A1:=Ax A10;clear A10;replace H:=Option.bind_eq_some_iff.mp H;obtain⟨⟨t367,t368⟩,A20,H⟩:=H;replace H:((msg_Get.f k t367).bind fun bt369=>(if t367.size+1≤9223372036854775807 then ((msg_Get.f k (t367++(⟨#[0]⟩:ByteArray))).bind fun bt383=>((msg_PutPrefix.f k false 0 167772160 8).bind fun bt397=>(if bt397.1.size+1≤9223372036854775807 then ((msg_GetPrefix.f k (bt397.1++(⟨#[122]⟩:ByteArray))).bind fun bt399=>((msg_PutAction.f k 2 0).bind fun bt406=>(if bt406.1.size+1≤9223372036854775807 then ((msg_GetAction.f k (bt406.1++(⟨#[122]⟩:ByteArray))).bind fun bt408=>(if t364.toList=([1,1,1,5]:List UInt8) then (if t365=0 then (if t367.toList=([3,1,2,172,2,4,8,10,1,7]:List UInt8) then (if t368=0 then (if (!bt369.2.2.2.2.1&&((bt369.2.2.2.2.2.1==0&&(bt369.2.2.2.2.2.2.1==167772160))&&(bt369.2.2.2.2.2.2.2.1==8)))=true then (if bt369.2.2.2.2.2.2.2.2.2.1=7 then (if bt369.2.2.2.2.2.2.2.2.2.2.2.2=0 then (if bt383.2.2.2.2.2.2.2.2.2.2.2.2=7 then (if bt397.1.toList=([4,8,10]:List UInt8) then (if bt397.2=0 then (if (!bt399.1&&((bt399.2.1==0&&(bt399.2.2.1==167772160))&&(bt399.2.2.2.1==8)))=true then (if bt399.2.2.2.2.1.toList=([122]:List UInt8) then (if bt399.2.2.2.2.2=0 then (if bt406.1.toList=([2]:List UInt8) then (if bt406.2=0 then (if bt408.1=2 then (if bt408.2.2.1.toList=([122]:List UInt8) then (if bt408.2.2.2=0 then ((msg_Check.f k 3 1 2 300 false 0 167772160 8 1 7 1 0).bind fun t413=>(if t413=2 then ((msg_Check.f k bt369.1 bt369.2.1 bt369.2.2.1 bt369.2.2.2.1 bt369.2.2.2.2.1 bt369.2.2.2.2.2.1 bt369.2.2.2.2.2.2.1 bt369.2.2.2.2.2.2.2.1 bt369.2.2.2.2.2.2.2.2.1 bt369.2.2.2.2.2.2.2.2.2.1 bt369.2.2.2.2.2.2.2.2.2.2.1 bt369.2.2.2.2.2.2.2.2.2.2.2.1).bind fun t414=>(some (t414==0))) else (none))) else (none)) else (none)) else (none)) else (none)) else (none)) else (none)) else (none)) else (none)) else (none)) else (none)) else (none)) else (none)) else (none)) else (none)) else (none)) else (none)) else (none)) else (none))) else (none)))) else (none)))) else (none)))=some r:=H;have A2:=Ax A20;clear A20;replace H:=Option.bind_eq_some_iff.mp H;obtain⟨⟨t369,t370,t371,t372,t373,t374,t375,t376,t377,t378,t379,t380,t381⟩,A30,H⟩:=H;replace H:(if t367.size+1≤9223372036854775807 then ((msg_Get.f k (t367++(⟨#[0]⟩:ByteArray))).bind fun bt383=>((msg_PutPrefix.f k false 0 167772160 8).bind fun bt397=>(if bt397.1.size+1≤9223372036854775807 then ((msg_GetPrefix.f k (bt397.1++(⟨#[122]⟩:ByteArray))).bind fun bt399=>((msg_PutAction.f k 2 0).bind fun bt406=>(if bt406.1.size+1≤9223372036854775807 then ((msg_GetAction.f k (bt406.1++(⟨#[122]⟩:ByteArray))).bind fun bt408=>(if t364.toList=([1,1,1,5]:List UInt8) then (if t365=0 then (if t367.toList=([3,1,2,172,2,4,8,10,1,7]:List UInt8) then (if t368=0 then (if (!t373&&((t374==0&&(t375==167772160))&&(t376==8)))=true then (if t378=7 then (if t381=0 then (if bt383.2.2.2.2.2.2.2.2.2.2.2.2=7 then (if bt397.1.toList=([4,8,10]:List UInt8) then (if bt397.2=0 then (if (!bt399.1&&((bt399.2.1==0&&(bt399.2.2.1==167772160))&&(bt399.2.2.2.1==8)))=true then (if bt399.2.2.2.2.1.toList=([122]:List UInt8) then (if bt399.2.2.2.2.2=0 then (if bt406.1.toList=([2]:List UInt8) then (if bt406.2=0 then (if bt408.1=2 then (if bt408.2.2.1.toList=([122]:List UInt8) then (if bt408.2.2.2=0 then ((msg_Check.f k 3 1 2 300 false 0 167772160 8 1 7 1 0).bind fun t413=>(if t413=2 then ((msg_Check.f k t369 t370 t371 t372 t373 t374 t375 t376 t377 t378 t379 t380).bind fun t414=>(some (t414==0))) else (none))) else (none)) else (none)) else (none)) else (none)) else (none)) else (none)) else (none)) else (none)) else (none)) else (none)) else (none)) else (none)) else (none)) else (none)) else (none)) else (none)) else (none)) else (none))) else (none)))) else (none)))) else (none))=some r:=H;have A3:=Ax A30;clear A30;by_cases c4:t367.size+1≤9223372036854775807
 ·rw [if_pos c4]at H;have c4b0:=eq_true c4;have c4b1:decide (t367.size+1≤9223372036854775807)=true:=decide_eq_true c4;try have c4b2:(9223372036854775807<t367.size+1)=False:=eq_false (Nat.not_lt.2 c4)
  replace H:=Option.bind_eq_some_iff.mp H;obtain⟨⟨t383,t384,t385,t386,t387,t388,t389,t390,t391,t392,t393,t394,t395⟩,A50,H⟩:=H;replace H:((msg_PutPrefix.f k false 0 167772160 8).bind fun bt397=>(if bt397.1.size+1≤9223372036854775807 then ((msg_GetPrefix.f k (bt397.1++(⟨#[122]⟩:ByteArray))).bind fun bt399=>((msg_PutAction.f k 2 0).bind fun bt406=>(if bt406.1.size+1≤9223372036854775807 then ((msg_GetAction.f k (bt406.1++(⟨#[122]⟩:ByteArray))).bind fun bt408=>(if t364.toList=([1,1,1,5]:List UInt8) then (if t365=0 then (if t367.toList=([3,1,2,172,2,4,8,10,1,7]:List UInt8) then (if t368=0 then (if (!t373&&((t374==0&&(t375==167772160))&&(t376==8)))=true then (if t378=7 then (if t381=0 then (if t395=7 then (if bt397.1.toList=([4,8,10]:List UInt8) then (if bt397.2=0 then (if (!bt399.1&&((bt399.2.1==0&&(bt399.2.2.1==167772160))&&(bt399.2.2.2.1==8)))=true then (if bt399.2.2.2.2.1.toList=([122]:List UInt8) then (if bt399.2.2.2.2.2=0 then (if bt406.1.toList=([2]:List UInt8) then (if bt406.2=0 then (if bt408.1=2 then (if bt408.2.2.1.toList=([122]:List UInt8) then (if bt408.2.2.2=0 then ((msg_Check.f k 3 1 2 300 false 0 167772160 8 1 7 1 0).bind fun t413=>(if t413=2 then ((msg_Check.f k t369 t370 t371 t372 t373 t374 t375 t376 t377 t378 t379 t380).bind fun t414=>(some (t414==0))) else (none))) else (none)) else (none)) else (none)) else (none)) else (none)) else (none)) else (none)) else (none)) else (none)) else (none)) else (none)) else (none)) else (none)) else (none)) else (none)) else (none)) else (none)) else (none))) else (none)))) else (none)))=some r:=H;have A5:=Ax A50;clear A50;replace H:=Option.bind_eq_some_iff.mp H;obtain⟨⟨t397,t398⟩,A60,H⟩:=H;replace H:(if t397.size+1≤9223372036854775807 then ((msg_GetPrefix.f k (t397++(⟨#[122]⟩:ByteArray))).bind fun bt399=>((msg_PutAction.f k 2 0).bind fun bt406=>(if bt406.1.size+1≤9223372036854775807 then ((msg_GetAction.f k (bt406.1++(⟨#[122]⟩:ByteArray))).bind fun bt408=>(if t364.toList=([1,1,1,5]:List UInt8) then (if t365=0 then (if t367.toList=([3,1,2,172,2,4,8,10,1,7]:List UInt8) then (if t368=0 then (if (!t373&&((t374==0&&(t375==167772160))&&(t376==8)))=true then (if t378=7 then (if t381=0 then (if t395=7 then (if t397.toList=([4,8,10]:List UInt8) then (if t398=0 then (if (!bt399.1&&((bt399.2.1==0&&(bt399.2.2.1==167772160))&&(bt399.2.2.2.1==8)))=true then (if bt399.2.2.2.2.1.toList=([122]:List UInt8) then (if bt399.2.2.2.2.2=0 then (if bt406.1.toList=([2]:List UInt8) then (if bt406.2=0 then (if bt408.1=2 then (if bt408.2.2.1.toList=([122]:List UInt8) then (if bt408.2.2.2=0 then ((msg_Check.f k 3 1 2 300 false 0 167772160 8 1 7 1 0).bind fun t413=>(if t413=2 then ((msg_Check.f k t369 t370 t371 t372 t373 t374 t375 t376 t377 t378 t379 t380).bind fun t414=>(some (t414==0))) else (none))) else (none)) else (none)) else (none)) else (none)) else (none)) else (none)) else (none)) else (none)) else (none)) else (none)) else (none)) else (none)) else (none)) else (none)) else (none)) else (none)) else (none)) else (none))) else (none)))) else (none))=some r:=H;have A6:=Ax A60;clear A60;by_cases c7:t397.size+1≤9223372036854775807
  ·rw [if_pos c7]at H;have c7b0:=eq_true c7;have c7b1:decide (t397.size+1≤9223372036854775807)=true:=decide_eq_true c7;try have c7b2:(9223372036854775807<t397.size+1)=False:=eq_false (Nat.not_lt.2 c7)
   replace H:=Option.bind_eq_some_iff.mp H;obtain⟨⟨t399,t400,t401,t402,t403,t404⟩,A80,H⟩:=H;replace H:((msg_PutAction.f k 2 0).bind fun bt406=>(if bt406.1.size+1≤9223372036854775807 then ((msg_GetAction.f k (bt406.1++(⟨#[122]⟩:ByteArray))).bind fun bt408=>(if t364.toList=([1,1,1,5]:List UInt8) then (if t365=0 then (if t367.toList=([3,1,2,172,2,4,8,10,1,7]:List UInt8) then (if t368=0 then (if (!t373&&((t374==0&&(t375==167772160))&&(t376==8)))=true then (if t378=7 then (if t381=0 then (if t395=7 then (if t397.toList=([4,8,10]:List UInt8) then (if t398=0 then (if (!t399&&((t400==0&&(t401==167772160))&&(t402==8)))=true then (if t403.toList=([122]:List UInt8) then (if t404=0 then (if bt406.1.toList=([2]:List UInt8) then (if bt406.2=0 then (if bt408.1=2 then (if bt408.2.2.1.toList=([122]:List UInt8) then (if bt408.2.2.2=0 then ((msg_Check.f k 3 1 2 300 false 0 167772160 8 1 7 1 0).bind fun t413=>(if t413=2 then ((msg_Check.f k t369 t370 t371 t372 t373 t374 t375 t376 t377 t378 t379 t380).bind fun t414=>(some (t414==0))) else (none))) else (none)) else (none)) else (none)) else (none)) else (none)) else (none)) else (none)) else (none)) else (none)) else (none)) else (none)) else (none)) else (none)) else (none)) else (none)) else (none)) else (none)) else (none))) else (none)))=some r:=H;have A8:=Ax A80;clear A80;replace H:=Option.bind_eq_some_iff.mp H;obtain⟨⟨t406,t407⟩,A90,H⟩:=H;replace H:(if t406.size+1≤9223372036854775807 then ((msg_GetAction.f k (t406++(⟨#[122]⟩:ByteArray))).bind fun bt408=>(if t364.toList=([1,1,1,5]:List UInt8) then (if t365=0 then (if t367.toList=([3,1,2,172,2,4,8,10,1,7]:List UInt8) then (if t368=0 then (if (!t373&&((t374==0&&(t375==167772160))&&(t376==8)))=true then (if t378=7 then (if t381=0 then (if t395=7 then (if t397.toList=([4,8,10]:List UInt8) then (if t398=0 then (if (!t399&&((t400==0&&(t401==167772160))&&(t402==8)))=true then (if t403.toList=([122]:List UInt8) then (if t404=0 then (if t406.toList=([2]:List UInt8) then (if t407=0 then (if bt408.1=2 then (if bt408.2.2.1.toList=([122]:List UInt8) then (if bt408.2.2.2=0 then ((msg_Check.f k 3 1 2 300 false 0 167772160 8 1 7 1 0).bind fun t413=>(if t413=2 then ((msg_Check.f k t369 t370 t371 t372 t373 t374 t375 t376 t377 t378 t379 t380).bind fun t414=>(some (t414==0))) else (none))) else (none)) else (none)) else (none)) else (none)) else (none)) else (none)) else (none)) else (none)) else (none)) else (none)) else (none)) else (none)) else (none)) else (none)) else (none)) else (none)) else (none)) else (none))) else (none))=some r:=H;have A9:=Ax A90;clear A90;by_cases c10:t406.size+1≤9223372036854775807
   ·rw [if_pos c10]at H;have c10b0:=eq_true c10;have c10b1:decide (t406.size+1≤9223372036854775807)=true:=decide_eq_true c10;try have c10b2:(9223372036854775807<t406.size+1)=False:=eq_false (Nat.not_lt.2 c10)
    replace H:=Option.bind_eq_some_iff.mp H;obtain⟨⟨t408,t409,t410,t411⟩,A110,H⟩:=H;replace H:(if t364.toList=([1,1,1,5]:List UInt8) then (if t365=0 then (if t367.toList=([3,1,2,172,2,4,8,10,1,7]:List UInt8) then (if t368=0 then (if (!t373&&((t374==0&&(t375==167772160))&&(t376==8)))=true then (if t378=7 then (if t381=0 then (if t395=7 then (if t397.toList=([4,8,10]:List UInt8) then (if t398=0 then (if (!t399&&((t400==0&&(t401==167772160))&&(t402==8)))=true then (if t403.toList=([122]:List UInt8) then (if t404=0 then (if t406.toList=([2]:List UInt8) then (if t407=0 then (if t408=2 then (if t410.toList=([122]:List UInt8) then (if t411=0 then ((msg_Check.f k 3 1 2 300 false 0 167772160 8 1 7 1 0).bind fun t413=>(if t413=2 then ((msg_Check.f k t369 t370 t371 t372 t373 t374 t375 t376 t377 t378 t379 t380).bind fun t414=>(some (t414==0))) else (none))) else (none)) else (none)) else (none)) else (none)) else (none)) else (none)) else (none)) else (none)) else (none)) else (none)) else (none)) else (none)) else (none)) else (none)) else (none)) else (none)) else (none)) else (none))=some r:=H;have A11:=Ax A110;clear A110;by_cases c12:t364.toList=([1,1,1,5]:List UInt8)
    ·rw [if_pos c12]at H;have c12b0:(t364.toList==([1,1,1,5]:List UInt8))=true:=beq_iff_eq.mpr c12;have c12b1:(t364.toList !=([1,1,1,5]:List UInt8))=false:=bne_eq_false_iff_eq.mpr c12;clear c12;by_cases c13:t365=0
     ·rw [if_pos c13]at H;have c13b0:(t365==0)=true:=beq_iff_eq.mpr c13;have c13b1:(t365 !=0)=false:=bne_eq_false_iff_eq.mpr c13;clear c13;by_cases c14:t367.toList=([3,1,2,172,2,4,8,10,1,7]:List UInt8)
      ·rw [if_pos c14]at H;have c14b0:(t367.toList==([3,1,2,172,2,4,8,10,1,7]:List UInt8))=true:=beq_iff_eq.mpr c14;have c14b1:(t367.toList !=([3,1,2,172,2,4,8,10,1,7]:List UInt8))=false:=bne_eq_false_iff_eq.mpr c14;clear c14;by_cases c15:t368=0
       ·rw [if_pos c15]at H;have c15b0:(t368==0)=true:=beq_iff_eq.mpr c15;have c15b1:(t368 !=0)=false:=bne_eq_false_iff_eq.mpr c15;clear c15;by_cases c16:(!t373&&((t374==0&&(t375==167772160))&&(t376==8)))=true
        ·rw [if_pos c16]at H;have c16b0:(!t373&&((t374==0&&(t375==167772160))&&(t376==8)))=true:=c16;clear c16;by_cases c17:t378=7
         ·rw [if_pos c17]at H;have c17b0:(t378==7)=true:=beq_iff_eq.mpr c17;have c17b1:(t378 !=7)=false:=bne_eq_false_iff_eq.mpr c17;clear c17;by_cases c18:t381=0
          ·rw [if_pos c18]at H;have c18b0:(t381==0)=true:=beq_iff_eq.mpr c18;have c18b1:(t381 !=0)=false:=bne_eq_false_iff_eq.mpr c18;clear c18;by_cases c19:t395=7
           ·rw [if_pos c19]at H;have c19b0:(t395==7)=true:=beq_iff_eq.mpr c19;have c19b1:(t395 !=7)=false:=bne_eq_false_iff_eq.mpr c19;clear c19;by_cases c20:t397.toList=([4,8,10]:List UInt8)
            ·rw [if_pos c20]at H;have c20b0:(t397.toList==([4,8,10]:List UInt8))=true:=beq_iff_eq.mpr c20;have c20b1:(t397.toList !=([4,8,10]:List UInt8))=false:=bne_eq_false_iff_eq.mpr c20;clear c20;by_cases c21:t398=0
             ·rw [if_pos c21]at H;have c21b0:(t398==0)=true:=beq_iff_eq.mpr c21;have c21b1:(t398 !=0)=false:=bne_eq_false_iff_eq.mpr c21;clear c21;by_cases c22:(!t399&&((t400==0&&(t401==167772160))&&(t402==8)))=true
              ·rw [if_pos c22]at H;have c22b0:(!t399&&((t400==0&&(t401==167772160))&&(t402==8)))=true:=c22;clear c22;by_cases c23:t403.toList=([122]:List UInt8)
               ·rw [if_pos c23]at H;have c23b0:(t403.toList==([122]:List UInt8))=true:=beq_iff_eq.mpr c23;have c23b1:(t403.toList !=([122]:List UInt8))=false:=bne_eq_false_iff_eq.mpr c23;clear c23;by_cases c24:t404=0
                ·rw [if_pos c24]at H;have c24b0:(t404==0)=true:=beq_iff_eq.mpr c24;have c24b1:(t404 !=0)=false:=bne_eq_false_iff_eq.mpr c24;clear c24;by_cases c25:t406.toList=([2]:List UInt8)
                 ·rw [if_pos c25]at H;have c25b0:(t406.toList==([2]:List UInt8))=true:=beq_iff_eq.mpr c25;have c25b1:(t406.toList !=([2]:List UInt8))=false:=bne_eq_false_iff_eq.mpr c25;clear c25;by_cases c26:t407=0
                  ·rw [if_pos c26]at H;have c26b0:(t407==0)=true:=beq_iff_eq.mpr c26;have c26b1:(t407 !=0)=false:=bne_eq_false_iff_eq.mpr c26;clear c26;by_cases c27:t408=2
                   ·rw [if_pos c27]at H;have c27b0:(t408==2)=true:=beq_iff_eq.mpr c27;have c27b1:(t408 !=2)=false:=bne_eq_false_iff_eq.mpr c27;clear c27;by_cases c28:t410.toList=([122]:List UInt8)
                    ·rw [if_pos c28]at H;have c28b0:(t410.toList==([122]:List UInt8))=true:=beq_iff_eq.mpr c28;have c28b1:(t410.toList !=([122]:List UInt8))=false:=bne_eq_false_iff_eq.mpr c28;clear c28;by_cases c29:t411=0
                     ·rw [if_pos c29]at H;have c29b0:(t411==0)=true:=beq_iff_eq.mpr c29;have c29b1:(t411 !=0)=false:=bne_eq_false_iff_eq.mpr c29;clear c29;replace H:=Option.bind_eq_some_iff.mp H;obtain⟨t413,A300,H⟩:=H;replace H:(if t413=2 then ((msg_Check.f k t369 t370 t371 t372 t373 t374 t375 t376 t377 t378 t379 t380).bind fun t414=>(some (t414==0))) else (none))=some r:=H;have A30:=Ax A300;clear A300;by_cases c31:t413=2;·rw [if_pos c31]at H;have c31b0:(t413==2)=true:=beq_iff_eq.mpr c31;have c31b1:(t413 !=2)=false:=bne_eq_false_iff_eq.mpr c31;clear c31;replace H:=Option.bind_eq_some_iff.mp H;obtain⟨t414,A320,H⟩:=H;replace H:(some (t414==0))=some r:=H;have A32:=Ax A320;clear A320;obtain rfl:=Option.some.inj H;go_enter Try.func12,Try.ntmps12;go_wp2_with (first|((with_reducible refine gate_dst (N:=1) rfl ?_);refine box_event ?hg (N:=1) ?hd (cs:= #[.bool false,.int .u64 0,.int .u64 0,.int .i64 0]) (t:=27) ?hr ?_;(case hd=>rfl);(case hg=>rfl);(case hr=>first|(go_simp;done)|(go_simp;rfl));intro gb363 hg w33 hbox hb;have n0_:=Bs0 HB hb;have n1_:=Ax (hbox);have n2_:=Gw0 HB hg;have n3_:=Gw0 HB hg;clear HB;have HB:=n0_;have BK363:=n1_;have GW363:=n2_;have GE363:=n3_;clear n0_ n1_ n2_ n3_;clear hb hbox hg;obtain⟨hcz34_0,hcz34_1,hcz34_2,hcz34_3,hfz34_0,hfz34_1,hfz34_2,hfz34_3⟩:=cl4 BK363)|((with_reducible refine gate_callee (f:=8) rfl ?_);refine goesL_ (some 25) rfl rfl Try.func8 (by kernel_rfl) rfl #[.agg #[.int .u8 1,.int .i64 1,.int .u64 1,.int .i64 5,.bool false,.int .u64 0,.int .u64 0,.int .i64 0,.int .u8 0,.int .i64 0,.int .i64 0,.int .i64 0]] rfl gS ?_;(with_reducible refine (msg_Put.calls k 1 1 1 5 false 0 0 0 0 0 0 0 t364 t365 _ A1.out).mono ?_);rintro e w35 ⟨rfl,hb⟩;refine⟨_,rfl,?_⟩;have n0_:=Ax (blk_below (g:=gb363) (o:=.cells #[.bool false,.int .u64 0,.int .u64 167772160,.int .i64 8] 27 (0,0)) (gB BK363.out) hb);have n1_:=Bs1 HB hb GE363.out;clear BK363;clear HB;have BK363:=n0_;have HB:=n1_;clear n0_ n1_;(try clear hb);obtain⟨hcz36_0,hcz36_1,hcz36_2,hcz36_3,hfz36_0,hfz36_1,hfz36_2,hfz36_3⟩:=cl4 BK363)|((with_reducible refine gate_dst (N:=4) rfl ?_);refine box_event ?hg (N:=4) ?hd (cs:= #[.int .u8 0,.int .i64 0,.int .u64 0,.int .i64 0,.bool false,.int .u64 0,.int .u64 0,.int .i64 0,.int .u8 0,.int .i64 0,.int .i64 0,.int .i64 0]) (t:=32) ?hr ?_;(case hd=>rfl);(case hg=>rfl);(case hr=>first|(go_simp;done)|(go_simp;rfl));intro gb366 hg w37 hbox hb;have n0_:=Bx0 BK363 hb;have n1_:=Bs1 HB hb GE363.out;have n2_:=Ax (hbox);have n3_:=Gw1 HB hg GE363.out;have n4_:=Gw1 HB hg GE363.out;have n5_:=Nl0 BK363 hg;have n6_:=Nr0 BK363 hg;clear BK363;clear HB;have BK363:=n0_;have HB:=n1_;have BK366:=n2_;have GW366:=n3_;have GE366:=n4_;have NB363_366:=n5_;have NB366_363:=n6_;clear n0_ n1_ n2_ n3_ n4_ n5_ n6_;clear hb hbox hg;have hnb38:=NB366_363.out;have hnc38:=NB363_366.out;obtain⟨hcz39_0,hcz39_1,hcz39_2,hcz39_3,hcz39_4,hcz39_5,hcz39_6,hcz39_7,hcz39_8,hcz39_9,hcz39_10,hcz39_11,hfz39_0,hfz39_1,hfz39_2,hfz39_3,hfz39_4,hfz39_5,hfz39_6,hfz39_7,hfz39_8,hfz39_9,hfz39_10,hfz39_11⟩:=cl12 BK366)|((with_reducible refine gate_callee (f:=8) rfl ?_);refine goesL_ (some 33) rfl rfl Try.func8 (by kernel_rfl) rfl #[.agg #[.int .u8 3,.int .i64 1,.int .u64 2,.int .i64 300,.bool false,.int .u64 0,.int .u64 167772160,.int .i64 8,.int .u8 1,.int .i64 7,.int .i64 0,.int .i64 0]] rfl gS ?_;(with_reducible refine (msg_Put.calls k 3 1 2 300 false 0 167772160 8 1 7 0 0 t367 t368 _ A2.out).mono ?_);rintro e w40 ⟨rfl,hb⟩;refine⟨_,rfl,?_⟩;have n0_:=Ax (blk_below (g:=gb363) (o:=.cells #[.bool false,.int .u64 0,.int .u64 167772160,.int .i64 8] 27 (0,0)) (by (repeat (first|(with_reducible first|refine blk_drewN ?_ _|refine blk_drew ?_|refine blk_alloc ?_ _)|refine blk_far ?_ NB363_366.out _));exact BK363.out) hb);have n1_:=Ax (blk_below (g:=gb366) (o:=.cells #[.int .u8 3,.int .i64 1,.int .u64 2,.int .i64 300,.bool false,.int .u64 0,.int .u64 167772160,.int .i64 8,.int .u8 1,.int .i64 7,.int .i64 0,.int .i64 0] 32 (0,0)) (gB BK366.out) hb);have n2_:=Bs2 HB hb GE363.out GE366.out;clear BK363;clear BK366;clear HB;have BK363:=n0_;have BK366:=n1_;have HB:=n2_;clear n0_ n1_ n2_;(try clear hb))|((with_reducible refine gate_callee (f:=10) rfl ?_);refine goesL_ (some 38) rfl rfl Try.func10 (by kernel_rfl) rfl #[.string t367] rfl gS ?_;(with_reducible refine (msg_Get.calls k t367 t369 t370 t371 t372 t373 t374 t375 t376 t377 t378 t379 t380 t381 _ A3.out).mono ?_);rintro e w41 ⟨rfl,hb⟩;refine⟨_,rfl,?_⟩;replace BK363:=Bx0 BK363 hb;replace BK366:=Bx0 BK366 hb;replace HB:=Bs2 HB hb GE363.out GE366.out;(try clear hb))|((with_reducible refine gate_dst (N:=7) rfl ?_);refine box_event ?hg (N:=7) ?hd (cs:= #[.int .u8 0,.int .i64 0,.int .u64 0,.int .i64 0,.bool false,.int .u64 0,.int .u64 0,.int .i64 0,.int .u8 0,.int .i64 0,.int .i64 0,.int .i64 0]) (t:=32) ?hr ?_;(case hd=>rfl);(case hg=>rfl);(case hr=>first|(go_simp;done)|(go_simp;rfl));intro gb382 hg w42 hbox hb;have n0_:=Bx0 BK363 hb;have n1_:=Bx0 BK366 hb;have n2_:=Bs2 HB hb GE363.out GE366.out;have n3_:=Ax (hbox);have n4_:=Gw2 HB hg GE363.out GE366.out;have n5_:=Gw2 HB hg GE363.out GE366.out;have n6_:=Nl0 BK363 hg;have n7_:=Nr0 BK363 hg;have n8_:=Nl0 BK366 hg;have n9_:=Nr0 BK366 hg;clear BK363;clear BK366;clear HB;have BK363:=n0_;have BK366:=n1_;have HB:=n2_;have BK382:=n3_;have GW382:=n4_;have GE382:=n5_;have NB363_382:=n6_;have NB382_363:=n7_;have NB366_382:=n8_;have NB382_366:=n9_;clear n0_ n1_ n2_ n3_ n4_ n5_ n6_ n7_ n8_ n9_;clear hb hbox hg;have hnb43:=NB382_363.out;have hnc43:=NB363_382.out;have hnb44:=NB382_366.out;have hnc44:=NB366_382.out;obtain⟨hcz45_0,hcz45_1,hcz45_2,hcz45_3,hcz45_4,hcz45_5,hcz45_6,hcz45_7,hcz45_8,hcz45_9,hcz45_10,hcz45_11,hfz45_0,hfz45_1,hfz45_2,hfz45_3,hfz45_4,hfz45_5,hfz45_6,hfz45_7,hfz45_8,hfz45_9,hfz45_10,hfz45_11⟩:=cl12 BK382)|((with_reducible refine gate_callee (f:=10) rfl ?_);refine goesL_ (some 44) rfl rfl Try.func10 (by kernel_rfl) rfl #[.string (t367++(⟨#[0]⟩:ByteArray))] rfl gS ?_;(with_reducible refine (msg_Get.calls k (t367++(⟨#[0]⟩:ByteArray)) t383 t384 t385 t386 t387 t388 t389 t390 t391 t392 t393 t394 t395 _ A5.out).mono ?_);rintro e w46 ⟨rfl,hb⟩;refine⟨_,rfl,?_⟩;have n0_:=Ax (blk_below (g:=gb363) (o:=.cells #[.bool false,.int .u64 0,.int .u64 167772160,.int .i64 8] 27 (0,0)) (by (repeat (first|(with_reducible first|refine blk_drewN ?_ _|refine blk_drew ?_|refine blk_alloc ?_ _)|refine blk_far ?_ NB363_382.out _));exact BK363.out) hb);have n1_:=Ax (blk_below (g:=gb366) (o:=.cells #[.int .u8 3,.int .i64 1,.int .u64 2,.int .i64 300,.bool false,.int .u64 0,.int .u64 167772160,.int .i64 8,.int .u8 1,.int .i64 7,.int .i64 0,.int .i64 0] 32 (0,0)) (by (repeat (first|(with_reducible first|refine blk_drewN ?_ _|refine blk_drew ?_|refine blk_alloc ?_ _)|refine blk_far ?_ NB366_382.out _));exact BK366.out) hb);have n2_:=Ax (blk_below (g:=gb382) (o:=.cells #[.int .u8 t369,.int .i64 t370,.int .u64 t371,.int .i64 t372,.bool t373,.int .u64 t374,.int .u64 t375,.int .i64 t376,.int .u8 t377,.int .i64 t378,.int .i64 t379,.int .i64 t380] 32 (0,0)) (gB BK382.out) hb);have n3_:=Bs3 HB hb GE363.out GE366.out GE382.out;clear BK363;clear BK366;clear BK382;clear HB;have BK363:=n0_;have BK366:=n1_;have BK382:=n2_;have HB:=n3_;clear n0_ n1_ n2_ n3_;(try clear hb))|((with_reducible refine gate_dst (N:=9) rfl ?_);refine box_event ?hg (N:=9) ?hd (cs:= #[.int .u8 0,.int .i64 0,.int .u64 0,.int .i64 0,.bool false,.int .u64 0,.int .u64 0,.int .i64 0,.int .u8 0,.int .i64 0,.int .i64 0,.int .i64 0]) (t:=32) ?hr ?_;(case hd=>rfl);(case hg=>rfl);(case hr=>first|(go_simp;done)|(go_simp;rfl));intro gb396 hg w47 hbox hb;have n0_:=Bx0 BK363 hb;have n1_:=Bx0 BK366 hb;have n2_:=Bx0 BK382 hb;have n3_:=Bs3 HB hb GE363.out GE366.out GE382.out;have n4_:=Ax (hbox);have n5_:=Gw3 HB hg GE363.out GE366.out GE382.out;have n6_:=Gw3 HB hg GE363.out GE366.out GE382.out;have n7_:=Nl0 BK363 hg;have n8_:=Nr0 BK363 hg;have n9_:=Nl0 BK366 hg;have n10_:=Nr0 BK366 hg;have n11_:=Nl0 BK382 hg;have n12_:=Nr0 BK382 hg;clear BK363;clear BK366;clear BK382;clear HB;have BK363:=n0_;have BK366:=n1_;have BK382:=n2_;have HB:=n3_;have BK396:=n4_;have GW396:=n5_;have GE396:=n6_;have NB363_396:=n7_;have NB396_363:=n8_;have NB366_396:=n9_;have NB396_366:=n10_;have NB382_396:=n11_;have NB396_382:=n12_;clear n0_ n1_ n2_ n3_ n4_ n5_ n6_ n7_ n8_ n9_ n10_ n11_ n12_;clear hb hbox hg;have hnb48:=NB396_363.out;have hnc48:=NB363_396.out;have hnb49:=NB396_366.out;have hnc49:=NB366_396.out;have hnb50:=NB396_382.out;have hnc50:=NB382_396.out;obtain⟨hcz51_0,hcz51_1,hcz51_2,hcz51_3,hcz51_4,hcz51_5,hcz51_6,hcz51_7,hcz51_8,hcz51_9,hcz51_10,hcz51_11,hfz51_0,hfz51_1,hfz51_2,hfz51_3,hfz51_4,hfz51_5,hfz51_6,hfz51_7,hfz51_8,hfz51_9,hfz51_10,hfz51_11⟩:=cl12 BK396;obtain⟨hcz52_0,hcz52_1,hcz52_2,hcz52_3,hfz52_0,hfz52_1,hfz52_2,hfz52_3⟩:=cl4 BK363)|((with_reducible refine gate_callee (f:=15) rfl ?_);refine goesL_ (some 49) rfl rfl Try.func15 (by kernel_rfl) rfl #[.agg #[.bool false,.int .u64 0,.int .u64 167772160,.int .i64 8]] rfl gS ?_;(with_reducible refine (msg_PutPrefix.calls k false 0 167772160 8 t397 t398 _ A6.out).mono ?_);rintro e w53 ⟨rfl,hb⟩;refine⟨_,rfl,?_⟩;have n0_:=Ax (blk_below (g:=gb363) (o:=.cells #[.bool false,.int .u64 0,.int .u64 167772160,.int .i64 8] 27 (0,0)) (by (repeat (first|(with_reducible first|refine blk_drewN ?_ _|refine blk_drew ?_|refine blk_alloc ?_ _)|refine blk_far ?_ NB363_396.out _));exact BK363.out) hb);have n1_:=Ax (blk_below (g:=gb366) (o:=.cells #[.int .u8 3,.int .i64 1,.int .u64 2,.int .i64 300,.bool false,.int .u64 0,.int .u64 167772160,.int .i64 8,.int .u8 1,.int .i64 7,.int .i64 0,.int .i64 0] 32 (0,0)) (by (repeat (first|(with_reducible first|refine blk_drewN ?_ _|refine blk_drew ?_|refine blk_alloc ?_ _)|refine blk_far ?_ NB366_396.out _));exact BK366.out) hb);have n2_:=Ax (blk_below (g:=gb382) (o:=.cells #[.int .u8 t369,.int .i64 t370,.int .u64 t371,.int .i64 t372,.bool t373,.int .u64 t374,.int .u64 t375,.int .i64 t376,.int .u8 t377,.int .i64 t378,.int .i64 t379,.int .i64 t380] 32 (0,0)) (by (repeat (first|(with_reducible first|refine blk_drewN ?_ _|refine blk_drew ?_|refine blk_alloc ?_ _)|refine blk_far ?_ NB382_396.out _));exact BK382.out) hb);have n3_:=Ax (blk_below (g:=gb396) (o:=.cells #[.int .u8 t383,.int .i64 t384,.int .u64 t385,.int .i64 t386,.bool t387,.int .u64 t388,.int .u64 t389,.int .i64 t390,.int .u8 t391,.int .i64 t392,.int .i64 t393,.int .i64 t394] 32 (0,0)) (gB BK396.out) hb);have n4_:=Bs4 HB hb GE363.out GE366.out GE382.out GE396.out;clear BK363;clear BK366;clear BK382;clear BK396;clear HB;have BK363:=n0_;have BK366:=n1_;have BK382:=n2_;have BK396:=n3_;have HB:=n4_;clear n0_ n1_ n2_ n3_ n4_;(try clear hb))|((with_reducible refine gate_callee (f:=17) rfl ?_);refine goesL_ (some 55) rfl rfl Try.func17 (by kernel_rfl) rfl #[.string (t397++(⟨#[122]⟩:ByteArray))] rfl gS ?_;(with_reducible refine (msg_GetPrefix.calls k (t397++(⟨#[122]⟩:ByteArray)) t399 t400 t401 t402 t403 t404 _ A8.out).mono ?_);rintro e w54 ⟨rfl,hb⟩;refine⟨_,rfl,?_⟩;replace BK363:=Bx0 BK363 hb;replace BK366:=Bx0 BK366 hb;replace BK382:=Bx0 BK382 hb;replace BK396:=Bx0 BK396 hb;replace HB:=Bs4 HB hb GE363.out GE366.out GE382.out GE396.out;(try clear hb))|((with_reducible refine gate_dst (N:=13) rfl ?_);refine box_event ?hg (N:=13) ?hd (cs:= #[.bool false,.int .u64 0,.int .u64 0,.int .i64 0]) (t:=27) ?hr ?_;(case hd=>rfl);(case hg=>rfl);(case hr=>first|(go_simp;done)|(go_simp;rfl));intro gb405 hg w55 hbox hb;have n0_:=Bx0 BK363 hb;have n1_:=Bx0 BK366 hb;have n2_:=Bx0 BK382 hb;have n3_:=Bx0 BK396 hb;have n4_:=Bs4 HB hb GE363.out GE366.out GE382.out GE396.out;have n5_:=Ax (hbox);have n6_:=Gw4 HB hg GE363.out GE366.out GE382.out GE396.out;have n7_:=Gw4 HB hg GE363.out GE366.out GE382.out GE396.out;have n8_:=Nl0 BK363 hg;have n9_:=Nr0 BK363 hg;have n10_:=Nl0 BK366 hg;have n11_:=Nr0 BK366 hg;have n12_:=Nl0 BK382 hg;have n13_:=Nr0 BK382 hg;have n14_:=Nl0 BK396 hg;have n15_:=Nr0 BK396 hg;clear BK363;clear BK366;clear BK382;clear BK396;clear HB;have BK363:=n0_;have BK366:=n1_;have BK382:=n2_;have BK396:=n3_;have HB:=n4_;have BK405:=n5_;have GW405:=n6_;have GE405:=n7_;have NB363_405:=n8_;have NB405_363:=n9_;have NB366_405:=n10_;have NB405_366:=n11_;have NB382_405:=n12_;have NB405_382:=n13_;have NB396_405:=n14_;have NB405_396:=n15_;clear n0_ n1_ n2_ n3_ n4_ n5_ n6_ n7_ n8_ n9_ n10_ n11_ n12_ n13_ n14_ n15_;clear hb hbox hg;have hnb56:=NB405_363.out;have hnc56:=NB363_405.out;have hnb57:=NB405_366.out;have hnc57:=NB366_405.out;have hnb58:=NB405_382.out;have hnc58:=NB382_405.out;have hnb59:=NB405_396.out;have hnc59:=NB396_405.out;obtain⟨hcz60_0,hcz60_1,hcz60_2,hcz60_3,hfz60_0,hfz60_1,hfz60_2,hfz60_3⟩:=cl4 BK405)|((with_reducible refine gate_callee (f:=19) rfl ?_);refine goesL_ (some 61) rfl rfl Try.func19 (by kernel_rfl) rfl #[.agg #[.int .u8 2,.int .i64 0]] rfl gS ?_;(with_reducible refine (msg_PutAction.calls k 2 0 t406 t407 _ A9.out).mono ?_);rintro e w61 ⟨rfl,hb⟩;refine⟨_,rfl,?_⟩;have n0_:=Bx4 BK363 hb NB363_405.out NB363_405.out NB363_405.out NB363_405.out;have n1_:=Bx4 BK366 hb NB366_405.out NB366_405.out NB366_405.out NB366_405.out;have n2_:=Bx4 BK382 hb NB382_405.out NB382_405.out NB382_405.out NB382_405.out;have n3_:=Bx4 BK396 hb NB396_405.out NB396_405.out NB396_405.out NB396_405.out;have n4_:=Ax (blk_below (g:=gb405) (o:=.cells #[.bool t399,.int .u64 t400,.int .u64 t401,.int .i64 t402] 27 (0,0)) (gB BK405.out) hb);have n5_:=Bs5 HB hb GE363.out GE366.out GE382.out GE396.out GE405.out;clear BK363;clear BK366;clear BK382;clear BK396;clear BK405;clear HB;have BK363:=n0_;have BK366:=n1_;have BK382:=n2_;have BK396:=n3_;have BK405:=n4_;have HB:=n5_;clear n0_ n1_ n2_ n3_ n4_ n5_;(try clear hb))|((with_reducible refine gate_callee (f:=21) rfl ?_);refine goesL_ (some 67) rfl rfl Try.func21 (by kernel_rfl) rfl #[.string (t406++(⟨#[122]⟩:ByteArray))] rfl gS ?_;(with_reducible refine (msg_GetAction.calls k (t406++(⟨#[122]⟩:ByteArray)) t408 t409 t410 t411 _ A11.out).mono ?_);rintro e w62 ⟨rfl,hb⟩;refine⟨_,rfl,?_⟩;replace BK363:=Bx0 BK363 hb;replace BK366:=Bx0 BK366 hb;replace BK382:=Bx0 BK382 hb;replace BK396:=Bx0 BK396 hb;replace BK405:=Bx0 BK405 hb;replace HB:=Bs5 HB hb GE363.out GE366.out GE382.out GE396.out GE405.out;(try clear hb))|((with_reducible refine gate_dst (N:=18) rfl ?_);refine box_event ?hg (N:=18) ?hd (cs:= #[.int .u8 0,.int .i64 0]) (t:=30) ?hr ?_;(case hd=>rfl);(case hg=>rfl);(case hr=>first|(go_simp;done)|(go_simp;rfl));intro gb412 hg w63 hbox hb;have n0_:=Bx0 BK363 hb;have n1_:=Bx0 BK366 hb;have n2_:=Bx0 BK382 hb;have n3_:=Bx0 BK396 hb;have n4_:=Bx0 BK405 hb;have n5_:=Bs5 HB hb GE363.out GE366.out GE382.out GE396.out GE405.out;have n6_:=Ax (hbox);have n7_:=Gw5 HB hg GE363.out GE366.out GE382.out GE396.out GE405.out;have n8_:=Gw5 HB hg GE363.out GE366.out GE382.out GE396.out GE405.out;have n9_:=Nl0 BK363 hg;have n10_:=Nr0 BK363 hg;have n11_:=Nl0 BK366 hg;have n12_:=Nr0 BK366 hg;have n13_:=Nl0 BK382 hg;have n14_:=Nr0 BK382 hg;have n15_:=Nl0 BK396 hg;have n16_:=Nr0 BK396 hg;have n17_:=Nl0 BK405 hg;have n18_:=Nr0 BK405 hg;clear BK363;clear BK366;clear BK382;clear BK396;clear BK405;clear HB;have BK363:=n0_;have BK366:=n1_;have BK382:=n2_;have BK396:=n3_;have BK405:=n4_;have HB:=n5_;have BK412:=n6_;have GW412:=n7_;have GE412:=n8_;have NB363_412:=n9_;have NB412_363:=n10_;have NB366_412:=n11_;have NB412_366:=n12_;have NB382_412:=n13_;have NB412_382:=n14_;have NB396_412:=n15_;have NB412_396:=n16_;have NB405_412:=n17_;have NB412_405:=n18_;clear n0_ n1_ n2_ n3_ n4_ n5_ n6_ n7_ n8_ n9_ n10_ n11_ n12_ n13_ n14_ n15_ n16_ n17_ n18_;clear hb hbox hg;have hnb64:=NB412_363.out;have hnc64:=NB363_412.out;have hnb65:=NB412_366.out;have hnc65:=NB366_412.out;have hnb66:=NB412_382.out;have hnc66:=NB382_412.out;have hnb67:=NB412_396.out;have hnc67:=NB396_412.out;have hnb68:=NB412_405.out;have hnc68:=NB405_412.out;obtain⟨hcz69_0,hcz69_1,hfz69_0,hfz69_1⟩:=cl2 BK412;obtain⟨hcz70_0,hcz70_1,hcz70_2,hcz70_3,hcz70_4,hcz70_5,hcz70_6,hcz70_7,hcz70_8,hcz70_9,hcz70_10,hcz70_11,hfz70_0,hfz70_1,hfz70_2,hfz70_3,hfz70_4,hfz70_5,hfz70_6,hfz70_7,hfz70_8,hfz70_9,hfz70_10,hfz70_11⟩:=cl12 BK366;obtain⟨hcz71_0,hcz71_1,hcz71_2,hcz71_3,hcz71_4,hcz71_5,hcz71_6,hcz71_7,hcz71_8,hcz71_9,hcz71_10,hcz71_11,hfz71_0,hfz71_1,hfz71_2,hfz71_3,hfz71_4,hfz71_5,hfz71_6,hfz71_7,hfz71_8,hfz71_9,hfz71_10,hfz71_11⟩:=cl12 BK382;obtain⟨hcz72_0,hcz72_1,hcz72_2,hcz72_3,hfz72_0,hfz72_1,hfz72_2,hfz72_3⟩:=cl4 BK363;obtain⟨hcz73_0,hcz73_1,hcz73_2,hcz73_3,hfz73_0,hfz73_1,hfz73_2,hfz73_3⟩:=cl4 BK405)|(go_at_call 13;(with_reducible refine (msg_Check.calls k 3 1 2 300 false 0 167772160 8 1 7 1 0 t413 _ A30.out).mono ?_);rintro e w74 ⟨rfl,hb⟩;have n0_:=Bx3 BK363 hb NB363_366.out NB363_412.out NB363_412.out;have n1_:=Ax (blk_below (g:=gb366) (o:=.cells #[.int .u8 3,.int .i64 1,.int .u64 2,.int .i64 300,.bool false,.int .u64 0,.int .u64 167772160,.int .i64 8,.int .u8 1,.int .i64 7,.int .i64 1,.int .i64 0] 32 (0,0)) (by (with_reducible repeat (first|refine blk_drewN ?_ _|refine blk_drew ?_|refine blk_alloc ?_ _));refine blk_put (cs:= #[.int .u8 3,.int .i64 1,.int .u64 2,.int .i64 300,.bool false,.int .u64 0,.int .u64 167772160,.int .i64 8,.int .u8 1,.int .i64 7,.int .i64 0,.int .i64 0]) ?_ 10 _ rfl;(repeat (first|(with_reducible first|refine blk_drewN ?_ _|refine blk_drew ?_|refine blk_alloc ?_ _)|refine blk_far ?_ NB366_412.out _));exact BK366.out) hb);have n2_:=Bx3 BK382 hb NB382_366.out NB382_412.out NB382_412.out;have n3_:=Bx3 BK396 hb NB396_366.out NB396_412.out NB396_412.out;have n4_:=Bx3 BK405 hb NB405_366.out NB405_412.out NB405_412.out;have n5_:=Ax (blk_below (g:=gb412) (o:=.cells #[.int .u8 t408,.int .i64 t409] 30 (0,0)) (by (repeat (first|(with_reducible first|refine blk_drewN ?_ _|refine blk_drew ?_|refine blk_alloc ?_ _)|refine blk_far ?_ NB412_366.out _));refine blk_put (cs:= #[.int .u8 t408,.int .i64 0]) ?_ 1 _ rfl;(with_reducible repeat (first|refine blk_drewN ?_ _|refine blk_drew ?_|refine blk_alloc ?_ _));refine blk_put (cs:= #[.int .u8 0,.int .i64 0]) ?_ 0 _ rfl;(with_reducible repeat (first|refine blk_drewN ?_ _|refine blk_drew ?_|refine blk_alloc ?_ _));exact BK412.out) hb);have n6_:=Bs6 HB hb GE363.out GE366.out GE382.out GE396.out GE405.out GE412.out;clear BK363;clear BK366;clear BK382;clear BK396;clear BK405;clear BK412;clear HB;have BK363:=n0_;have BK366:=n1_;have BK382:=n2_;have BK396:=n3_;have BK405:=n4_;have BK412:=n5_;have HB:=n6_;clear n0_ n1_ n2_ n3_ n4_ n5_ n6_;(try clear hb);obtain⟨hcz75_0,hcz75_1,hcz75_2,hcz75_3,hcz75_4,hcz75_5,hcz75_6,hcz75_7,hcz75_8,hcz75_9,hcz75_10,hcz75_11,hfz75_0,hfz75_1,hfz75_2,hfz75_3,hfz75_4,hfz75_5,hfz75_6,hfz75_7,hfz75_8,hfz75_9,hfz75_10,hfz75_11⟩:=cl12 BK382)|(go_at_call 13;(with_reducible refine (msg_Check.calls k t369 t370 t371 t372 t373 t374 t375 t376 t377 t378 t379 t380 t414 _ A32.out).mono ?_);rintro e w76 ⟨rfl,hb⟩;replace BK363:=Bx0 BK363 hb;replace BK366:=Bx0 BK366 hb;replace BK382:=Bx0 BK382 hb;replace BK396:=Bx0 BK396 hb;replace BK405:=Bx0 BK405 hb;replace BK412:=Bx0 BK412 hb;replace HB:=Bs6 HB hb GE363.out GE366.out GE382.out GE396.out GE405.out GE412.out;(try clear hb)));go_ret;exact⟨eS,bw6 HB.out GE363.out GE366.out GE382.out GE396.out GE405.out GE412.out⟩
                      ·rw [if_neg c31]at H;exact absurd H (by simp)
                     ·rw [if_neg c29]at H;exact absurd H (by simp)
                    ·rw [if_neg c28]at H;exact absurd H (by simp)
                   ·rw [if_neg c27]at H;exact absurd H (by simp)
                  ·rw [if_neg c26]at H;exact absurd H (by simp)
                 ·rw [if_neg c25]at H;exact absurd H (by simp)
                ·rw [if_neg c24]at H;exact absurd H (by simp)
               ·rw [if_neg c23]at H;exact absurd H (by simp)
              ·rw [if_neg c22]at H;exact absurd H (by simp)
             ·rw [if_neg c21]at H;exact absurd H (by simp)
            ·rw [if_neg c20]at H;exact absurd H (by simp)
           ·rw [if_neg c19]at H;exact absurd H (by simp)
          ·rw [if_neg c18]at H;exact absurd H (by simp)
         ·rw [if_neg c17]at H;exact absurd H (by simp)
        ·rw [if_neg c16]at H;exact absurd H (by simp)
       ·rw [if_neg c15]at H;exact absurd H (by simp)
      ·rw [if_neg c14]at H;exact absurd H (by simp)
     ·rw [if_neg c13]at H;exact absurd H (by simp)
    ·rw [if_neg c12]at H;exact absurd H (by simp)
   ·rw [if_neg c10]at H;exact absurd H (by simp)
  ·rw [if_neg c7]at H;exact absurd H (by simp)
 ·rw [if_neg c4]at H;exact absurd H (by simp)
def spoorlaw11_MsgPuts.f (k:Nat) (a0_0:Int) (a0_1:Int) (a0_2:Int) (a0_3:Int) (a0_4:Bool) (a0_5:Int) (a0_6:Int) (a0_7:Int) (a0_8:Int) (a0_9:Int) (a0_10:Int) (a0_11:Int) (a1:ByteArray):Option (Bool):=(msg_Put.f k a0_0 a0_1 a0_2 a0_3 a0_4 a0_5 a0_6 a0_7 a0_8 a0_9 a0_10 a0_11).bind fun bt416=>((spoorref11_Put.f k a0_0 a0_1 a0_2 a0_3 a0_4 a0_5 a0_6 a0_7 a0_8 a0_9 a0_10 a0_11).bind fun bt418=>((msg_Get.f k a1).bind fun bt420=>((spoorref11_Get.f k a1).bind fun bt434=>((spoorlaw11_lives.f k).bind fun t448=>(if t448=true then ((msg_Check.f k a0_0 a0_1 a0_2 a0_3 a0_4 a0_5 a0_6 a0_7 a0_8 a0_9 a0_10 a0_11).bind fun t449=>((spoorref11_Check.f k a0_0 a0_1 a0_2 a0_3 a0_4 a0_5 a0_6 a0_7 a0_8 a0_9 a0_10 a0_11).bind fun t450=>(if t449=t450 then (if bt416.1.toList=bt418.1.toList then (if bt416.2=bt418.2 then (if (bt420.1==bt434.1&&(bt420.2.1==bt434.2.1&&(bt420.2.2.1==bt434.2.2.1&&(bt420.2.2.2.1==bt434.2.2.2.1&&((bt420.2.2.2.2.1==bt434.2.2.2.2.1&&((bt420.2.2.2.2.2.1==bt434.2.2.2.2.2.1&&(bt420.2.2.2.2.2.2.1==bt434.2.2.2.2.2.2.1))&&(bt420.2.2.2.2.2.2.2.1==bt434.2.2.2.2.2.2.2.1)))&&((bt420.2.2.2.2.2.2.2.2.1==bt434.2.2.2.2.2.2.2.2.1&&(bt420.2.2.2.2.2.2.2.2.2.1==bt434.2.2.2.2.2.2.2.2.2.1))&&(bt420.2.2.2.2.2.2.2.2.2.2.1==bt434.2.2.2.2.2.2.2.2.2.2.1&&(bt420.2.2.2.2.2.2.2.2.2.2.2.1==bt434.2.2.2.2.2.2.2.2.2.2.2.1))))))))=true then (some (bt420.2.2.2.2.2.2.2.2.2.2.2.2==bt434.2.2.2.2.2.2.2.2.2.2.2.2)) else (none)) else (none)) else (none)) else (none)))) else (none))))))
def spoorlaw11_MsgPuts.T5:Bool × List (List Nat × List Nat):=(true, [([], []),([0,0], [0]),([1], [1]),([2,1,1], [1,2]),([1], [1]),([4,3,1], [1,4]),([3,5,1], [1,3,5]),([1,6], [1,6]),([7,5], [7]),([8], [8]),([8], [8]),([9,10,8], [8,9,10]),([8,11], [8,11]),([12,8], [12]),([13], [13]),([13], [13]),([14,15,13], [13,14,15]),([13,16], [13,16]),([17,13], [17]),([18], [18]),([18], [18]),([19,20,18], [18,19,20]),([18,21], [18,21]),([22,18], [22]),([23], [23]),([23], [23]),([24,25,23], [23,24,25]),([23,26], [23,26]),([27,23,0,1,2,3,4,5,6,7,8,9,10,11,12,13,14,15,16,17,18,19,20,21,22,23,24,25,26,27], [27])])
def spoorlaw11_MsgPuts.B5:List Nat:= [0,1,3,7,3,31,63,127,255,511,511,2047,4095,8191,16383,16383,65535,131071,262143,524287,524287,2097151,4194303,8388607,16777215,16777215,67108863,134217727,268435455]
theorem spoorlaw11_MsgPuts.tab5:rtab .any (opsOf Try.f3 5)=spoorlaw11_MsgPuts.T5:=by kernel_rfl
theorem spoorlaw11_MsgPuts.bits5:waitsOk spoorlaw11_MsgPuts.T5.2 spoorlaw11_MsgPuts.B5=true:=by kernel_rfl
set_option maxHeartbeats 8000000 in
set_option maxRecDepth 100000 in
theorem spoorlaw11_MsgPuts.calls (k:Nat) (a0_0:Int) (a0_1:Int) (a0_2:Int) (a0_3:Int) (a0_4:Bool) (a0_5:Int) (a0_6:Int) (a0_7:Int) (a0_8:Int) (a0_9:Int) (a0_10:Int) (a0_11:Int) (a1:ByteArray) (r:Bool) (w:World) (h:spoorlaw11_MsgPuts.f k a0_0 a0_1 a0_2 a0_3 a0_4 a0_5 a0_6 a0_7 a0_8 a0_9 a0_10 a0_11 a1=some r):
  Calls Try.prog 3 #[.agg #[.int .u8 a0_0,.int .i64 a0_1,.int .u64 a0_2,.int .i64 a0_3,.bool a0_4,.int .u64 a0_5,.int .u64 a0_6,.int .i64 a0_7,.int .u8 a0_8,.int .i64 a0_9,.int .i64 a0_10,.int .i64 a0_11],.string a1] w fun e w'=>e= .returned (.bool r)∧Below w.heap.size w w':=by
 have hu32:=Try.underlying32;have HB:=Ax (Below.refl w.heap.size w);have H:((msg_Put.f k a0_0 a0_1 a0_2 a0_3 a0_4 a0_5 a0_6 a0_7 a0_8 a0_9 a0_10 a0_11).bind fun bt416=>((spoorref11_Put.f k a0_0 a0_1 a0_2 a0_3 a0_4 a0_5 a0_6 a0_7 a0_8 a0_9 a0_10 a0_11).bind fun bt418=>((msg_Get.f k a1).bind fun bt420=>((spoorref11_Get.f k a1).bind fun bt434=>((spoorlaw11_lives.f k).bind fun t448=>(if t448=true then ((msg_Check.f k a0_0 a0_1 a0_2 a0_3 a0_4 a0_5 a0_6 a0_7 a0_8 a0_9 a0_10 a0_11).bind fun t449=>((spoorref11_Check.f k a0_0 a0_1 a0_2 a0_3 a0_4 a0_5 a0_6 a0_7 a0_8 a0_9 a0_10 a0_11).bind fun t450=>(if t449=t450 then (if bt416.1.toList=bt418.1.toList then (if bt416.2=bt418.2 then (if (bt420.1==bt434.1&&(bt420.2.1==bt434.2.1&&(bt420.2.2.1==bt434.2.2.1&&(bt420.2.2.2.1==bt434.2.2.2.1&&((bt420.2.2.2.2.1==bt434.2.2.2.2.1&&((bt420.2.2.2.2.2.1==bt434.2.2.2.2.2.1&&(bt420.2.2.2.2.2.2.1==bt434.2.2.2.2.2.2.1))&&(bt420.2.2.2.2.2.2.2.1==bt434.2.2.2.2.2.2.2.1)))&&((bt420.2.2.2.2.2.2.2.2.1==bt434.2.2.2.2.2.2.2.2.1&&(bt420.2.2.2.2.2.2.2.2.2.1==bt434.2.2.2.2.2.2.2.2.2.1))&&(bt420.2.2.2.2.2.2.2.2.2.2.1==bt434.2.2.2.2.2.2.2.2.2.2.1&&(bt420.2.2.2.2.2.2.2.2.2.2.2.1==bt434.2.2.2.2.2.2.2.2.2.2.2.1))))))))=true then (some (bt420.2.2.2.2.2.2.2.2.2.2.2.2==bt434.2.2.2.2.2.2.2.2.2.2.2.2)) else (none)) else (none)) else (none)) else (none)))) else (none)))))))=some r:=h;clear h;replace H:=Option.bind_eq_some_iff.mp H;obtain⟨⟨t416,t417⟩,A30,H⟩:=H;replace H:((spoorref11_Put.f k a0_0 a0_1 a0_2 a0_3 a0_4 a0_5 a0_6 a0_7 a0_8 a0_9 a0_10 a0_11).bind fun bt418=>((msg_Get.f k a1).bind fun bt420=>((spoorref11_Get.f k a1).bind fun bt434=>((spoorlaw11_lives.f k).bind fun t448=>(if t448=true then ((msg_Check.f k a0_0 a0_1 a0_2 a0_3 a0_4 a0_5 a0_6 a0_7 a0_8 a0_9 a0_10 a0_11).bind fun t449=>((spoorref11_Check.f k a0_0 a0_1 a0_2 a0_3 a0_4 a0_5 a0_6 a0_7 a0_8 a0_9 a0_10 a0_11).bind fun t450=>(if t449=t450 then (if t416.toList=bt418.1.toList then (if t417=bt418.2 then (if (bt420.1==bt434.1&&(bt420.2.1==bt434.2.1&&(bt420.2.2.1==bt434.2.2.1&&(bt420.2.2.2.1==bt434.2.2.2.1&&((bt420.2.2.2.2.1==bt434.2.2.2.2.1&&((bt420.2.2.2.2.2.1==bt434.2.2.2.2.2.1&&(bt420.2.2.2.2.2.2.1==bt434.2.2.2.2.2.2.1))&&(bt420.2.2.2.2.2.2.2.1==bt434.2.2.2.2.2.2.2.1)))&&((bt420.2.2.2.2.2.2.2.2.1==bt434.2.2.2.2.2.2.2.2.1&&(bt420.2.2.2.2.2.2.2.2.2.1==bt434.2.2.2.2.2.2.2.2.2.1))&&(bt420.2.2.2.2.2.2.2.2.2.2.1==bt434.2.2.2.2.2.2.2.2.2.2.1&&(bt420.2.2.2.2.2.2.2.2.2.2.2.1==bt434.2.2.2.2.2.2.2.2.2.2.2.1))))))))=true then (some (bt420.2.2.2.2.2.2.2.2.2.2.2.2==bt434.2.2.2.2.2.2.2.2.2.2.2.2)) else (none)) else (none)) else (none)) else (none)))) else (none))))))=some r:=H;have A3:=Ax A30;clear A30;replace H:=Option.bind_eq_some_iff.mp H;obtain⟨⟨t418,t419⟩,A40,H⟩:=H;replace H:((msg_Get.f k a1).bind fun bt420=>((spoorref11_Get.f k a1).bind fun bt434=>((spoorlaw11_lives.f k).bind fun t448=>(if t448=true then ((msg_Check.f k a0_0 a0_1 a0_2 a0_3 a0_4 a0_5 a0_6 a0_7 a0_8 a0_9 a0_10 a0_11).bind fun t449=>((spoorref11_Check.f k a0_0 a0_1 a0_2 a0_3 a0_4 a0_5 a0_6 a0_7 a0_8 a0_9 a0_10 a0_11).bind fun t450=>(if t449=t450 then (if t416.toList=t418.toList then (if t417=t419 then (if (bt420.1==bt434.1&&(bt420.2.1==bt434.2.1&&(bt420.2.2.1==bt434.2.2.1&&(bt420.2.2.2.1==bt434.2.2.2.1&&((bt420.2.2.2.2.1==bt434.2.2.2.2.1&&((bt420.2.2.2.2.2.1==bt434.2.2.2.2.2.1&&(bt420.2.2.2.2.2.2.1==bt434.2.2.2.2.2.2.1))&&(bt420.2.2.2.2.2.2.2.1==bt434.2.2.2.2.2.2.2.1)))&&((bt420.2.2.2.2.2.2.2.2.1==bt434.2.2.2.2.2.2.2.2.1&&(bt420.2.2.2.2.2.2.2.2.2.1==bt434.2.2.2.2.2.2.2.2.2.1))&&(bt420.2.2.2.2.2.2.2.2.2.2.1==bt434.2.2.2.2.2.2.2.2.2.2.1&&(bt420.2.2.2.2.2.2.2.2.2.2.2.1==bt434.2.2.2.2.2.2.2.2.2.2.2.1))))))))=true then (some (bt420.2.2.2.2.2.2.2.2.2.2.2.2==bt434.2.2.2.2.2.2.2.2.2.2.2.2)) else (none)) else (none)) else (none)) else (none)))) else (none)))))=some r:=H;have A4:=Ax A40;clear A40;replace H:=Option.bind_eq_some_iff.mp H;obtain⟨⟨t420,t421,t422,t423,t424,t425,t426,t427,t428,t429,t430,t431,t432⟩,A50,H⟩:=H;replace H:((spoorref11_Get.f k a1).bind fun bt434=>((spoorlaw11_lives.f k).bind fun t448=>(if t448=true then ((msg_Check.f k a0_0 a0_1 a0_2 a0_3 a0_4 a0_5 a0_6 a0_7 a0_8 a0_9 a0_10 a0_11).bind fun t449=>((spoorref11_Check.f k a0_0 a0_1 a0_2 a0_3 a0_4 a0_5 a0_6 a0_7 a0_8 a0_9 a0_10 a0_11).bind fun t450=>(if t449=t450 then (if t416.toList=t418.toList then (if t417=t419 then (if (t420==bt434.1&&(t421==bt434.2.1&&(t422==bt434.2.2.1&&(t423==bt434.2.2.2.1&&((t424==bt434.2.2.2.2.1&&((t425==bt434.2.2.2.2.2.1&&(t426==bt434.2.2.2.2.2.2.1))&&(t427==bt434.2.2.2.2.2.2.2.1)))&&((t428==bt434.2.2.2.2.2.2.2.2.1&&(t429==bt434.2.2.2.2.2.2.2.2.2.1))&&(t430==bt434.2.2.2.2.2.2.2.2.2.2.1&&(t431==bt434.2.2.2.2.2.2.2.2.2.2.2.1))))))))=true then (some (t432==bt434.2.2.2.2.2.2.2.2.2.2.2.2)) else (none)) else (none)) else (none)) else (none)))) else (none))))=some r:=H;have A5:=Ax A50;clear A50;replace H:=Option.bind_eq_some_iff.mp H;obtain⟨⟨t434,t435,t436,t437,t438,t439,t440,t441,t442,t443,t444,t445,t446⟩,A60,H⟩:=H;replace H:((spoorlaw11_lives.f k).bind fun t448=>(if t448=true then ((msg_Check.f k a0_0 a0_1 a0_2 a0_3 a0_4 a0_5 a0_6 a0_7 a0_8 a0_9 a0_10 a0_11).bind fun t449=>((spoorref11_Check.f k a0_0 a0_1 a0_2 a0_3 a0_4 a0_5 a0_6 a0_7 a0_8 a0_9 a0_10 a0_11).bind fun t450=>(if t449=t450 then (if t416.toList=t418.toList then (if t417=t419 then (if (t420==t434&&(t421==t435&&(t422==t436&&(t423==t437&&((t424==t438&&((t425==t439&&(t426==t440))&&(t427==t441)))&&((t428==t442&&(t429==t443))&&(t430==t444&&(t431==t445))))))))=true then (some (t432==t446)) else (none)) else (none)) else (none)) else (none)))) else (none)))=some r:=H;have A6:=Ax A60;clear A60;replace H:=Option.bind_eq_some_iff.mp H;obtain⟨t448,A70,H⟩:=H;replace H:(if t448=true then ((msg_Check.f k a0_0 a0_1 a0_2 a0_3 a0_4 a0_5 a0_6 a0_7 a0_8 a0_9 a0_10 a0_11).bind fun t449=>((spoorref11_Check.f k a0_0 a0_1 a0_2 a0_3 a0_4 a0_5 a0_6 a0_7 a0_8 a0_9 a0_10 a0_11).bind fun t450=>(if t449=t450 then (if t416.toList=t418.toList then (if t417=t419 then (if (t420==t434&&(t421==t435&&(t422==t436&&(t423==t437&&((t424==t438&&((t425==t439&&(t426==t440))&&(t427==t441)))&&((t428==t442&&(t429==t443))&&(t430==t444&&(t431==t445))))))))=true then (some (t432==t446)) else (none)) else (none)) else (none)) else (none)))) else (none))=some r:=H;have A7:=Ax A70;clear A70;by_cases c8:t448=true
 ·subst c8;have H1:((msg_Check.f k a0_0 a0_1 a0_2 a0_3 a0_4 a0_5 a0_6 a0_7 a0_8 a0_9 a0_10 a0_11).bind fun t449=>((spoorref11_Check.f k a0_0 a0_1 a0_2 a0_3 a0_4 a0_5 a0_6 a0_7 a0_8 a0_9 a0_10 a0_11).bind fun t450=>(if t449=t450 then (if t416.toList=t418.toList then (if t417=t419 then (if (t420==t434&&(t421==t435&&(t422==t436&&(t423==t437&&((t424==t438&&((t425==t439&&(t426==t440))&&(t427==t441)))&&((t428==t442&&(t429==t443))&&(t430==t444&&(t431==t445))))))))=true then (some (t432==t446)) else (none)) else (none)) else (none)) else (none))))=some r:=by rw [if_pos rfl]at H;exact H
  clear H;have H:=H1;clear H1;replace H:=Option.bind_eq_some_iff.mp H;obtain⟨t449,A90,H⟩:=H;replace H:((spoorref11_Check.f k a0_0 a0_1 a0_2 a0_3 a0_4 a0_5 a0_6 a0_7 a0_8 a0_9 a0_10 a0_11).bind fun t450=>(if t449=t450 then (if t416.toList=t418.toList then (if t417=t419 then (if (t420==t434&&(t421==t435&&(t422==t436&&(t423==t437&&((t424==t438&&((t425==t439&&(t426==t440))&&(t427==t441)))&&((t428==t442&&(t429==t443))&&(t430==t444&&(t431==t445))))))))=true then (some (t432==t446)) else (none)) else (none)) else (none)) else (none)))=some r:=H;have A9:=Ax A90;clear A90;replace H:=Option.bind_eq_some_iff.mp H;obtain⟨t450,A100,H⟩:=H;replace H:(if t449=t450 then (if t416.toList=t418.toList then (if t417=t419 then (if (t420==t434&&(t421==t435&&(t422==t436&&(t423==t437&&((t424==t438&&((t425==t439&&(t426==t440))&&(t427==t441)))&&((t428==t442&&(t429==t443))&&(t430==t444&&(t431==t445))))))))=true then (some (t432==t446)) else (none)) else (none)) else (none)) else (none))=some r:=H;have A10:=Ax A100;clear A100;by_cases c11:t449=t450
  ·rw [if_pos c11]at H;have c11b0:(t449==t450)=true:=beq_iff_eq.mpr c11;have c11b1:(t449 !=t450)=false:=bne_eq_false_iff_eq.mpr c11;clear c11;by_cases c12:t416.toList=t418.toList
   ·rw [if_pos c12]at H;have c12b0:(t416.toList==t418.toList)=true:=beq_iff_eq.mpr c12;have c12b1:(t416.toList !=t418.toList)=false:=bne_eq_false_iff_eq.mpr c12;clear c12;by_cases c13:t417=t419
    ·rw [if_pos c13]at H;have c13b0:(t417==t419)=true:=beq_iff_eq.mpr c13;have c13b1:(t417 !=t419)=false:=bne_eq_false_iff_eq.mpr c13;clear c13;by_cases c14:(t420==t434&&(t421==t435&&(t422==t436&&(t423==t437&&((t424==t438&&((t425==t439&&(t426==t440))&&(t427==t441)))&&((t428==t442&&(t429==t443))&&(t430==t444&&(t431==t445))))))))=true
     ·rw [if_pos c14]at H;have c14b0:(t420==t434&&(t421==t435&&(t422==t436&&(t423==t437&&((t424==t438&&((t425==t439&&(t426==t440))&&(t427==t441)))&&((t428==t442&&(t429==t443))&&(t430==t444&&(t431==t445))))))))=true:=c14
      (try (have c14b1:decide (t420=t434&&(t421==t435&&(t422==t436&&(t423==t437&&((t424==t438&&((t425==t439&&(t426==t440))&&(t427==t441)))&&((t428==t442&&(t429==t443))&&(t430==t444&&(t431==t445))))))))=true:=by simpa using c14))
      (try (have c14b2:(t420==t434&&(t421==t435&&(t422==t436&&(t423==t437&&((t424==t438&&((t425==t439&&(t426==t440))&&(t427==t441)))&&((t428==t442&&(t429==t443))&&(t430==t444&&(t431==t445))))))))=true:=by simpa using c14))
      clear c14;obtain rfl:=Option.some.inj H;go_enter Try.func3,Try.ntmps3;try go_wp2_with (first|((with_reducible refine gate_dst (N:=2) rfl ?_);refine box_event ?hg (N:=2) ?hd (cs:= #[.int .u8 a0_0,.int .i64 a0_1,.int .u64 a0_2,.int .i64 a0_3,.bool a0_4,.int .u64 a0_5,.int .u64 a0_6,.int .i64 a0_7,.int .u8 a0_8,.int .i64 a0_9,.int .i64 a0_10,.int .i64 a0_11]) (t:=32) ?hr ?_;(case hd=>rfl);(case hg=>rfl);(case hr=>first|(go_simp;done)|(go_simp;rfl));intro gb415 hg w15 hbox hb;have n0_:=Bs0 HB hb;have n1_:=Ax (hbox);have n2_:=Gw0 HB hg;have n3_:=Gw0 HB hg;clear HB;have HB:=n0_;have BK415:=n1_;have GW415:=n2_;have GE415:=n3_;clear n0_ n1_ n2_ n3_;clear hb hbox hg;obtain⟨hcz16_0,hcz16_1,hcz16_2,hcz16_3,hcz16_4,hcz16_5,hcz16_6,hcz16_7,hcz16_8,hcz16_9,hcz16_10,hcz16_11,hfz16_0,hfz16_1,hfz16_2,hfz16_3,hfz16_4,hfz16_5,hfz16_6,hfz16_7,hfz16_8,hfz16_9,hfz16_10,hfz16_11⟩:=cl12 BK415)|((with_reducible refine gate_callee (f:=8) rfl ?_);refine goesL_ (some 15) rfl rfl Try.func8 (by kernel_rfl) rfl #[.agg #[.int .u8 a0_0,.int .i64 a0_1,.int .u64 a0_2,.int .i64 a0_3,.bool a0_4,.int .u64 a0_5,.int .u64 a0_6,.int .i64 a0_7,.int .u8 a0_8,.int .i64 a0_9,.int .i64 a0_10,.int .i64 a0_11]] rfl gS ?_;(with_reducible refine (msg_Put.calls k a0_0 a0_1 a0_2 a0_3 a0_4 a0_5 a0_6 a0_7 a0_8 a0_9 a0_10 a0_11 t416 t417 _ A3.out).mono ?_);rintro e w17 ⟨rfl,hb⟩;refine⟨_,rfl,?_⟩;replace BK415:=Bx0 BK415 hb;replace HB:=Bs1 HB hb GE415.out;(try clear hb);obtain⟨hcz18_0,hcz18_1,hcz18_2,hcz18_3,hcz18_4,hcz18_5,hcz18_6,hcz18_7,hcz18_8,hcz18_9,hcz18_10,hcz18_11,hfz18_0,hfz18_1,hfz18_2,hfz18_3,hfz18_4,hfz18_5,hfz18_6,hfz18_7,hfz18_8,hfz18_9,hfz18_10,hfz18_11⟩:=cl12 BK415)|((with_reducible refine gate_callee (f:=9) rfl ?_);refine goesL_ (some 20) rfl rfl Try.func9 (by kernel_rfl) rfl #[.agg #[.int .u8 a0_0,.int .i64 a0_1,.int .u64 a0_2,.int .i64 a0_3,.bool a0_4,.int .u64 a0_5,.int .u64 a0_6,.int .i64 a0_7,.int .u8 a0_8,.int .i64 a0_9,.int .i64 a0_10,.int .i64 a0_11]] rfl gS ?_;(with_reducible refine (spoorref11_Put.calls k a0_0 a0_1 a0_2 a0_3 a0_4 a0_5 a0_6 a0_7 a0_8 a0_9 a0_10 a0_11 t418 t419 _ A4.out).mono ?_);rintro e w19 ⟨rfl,hb⟩;refine⟨_,rfl,?_⟩;replace BK415:=Bx0 BK415 hb;replace HB:=Bs1 HB hb GE415.out;(try clear hb))|((with_reducible refine gate_callee (f:=10) rfl ?_);refine goesL_ (some 25) rfl rfl Try.func10 (by kernel_rfl) rfl #[.string a1] rfl gS ?_;(with_reducible refine (msg_Get.calls k a1 t420 t421 t422 t423 t424 t425 t426 t427 t428 t429 t430 t431 t432 _ A5.out).mono ?_);rintro e w20 ⟨rfl,hb⟩;refine⟨_,rfl,?_⟩;replace BK415:=Bx0 BK415 hb;replace HB:=Bs1 HB hb GE415.out;(try clear hb))|((with_reducible refine gate_dst (N:=9) rfl ?_);refine box_event ?hg (N:=9) ?hd (cs:= #[.int .u8 0,.int .i64 0,.int .u64 0,.int .i64 0,.bool false,.int .u64 0,.int .u64 0,.int .i64 0,.int .u8 0,.int .i64 0,.int .i64 0,.int .i64 0]) (t:=32) ?hr ?_;(case hd=>rfl);(case hg=>rfl);(case hr=>first|(go_simp;done)|(go_simp;rfl));intro gb433 hg w21 hbox hb;have n0_:=Bx0 BK415 hb;have n1_:=Bs1 HB hb GE415.out;have n2_:=Ax (hbox);have n3_:=Gw1 HB hg GE415.out;have n4_:=Gw1 HB hg GE415.out;have n5_:=Nl0 BK415 hg;have n6_:=Nr0 BK415 hg;clear BK415;clear HB;have BK415:=n0_;have HB:=n1_;have BK433:=n2_;have GW433:=n3_;have GE433:=n4_;have NB415_433:=n5_;have NB433_415:=n6_;clear n0_ n1_ n2_ n3_ n4_ n5_ n6_;clear hb hbox hg;have hnb22:=NB433_415.out;have hnc22:=NB415_433.out;obtain⟨hcz23_0,hcz23_1,hcz23_2,hcz23_3,hcz23_4,hcz23_5,hcz23_6,hcz23_7,hcz23_8,hcz23_9,hcz23_10,hcz23_11,hfz23_0,hfz23_1,hfz23_2,hfz23_3,hfz23_4,hfz23_5,hfz23_6,hfz23_7,hfz23_8,hfz23_9,hfz23_10,hfz23_11⟩:=cl12 BK433)|((with_reducible refine gate_callee (f:=11) rfl ?_);refine goesL_ (some 30) rfl rfl Try.func11 (by kernel_rfl) rfl #[.string a1] rfl gS ?_;(with_reducible refine (spoorref11_Get.calls k a1 t434 t435 t436 t437 t438 t439 t440 t441 t442 t443 t444 t445 t446 _ A6.out).mono ?_);rintro e w24 ⟨rfl,hb⟩;refine⟨_,rfl,?_⟩;have n0_:=Ax (blk_below (g:=gb415) (o:=.cells #[.int .u8 a0_0,.int .i64 a0_1,.int .u64 a0_2,.int .i64 a0_3,.bool a0_4,.int .u64 a0_5,.int .u64 a0_6,.int .i64 a0_7,.int .u8 a0_8,.int .i64 a0_9,.int .i64 a0_10,.int .i64 a0_11] 32 (0,0)) (by (repeat (first|(with_reducible first|refine blk_drewN ?_ _|refine blk_drew ?_|refine blk_alloc ?_ _)|refine blk_far ?_ NB415_433.out _));exact BK415.out) hb);have n1_:=Ax (blk_below (g:=gb433) (o:=.cells #[.int .u8 t420,.int .i64 t421,.int .u64 t422,.int .i64 t423,.bool t424,.int .u64 t425,.int .u64 t426,.int .i64 t427,.int .u8 t428,.int .i64 t429,.int .i64 t430,.int .i64 t431] 32 (0,0)) (gB BK433.out) hb);have n2_:=Bs2 HB hb GE415.out GE433.out;clear BK415;clear BK433;clear HB;have BK415:=n0_;have BK433:=n1_;have HB:=n2_;clear n0_ n1_ n2_;(try clear hb))|((with_reducible refine gate_dst (N:=11) rfl ?_);refine box_event ?hg (N:=11) ?hd (cs:= #[.int .u8 0,.int .i64 0,.int .u64 0,.int .i64 0,.bool false,.int .u64 0,.int .u64 0,.int .i64 0,.int .u8 0,.int .i64 0,.int .i64 0,.int .i64 0]) (t:=32) ?hr ?_;(case hd=>rfl);(case hg=>rfl);(case hr=>first|(go_simp;done)|(go_simp;rfl));intro gb447 hg w25 hbox hb;have n0_:=Bx0 BK415 hb;have n1_:=Bx0 BK433 hb;have n2_:=Bs2 HB hb GE415.out GE433.out;have n3_:=Ax (hbox);have n4_:=Gw2 HB hg GE415.out GE433.out;have n5_:=Gw2 HB hg GE415.out GE433.out;have n6_:=Nl0 BK415 hg;have n7_:=Nr0 BK415 hg;have n8_:=Nl0 BK433 hg;have n9_:=Nr0 BK433 hg;clear BK415;clear BK433;clear HB;have BK415:=n0_;have BK433:=n1_;have HB:=n2_;have BK447:=n3_;have GW447:=n4_;have GE447:=n5_;have NB415_447:=n6_;have NB447_415:=n7_;have NB433_447:=n8_;have NB447_433:=n9_;clear n0_ n1_ n2_ n3_ n4_ n5_ n6_ n7_ n8_ n9_;clear hb hbox hg;have hnb26:=NB447_415.out;have hnc26:=NB415_447.out;have hnb27:=NB447_433.out;have hnc27:=NB433_447.out;obtain⟨hcz28_0,hcz28_1,hcz28_2,hcz28_3,hcz28_4,hcz28_5,hcz28_6,hcz28_7,hcz28_8,hcz28_9,hcz28_10,hcz28_11,hfz28_0,hfz28_1,hfz28_2,hfz28_3,hfz28_4,hfz28_5,hfz28_6,hfz28_7,hfz28_8,hfz28_9,hfz28_10,hfz28_11⟩:=cl12 BK447))
      have n0_:Aside0 (((((((((((((w25.setCell ⟨gb447,0,none⟩ (.int .u8 t434)).setCell ⟨gb447,1,none⟩ (.int .i64 t435)).setCell ⟨gb447,2,none⟩ (.int .u64 t436)).setCell ⟨gb447,3,none⟩ (.int .i64 t437)).setCell ⟨gb447,4,none⟩ (.bool t438)).setCell ⟨gb447,5,none⟩ (.int .u64 t439)).setCell ⟨gb447,6,none⟩ (.int .u64 t440)).setCell ⟨gb447,7,none⟩ (.int .i64 t441)).setCell ⟨gb447,8,none⟩ (.int .u8 t442)).setCell ⟨gb447,9,none⟩ (.int .i64 t443)).setCell ⟨gb447,10,none⟩ (.int .i64 t444)).setCell ⟨gb447,11,none⟩ (.int .i64 t445)).heap[gb415]? =some (.cells #[.int .u8 a0_0,.int .i64 a0_1,.int .u64 a0_2,.int .i64 a0_3,.bool a0_4,.int .u64 a0_5,.int .u64 a0_6,.int .i64 a0_7,.int .u8 a0_8,.int .i64 a0_9,.int .i64 a0_10,.int .i64 a0_11] 32 (0,0))):=⟨by (repeat (first|(with_reducible first|refine blk_drewN ?_ _|refine blk_drew ?_|refine blk_alloc ?_ _)|refine blk_far ?_ NB415_447.out _));exact BK415.out⟩;have n1_:Aside0 (((((((((((((w25.setCell ⟨gb447,0,none⟩ (.int .u8 t434)).setCell ⟨gb447,1,none⟩ (.int .i64 t435)).setCell ⟨gb447,2,none⟩ (.int .u64 t436)).setCell ⟨gb447,3,none⟩ (.int .i64 t437)).setCell ⟨gb447,4,none⟩ (.bool t438)).setCell ⟨gb447,5,none⟩ (.int .u64 t439)).setCell ⟨gb447,6,none⟩ (.int .u64 t440)).setCell ⟨gb447,7,none⟩ (.int .i64 t441)).setCell ⟨gb447,8,none⟩ (.int .u8 t442)).setCell ⟨gb447,9,none⟩ (.int .i64 t443)).setCell ⟨gb447,10,none⟩ (.int .i64 t444)).setCell ⟨gb447,11,none⟩ (.int .i64 t445)).heap[gb433]? =some (.cells #[.int .u8 t420,.int .i64 t421,.int .u64 t422,.int .i64 t423,.bool t424,.int .u64 t425,.int .u64 t426,.int .i64 t427,.int .u8 t428,.int .i64 t429,.int .i64 t430,.int .i64 t431] 32 (0,0))):=⟨by (repeat (first|(with_reducible first|refine blk_drewN ?_ _|refine blk_drew ?_|refine blk_alloc ?_ _)|refine blk_far ?_ NB433_447.out _));exact BK433.out⟩;have n2_:Aside0 (((((((((((((w25.setCell ⟨gb447,0,none⟩ (.int .u8 t434)).setCell ⟨gb447,1,none⟩ (.int .i64 t435)).setCell ⟨gb447,2,none⟩ (.int .u64 t436)).setCell ⟨gb447,3,none⟩ (.int .i64 t437)).setCell ⟨gb447,4,none⟩ (.bool t438)).setCell ⟨gb447,5,none⟩ (.int .u64 t439)).setCell ⟨gb447,6,none⟩ (.int .u64 t440)).setCell ⟨gb447,7,none⟩ (.int .i64 t441)).setCell ⟨gb447,8,none⟩ (.int .u8 t442)).setCell ⟨gb447,9,none⟩ (.int .i64 t443)).setCell ⟨gb447,10,none⟩ (.int .i64 t444)).setCell ⟨gb447,11,none⟩ (.int .i64 t445)).heap[gb447]? =some (.cells #[.int .u8 t434,.int .i64 t435,.int .u64 t436,.int .i64 t437,.bool t438,.int .u64 t439,.int .u64 t440,.int .i64 t441,.int .u8 t442,.int .i64 t443,.int .i64 t444,.int .i64 t445] 32 (0,0))):=⟨gB BK447.out⟩;have n3_:Aside0 (Below w.heap.size w ((((((((((((w25.setCell ⟨gb447,0,none⟩ (.int .u8 t434)).setCell ⟨gb447,1,none⟩ (.int .i64 t435)).setCell ⟨gb447,2,none⟩ (.int .u64 t436)).setCell ⟨gb447,3,none⟩ (.int .i64 t437)).setCell ⟨gb447,4,none⟩ (.bool t438)).setCell ⟨gb447,5,none⟩ (.int .u64 t439)).setCell ⟨gb447,6,none⟩ (.int .u64 t440)).setCell ⟨gb447,7,none⟩ (.int .i64 t441)).setCell ⟨gb447,8,none⟩ (.int .u8 t442)).setCell ⟨gb447,9,none⟩ (.int .i64 t443)).setCell ⟨gb447,10,none⟩ (.int .i64 t444)).setCell ⟨gb447,11,none⟩ (.int .i64 t445))):=⟨bw3 HB.out GE415.out GE433.out GE447.out⟩
      (try clear BK415)
      (try clear BK433)
      (try clear BK447)
      (try clear HB)
      generalize ((((((((((((w25.setCell ⟨gb447,0,none⟩ (.int .u8 t434)).setCell ⟨gb447,1,none⟩ (.int .i64 t435)).setCell ⟨gb447,2,none⟩ (.int .u64 t436)).setCell ⟨gb447,3,none⟩ (.int .i64 t437)).setCell ⟨gb447,4,none⟩ (.bool t438)).setCell ⟨gb447,5,none⟩ (.int .u64 t439)).setCell ⟨gb447,6,none⟩ (.int .u64 t440)).setCell ⟨gb447,7,none⟩ (.int .i64 t441)).setCell ⟨gb447,8,none⟩ (.int .u8 t442)).setCell ⟨gb447,9,none⟩ (.int .i64 t443)).setCell ⟨gb447,10,none⟩ (.int .i64 t444)).setCell ⟨gb447,11,none⟩ (.int .i64 t445))=w29 at n0_ n1_ n2_ n3_ ⊢;have BK415:=n0_;have BK433:=n1_;have BK447:=n2_;have HB:=n3_;clear n0_ n1_ n2_ n3_;replace BK415:=Ax (blk_drew BK415.out);replace BK433:=Ax (blk_drew BK433.out);replace BK447:=Ax (blk_drew BK447.out);replace HB:=Ax (below_drew1 HB.out);refine start_ (n:=29) (S:=fun w'=>w'.cell? ⟨gb415,0,none⟩=some (.int .u8 a0_0)∧w'.cell? ⟨gb415,1,none⟩=some (.int .i64 a0_1)∧w'.cell? ⟨gb415,2,none⟩=some (.int .u64 a0_2)∧w'.cell? ⟨gb415,3,none⟩=some (.int .i64 a0_3)∧w'.cell? ⟨gb415,4,none⟩=some (.bool a0_4)∧w'.cell? ⟨gb415,5,none⟩=some (.int .u64 a0_5)∧w'.cell? ⟨gb415,6,none⟩=some (.int .u64 a0_6)∧w'.cell? ⟨gb415,7,none⟩=some (.int .i64 a0_7)∧w'.cell? ⟨gb415,8,none⟩=some (.int .u8 a0_8)∧w'.cell? ⟨gb415,9,none⟩=some (.int .i64 a0_9)∧w'.cell? ⟨gb415,10,none⟩=some (.int .i64 a0_10)∧w'.cell? ⟨gb415,11,none⟩=some (.int .i64 a0_11)∧w'.cell? ⟨gb433,0,none⟩=some (.int .u8 t420)∧w'.cell? ⟨gb433,1,none⟩=some (.int .i64 t421)∧w'.cell? ⟨gb433,2,none⟩=some (.int .u64 t422)∧w'.cell? ⟨gb433,3,none⟩=some (.int .i64 t423)∧w'.cell? ⟨gb433,4,none⟩=some (.bool t424)∧w'.cell? ⟨gb433,5,none⟩=some (.int .u64 t425)∧w'.cell? ⟨gb433,6,none⟩=some (.int .u64 t426)∧w'.cell? ⟨gb433,7,none⟩=some (.int .i64 t427)∧w'.cell? ⟨gb433,8,none⟩=some (.int .u8 t428)∧w'.cell? ⟨gb433,9,none⟩=some (.int .i64 t429)∧w'.cell? ⟨gb433,10,none⟩=some (.int .i64 t430)∧w'.cell? ⟨gb433,11,none⟩=some (.int .i64 t431)∧w'.cell? ⟨gb447,0,none⟩=some (.int .u8 t434)∧w'.cell? ⟨gb447,1,none⟩=some (.int .i64 t435)∧w'.cell? ⟨gb447,2,none⟩=some (.int .u64 t436)∧w'.cell? ⟨gb447,3,none⟩=some (.int .i64 t437)∧w'.cell? ⟨gb447,4,none⟩=some (.bool t438)∧w'.cell? ⟨gb447,5,none⟩=some (.int .u64 t439)∧w'.cell? ⟨gb447,6,none⟩=some (.int .u64 t440)∧w'.cell? ⟨gb447,7,none⟩=some (.int .i64 t441)∧w'.cell? ⟨gb447,8,none⟩=some (.int .u8 t442)∧w'.cell? ⟨gb447,9,none⟩=some (.int .i64 t443)∧w'.cell? ⟨gb447,10,none⟩=some (.int .i64 t444)∧w'.cell? ⟨gb447,11,none⟩=some (.int .i64 t445)) (ds:= []) #[Y,Y,Y,Y,Y,Y,Y,Y,Y,Y,Y,Y,Y,Y,Y,Y,Y,Y,Y,Y,Y,Y,Y,Y,Y,Y,Y,Y,Y] (by kernel_rfl) rfl rfl ⟨(blk_cell BK415.out 0).trans rfl,(blk_cell BK415.out 1).trans rfl,(blk_cell BK415.out 2).trans rfl,(blk_cell BK415.out 3).trans rfl,(blk_cell BK415.out 4).trans rfl,(blk_cell BK415.out 5).trans rfl,(blk_cell BK415.out 6).trans rfl,(blk_cell BK415.out 7).trans rfl,(blk_cell BK415.out 8).trans rfl,(blk_cell BK415.out 9).trans rfl,(blk_cell BK415.out 10).trans rfl,(blk_cell BK415.out 11).trans rfl,(blk_cell BK433.out 0).trans rfl,(blk_cell BK433.out 1).trans rfl,(blk_cell BK433.out 2).trans rfl,(blk_cell BK433.out 3).trans rfl,(blk_cell BK433.out 4).trans rfl,(blk_cell BK433.out 5).trans rfl,(blk_cell BK433.out 6).trans rfl,(blk_cell BK433.out 7).trans rfl,(blk_cell BK433.out 8).trans rfl,(blk_cell BK433.out 9).trans rfl,(blk_cell BK433.out 10).trans rfl,(blk_cell BK433.out 11).trans rfl,(blk_cell BK447.out 0).trans rfl,(blk_cell BK447.out 1).trans rfl,(blk_cell BK447.out 2).trans rfl,(blk_cell BK447.out 3).trans rfl,(blk_cell BK447.out 4).trans rfl,(blk_cell BK447.out 5).trans rfl,(blk_cell BK447.out 6).trans rfl,(blk_cell BK447.out 7).trans rfl,(blk_cell BK447.out 8).trans rfl,(blk_cell BK447.out 9).trans rfl,(blk_cell BK447.out 10).trans rfl,(blk_cell BK447.out 11).trans rfl⟩ (fun hHeld=>?_);refine with_tabW spoorlaw11_MsgPuts.tab5 spoorlaw11_MsgPuts.bits5 (fun HT_ HW_=>?_);generalize w29.drew=w30 at BK415 BK433 BK447 HB hHeld ⊢;refine one_ (i:=0) (N:=some 33) #[Z,Y,Y,Y,Y,Y,Y,Y,Y,Y,Y,Y,Y,Y,Y,Y,Y,Y,Y,Y,Y,Y,Y,Y,Y,Y,Y,Y,Y] rfl rfl (one_of HT_.out (by kernel_rfl)) (by decide) (fun K hK=>?_);refine goes_ Try.func12 (by kernel_rfl) rfl #[] (by rfl) rfl rfl gS ?_;with_reducible refine (spoorlaw11_lives.calls k  true _ A7.out).mono ?_
      rintro e w31 ⟨rfl,hb⟩
      refine⟨_,rfl,?_⟩;replace BK415:=Bx0 BK415 hb;replace BK433:=Bx0 BK433 hb;replace BK447:=Bx0 BK447 hb;replace HB:=Bs3 HB hb GE415.out GE433.out GE447.out
      (try clear hb)
      refine hK.out _ _ ⟨(blk_cell BK415.out 0).trans rfl,(blk_cell BK415.out 1).trans rfl,(blk_cell BK415.out 2).trans rfl,(blk_cell BK415.out 3).trans rfl,(blk_cell BK415.out 4).trans rfl,(blk_cell BK415.out 5).trans rfl,(blk_cell BK415.out 6).trans rfl,(blk_cell BK415.out 7).trans rfl,(blk_cell BK415.out 8).trans rfl,(blk_cell BK415.out 9).trans rfl,(blk_cell BK415.out 10).trans rfl,(blk_cell BK415.out 11).trans rfl,(blk_cell BK433.out 0).trans rfl,(blk_cell BK433.out 1).trans rfl,(blk_cell BK433.out 2).trans rfl,(blk_cell BK433.out 3).trans rfl,(blk_cell BK433.out 4).trans rfl,(blk_cell BK433.out 5).trans rfl,(blk_cell BK433.out 6).trans rfl,(blk_cell BK433.out 7).trans rfl,(blk_cell BK433.out 8).trans rfl,(blk_cell BK433.out 9).trans rfl,(blk_cell BK433.out 10).trans rfl,(blk_cell BK433.out 11).trans rfl,(blk_cell BK447.out 0).trans rfl,(blk_cell BK447.out 1).trans rfl,(blk_cell BK447.out 2).trans rfl,(blk_cell BK447.out 3).trans rfl,(blk_cell BK447.out 4).trans rfl,(blk_cell BK447.out 5).trans rfl,(blk_cell BK447.out 6).trans rfl,(blk_cell BK447.out 7).trans rfl,(blk_cell BK447.out 8).trans rfl,(blk_cell BK447.out 9).trans rfl,(blk_cell BK447.out 10).trans rfl,(blk_cell BK447.out 11).trans rfl⟩ (fun hHeld=>?_);clear hK K;refine norm_ (a':=?_) ?_ ?_;rotate_left
      ·show Act.put _ (some 33) _=_
       simp only[sP];rfl
      refine pz 1 34 #[Z,Z,Y,Y,Y,Y,Y,Y,Y,Y,Y,Y,Y,Y,Y,Y,Y,Y,Y,Y,Y,Y,Y,Y,Y,Y,Y,Y,Y] HT_.out ?_
      refine take_ (i:=2) (N:=some 35) (v:=?_) (a':=?_) #[Z,Z,Z,Y,Y,Y,Y,Y,Y,Y,Y,Y,Y,Y,Y,Y,Y,Y,Y,Y,Y,Y,Y,Y,Y,Y,Y,Y,Y] rfl rfl (take_ofW HT_.out HW_.out (by kernel_rfl)) (fun _ _ _ h=>h) (Or.inl ⟨by rfl,?_⟩) hHeld ?_ ?_;rotate_left
      ·rintro w' ⟨s0,s1,s2,s3,s4,s5,s6,s7,s8,s9,s10,s11,s12,s13,s14,s15,s16,s17,s18,s19,s20,s21,s22,s23,s24,s25,s26,s27,s28,s29,s30,s31,s32,s33,s34,s35⟩
       go_simp;with_reducible rfl
      rotate_left;·simp only[sP];rfl
      refine take_ (i:=4) (N:=some 37) (v:=?_) (a':=?_) #[Z,Z,Z,Y,Z,Y,Y,Y,Y,Y,Y,Y,Y,Y,Y,Y,Y,Y,Y,Y,Y,Y,Y,Y,Y,Y,Y,Y,Y] rfl rfl (take_ofW HT_.out HW_.out (by kernel_rfl)) (fun _ _ _ h=>h) (Or.inl ⟨by rfl,?_⟩) hHeld ?_ ?_;rotate_left
      ·rintro w' ⟨s0,s1,s2,s3,s4,s5,s6,s7,s8,s9,s10,s11,s12,s13,s14,s15,s16,s17,s18,s19,s20,s21,s22,s23,s24,s25,s26,s27,s28,s29,s30,s31,s32,s33,s34,s35⟩
       go_simp;with_reducible rfl
      rotate_left;·simp only[sP];rfl
      refine one_ (i:=3) (N:=some 36) #[Z,Z,Z,Z,Z,Y,Y,Y,Y,Y,Y,Y,Y,Y,Y,Y,Y,Y,Y,Y,Y,Y,Y,Y,Y,Y,Y,Y,Y] rfl rfl (one_of HT_.out (by kernel_rfl)) (by decide) (fun K hK=>?_);refine goes_ Try.func13 (by kernel_rfl) rfl #[.agg #[.int .u8 a0_0,.int .i64 a0_1,.int .u64 a0_2,.int .i64 a0_3,.bool a0_4,.int .u64 a0_5,.int .u64 a0_6,.int .i64 a0_7,.int .u8 a0_8,.int .i64 a0_9,.int .i64 a0_10,.int .i64 a0_11]] (by rfl) rfl rfl gS ?_;with_reducible refine (msg_Check.calls k a0_0 a0_1 a0_2 a0_3 a0_4 a0_5 a0_6 a0_7 a0_8 a0_9 a0_10 a0_11 t449 _ A9.out).mono ?_
      rintro e w32 ⟨rfl,hb⟩
      refine⟨_,rfl,?_⟩;replace BK415:=Bx0 BK415 hb;replace BK433:=Bx0 BK433 hb;replace BK447:=Bx0 BK447 hb;replace HB:=Bs3 HB hb GE415.out GE433.out GE447.out
      (try clear hb)
      refine hK.out _ _ ⟨(blk_cell BK415.out 0).trans rfl,(blk_cell BK415.out 1).trans rfl,(blk_cell BK415.out 2).trans rfl,(blk_cell BK415.out 3).trans rfl,(blk_cell BK415.out 4).trans rfl,(blk_cell BK415.out 5).trans rfl,(blk_cell BK415.out 6).trans rfl,(blk_cell BK415.out 7).trans rfl,(blk_cell BK415.out 8).trans rfl,(blk_cell BK415.out 9).trans rfl,(blk_cell BK415.out 10).trans rfl,(blk_cell BK415.out 11).trans rfl,(blk_cell BK433.out 0).trans rfl,(blk_cell BK433.out 1).trans rfl,(blk_cell BK433.out 2).trans rfl,(blk_cell BK433.out 3).trans rfl,(blk_cell BK433.out 4).trans rfl,(blk_cell BK433.out 5).trans rfl,(blk_cell BK433.out 6).trans rfl,(blk_cell BK433.out 7).trans rfl,(blk_cell BK433.out 8).trans rfl,(blk_cell BK433.out 9).trans rfl,(blk_cell BK433.out 10).trans rfl,(blk_cell BK433.out 11).trans rfl,(blk_cell BK447.out 0).trans rfl,(blk_cell BK447.out 1).trans rfl,(blk_cell BK447.out 2).trans rfl,(blk_cell BK447.out 3).trans rfl,(blk_cell BK447.out 4).trans rfl,(blk_cell BK447.out 5).trans rfl,(blk_cell BK447.out 6).trans rfl,(blk_cell BK447.out 7).trans rfl,(blk_cell BK447.out 8).trans rfl,(blk_cell BK447.out 9).trans rfl,(blk_cell BK447.out 10).trans rfl,(blk_cell BK447.out 11).trans rfl⟩ (fun hHeld=>?_);clear hK K;refine norm_ (a':=?_) ?_ ?_;rotate_left
      ·show Act.put _ (some 36) _=_
       simp only[sP];rfl
      refine one_ (i:=5) (N:=some 38) #[Z,Z,Z,Z,Z,Z,Y,Y,Y,Y,Y,Y,Y,Y,Y,Y,Y,Y,Y,Y,Y,Y,Y,Y,Y,Y,Y,Y,Y] rfl rfl (one_of HT_.out (by kernel_rfl)) (by decide) (fun K hK=>?_);refine goes_ Try.func14 (by kernel_rfl) rfl #[.agg #[.int .u8 a0_0,.int .i64 a0_1,.int .u64 a0_2,.int .i64 a0_3,.bool a0_4,.int .u64 a0_5,.int .u64 a0_6,.int .i64 a0_7,.int .u8 a0_8,.int .i64 a0_9,.int .i64 a0_10,.int .i64 a0_11]] (by rfl) rfl rfl gS ?_;with_reducible refine (spoorref11_Check.calls k a0_0 a0_1 a0_2 a0_3 a0_4 a0_5 a0_6 a0_7 a0_8 a0_9 a0_10 a0_11 t450 _ A10.out).mono ?_
      rintro e w33 ⟨rfl,hb⟩
      refine⟨_,rfl,?_⟩;replace BK415:=Bx0 BK415 hb;replace BK433:=Bx0 BK433 hb;replace BK447:=Bx0 BK447 hb;replace HB:=Bs3 HB hb GE415.out GE433.out GE447.out
      (try clear hb)
      refine hK.out _ _ ⟨(blk_cell BK415.out 0).trans rfl,(blk_cell BK415.out 1).trans rfl,(blk_cell BK415.out 2).trans rfl,(blk_cell BK415.out 3).trans rfl,(blk_cell BK415.out 4).trans rfl,(blk_cell BK415.out 5).trans rfl,(blk_cell BK415.out 6).trans rfl,(blk_cell BK415.out 7).trans rfl,(blk_cell BK415.out 8).trans rfl,(blk_cell BK415.out 9).trans rfl,(blk_cell BK415.out 10).trans rfl,(blk_cell BK415.out 11).trans rfl,(blk_cell BK433.out 0).trans rfl,(blk_cell BK433.out 1).trans rfl,(blk_cell BK433.out 2).trans rfl,(blk_cell BK433.out 3).trans rfl,(blk_cell BK433.out 4).trans rfl,(blk_cell BK433.out 5).trans rfl,(blk_cell BK433.out 6).trans rfl,(blk_cell BK433.out 7).trans rfl,(blk_cell BK433.out 8).trans rfl,(blk_cell BK433.out 9).trans rfl,(blk_cell BK433.out 10).trans rfl,(blk_cell BK433.out 11).trans rfl,(blk_cell BK447.out 0).trans rfl,(blk_cell BK447.out 1).trans rfl,(blk_cell BK447.out 2).trans rfl,(blk_cell BK447.out 3).trans rfl,(blk_cell BK447.out 4).trans rfl,(blk_cell BK447.out 5).trans rfl,(blk_cell BK447.out 6).trans rfl,(blk_cell BK447.out 7).trans rfl,(blk_cell BK447.out 8).trans rfl,(blk_cell BK447.out 9).trans rfl,(blk_cell BK447.out 10).trans rfl,(blk_cell BK447.out 11).trans rfl⟩ (fun hHeld=>?_);clear hK K;refine norm_ (a':=?_) ?_ ?_;rotate_left
      ·show Act.put _ (some 38) _=_
       simp only[sP];rfl
      refine pz 6 39 #[Z,Z,Z,Z,Z,Z,Z,Y,Y,Y,Y,Y,Y,Y,Y,Y,Y,Y,Y,Y,Y,Y,Y,Y,Y,Y,Y,Y,Y] HT_.out ?_
      refine pz 7 40 #[Z,Z,Z,Z,Z,Z,Z,Z,Y,Y,Y,Y,Y,Y,Y,Y,Y,Y,Y,Y,Y,Y,Y,Y,Y,Y,Y,Y,Y] HT_.out ?_
      refine pz 8 41 #[Z,Z,Z,Z,Z,Z,Z,Z,Z,Y,Y,Y,Y,Y,Y,Y,Y,Y,Y,Y,Y,Y,Y,Y,Y,Y,Y,Y,Y] HT_.out ?_
      refine pz 9 42 #[Z,Z,Z,Z,Z,Z,Z,Z,Z,Z,Y,Y,Y,Y,Y,Y,Y,Y,Y,Y,Y,Y,Y,Y,Y,Y,Y,Y,Y] HT_.out ?_
      refine pz 10 43 #[Z,Z,Z,Z,Z,Z,Z,Z,Z,Z,Z,Y,Y,Y,Y,Y,Y,Y,Y,Y,Y,Y,Y,Y,Y,Y,Y,Y,Y] HT_.out ?_
      refine pz 11 44 #[Z,Z,Z,Z,Z,Z,Z,Z,Z,Z,Z,Z,Y,Y,Y,Y,Y,Y,Y,Y,Y,Y,Y,Y,Y,Y,Y,Y,Y] HT_.out ?_
      refine pz 12 45 #[Z,Z,Z,Z,Z,Z,Z,Z,Z,Z,Z,Z,Z,Y,Y,Y,Y,Y,Y,Y,Y,Y,Y,Y,Y,Y,Y,Y,Y] HT_.out ?_
      refine pz 13 46 #[Z,Z,Z,Z,Z,Z,Z,Z,Z,Z,Z,Z,Z,Z,Y,Y,Y,Y,Y,Y,Y,Y,Y,Y,Y,Y,Y,Y,Y] HT_.out ?_
      refine pz 14 47 #[Z,Z,Z,Z,Z,Z,Z,Z,Z,Z,Z,Z,Z,Z,Z,Y,Y,Y,Y,Y,Y,Y,Y,Y,Y,Y,Y,Y,Y] HT_.out ?_
      refine pz 15 48 #[Z,Z,Z,Z,Z,Z,Z,Z,Z,Z,Z,Z,Z,Z,Z,Z,Y,Y,Y,Y,Y,Y,Y,Y,Y,Y,Y,Y,Y] HT_.out ?_
      refine pz 16 49 #[Z,Z,Z,Z,Z,Z,Z,Z,Z,Z,Z,Z,Z,Z,Z,Z,Z,Y,Y,Y,Y,Y,Y,Y,Y,Y,Y,Y,Y] HT_.out ?_
      refine pz 17 50 #[Z,Z,Z,Z,Z,Z,Z,Z,Z,Z,Z,Z,Z,Z,Z,Z,Z,Z,Y,Y,Y,Y,Y,Y,Y,Y,Y,Y,Y] HT_.out ?_
      refine pz 18 51 #[Z,Z,Z,Z,Z,Z,Z,Z,Z,Z,Z,Z,Z,Z,Z,Z,Z,Z,Z,Y,Y,Y,Y,Y,Y,Y,Y,Y,Y] HT_.out ?_
      refine take_ (i:=19) (N:=some 52) (v:=?_) (a':=?_) #[Z,Z,Z,Z,Z,Z,Z,Z,Z,Z,Z,Z,Z,Z,Z,Z,Z,Z,Z,Z,Y,Y,Y,Y,Y,Y,Y,Y,Y] rfl rfl (take_ofW HT_.out HW_.out (by kernel_rfl)) (fun _ _ _ h=>h) (Or.inl ⟨by rfl,?_⟩) hHeld ?_ ?_;rotate_left
      ·rintro w' ⟨s0,s1,s2,s3,s4,s5,s6,s7,s8,s9,s10,s11,s12,s13,s14,s15,s16,s17,s18,s19,s20,s21,s22,s23,s24,s25,s26,s27,s28,s29,s30,s31,s32,s33,s34,s35⟩
       go_simp;with_reducible rfl
      rotate_left;·simp only[sP];rfl
      refine take_ (i:=20) (N:=some 53) (v:=?_) (a':=?_) #[Z,Z,Z,Z,Z,Z,Z,Z,Z,Z,Z,Z,Z,Z,Z,Z,Z,Z,Z,Z,Z,Y,Y,Y,Y,Y,Y,Y,Y] rfl rfl (take_ofW HT_.out HW_.out (by kernel_rfl)) (fun _ _ _ h=>h) (Or.inl ⟨by rfl,?_⟩) hHeld ?_ ?_;rotate_left
      ·rintro w' ⟨s0,s1,s2,s3,s4,s5,s6,s7,s8,s9,s10,s11,s12,s13,s14,s15,s16,s17,s18,s19,s20,s21,s22,s23,s24,s25,s26,s27,s28,s29,s30,s31,s32,s33,s34,s35⟩
       go_simp;with_reducible rfl
      rotate_left;·simp only[sP];rfl
      refine pz 21 54 #[Z,Z,Z,Z,Z,Z,Z,Z,Z,Z,Z,Z,Z,Z,Z,Z,Z,Z,Z,Z,Z,Z,Y,Y,Y,Y,Y,Y,Y] HT_.out ?_
      refine pz 22 55 #[Z,Z,Z,Z,Z,Z,Z,Z,Z,Z,Z,Z,Z,Z,Z,Z,Z,Z,Z,Z,Z,Z,Z,Y,Y,Y,Y,Y,Y] HT_.out ?_
      refine pz 23 56 #[Z,Z,Z,Z,Z,Z,Z,Z,Z,Z,Z,Z,Z,Z,Z,Z,Z,Z,Z,Z,Z,Z,Z,Z,Y,Y,Y,Y,Y] HT_.out ?_
      refine pz 24 57 #[Z,Z,Z,Z,Z,Z,Z,Z,Z,Z,Z,Z,Z,Z,Z,Z,Z,Z,Z,Z,Z,Z,Z,Z,Z,Y,Y,Y,Y] HT_.out ?_
      refine pz 25 58 #[Z,Z,Z,Z,Z,Z,Z,Z,Z,Z,Z,Z,Z,Z,Z,Z,Z,Z,Z,Z,Z,Z,Z,Z,Z,Z,Y,Y,Y] HT_.out ?_
      refine pz 26 59 #[Z,Z,Z,Z,Z,Z,Z,Z,Z,Z,Z,Z,Z,Z,Z,Z,Z,Z,Z,Z,Z,Z,Z,Z,Z,Z,Z,Y,Y] HT_.out ?_
      refine pz 27 60 #[Z,Z,Z,Z,Z,Z,Z,Z,Z,Z,Z,Z,Z,Z,Z,Z,Z,Z,Z,Z,Z,Z,Z,Z,Z,Z,Z,Z,Y] HT_.out ?_
      refine pz 28 4 #[Z,Z,Z,Z,Z,Z,Z,Z,Z,Z,Z,Z,Z,Z,Z,Z,Z,Z,Z,Z,Z,Z,Z,Z,Z,Z,Z,Z,Z] HT_.out ?_
      refine done_ (done_of HT_.out (by kernel_rfl)) ?_;try go_wp2
      go_ret;exact⟨eS,bw3 HB.out GE415.out GE433.out GE447.out⟩
     ·rw [if_neg c14]at H;have c14b0:(t420==t434&&(t421==t435&&(t422==t436&&(t423==t437&&((t424==t438&&((t425==t439&&(t426==t440))&&(t427==t441)))&&((t428==t442&&(t429==t443))&&(t430==t444&&(t431==t445))))))))=false:=by simpa using c14
      (try (have c14b1:decide (t420=t434&&(t421==t435&&(t422==t436&&(t423==t437&&((t424==t438&&((t425==t439&&(t426==t440))&&(t427==t441)))&&((t428==t442&&(t429==t443))&&(t430==t444&&(t431==t445))))))))=false:=by simpa using c14))
      (try (have c14b2:(t420==t434&&(t421==t435&&(t422==t436&&(t423==t437&&((t424==t438&&((t425==t439&&(t426==t440))&&(t427==t441)))&&((t428==t442&&(t429==t443))&&(t430==t444&&(t431==t445))))))))=false:=by simpa using c14))
      (try (have c14b3: ¬ (t420=t434&&(t421==t435&&(t422==t436&&(t423==t437&&((t424==t438&&((t425==t439&&(t426==t440))&&(t427==t441)))&&((t428==t442&&(t429==t443))&&(t430==t444&&(t431==t445)))))))):=by simpa using c14))
      clear c14;exact absurd H (by simp)
    ·rw [if_neg c13]at H;have c13b0:(t417==t419)=false:=beq_eq_false_iff_ne.mpr c13;have c13b1:(t417 !=t419)=true:=bne_iff_ne.mpr c13;exact absurd H (by simp)
   ·rw [if_neg c12]at H;have c12b0:(t416.toList==t418.toList)=false:=beq_eq_false_iff_ne.mpr c12;have c12b1:(t416.toList !=t418.toList)=true:=bne_iff_ne.mpr c12;exact absurd H (by simp)
  ·rw [if_neg c11]at H;have c11b0:(t449==t450)=false:=beq_eq_false_iff_ne.mpr c11;have c11b1:(t449 !=t450)=true:=bne_iff_ne.mpr c11;exact absurd H (by simp)
 ·replace c8:=Bool.eq_false_iff.mpr c8;subst c8;have H1:(none)=some r:=by rw [if_neg (show ¬ (false=true) by decide)]at H;exact H
  clear H;have H:=H1;clear H1;exact absurd H (by simp)
end Go.Proofs.Ytodgadhegcjbhaa.Q
end
section
namespace Go.Proofs.Ytodgadhegcjbhaa.Open
set_option linter.unusedVariables false
open Go.RowKit Go.WideShapes Go.Proofs.YtodgadhegcjbhaaW.PrintWords Go.Proofs.YtodgadhegcjbhaaW.PrintLast Go.Proofs.YtodgadhegcjbhaaW.PrintMore
open Go.Proofs.Ytodgadhegcjbhaa.Rows (uptoBulk uptoBulkAll)
def Opens {α : Type} (P : Program) (t : TypeId) (K : Kd α) (wf : α → Prop) (mu : α → Nat) : Prop :=
  ∀ {H : Type} (enc : TypeId × Value → H) (W : World) (spare : Nat → Bool) (held : Bool) (n : Nat) (cs : List Value) (x : DataW H × List MemPlace),
    DataW.trod enc P W 0 spare held n t cs = some x → ∃ a, K.K W a cs ∧ wf a ∧ mu a ≤ uptoBulk x.1
def wfInt (k:IntKind) (n:Int):Prop:=(Lit.int k n).wf=true
def wfStr (s:ByteArray):Prop:=s.size≤maxLen
def wfAny {α:Type} (_:α):Prop:=True
def mu1 {α:Type} (_:α):Nat:=1
def muStr (s:ByteArray):Nat:=s.size+1
theorem opens_int {P:Program}{t:TypeId}{k:IntKind} (hu:P.underlying t=some (.int k)):Opens P t (Kd.int k) (wfInt k) mu1:=by
  intro H enc W spare held n cs x h;obtain⟨a,rfl,rfl,hw⟩:=DataW.trod_int hu h;exact⟨a,rfl,hw,by simp [mu1,uptoBulk]⟩
theorem opens_bool {P:Program}{t:TypeId} (hu:P.underlying t=some .bool):Opens P t Kd.bool wfAny mu1:=by
  intro H enc W spare held n cs x h;obtain⟨a,rfl,rfl⟩:=DataW.trod_bool hu h;exact⟨a,rfl,trivial,by simp [mu1,uptoBulk]⟩
theorem opens_string {P:Program}{t:TypeId} (hu:P.underlying t=some .string):Opens P t Kd.string wfStr muStr:=by
  intro H enc W spare held n cs x h;obtain⟨s,rfl,rfl,hs⟩:=DataW.trod_string hu h;exact⟨s,rfl,hs,by simp [muStr,uptoBulk]⟩
theorem sized_text {H:Type}{enc:TypeId × Value→H}{P:Program}{W:World}{base:Nat}{spare:Nat→Bool}{held:Bool}{t:TypeId}{s:ByteArray}{d:DataW H}{ps:List MemPlace}{ts:List TypeId}{ds:List (DataW H)}{j:Nat}
    (hsz:(DataW.weightsEach P ts ds).all (· ≤reachBytes)=true) (ht:ts[j]? =some t) (hd:ds[j]? =some d) (hu:P.underlying t=some .string)
    (h:DataW.Trod enc P W base spare held t (.string s) d ps):s.size≤140737488351232:=by
  obtain⟨fuel,hf⟩:=h;obtain⟨s',hcs,hx,hs⟩:=DataW.trod_string hu hf;simp [Value.cells]at hcs;subst hcs;obtain⟨hx,_⟩:=Prod.mk.inj hx;subst hx;have z:=sized_string hsz ht hd;rw [Array.length_toList]at z;exact z
end Go.Proofs.Ytodgadhegcjbhaa.Open
end
section
namespace Go.Proofs.Ytodgadhegcjbhaa.Q
set_option linter.unusedVariables false
set_option linter.unusedSimpArgs false
open Go.RowKit Go.Proofs.YtodgadhegcjbhaaW.PrintWords Go.Proofs.YtodgadhegcjbhaaW.PrintLast Go.Proofs.YtodgadhegcjbhaaW.PrintMore Go.Proofs.Ytodgadhegcjbhaa.Open
open Go.Proofs.Ytodgadhegcjbhaa.Rows (uptoBulk uptoBulkAll)
def wf25 (x:S25):Prop:=(wfInt .u64) x.f0∧(wfInt .u64) x.f1
def mu25 (x:S25):Nat:=mu1 x.f0+mu1 x.f1+1
set_option maxRecDepth 100000 in
theorem opn25:Opens Try.prog 25 k25 wf25 mu25:=by
  intro H enc W spare held n cs x h;obtain⟨xs,m,rfl,rfl,hl,hs,hf⟩:=DataW.trod_struct Try.underlying25 h;have hc:cs.length=2:=hl.trans (by kernel_rfl);have hx:xs.length=2:=hs;clear hl hs h
  match cs,hc,xs,hx,hf with
  | [c0,c1],_, [y0,y1],_,hf=>
    have e0:Try.prog.cellsOf 23=1:=by kernel_rfl
    have e1:Try.prog.cellsOf 23=1:=by kernel_rfl
    have g0:=hf 0 _ rfl;simp only[List.getElem_toArray,List.getElem_cons_zero,List.getElem_cons_succ,e0]at g0;obtain⟨a0,K0,w0,m0⟩:=(opens_int Try.underlying23) enc W spare held m [c0] y0 g0;have g1:=hf 1 _ rfl;simp only[List.getElem_toArray,List.getElem_cons_zero,List.getElem_cons_succ,e1]at g1;obtain⟨a1,K1,w1,m1⟩:=(opens_int Try.underlying23) enc W spare held m [c1] y1 g1;exact⟨⟨a0,a1⟩,⟨[c0], [c1],rfl,K0,K1⟩,⟨w0,w1⟩,by simp only[mu25,List.map_cons,List.map_nil,uptoBulk,uptoBulkAll];omega⟩
def wf27 (x:S27):Prop:=wfAny x.f0∧wf25 x.f1∧(wfInt .i64) x.f2
def mu27 (x:S27):Nat:=mu1 x.f0+mu25 x.f1+mu1 x.f2+1
set_option maxRecDepth 100000 in
theorem opn27:Opens Try.prog 27 k27 wf27 mu27:=by
  intro H enc W spare held n cs x h;obtain⟨xs,m,rfl,rfl,hl,hs,hf⟩:=DataW.trod_struct Try.underlying27 h;have hc:cs.length=4:=hl.trans (by kernel_rfl);have hx:xs.length=3:=hs;clear hl hs h
  match cs,hc,xs,hx,hf with
  | [c0,c1,c2,c3],_, [y0,y1,y2],_,hf=>
    have e0:Try.prog.cellsOf 4=1:=by kernel_rfl
    have e1:Try.prog.cellsOf 25=2:=by kernel_rfl
    have e2:Try.prog.cellsOf 3=1:=by kernel_rfl
    have g0:=hf 0 _ rfl;simp only[List.getElem_toArray,List.getElem_cons_zero,List.getElem_cons_succ,e0]at g0;obtain⟨a0,K0,w0,m0⟩:=(opens_bool Try.underlying4) enc W spare held m [c0] y0 g0;have g1:=hf 1 _ rfl;simp only[List.getElem_toArray,List.getElem_cons_zero,List.getElem_cons_succ,e1]at g1;obtain⟨a1,K1,w1,m1⟩:=opn25 enc W spare held m [c1,c2] y1 g1;have g2:=hf 2 _ rfl;simp only[List.getElem_toArray,List.getElem_cons_zero,List.getElem_cons_succ,e2]at g2;obtain⟨a2,K2,w2,m2⟩:=(opens_int Try.underlying3) enc W spare held m [c3] y2 g2;exact⟨⟨a0,a1,a2⟩,⟨[c0], [c1,c2,c3],rfl,K0,⟨[c1,c2], [c3],rfl,K1,K2⟩⟩,⟨w0,w1,w2⟩,by simp only[mu27,List.map_cons,List.map_nil,uptoBulk,uptoBulkAll];omega⟩
def wf30 (x:S30):Prop:=(wfInt .u8) x.f0∧(wfInt .i64) x.f1
def mu30 (x:S30):Nat:=mu1 x.f0+mu1 x.f1+1
set_option maxRecDepth 100000 in
theorem opn30:Opens Try.prog 30 k30 wf30 mu30:=by
  intro H enc W spare held n cs x h;obtain⟨xs,m,rfl,rfl,hl,hs,hf⟩:=DataW.trod_struct Try.underlying30 h;have hc:cs.length=2:=hl.trans (by kernel_rfl);have hx:xs.length=2:=hs;clear hl hs h
  match cs,hc,xs,hx,hf with
  | [c0,c1],_, [y0,y1],_,hf=>
    have e0:Try.prog.cellsOf 28=1:=by kernel_rfl
    have e1:Try.prog.cellsOf 3=1:=by kernel_rfl
    have g0:=hf 0 _ rfl;simp only[List.getElem_toArray,List.getElem_cons_zero,List.getElem_cons_succ,e0]at g0;obtain⟨a0,K0,w0,m0⟩:=(opens_int Try.underlying28) enc W spare held m [c0] y0 g0;have g1:=hf 1 _ rfl;simp only[List.getElem_toArray,List.getElem_cons_zero,List.getElem_cons_succ,e1]at g1;obtain⟨a1,K1,w1,m1⟩:=(opens_int Try.underlying3) enc W spare held m [c1] y1 g1;exact⟨⟨a0,a1⟩,⟨[c0], [c1],rfl,K0,K1⟩,⟨w0,w1⟩,by simp only[mu30,List.map_cons,List.map_nil,uptoBulk,uptoBulkAll];omega⟩
def wf32 (x:S32):Prop:=(wfInt .u8) x.f0∧(wfInt .i64) x.f1∧(wfInt .u64) x.f2∧(wfInt .i64) x.f3∧wf27 x.f4∧wf30 x.f5∧(wfInt .i64) x.f6∧(wfInt .i64) x.f7
def mu32 (x:S32):Nat:=mu1 x.f0+mu1 x.f1+mu1 x.f2+mu1 x.f3+mu27 x.f4+mu30 x.f5+mu1 x.f6+mu1 x.f7+1
set_option maxRecDepth 100000 in
theorem opn32:Opens Try.prog 32 k32 wf32 mu32:=by
  intro H enc W spare held n cs x h;obtain⟨xs,m,rfl,rfl,hl,hs,hf⟩:=DataW.trod_struct Try.underlying32 h;have hc:cs.length=12:=hl.trans (by kernel_rfl);have hx:xs.length=8:=hs;clear hl hs h
  match cs,hc,xs,hx,hf with
  | [c0,c1,c2,c3,c4,c5,c6,c7,c8,c9,c10,c11],_, [y0,y1,y2,y3,y4,y5,y6,y7],_,hf=>
    have e0:Try.prog.cellsOf 22=1:=by kernel_rfl
    have e1:Try.prog.cellsOf 3=1:=by kernel_rfl
    have e2:Try.prog.cellsOf 23=1:=by kernel_rfl
    have e3:Try.prog.cellsOf 2=1:=by kernel_rfl
    have e4:Try.prog.cellsOf 27=4:=by kernel_rfl
    have e5:Try.prog.cellsOf 30=2:=by kernel_rfl
    have e6:Try.prog.cellsOf 3=1:=by kernel_rfl
    have e7:Try.prog.cellsOf 3=1:=by kernel_rfl
    have g0:=hf 0 _ rfl;simp only[List.getElem_toArray,List.getElem_cons_zero,List.getElem_cons_succ,e0]at g0;obtain⟨a0,K0,w0,m0⟩:=(opens_int Try.underlying22) enc W spare held m [c0] y0 g0;have g1:=hf 1 _ rfl;simp only[List.getElem_toArray,List.getElem_cons_zero,List.getElem_cons_succ,e1]at g1;obtain⟨a1,K1,w1,m1⟩:=(opens_int Try.underlying3) enc W spare held m [c1] y1 g1;have g2:=hf 2 _ rfl;simp only[List.getElem_toArray,List.getElem_cons_zero,List.getElem_cons_succ,e2]at g2;obtain⟨a2,K2,w2,m2⟩:=(opens_int Try.underlying23) enc W spare held m [c2] y2 g2;have g3:=hf 3 _ rfl;simp only[List.getElem_toArray,List.getElem_cons_zero,List.getElem_cons_succ,e3]at g3;obtain⟨a3,K3,w3,m3⟩:=(opens_int Try.underlying2) enc W spare held m [c3] y3 g3;have g4:=hf 4 _ rfl;simp only[List.getElem_toArray,List.getElem_cons_zero,List.getElem_cons_succ,e4]at g4;obtain⟨a4,K4,w4,m4⟩:=opn27 enc W spare held m [c4,c5,c6,c7] y4 g4;have g5:=hf 5 _ rfl;simp only[List.getElem_toArray,List.getElem_cons_zero,List.getElem_cons_succ,e5]at g5;obtain⟨a5,K5,w5,m5⟩:=opn30 enc W spare held m [c8,c9] y5 g5;have g6:=hf 6 _ rfl;simp only[List.getElem_toArray,List.getElem_cons_zero,List.getElem_cons_succ,e6]at g6;obtain⟨a6,K6,w6,m6⟩:=(opens_int Try.underlying3) enc W spare held m [c10] y6 g6;have g7:=hf 7 _ rfl;simp only[List.getElem_toArray,List.getElem_cons_zero,List.getElem_cons_succ,e7]at g7;obtain⟨a7,K7,w7,m7⟩:=(opens_int Try.underlying3) enc W spare held m [c11] y7 g7;exact⟨⟨a0,a1,a2,a3,a4,a5,a6,a7⟩,⟨[c0], [c1,c2,c3,c4,c5,c6,c7,c8,c9,c10,c11],rfl,K0,⟨[c1], [c2,c3,c4,c5,c6,c7,c8,c9,c10,c11],rfl,K1,⟨[c2], [c3,c4,c5,c6,c7,c8,c9,c10,c11],rfl,K2,⟨[c3], [c4,c5,c6,c7,c8,c9,c10,c11],rfl,K3,⟨[c4,c5,c6,c7], [c8,c9,c10,c11],rfl,K4,⟨[c8,c9], [c10,c11],rfl,K5,⟨[c10], [c11],rfl,K6,K7⟩⟩⟩⟩⟩⟩⟩,⟨w0,w1,w2,w3,w4,w5,w6,w7⟩,by simp only[mu32,List.map_cons,List.map_nil,uptoBulk,uptoBulkAll];omega⟩
end Go.Proofs.Ytodgadhegcjbhaa.Q
end
section
namespace Go.Proofs.Ytodgadhegcjbhaa.Q
set_option linter.unusedVariables false
open Go.RowKit Go.Proofs.YtodgadhegcjbhaaW.PrintWords Go.Proofs.YtodgadhegcjbhaaW.PrintLast Go.Proofs.YtodgadhegcjbhaaW.PrintMore Go.Proofs.Ytodgadhegcjbhaa.Open
def spoorlaw11_MsgPuts.Pure:Prop:= ∀ (a0_0:Int) (a0_1:Int) (a0_2:Int) (a0_3:Int) (a0_4:Bool) (a0_5:Int) (a0_6:Int) (a0_7:Int) (a0_8:Int) (a0_9:Int) (a0_10:Int) (a0_11:Int) (a1:ByteArray),wf32 (⟨a0_0,a0_1,a0_2,a0_3,(⟨a0_4,(⟨a0_5,a0_6⟩:S25),a0_7⟩:S27),(⟨a0_8,a0_9⟩:S30),a0_10,a0_11⟩:S32)→wfStr a1→a1.size≤140737488351232→ ∃ k,spoorlaw11_MsgPuts.f k a0_0 a0_1 a0_2 a0_3 a0_4 a0_5 a0_6 a0_7 a0_8 a0_9 a0_10 a0_11 a1=some true
end Go.Proofs.Ytodgadhegcjbhaa.Q
end
section
namespace Go.Proofs.Ytodgadhegcjbhaa.Base
set_option linter.unusedVariables false
open Go.RowKit Go.Proofs.YtodgadhegcjbhaaW.PrintWords Go.Proofs.YtodgadhegcjbhaaW.PrintLast Go.Proofs.YtodgadhegcjbhaaW.PrintMore
theorem Ev.pos {α:Type}{c:Prop} [Decidable c] {f g:Nat→Option α}{r:α} (h:c) (k:Ev f r):Ev (fun n=>if c then f n else g n) r:=Ev.congr (fun _=>if_pos h) k
theorem Ev.neg {α:Type}{c:Prop} [Decidable c] {f g:Nat→Option α}{r:α} (h: ¬ c) (k:Ev g r):Ev (fun n=>if c then f n else g n) r:=Ev.congr (fun _=>if_neg h) k
theorem Ev.const {α:Type}{o:Option α}{r:α} (h:o=some r):Ev (fun _=>o) r:=⟨0,fun _ _=>h⟩
theorem Ev.succ {α:Type}{g:Nat→Option α}{r:α} (h:Ev (fun k=>g (k+1)) r):Ev g r:=Ev.step (fun _=>rfl) h
theorem Ev.to {α:Type}{g:Nat→Option α}{r q:α} (h:Ev g r) (e:r=q):Ev g q:=e▸h
theorem w64 {n:Int} (h0: -9223372036854775808≤n) (h1:n≤9223372036854775807):wrap64 n=n:=by unfold wrap64;omega
theorem u64w {n:Int} (h0:0≤n) (h1:n<18446744073709551616):IntKind.u64.wrap n=n:=by
  simp [IntKind.wrap,IntKind.bits,IntKind.signed];omega
theorem u64m (n:Int):IntKind.u64.wrap n=n % 18446744073709551616:=by simp [IntKind.wrap,IntKind.bits,IntKind.signed]
theorem wf_u64 {n:Int} (h:(Lit.int .u64 n).wf=true):0≤n∧n<18446744073709551616:=by
  have h1:IntKind.u64.min≤n∧n≤IntKind.u64.max:=by simpa [Lit.wf] using h
  have a:IntKind.u64.min=0:=by decide
  have b:IntKind.u64.max=18446744073709551615:=by decide
  omega
def Bytes (l:List Int):Prop:= ∀ x∈l,0≤x∧x<256
theorem Bytes.nil:Bytes []:=fun _ h=>by cases h
theorem Bytes.cons {x:Int}{l:List Int} (h0:0≤x) (h1:x<256) (h:Bytes l):Bytes (x :: l):=fun y hy=>by
  rcases List.mem_cons.1 hy with rfl|hy
  · exact⟨h0,h1⟩
  · exact h y hy
theorem Bytes.head {x:Int}{l:List Int} (h:Bytes (x :: l)):0≤x∧x<256:=h x (by simp)
theorem Bytes.tail {x:Int}{l:List Int} (h:Bytes (x :: l)):Bytes l:=fun y hy=>h y (by simp [hy])
theorem Bytes.append {a b:List Int} (ha:Bytes a) (hb:Bytes b):Bytes (a++b):=fun x hx=>(List.mem_append.1 hx).elim (ha x) (hb x)
theorem Bytes.left {a b:List Int} (h:Bytes (a++b)):Bytes a:=fun x hx=>h x (by simp [hx])
theorem Bytes.right {a b:List Int} (h:Bytes (a++b)):Bytes b:=fun x hx=>h x (by simp [hx])
theorem Bytes.drop {l:List Int} (h:Bytes l) (n:Nat):Bytes (l.drop n):=fun x hx=>h x (List.mem_of_mem_drop hx)
theorem Bytes.take {l:List Int} (h:Bytes l) (n:Nat):Bytes (l.take n):=fun x hx=>h x (List.mem_of_mem_take hx)
theorem bytesOf_bytes (s:ByteArray):Bytes (bytesOf s):=by
  intro x hx;obtain⟨b,_,rfl⟩:=List.mem_map.1 hx;have:=b.toNat_lt;omega
theorem str_ext {a b:ByteArray} (h:a.data.toList=b.data.toList):a=b:=by
  cases a with|mk a=>cases b with|mk b=>
  have:a=b:=Array.toList_inj.mp h;rw [this]
theorem str_bytes (s:ByteArray):strOfNums (bytesOf s)=s:=by
  refine str_ext ?_;rw [strOfNums_data,bytesOf,List.map_map]
  conv=>rhs;rw [← List.map_id s.data.toList]
  refine List.map_congr_left fun b _=>?_
  simp
theorem bytes_str {l:List Int} (h:Bytes l):bytesOf (strOfNums l)=l:=by
  rw [bytesOf,strOfNums_data,List.map_map]
  conv=>rhs;rw [← List.map_id l]
  refine List.map_congr_left fun x hx=>?_
  obtain⟨h0,h1⟩:=h x hx;simp;omega
theorem str_append (a b:List Int):strOfNums (a++b)=strOfNums a++strOfNums b:=by
  refine str_ext ?_;rw [ByteArray.data_append,Array.toList_append,strOfNums_data,strOfNums_data,strOfNums_data,List.map_append]
theorem bytes_extract (s:ByteArray) (i j:Nat):bytesOf (s.extract i j)=((bytesOf s).take j).drop i:=by
  unfold bytesOf;rw [ByteArray.data_extract,Array.toList_extract,List.extract_eq_take_drop,List.map_take,List.map_drop,List.drop_take]
theorem bytes_from (s:ByteArray) (i:Nat):bytesOf (s.extract i s.size)=(bytesOf s).drop i:=by
  rw [bytes_extract,List.take_of_length_le (by rw [bytesOf_length];exact Nat.le_refl _)]
theorem str_from (s:ByteArray) (i:Nat):s.extract i s.size=strOfNums ((bytesOf s).drop i):=by rw [← bytes_from,str_bytes]
theorem str_part (s:ByteArray) (i j:Nat):s.extract i j=strOfNums (((bytesOf s).take j).drop i):=by rw [← bytes_extract,str_bytes]
theorem bt_of {s:ByteArray}{l:List Int} (h:bytesOf s=l) (i:Int):bt s i=rd l i:=by rw [← rd_bytesOf,h]
theorem rd_drop {l:List Int}{i:Nat}{x:Int}{r:List Int} (h:l.drop i=x :: r):rd l (i:Int)=x:=by
  have h1:l[i]? =some x:=by
    have:=List.getElem?_drop (xs:=l) (i:=i) (j:=0);rw [h]at this
    simpa using this.symm
  simp [rd,List.getD_eq_getElem?_getD,h1]
theorem drop_lt {l:List Int}{i:Nat}{x:Int}{r:List Int} (h:l.drop i=x :: r):i<l.length:=by
  rcases Nat.lt_or_ge i l.length with g|g
  · exact g
  · rw [List.drop_eq_nil_of_le g]at h;cases h
theorem drop_next {α:Type}{l:List α}{i:Nat}{x:α}{r:List α} (h:l.drop i=x :: r):l.drop (i+1)=r:=by
  rw [← List.drop_drop,h];rfl
theorem drop_nil_le {α:Type}{l:List α}{i:Nat} (h:l.drop i= []):l.length≤i:=List.drop_eq_nil_iff.1 h
theorem or128 {x:Int} (h0:0≤x) (h1:x<256):Go.bits .or .u8 x 128=x % 128+128:=by
  have h: ∀ n:Fin 256,Go.bits .or .u8 ((n.val:Nat):Int) 128=((n.val:Nat):Int) % 128+128:=by decide+kernel
  have:=h ⟨x.toNat,by omega⟩
  simpa [Int.toNat_of_nonneg h0] using this
theorem andNot128 {x:Int} (h0:0≤x) (h1:x<256):Go.bits .andNot .u8 x 128=x % 128:=by
  have h: ∀ n:Fin 256,Go.bits .andNot .u8 ((n.val:Nat):Int) 128=((n.val:Nat):Int) % 128:=by decide+kernel
  have:=h ⟨x.toNat,by omega⟩
  simpa [Int.toNat_of_nonneg h0] using this
theorem bits_or_comm (k:IntKind) (x y:Int):Go.bits .or k x y=Go.bits .or k y x:=by
  unfold Go.bits;simp only[BitVec.or_comm]
theorem wraps_u64 (n:Int) (h₀:0≤n) (h₁:n<2 ^ 64):IntKind.u64.wrap n=n:=u64w h₀ (by omega)
theorem or_join {x y : Int} (i : Nat) (hx : 0 ≤ x) (hm : x % 2 ^ i = 0) (hx1 : x < 18446744073709551616) (hy : 0 ≤ y) (hy1 : y < 2 ^ i) (hy2 : y < 18446744073709551616) : Go.bits .or .u64 x y = x + y :=
  bits_join .u64 64 (by decide) wraps_u64 i x y hx hm (by omega) hy hy1 (by omega)
end Go.Proofs.Ytodgadhegcjbhaa.Base
end
section
namespace Go.Proofs.Ytodgadhegcjbhaa.Num
set_option linter.unusedVariables false
open Go.RowKit Go.Proofs.YtodgadhegcjbhaaW.PrintWords Go.Proofs.YtodgadhegcjbhaaW.PrintLast Go.Proofs.YtodgadhegcjbhaaW.PrintMore Go.Proofs.Ytodgadhegcjbhaa.Base
def putL (n:Nat):List Int:=if n<128 then [(n:Int)] else ((n:Int) % 128+128) :: putL (n / 128)
termination_by n
theorem putL_small {n:Nat} (h:n<128):putL n= [(n:Int)]:=by rw [putL,if_pos h]
theorem putL_great {n:Nat} (h: ¬ n<128):putL n=((n:Int) % 128+128) :: putL (n / 128):=by rw [putL,if_neg h]
theorem putL_ne (n:Nat):putL n≠ []:=by
  rw [putL]
  split <;> simp
theorem putL_pos (n:Nat):0<(putL n).length:=List.length_pos_iff.2 (putL_ne n)
theorem putL_bytes (n:Nat):Bytes (putL n):=by
  induction n using Nat.strongRecOn with
  |_ n ih=>
    by_cases h:n<128;·rw [putL_small h];exact Bytes.cons (by omega) (by omega) Bytes.nil
    ·rw [putL_great h];exact Bytes.cons (by omega) (by omega) (ih _ (by omega))
theorem putL_len_aux: ∀ (j n:Nat),n<128 ^ (j+1)→(putL n).length≤j+1
  |0,n,h=>by rw [putL_small (by simpa using h)];simp
  |j+1,n,h=>by
    by_cases g:n<128
    · rw [putL_small g];simp
    · rw [putL_great g,List.length_cons]
      have:=putL_len_aux j (n / 128) (by
        rw [Nat.div_lt_iff_lt_mul (by decide)]
        rwa [Nat.pow_succ]at h)
      omega
theorem putL_len {n:Nat} (h:n<18446744073709551616):(putL n).length≤10:=putL_len_aux 9 n (Nat.lt_of_lt_of_le h (by decide))
def getL : Nat → Int → List Int → Int × List Int × Int
  | _, _, [] => (0, [], 5)
  | i, n, b :: r => if i = 9 ∧ b > 1 then (0, [], 7) else if b ≥ 128 then getL (i + 1) (n + b % 128 * 128 ^ i) r else if b = 0 ∧ 0 < i then (0, [], 7) else (n + b * 128 ^ i, r, 0)
theorem getL_put (more:List Int): ∀ (m i:Nat) (n:Int),i≤9→m * 128 ^ i<18446744073709551616→(0<i→0<m)→getL i n (putL m++more)=(n+m * 128 ^ i,more,0):=by
  intro m
  induction m using Nat.strongRecOn with
  |_ m ih=>
    intro i n hi hm h0
    have h9:i=9→m≤1:=by
      rintro rfl
      have:m * 9223372036854775808<18446744073709551616:=by simpa using hm
      omega
    by_cases h:m<128;·rw [putL_small h];simp only[List.cons_append,List.nil_append,getL];rw [if_neg (by omega),if_neg (by omega),if_neg (by omega)]
    · rw [putL_great h];simp only[List.cons_append,getL];have hd:m / 128 * 128 ^ (i+1)≤m * 128 ^ i:=by rw [Nat.pow_succ,Nat.mul_comm (128 ^ i), ← Nat.mul_assoc];exact Nat.mul_le_mul_right _ (Nat.div_mul_le_self _ _)
      rw [if_neg (by omega),if_pos (by omega),ih (m / 128) (by omega) (i+1) _ (by omega) (by omega) (by omega)];refine Prod.ext ?_ rfl
      show n+((m:Int) % 128+128) % 128 * 128 ^ i+((m / 128:Nat):Int) * 128 ^ (i+1)=n+(m:Int) * 128 ^ i
      rw [Int.pow_succ];have e:((m:Int) % 128+128) % 128=(m:Int) % 128:=by omega
      have e2:((m / 128:Nat):Int)=(m:Int) / 128:=by omega
      rw [e,e2,Int.add_assoc,Int.mul_comm (128 ^ i) 128, ← Int.mul_assoc, ← Int.add_mul]
      congr 2
      omega
theorem getL_put0 {m:Nat} (more:List Int) (h:m<18446744073709551616):getL 0 0 (putL m++more)=((m:Int),more,0):=by
  rw [getL_put more m 0 0 (by omega) (by simpa using h) (by omega)];simp
theorem getL_back: ∀ (l:List Int) (i:Nat) (n v:Int) (r:List Int),Bytes l→i≤9→getL i n l=(v,r,0)→ ∃ m:Nat,v=n+m * 128 ^ i∧l=putL m++r∧(0<i→0<m)∧m * 128 ^ i<18446744073709551616
  | [],i,n,v,r,_,_,h=>by simp [getL]at h
  |b :: l,i,n,v,r,hb,hi,h=>by
    obtain⟨b0,b1⟩:=hb.head;simp only[getL]at h;by_cases h1:i=9∧b > 1
    · rw [if_pos h1]at h;simp at h
    rw [if_neg h1]at h;by_cases h2:b ≥ 128
    · rw [if_pos h2]at h;obtain⟨m,hv,hl,hm,hs⟩:=getL_back l (i+1) _ v r hb.tail (by omega) h;have hm:=hm (by omega);have e:(((b % 128).toNat+m * 128:Nat):Int)=b % 128+m * 128:=by omega
      refine⟨(b % 128).toNat+m * 128,?_,?_,by omega,?_⟩
      · rw [hv,e,Int.pow_succ,Int.add_mul,Int.add_assoc,Int.mul_comm (128 ^ i) 128,Int.mul_assoc]
      · rw [putL_great (by omega),hl];have e1:((b % 128).toNat+m * 128) / 128=m:=by omega
        have e2:((((b % 128).toNat+m * 128:Nat):Int) % 128+128)=b:=by omega
        rw [e1,e2];rfl
      · have hp:0<128 ^ i:=Nat.pow_pos (by decide);have hlt:((b % 128).toNat+m * 128) * 128 ^ i<(m+1) * 128 ^ (i+1):=by rw [Nat.pow_succ,Nat.mul_comm (128 ^ i), ← Nat.mul_assoc];exact Nat.mul_lt_mul_of_pos_right (by omega) hp
        have hi8:i≤8:=by omega
        have hmm:m * 128 ^ (i+1)<18446744073709551616:=hs
        have key: ∀ j:Nat,j≤8→m * 128 ^ (j+1)<18446744073709551616→18446744073709551616=128 ^ (j+1) * (18446744073709551616 / 128 ^ (j+1)):=by
          intro j hj _;have:j=0∨j=1∨j=2∨j=3∨j=4∨j=5∨j=6∨j=7∨j=8:=by omega
          rcases this with rfl|rfl|rfl|rfl|rfl|rfl|rfl|rfl|rfl <;> decide
        have hq:=key i hi8 hmm
        have hm1:m+1≤18446744073709551616 / 128 ^ (i+1):=by
          have:m * 128 ^ (i+1)<18446744073709551616 / 128 ^ (i+1) * 128 ^ (i+1):=by rw [Nat.mul_comm (18446744073709551616 / _)];omega
          exact Nat.lt_of_mul_lt_mul_right this
        have:(m+1) * 128 ^ (i+1)≤18446744073709551616:=by rw [hq,Nat.mul_comm (128 ^ (i+1))];exact Nat.mul_le_mul_right _ hm1
        omega
    rw [if_neg h2]at h;by_cases h3:b=0∧0<i
    · rw [if_pos h3]at h;simp at h
    rw [if_neg h3]at h;simp only[Prod.mk.injEq,and_true]at h;obtain⟨rfl,rfl⟩:=h;refine⟨b.toNat,by rw [Int.toNat_of_nonneg b0],?_,by omega,?_⟩
    · rw [putL_small (by omega),Int.toNat_of_nonneg b0];rfl
    · have:i=0∨i=1∨i=2∨i=3∨i=4∨i=5∨i=6∨i=7∨i=8∨i=9:=by omega
      rcases this with rfl|rfl|rfl|rfl|rfl|rfl|rfl|rfl|rfl|rfl <;> simp only[Nat.reducePow] <;> omega
theorem getL_back0 {l r:List Int}{v:Int} (hb:Bytes l) (h:getL 0 0 l=(v,r,0)): ∃ m:Nat,v=m∧l=putL m++r∧m<18446744073709551616:=by
  obtain⟨m,hv,hl,_,hs⟩:=getL_back l 0 0 v r hb (by omega) h;exact⟨m,by simpa using hv,hl,by simpa using hs⟩
theorem getL_err: ∀ (l:List Int) (i:Nat) (n:Int),(getL i n l).2.2=0∨((getL i n l).2.2≠0∧(getL i n l).1=0∧(getL i n l).2.1= [])
  | [],_,_=>by simp [getL]
  |b :: l,i,n=>by
    simp only[getL]
    split
    · exact .inr (by simp)
    split
    · exact getL_err l _ _
    split
    · exact .inr (by simp)
    · exact .inl rfl
theorem getL_len: ∀ (l:List Int) (i:Nat) (n:Int),(getL i n l).2.1.length≤l.length
  | [],_,_=>by simp [getL]
  |b :: l,i,n=>by
    simp only[getL]
    split
    · simp
    split
    · have:=getL_len l (i+1) (n+b % 128 * 128 ^ i);simp;omega
    split
    · simp
    · simp
end Go.Proofs.Ytodgadhegcjbhaa.Num
end
section
namespace Go.Proofs.Ytodgadhegcjbhaa.Addr
set_option linter.unusedVariables false
open Go.RowKit Go.Proofs.YtodgadhegcjbhaaW.PrintWords Go.Proofs.YtodgadhegcjbhaaW.PrintLast Go.Proofs.YtodgadhegcjbhaaW.PrintMore Go.Proofs.Ytodgadhegcjbhaa.Base
def Wn (six:Bool):Nat:=if six then 128 else 32
theorem Wn_le (six:Bool):Wn six≤128:=by cases six <;> simp [Wn]
def hi (n:Nat):Int:=((n / 18446744073709551616:Nat):Int)
def lo (n:Nat):Int:=((n % 18446744073709551616:Nat):Int)
theorem lo_range (n:Nat):0≤lo n∧lo n<18446744073709551616:=by unfold lo;omega
theorem hi_range {n:Nat} (h:n<340282366920938463463374607431768211456):0≤hi n∧hi n<18446744073709551616:=by unfold hi;omega
theorem of_parts {h l : Int} (h0 : 0 ≤ h) (h1 : h < 18446744073709551616) (l0 : 0 ≤ l) (l1 : l < 18446744073709551616) : ∃ n, n < 340282366920938463463374607431768211456 ∧ h = hi n ∧ l = lo n :=
  ⟨h.toNat * 18446744073709551616 + l.toNat, by omega, by unfold hi; omega, by unfold lo; omega⟩
theorem p2pos (n:Nat):0<2 ^ n:=Nat.two_pow_pos n
theorem p2le {n:Nat} (h:n≤128):2 ^ n≤340282366920938463463374607431768211456:=Nat.le_trans (Nat.pow_le_pow_right (by decide) h) (by decide)
theorem p2le64 {n:Nat} (h:n≤64):2 ^ n≤18446744073709551616:=Nat.le_trans (Nat.pow_le_pow_right (by decide) h) (by decide)
theorem p2lt64 {n:Nat} (h:n<64):2 ^ n≤9223372036854775808:=Nat.le_trans (Nat.pow_le_pow_right (show 0<2 by decide) (show n≤63 by omega)) (by decide)
theorem p2split {n:Nat} (h:64≤n):2 ^ n=18446744073709551616 * 2 ^ (n - 64):=by
  have:2 ^ n=2 ^ 64 * 2 ^ (n - 64):=by rw [← Nat.pow_add];congr 1;omega
  rw [this]
theorem p2split' {n:Nat} (h:n≤64):18446744073709551616=2 ^ n * 2 ^ (64 - n):=by
  have:2 ^ 64=2 ^ n * 2 ^ (64 - n):=by rw [← Nat.pow_add];congr 1;omega
  rw [← this]
theorem wn_pow (six:Bool):2 ^ Wn six≤340282366920938463463374607431768211456:=p2le (Wn_le six)
theorem wn_six {n:Nat}:(n<2 ^ Wn true)↔n<340282366920938463463374607431768211456:=Iff.rfl
theorem wn_four {n:Nat}:(n<2 ^ Wn false)↔n<4294967296:=Iff.rfl
theorem mod_parts {n N:Nat} (h:64≤n):N % 2 ^ n=0↔(N / 18446744073709551616) % 2 ^ (n - 64)=0∧N % 18446744073709551616=0:=by
  rw [p2split h,Nat.mod_mul];constructor
  · intro e;constructor
    · rcases Nat.eq_zero_or_pos (N / 18446744073709551616 % 2 ^ (n - 64)) with z|z
      · exact z
      · omega
    · omega
  · rintro⟨a,b⟩
    rw [a,b]
theorem mod_low {n N:Nat} (h:n≤64):(N % 18446744073709551616) % 2 ^ n=N % 2 ^ n:=by
  refine Nat.mod_mod_of_dvd N ⟨2 ^ (64 - n),?_⟩;exact p2split' h
theorem or_zero {x y:Int} (hx:0≤x) (hx1:x<18446744073709551616) (hy:0≤y) (hy1:y<18446744073709551616):Go.bits .or .u64 x y=0↔x=0∧y=0:=by
  obtain⟨a,rfl⟩:=Int.eq_ofNat_of_zero_le hx;obtain⟨b,rfl⟩:=Int.eq_ofNat_of_zero_le hy;rw [(bits_nat .u64 64 (by decide) wraps_u64 a b (by omega) (by omega)).2];constructor
  · intro h;have h0:a ||| b=0:=by exact_mod_cast h
    have:=Nat.or_eq_zero_iff.1 h0;omega
  · rintro⟨h1,h2⟩
    have e1:a=0:=by omega
    have e2:b=0:=by omega
    subst e1;subst e2;rfl
theorem and_mask {x:Int}{j:Nat} (hx:0≤x) (hx1:x<18446744073709551616) (hj:j≤64):Go.bits .and .u64 x ((2 ^ j - 1:Nat):Int)=x % ((2 ^ j:Nat):Int):=by
  have:=bits_mask .u64 64 (by decide) wraps_u64 j hj x hx (by omega);have e:((2 ^ j - 1:Nat):Int)=(2:Int) ^ j - 1:=by rw [Int.natCast_sub (p2pos j)];simp
  rw [e,this];simp
theorem shl1 {m:Nat} (h:m<64):shl .u64 1 (m:Int)=((2 ^ m:Nat):Int):=by
  have:=p2lt64 h;unfold shl;rw [Int.toNat_natCast,Nat.min_eq_left (by simp [IntKind.bits];omega),Int.one_mul];have e:(2:Int) ^ m=((2 ^ m:Nat):Int):=by simp
  rw [e];generalize 2 ^ m=q at *;exact u64w (by omega) (by omega)
def bitsL : Nat → Nat → List Int
  | 0, _ => []
  | w + 1, n => bitsL w (n / 2) ++ [((n % 2 : Nat) : Int)]
theorem bitsL_len : ∀ w n, (bitsL w n).length = w
  | 0, _ => rfl
  | w + 1, n => by simp [bitsL, bitsL_len w]
theorem bitsL_split: ∀ (b a n:Nat),bitsL (a+b) n=bitsL a (n / 2 ^ b)++bitsL b n
  |0,a,n=>by simp [bitsL]
  |b+1,a,n=>by
    have e:n / 2 / 2 ^ b=n / 2 ^ (b+1):=by rw [Nat.div_div_eq_div_mul,Nat.pow_succ,Nat.mul_comm]
    rw [← Nat.add_assoc,bitsL,bitsL_split b a (n / 2),e,bitsL,List.append_assoc]
theorem bitsL_zero: ∀ (w n:Nat),(∀ x∈bitsL w n,x=0)↔n % 2 ^ w=0
  |0,n=>by simp [bitsL,Nat.mod_one]
  |w+1,n=>by
    have ih:=bitsL_zero w (n / 2);have e:n % 2 ^ (w+1)=2 * (n / 2 % 2 ^ w)+n % 2:=by rw [Nat.pow_succ,Nat.mul_comm,Nat.mod_mul];omega
    rw [e];constructor;·intro h;have h1:=ih.1 (fun x hx=>h x (by simp [bitsL,hx]));have h2:=h ((n % 2:Nat):Int) (by simp [bitsL]);omega
    · intro h x hx;rcases List.mem_append.1 hx with hx|hx
      · exact ih.2 (by omega) x hx
      · simp at hx;omega
def okP (six:Bool) (n:Nat) (len:Int):Prop:=0≤len∧len≤Wn six∧n<2 ^ Wn six∧n % 2 ^ (Wn six - len.toNat)=0
instance (six:Bool) (n:Nat) (len:Int):Decidable (okP six n len):=by unfold okP;exact inferInstance
def hostN (six:Bool) (len:Int):Nat:=2 ^ (Wn six - len.toNat) - 1
def hasP (six:Bool) (n:Nat) (len:Int) (six':Bool) (m:Nat):Prop:=okP six n len∧six=six'∧m<2 ^ Wn six'∧n≤m∧m≤n+hostN six len
instance (six:Bool) (n:Nat) (len:Int) (six':Bool) (m:Nat):Decidable (hasP six n len six' m):=by unfold hasP;exact inferInstance
end Go.Proofs.Ytodgadhegcjbhaa.Addr
end
section
namespace Go.Proofs.Ytodgadhegcjbhaa.Be
set_option linter.unusedVariables false
open Go.RowKit Go.Proofs.YtodgadhegcjbhaaW.PrintWords Go.Proofs.YtodgadhegcjbhaaW.PrintLast Go.Proofs.YtodgadhegcjbhaaW.PrintMore Go.Proofs.Ytodgadhegcjbhaa.Base
def be : Nat → Nat → List Int
  | 0, _ => []
  | j + 1, n => be j (n / 256) ++ [((n % 256 : Nat) : Int)]
def nb (l:List Int):Nat:=l.foldl (fun a b=>256 * a+b.toNat) 0
theorem snoc_ind {P:List Int→Prop} (h0:P []) (h1: ∀ l x,P l→P (l++ [x])) (l:List Int):P l:=by
  have h: ∀ r:List Int,P r.reverse:=by
    intro r
    induction r with
    |nil=>exact h0
    |cons a r ih=>rw [List.reverse_cons];exact h1 _ _ ih
  have:=h l.reverse
  rwa [List.reverse_reverse]at this
theorem nb_snoc (l:List Int) (b:Int):nb (l++ [b])=256 * nb l+b.toNat:=by simp [nb,List.foldl_append]
theorem be_len : ∀ j n, (be j n).length = j
  | 0, _ => rfl
  | j + 1, n => by rw [be, List.length_append, be_len j]; rfl
theorem be_bytes: ∀ j n,Bytes (be j n)
  |0,_=>Bytes.nil
  |j+1,n=>by
    rw [be];exact (be_bytes j _).append (Bytes.cons (by omega) (by omega) Bytes.nil)
theorem nb_be: ∀ j n,nb (be j n)=n % 256 ^ j
  |0,n=>by simp [be,nb,Nat.mod_one]
  |j+1,n=>by
    rw [be,nb_snoc,nb_be j,Int.toNat_natCast,Nat.pow_succ,Nat.mul_comm (256 ^ j) 256,Nat.mod_mul];omega
theorem be_nb (l:List Int):Bytes l→be l.length (nb l)=l:=by
  induction l using snoc_ind with
  |h0=>intro _;rfl
  |h1 l x ih=>
    intro hb;have hx:=hb.right.head;have e:(l++ [x]).length=l.length+1:=by simp
    rw [e,be,nb_snoc];have e1:(256 * nb l+x.toNat) / 256=nb l:=by omega
    have e2:(((256 * nb l+x.toNat) % 256:Nat):Int)=x:=by omega
    rw [e1,e2,ih hb.left]
theorem be_split: ∀ (b a n:Nat),be (a+b) n=be a (n / 256 ^ b)++be b n
  |0,a,n=>by simp [be]
  |b+1,a,n=>by
    rw [show a+(b+1)=a+b+1 by omega,be,be_split b a,be,Nat.div_div_eq_div_mul,Nat.pow_succ,Nat.mul_comm 256,List.append_assoc]
theorem nb_append (a b:List Int):nb (a++b)=nb a * 256 ^ b.length+nb b:=by
  induction b using snoc_ind with
  |h0=>simp [nb]
  |h1 l x ih=>
    rw [← List.append_assoc,nb_snoc,nb_snoc,ih,List.length_append,List.length_singleton,Nat.pow_succ,Nat.mul_add, ← Nat.add_assoc, ← Nat.mul_assoc (nb a),Nat.mul_comm 256 (nb a * _)]
theorem nb_lt (l:List Int):Bytes l→nb l<256 ^ l.length:=by
  induction l using snoc_ind with
  |h0=>intro _;simp [nb]
  |h1 l x ih=>
    intro hb;have hx:=hb.right.head;have:=ih hb.left;rw [nb_snoc,List.length_append,List.length_singleton,Nat.pow_succ];omega
theorem be_zero (j:Nat):be j 0=List.replicate j 0:=by
  induction j with
  |zero=>rfl
  |succ j ih=>rw [be,Nat.zero_div,ih,List.replicate_succ'];rfl
theorem be_mod (j n m:Nat) (h:n % 256 ^ j=m % 256 ^ j):be j n=be j m:=by
  have e: ∀ x,be j (nb (be j x))=be j x:=fun x=>by
    have:=be_nb (be j x) (be_bytes j x)
    rwa [be_len]at this
  rw [← e n, ← e m,nb_be,nb_be,h]
theorem be_zeros {j n:Nat} (h:n % 256 ^ j=0):be j n=List.replicate j 0:=by rw [be_mod j n 0 (by rw [h];simp),be_zero]
theorem nb_zeros (j:Nat):nb (List.replicate j 0)=0:=by rw [← be_zero,nb_be,Nat.zero_mod]
theorem bytes_zeros (n:Nat):Bytes (List.replicate n 0):=fun x hx=>by
  rw [List.eq_of_mem_replicate hx];omega
end Go.Proofs.Ytodgadhegcjbhaa.Be
end
section
namespace Go.Proofs.Ytodgadhegcjbhaa.Msg
set_option linter.unusedVariables false
open Go.RowKit Go.Proofs.YtodgadhegcjbhaaW.PrintWords Go.Proofs.YtodgadhegcjbhaaW.PrintLast Go.Proofs.YtodgadhegcjbhaaW.PrintMore Go.Proofs.Ytodgadhegcjbhaa.Base Go.Proofs.Ytodgadhegcjbhaa.Num Go.Proofs.Ytodgadhegcjbhaa.Addr Go.Proofs.Ytodgadhegcjbhaa.Be
def Bn (six:Bool):Nat:=if six then 16 else 4
theorem bn_wn (six:Bool):Wn six=8 * Bn six:=by cases six <;> rfl
theorem p256 (j:Nat):256 ^ j=2 ^ (8 * j):=by rw [Nat.pow_mul]
def Kn (len:Int):Nat:=(len.toNat+7) / 8
def sixB (six:Bool):Int:=if six then 6 else 4
def preL (six:Bool) (n:Nat) (len:Int):List Int:=sixB six :: len :: (be (Bn six) n).take (Kn len)
theorem kn_le {six:Bool}{len:Int} (h:len≤Wn six):Kn len≤Bn six:=by rw [bn_wn]at h;unfold Kn;omega
theorem pre_tail {six:Bool}{n:Nat}{len:Int} (h:okP six n len):be (Bn six) n=(be (Bn six) n).take (Kn len)++List.replicate (Bn six - Kn len) 0:=by
  obtain⟨h0,h1,h2,h3⟩:=h;have hk:=kn_le h1;have hw:=bn_wn six;obtain⟨b,hb⟩: ∃ b,Bn six=Kn len+b:=⟨Bn six - Kn len,by omega⟩;rw [hb,be_split,List.take_left' (be_len _ _),Nat.add_sub_cancel_left]
  congr 1
  apply be_zeros;rw [p256];apply Nat.mod_eq_zero_of_dvd;refine Nat.dvd_trans (Nat.pow_dvd_pow 2 ?_) (Nat.dvd_of_mod_eq_zero h3);unfold Kn at hb;omega
theorem preL_bytes {six:Bool}{n:Nat}{len:Int} (h:okP six n len):Bytes (preL six n len):=by
  obtain⟨h0,h1,_⟩:=h;have:=Wn_le six;refine Bytes.cons (by cases six <;> simp [sixB]) (by cases six <;> simp [sixB]) (Bytes.cons h0 (by omega) ((be_bytes _ _).take _))
theorem preL_len {six:Bool}{n:Nat}{len:Int} (h:okP six n len):(preL six n len).length≤18:=by
  simp only[preL,List.length_cons,List.length_take,be_len];have:Bn six≤16:=by cases six <;> simp [Bn]
  omega
def preN (six:Bool) (len:Int) (l:List Int):Nat:=nb (l.take (Kn len)++List.replicate (Bn six - Kn len) 0)
abbrev Pfx:=Bool × Nat × Int
def getP : List Int → Option (Pfx × List Int)
  | b :: len :: l => if (b = 4 ∨ b = 6) ∧ len ≤ Wn (b == 6) ∧ Kn len ≤ l.length ∧ okP (b == 6) (preN (b == 6) len l) len then some ((b == 6, preN (b == 6) len l, len), l.drop (Kn len)) else none
  | _ => none
theorem preN_put {six:Bool}{n:Nat}{len:Int} (r:List Int) (h:okP six n len):preN six len ((be (Bn six) n).take (Kn len)++r)=n:=by
  unfold preN;rw [List.take_left' (by rw [List.length_take,be_len];exact Nat.min_eq_left (kn_le h.2.1)), ← pre_tail h,nb_be];have hw:256 ^ Bn six=2 ^ Wn six:=by rw [p256,bn_wn]
  rw [hw,Nat.mod_eq_of_lt h.2.2.1]
theorem getP_put {six:Bool}{n:Nat}{len:Int} (r:List Int) (h:okP six n len):getP (preL six n len++r)=some ((six,n,len),r):=by
  simp only[preL,List.cons_append,getP];have e6:(sixB six==6)=six:=by cases six <;> rfl
  have e4:sixB six=4∨sixB six=6:=by cases six <;> simp [sixB]
  have hk:=kn_le h.2.1;rw [e6,preN_put r h,if_pos ⟨e4,h.2.1,by simp [be_len];omega,h⟩,List.drop_left' (by rw [List.length_take,be_len];exact Nat.min_eq_left hk)]
theorem getP_back {l r:List Int}{six:Bool}{n:Nat}{len:Int} (hb:Bytes l) (h:getP l=some ((six,n,len),r)):okP six n len∧l=preL six n len++r:=by
  match l,h with
  |b :: ln :: l,h=>
    simp only[getP]at h
    split at h
    · rename_i c
      obtain⟨c1,c2,c3,c4⟩:=c;simp only[Option.some.injEq,Prod.mk.injEq]at h;obtain⟨⟨rfl,rfl,rfl⟩,rfl⟩:=h;refine⟨c4,?_⟩;have e6:sixB (b==6)=b:=by rcases c1 with rfl|rfl <;> rfl
      have hk:=kn_le c2;have hl:(l.take (Kn ln)++List.replicate (Bn (b==6) - Kn ln) 0).length=Bn (b==6):=by rw [List.length_append,List.length_take,List.length_replicate];omega
      have e:=be_nb (l.take (Kn ln)++List.replicate (Bn (b==6) - Kn ln) 0) ((hb.tail.tail.take _).append (bytes_zeros _));rw [hl]at e;simp only[preL,e6,List.cons_append]
      congr 2
      unfold preN;rw [e,List.take_left' (by rw [List.length_take];exact Nat.min_eq_left c3),List.take_append_drop]
    · cases h
  | [],h=>simp [getP]at h
  | [_],h=>simp [getP]at h
def okA (k i:Int):Prop:=k=1∧0≤i∧i≤65536∨(k=2∨k=3)∧i=0
instance (k i:Int):Decidable (okA k i):=by unfold okA;exact inferInstance
def actL (k i:Int):List Int:=k :: (if k=1 then putL i.toNat else [])
def rdN (most:Int) (l:List Int):Option (Int × List Int):=if (getL 0 0 l).2.2=0∧(getL 0 0 l).1≤most then some ((getL 0 0 l).1,(getL 0 0 l).2.1) else none
theorem rdN_put {most m:Int} (r:List Int) (h0:0≤m) (h:m≤most) (h1:m<18446744073709551616):rdN most (putL m.toNat++r)=some (m,r):=by
  unfold rdN;rw [getL_put0 r (by omega),if_pos ⟨rfl,by show ((m.toNat:Nat):Int)≤_;omega⟩];rw [show ((m.toNat:Nat):Int)=m by omega]
theorem rdN_back {most v:Int}{l r:List Int} (hb:Bytes l) (h:rdN most l=some (v,r)):0≤v∧v≤most∧v<18446744073709551616∧l=putL v.toNat++r:=by
  unfold rdN at h
  split at h
  · rename_i c
    simp only[Option.some.injEq,Prod.mk.injEq]at h;obtain⟨m,hv,hl,hm⟩:=getL_back0 (l:=l) (v:=(getL 0 0 l).1) (r:=(getL 0 0 l).2.1) hb (Prod.ext rfl (Prod.ext rfl c.1));have e:v.toNat=m:=by omega
    exact⟨by omega,by omega,by omega,by rw [e, ← h.2];exact hl⟩
  · cases h
def getA : List Int → Option ((Int × Int) × List Int)
  | k :: l => if k = 1 then (rdN 65536 l).bind fun x => some ((1, x.1), x.2) else if k = 2 ∨ k = 3 then some ((k, 0), l) else none
  | [] => none
theorem okA_act {k i:Int} (h:okA k i):k=1∧0≤i∧i≤65536∨k≠1∧(k=2∨k=3)∧i=0:=by unfold okA at h;omega
theorem getA_put {k i:Int} (r:List Int) (h:okA k i):getA (actL k i++r)=some ((k,i),r):=by
  rcases okA_act h with ⟨rfl,h0,h1⟩|⟨h1,h2,rfl⟩
  ·simp only[actL,if_pos,List.cons_append,getA];rw [rdN_put r h0 h1 (by omega)];rfl
  ·simp only[actL,if_neg h1,List.cons_append,List.nil_append,getA];rw [if_pos h2]
theorem getA_back {l r:List Int}{k i:Int} (hb:Bytes l) (h:getA l=some ((k,i),r)):okA k i∧l=actL k i++r:=by
  match l,h with
  |b :: l,h=>
    simp only[getA]at h
    split at h
    · rename_i c
      obtain⟨⟨v,s⟩,hx,h⟩:=Option.bind_eq_some_iff.mp h;simp only[Option.some.injEq,Prod.mk.injEq]at h;obtain⟨⟨rfl,rfl⟩,rfl⟩:=h;obtain⟨h0,h1,h2,hl⟩:=rdN_back hb.tail hx;exact⟨.inl ⟨rfl,h0,h1⟩,by rw [c,hl];rfl⟩
    · split at h
      · rename_i c1 c2
        simp only[Option.some.injEq,Prod.mk.injEq]at h;obtain⟨⟨rfl,rfl⟩,rfl⟩:=h;exact⟨.inr ⟨c2,rfl⟩,by simp [actL,c1]⟩
      · cases h
theorem actL_bytes {k i:Int} (h:okA k i):Bytes (actL k i):=by
  rcases okA_act h with ⟨rfl,h0,h1⟩|⟨h1,h2,rfl⟩
  · simp only[actL,if_pos];exact Bytes.cons (by omega) (by omega) (putL_bytes _)
  · simp only[actL,if_neg h1];exact Bytes.cons (by omega) (by omega) Bytes.nil
theorem actL_len {k i:Int} (h:okA k i):(actL k i).length≤11:=by
  rcases okA_act h with ⟨rfl,h0,h1⟩|⟨h1,h2,rfl⟩
  ·simp only[actL,if_pos,List.length_cons];have:=putL_len (n:=i.toNat) (by omega);omega
  · simp [actL,h1]
structure E11 where
  kd : Int
  ro : Int
  sq : Int
  ti : Int
  six : Bool
  n : Nat
  ln : Int
  ak : Int
  ai : Int
  ifc : Int
  pe : Int
  deriving DecidableEq
def noP (e:E11):Prop:=e.six=false∧e.n=0∧e.ln=0
def noA (e:E11):Prop:=e.ak=0∧e.ai=0
def okE (e : E11) : Prop := (0 ≤ e.ro ∧ e.ro ≤ 1048576 ∧ 1 ≤ e.sq ∧ e.sq ≤ 1099511627776 ∧ 0 ≤ e.ti ∧ e.ti ≤ 1099511627776) ∧
  ((e.kd = 1 ∨ e.kd = 2) ∧ noP e ∧ noA e ∧ e.ifc = 0 ∧ e.pe = 0 ∨ e.kd = 3 ∧ okP e.six e.n e.ln ∧ okA e.ak e.ai ∧ e.ifc = 0 ∧ e.pe = 0 ∨ e.kd = 4 ∧ okP e.six e.n e.ln ∧ noA e ∧ e.ifc = 0 ∧ e.pe = 0 ∨
   e.kd = 5 ∧ noP e ∧ noA e ∧ (0 ≤ e.ifc ∧ e.ifc ≤ 65536) ∧ (0 ≤ e.pe ∧ e.pe ≤ 1048576) ∨ e.kd = 6 ∧ noP e ∧ noA e ∧ (0 ≤ e.ifc ∧ e.ifc ≤ 65536) ∧ e.pe = 0)
instance (e:E11):Decidable (noP e):=by unfold noP;exact inferInstance
instance (e:E11):Decidable (noA e):=by unfold noA;exact inferInstance
instance (e:E11):Decidable (okE e):=by unfold okE;exact inferInstance
def endL (e:E11):List Int:=if e.kd=3 then preL e.six e.n e.ln++actL e.ak e.ai else if e.kd=4 then preL e.six e.n e.ln else if e.kd=5 then putL e.ifc.toNat++putL e.pe.toNat else if e.kd=6 then putL e.ifc.toNat else []
def bodyL (e:E11):List Int:=e.kd :: (putL e.ro.toNat++(putL e.sq.toNat++(putL e.ti.toNat++endL e)))
def zE (kd ro sq ti:Int):E11:=⟨kd,ro,sq,ti,false,0,0,0,0,0,0⟩
def getEnd (kd ro sq ti : Int) (l : List Int) : Option (E11 × List Int) :=
  if kd = 3 then (getP l).bind fun p => (getA p.2).bind fun a => some (⟨kd, ro, sq, ti, p.1.1, p.1.2.1, p.1.2.2, a.1.1, a.1.2, 0, 0⟩, a.2)
  else if kd = 4 then (getP l).bind fun p => some (⟨kd, ro, sq, ti, p.1.1, p.1.2.1, p.1.2.2, 0, 0, 0, 0⟩, p.2)
  else if kd = 5 then (rdN 65536 l).bind fun x => (rdN 1048576 x.2).bind fun y => some (⟨kd, ro, sq, ti, false, 0, 0, 0, 0, x.1, y.1⟩, y.2)
  else if kd = 6 then (rdN 65536 l).bind fun x => some (⟨kd, ro, sq, ti, false, 0, 0, 0, 0, x.1, 0⟩, x.2)
  else some (zE kd ro sq ti, l)
def getE : List Int → Option E11
  | kd :: l => (rdN 1048576 l).bind fun a => (rdN 1099511627776 a.2).bind fun b => (rdN 1099511627776 b.2).bind fun c => (getEnd kd a.1 b.1 c.1 c.2).bind fun x => if x.2 = [] ∧ okE x.1 then some x.1 else none
  | [] => none
theorem getEnd_put {e:E11} (r:List Int) (h:okE e):getEnd e.kd e.ro e.sq e.ti (endL e++r)=some (e,r):=by
  obtain⟨hn,h⟩:=h;obtain⟨kd,ro,sq,ti,six,n,ln,ak,ai,ifc,pe⟩:=e;dsimp only at *;rcases h with ⟨hk,⟨h1,h2,h3⟩,⟨h4,h5⟩,h6,h7⟩|⟨rfl,hp,ha,h6,h7⟩|⟨rfl,hp,⟨h4,h5⟩,h6,h7⟩|⟨rfl,⟨h1,h2,h3⟩,⟨h4,h5⟩,h6,h7⟩|⟨rfl,⟨h1,h2,h3⟩,⟨h4,h5⟩,h6,h7⟩ <;> (try dsimp only at *)
  ·subst h1 h2 h3 h4 h5 h6 h7;unfold getEnd endL;rw [if_neg (by omega),if_neg (by omega),if_neg (by omega),if_neg (by omega)];dsimp only;rw [if_neg (by omega),if_neg (by omega),if_neg (by omega),if_neg (by omega)];rfl
  ·subst h6 h7;unfold getEnd endL;dsimp only;rw [if_pos rfl,if_pos rfl,List.append_assoc,getP_put _ hp];simp only[Option.bind_some];rw [getA_put _ ha];rfl
  ·subst h4 h5 h6 h7;unfold getEnd endL;dsimp only;rw [if_neg (by decide),if_pos rfl,if_neg (by decide),if_pos rfl,getP_put _ hp];rfl
  ·subst h1 h2 h3 h4 h5;unfold getEnd endL;dsimp only;rw [if_neg (by decide),if_neg (by decide),if_pos rfl,if_neg (by decide),if_neg (by decide),if_pos rfl,List.append_assoc,rdN_put _ h6.1 h6.2 (by omega)];simp only[Option.bind_some];rw [rdN_put _ h7.1 h7.2 (by omega)];rfl
  ·subst h1 h2 h3 h4 h5 h7;unfold getEnd endL;dsimp only;rw [if_neg (by decide),if_neg (by decide),if_neg (by decide),if_pos rfl,if_neg (by decide),if_neg (by decide),if_neg (by decide),if_pos rfl,rdN_put _ h6.1 h6.2 (by omega)];rfl
theorem getEnd_back {kd ro sq ti:Int}{l r:List Int}{e:E11} (hb:Bytes l) (h:getEnd kd ro sq ti l=some (e,r)):e.kd=kd∧e.ro=ro∧e.sq=sq∧e.ti=ti∧l=endL e++r:=by
  unfold getEnd at h
  split at h
  · rename_i c
    obtain⟨⟨⟨a,b,c'⟩,s⟩,hp,h⟩:=Option.bind_eq_some_iff.mp h;obtain⟨⟨⟨x,y⟩,u⟩,ha,h⟩:=Option.bind_eq_some_iff.mp h;simp only[Option.some.injEq,Prod.mk.injEq]at h;obtain⟨rfl,rfl⟩:=h;obtain⟨_,hl⟩:=getP_back hb hp;obtain⟨_,hm⟩:=getA_back (by rw [hl]at hb;exact hb.right) ha;refine⟨rfl,rfl,rfl,rfl,?_⟩;unfold endL;dsimp only at *;rw [if_pos c,hl,hm,List.append_assoc]
  split at h
  · rename_i c1 c
    obtain⟨⟨⟨a,b,c'⟩,s⟩,hp,h⟩:=Option.bind_eq_some_iff.mp h;simp only[Option.some.injEq,Prod.mk.injEq]at h;obtain⟨rfl,rfl⟩:=h;obtain⟨_,hl⟩:=getP_back hb hp;refine⟨rfl,rfl,rfl,rfl,?_⟩;unfold endL;dsimp only at *;rw [if_neg c1,if_pos c,hl]
  split at h
  · rename_i c1 c2 c
    obtain⟨⟨a,s⟩,hp,h⟩:=Option.bind_eq_some_iff.mp h;obtain⟨⟨x,u⟩,ha,h⟩:=Option.bind_eq_some_iff.mp h;simp only[Option.some.injEq,Prod.mk.injEq]at h;obtain⟨rfl,rfl⟩:=h;obtain⟨_,_,_,hl⟩:=rdN_back hb hp;obtain⟨_,_,_,hm⟩:=rdN_back (by rw [hl]at hb;exact hb.right) ha;refine⟨rfl,rfl,rfl,rfl,?_⟩;unfold endL;dsimp only at *;rw [if_neg c1,if_neg c2,if_pos c,hl,hm,List.append_assoc]
  split at h
  · rename_i c1 c2 c3 c
    obtain⟨⟨a,s⟩,hp,h⟩:=Option.bind_eq_some_iff.mp h;simp only[Option.some.injEq,Prod.mk.injEq]at h;obtain⟨rfl,rfl⟩:=h;obtain⟨_,_,_,hl⟩:=rdN_back hb hp;refine⟨rfl,rfl,rfl,rfl,?_⟩;unfold endL;dsimp only at *;rw [if_neg c1,if_neg c2,if_neg c3,if_pos c,hl]
  · rename_i c1 c2 c3 c4
    simp only[Option.some.injEq,Prod.mk.injEq]at h;obtain⟨rfl,rfl⟩:=h;refine⟨rfl,rfl,rfl,rfl,?_⟩;unfold endL zE;dsimp only;rw [if_neg c1,if_neg c2,if_neg c3,if_neg c4];rfl
theorem getE_body {e:E11} (h:okE e):getE (bodyL e)=some e:=by
  have hn:=h.1;have hp:=getEnd_put [] h;rw [List.append_nil]at hp;unfold bodyL;simp only[getE];rw [rdN_put _ (by omega) (by omega) (by omega)];simp only[Option.bind_some];rw [rdN_put _ (by omega) (by omega) (by omega)];simp only[Option.bind_some];rw [rdN_put _ (by omega) (by omega) (by omega)];simp only[Option.bind_some];rw [hp];simp only[Option.bind_some];rw [if_pos ⟨trivial,h⟩]
theorem getE_back {l:List Int}{e:E11} (hb:Bytes l) (h:getE l=some e):okE e∧l=bodyL e:=by
  match l,h with
  |kd :: l,h=>
    simp only[getE]at h;obtain⟨⟨a,la⟩,h1,h⟩:=Option.bind_eq_some_iff.mp h;obtain⟨⟨b,lb⟩,h2,h⟩:=Option.bind_eq_some_iff.mp h;obtain⟨⟨c,lc⟩,h3,h⟩:=Option.bind_eq_some_iff.mp h;obtain⟨⟨x,lx⟩,h4,h⟩:=Option.bind_eq_some_iff.mp h
    split at h
    · rename_i g
      simp only[Option.some.injEq]at h;subst h;obtain⟨_,_,_,e1⟩:=rdN_back hb.tail h1;have hb1:Bytes la:=by have:=hb.tail;rw [e1]at this;exact this.right
      obtain⟨_,_,_,e2⟩:=rdN_back hb1 h2;have hb2:Bytes lb:=by have:=hb1;rw [e2]at this;exact this.right
      obtain⟨_,_,_,e3⟩:=rdN_back hb2 h3;have hb3:Bytes lc:=by have:=hb2;rw [e3]at this;exact this.right
      obtain⟨g1,g2,g3,g4,e4⟩:=getEnd_back hb3 h4;dsimp only at *;refine⟨g.2,?_⟩;unfold bodyL;rw [g1,g2,g3,g4,e1,e2,e3,e4,g.1,List.append_nil]
    · cases h
theorem endL_bytes {e:E11} (h:okE e):Bytes (endL e):=by
  obtain⟨_,h⟩:=h;unfold endL;rcases h with ⟨hk,_⟩|⟨hk,hp,ha,_⟩|⟨hk,hp,_⟩|⟨hk,_⟩|⟨hk,_⟩
  · rw [if_neg (by omega),if_neg (by omega),if_neg (by omega),if_neg (by omega)];exact Bytes.nil
  · rw [if_pos hk];exact (preL_bytes hp).append (actL_bytes ha)
  · rw [if_neg (by omega),if_pos hk];exact preL_bytes hp
  · rw [if_neg (by omega),if_neg (by omega),if_pos hk];exact (putL_bytes _).append (putL_bytes _)
  · rw [if_neg (by omega),if_neg (by omega),if_neg (by omega),if_pos hk];exact putL_bytes _
theorem kd_range {e:E11} (h:okE e):1≤e.kd∧e.kd≤6:=by
  obtain⟨_,h⟩:=h;rcases h with ⟨hk,_⟩|⟨hk,hp,ha,_⟩|⟨hk,hp,_⟩|⟨hk,_⟩|⟨hk,_⟩ <;> omega
theorem bodyL_bytes {e:E11} (h:okE e):Bytes (bodyL e):=by
  have:=kd_range h;exact Bytes.cons (by omega) (by omega) ((putL_bytes _).append ((putL_bytes _).append ((putL_bytes _).append (endL_bytes h))))
theorem putL_len6 {n:Nat} (h:n≤1099511627776):(putL n).length≤6:=putL_len_aux 5 n (Nat.lt_of_le_of_lt h (by decide))
theorem putL_len3 {n:Nat} (h:n≤1048576):(putL n).length≤3:=putL_len_aux 2 n (Nat.lt_of_le_of_lt h (by decide))
theorem endL_len {e:E11} (h:okE e):(endL e).length≤29:=by
  obtain⟨_,h⟩:=h;unfold endL;rcases h with ⟨hk,_⟩|⟨hk,hp,ha,_⟩|⟨hk,hp,_⟩|⟨hk,_,_,h1,h2⟩|⟨hk,_,_,h1,_⟩
  · rw [if_neg (by omega),if_neg (by omega),if_neg (by omega),if_neg (by omega)];simp
  · rw [if_pos hk,List.length_append];have:=preL_len hp;have:=actL_len ha;omega
  · rw [if_neg (by omega),if_pos hk];have:=preL_len hp;omega
  ·rw [if_neg (by omega),if_neg (by omega),if_pos hk,List.length_append];have:=putL_len3 (n:=e.ifc.toNat) (by omega);have:=putL_len3 (n:=e.pe.toNat) (by omega);omega
  ·rw [if_neg (by omega),if_neg (by omega),if_neg (by omega),if_pos hk];have:=putL_len3 (n:=e.ifc.toNat) (by omega);omega
theorem bodyL_len {e:E11} (h:okE e):4≤(bodyL e).length∧(bodyL e).length≤64:=by
  have hn:=h.1;have h1:=putL_len3 (n:=e.ro.toNat) (by omega);have h2:=putL_len6 (n:=e.sq.toNat) (by omega);have h3:=putL_len6 (n:=e.ti.toNat) (by omega);have h4:=endL_len h;have g1:=putL_pos e.ro.toNat;have g2:=putL_pos e.sq.toNat;have g3:=putL_pos e.ti.toNat;unfold bodyL;simp only[List.length_cons,List.length_append];omega
end Go.Proofs.Ytodgadhegcjbhaa.Msg
end
section
namespace Go.Proofs.Ytodgadhegcjbhaa.Addr
set_option linter.unusedVariables false
open Go.RowKit Go.Proofs.YtodgadhegcjbhaaW.PrintWords Go.Proofs.YtodgadhegcjbhaaW.PrintLast Go.Proofs.YtodgadhegcjbhaaW.PrintMore Go.Proofs.Ytodgadhegcjbhaa.Base Go.Proofs.Ytodgadhegcjbhaa.Q
theorem right_is (six:Bool) {n:Nat} (hn:n<340282366920938463463374607431768211456):addr_Right.f six (hi n) (lo n)=some (decide (n<2 ^ Wn six)):=by
  obtain⟨h1,h2⟩:=hi_range hn;obtain⟨h3,h4⟩:=lo_range n;unfold addr_Right.f;cases six with
  |true=>rw [if_pos rfl,decide_eq_true (wn_six.2 hn)]
  |false=>
    rw [if_neg (by simp)];by_cases h:n<4294967296
    · rw [decide_eq_true (wn_four.2 h),if_pos (by unfold hi;omega)];have:lo n / 4294967296=0:=by unfold lo;omega
      rw [this];rfl
    · rw [decide_eq_false (fun q=>h (wn_four.1 q))];by_cases hz:hi n=0
      · rw [if_pos hz];have:lo n / 4294967296≠0:=by unfold lo;unfold hi at hz;omega
        simp [this]
      · rw [if_neg hz]
theorem wide_is (six:Bool):addr_Wide.f six=some ((Wn six:Nat):Int):=by cases six <;> rfl
theorem below_is {n:Nat} (hn:n≤128):addr_below.f (n:Int)=some (hi (2 ^ n - 1),lo (2 ^ n - 1)):=by
  unfold addr_below.f;by_cases h:n=128
  · subst h;rw [if_pos (by omega)]
    decide+kernel
  rw [if_neg (by omega)];by_cases h2:64≤n
  · have e:wrap64 ((n:Int) - 64)=((n - 64:Nat):Int):=by rw [w64 (by omega) (by omega)];omega
    rw [if_pos (by omega),e,if_pos (by omega),shl1 (by omega)];have hp:=p2lt64 (show n - 64<64 by omega);have hq:=p2pos (n - 64);rw [p2split h2];generalize 2 ^ (n - 64)=q at *;rw [u64w (by omega) (by omega)];unfold hi lo
    congr 2 <;> omega
  · rw [if_neg (by omega),if_pos (by omega),shl1 (by omega)];have hp:=p2lt64 (show n<64 by omega);have hq:=p2pos n;generalize 2 ^ n=q at *;rw [u64w (by omega) (by omega)];unfold hi lo
    congr 2 <;> omega
theorem host_is (six:Bool) (a b:Int) {len:Int} (h0:0≤len) (h1:len≤Wn six):addr_host.f six a b len=some (hi (hostN six len),lo (hostN six len)):=by
  have hw:=Wn_le six;simp only[addr_host.f,wide_is,Option.bind_some];have e:wrap64 (((Wn six:Nat):Int) - len)=((Wn six - len.toNat:Nat):Int):=by rw [w64 (by omega) (by omega)];omega
  rw [e,below_is (by omega)];rfl
theorem check_ev (six:Bool) {n:Nat} (hn:n<340282366920938463463374607431768211456) (len:Int):Ev (fun k=>addr_Check.f k six (hi n) (lo n) len) (if okP six n len then 0 else 2):=by
  have hw:=Wn_le six;have bad: ¬ okP six n len→Ev (fun k=>addr_Check.j0 k true six (hi n) (lo n) len) (if okP six n len then 0 else 2):=by intro h;rw [if_neg h];refine Ev.succ ?_;simp only[addr_Check.j0];exact Ev.pos trivial (Ev.now _)
  simp only[addr_Check.f,wide_is,right_is six hn,Option.bind_some];by_cases h0:len<0
  · exact Ev.pos h0 (bad (fun h=>by have:=h.1;omega))
  refine Ev.neg h0 ?_;by_cases h1:len > ((Wn six:Nat):Int)
  · exact Ev.pos h1 (bad (fun h=>by have:=h.2.1;omega))
  refine Ev.neg h1 ?_;by_cases h2:n<2 ^ Wn six
  · rw [decide_eq_true h2];refine Ev.succ ?_;simp only[addr_Check.j0,host_is six _ _ (show 0≤len by omega) (show len≤((Wn six:Nat):Int) by omega),Option.bind_some];refine Ev.neg (by simp) ?_;obtain⟨a0,a1⟩:=hi_range hn;obtain⟨b0,b1⟩:=lo_range n;have hk:Wn six - len.toNat≤128:=by omega
    have key:Go.bits .or .u64 (Go.bits .and .u64 (hi n) (hi (hostN six len))) (Go.bits .and .u64 (lo n) (lo (hostN six len)))=0↔n % 2 ^ (Wn six - len.toNat)=0:=by
      unfold hostN;generalize Wn six - len.toNat=k at *;have hp:=p2pos k;by_cases g:64≤k
      · have e1:hi (2 ^ k - 1)=((2 ^ (k - 64) - 1:Nat):Int):=by rw [p2split g];have:=p2pos (k - 64);generalize 2 ^ (k - 64)=q at *;unfold hi;omega
        have e2:lo (2 ^ k - 1)=((2 ^ 64 - 1:Nat):Int):=by rw [p2split g];have:=p2pos (k - 64);generalize 2 ^ (k - 64)=q at *;unfold lo;omega
        have p64:=p2le64 (show k - 64≤64 by omega);have q64:=p2pos (k - 64);rw [e1,e2,and_mask a0 a1 (by omega),and_mask b0 b1 (by omega),mod_parts g];have hm:=Int.emod_nonneg (hi n) (show ((2 ^ (k - 64):Nat):Int)≠0 by omega);have hl:=Int.emod_lt_of_pos (hi n) (show (0:Int)<((2 ^ (k - 64):Nat):Int) by omega);rw [or_zero hm (by omega) (by omega) (by omega)];have c1:hi n % ((2 ^ (k - 64):Nat):Int)=((n / 18446744073709551616 % 2 ^ (k - 64):Nat):Int):=by unfold hi;simp
        have c2:lo n % ((2 ^ 64:Nat):Int)=((n % 18446744073709551616:Nat):Int):=by unfold lo;omega
        rw [c1,c2];omega
      · have g':k≤64:=by omega
        have p64:=p2lt64 (show k<64 by omega);have e1:hi (2 ^ k - 1)=((2 ^ 0 - 1:Nat):Int):=by generalize 2 ^ k=q at *;unfold hi;omega
        have e2:lo (2 ^ k - 1)=((2 ^ k - 1:Nat):Int):=by generalize 2 ^ k=q at *;unfold lo;omega
        rw [e1,e2,and_mask a0 a1 (by omega),and_mask b0 b1 g', ← mod_low g'];have hm:=Int.emod_nonneg (lo n) (show ((2 ^ k:Nat):Int)≠0 by omega);have hl:=Int.emod_lt_of_pos (lo n) (show (0:Int)<((2 ^ k:Nat):Int) by omega);rw [or_zero (by omega) (by omega) hm (by omega)];have c2:lo n % ((2 ^ k:Nat):Int)=((n % 18446744073709551616 % 2 ^ k:Nat):Int):=by unfold lo;simp
        rw [c2];omega
    by_cases z:n % 2 ^ (Wn six - len.toNat)=0;·rw [if_pos (show okP six n len from ⟨by omega,by omega,h2,z⟩)];exact Ev.pos (key.2 z) (Ev.now _)
    ·rw [if_neg (fun h:okP six n len=>z h.2.2.2)];exact Ev.neg (fun h=>z (key.1 h)) (Ev.now _)
  ·rw [decide_eq_false h2];exact bad (fun h=>h2 h.2.2.1)
theorem rright_is (six:Bool) {n:Nat} (hn:n<340282366920938463463374607431768211456):spoorref09_Right.f six (hi n) (lo n)=some (decide (n<2 ^ Wn six)):=by
  unfold spoorref09_Right.f;cases six with
  |true=>rw [decide_eq_true (wn_six.2 hn)];rfl
  |false=>
    rw [if_neg (by simp)];by_cases hz:hi n=0;·rw [if_pos hz];refine congrArg some (decide_eq_decide.2 ?_);rw [wn_four];unfold lo;unfold hi at hz;omega
    ·rw [if_neg hz,decide_eq_false];rw [wn_four];unfold hi at hz;omega
theorem rwide_is (six:Bool):spoorref09_Wide.f six=some ((Wn six:Nat):Int):=by cases six <;> rfl
theorem set_mid (j:Nat) (suf:List Int) (b:Int):(List.replicate (j+1) (0:Int)++suf).set j b=List.replicate j 0++(b :: suf):=by
  rw [List.replicate_succ',List.append_assoc,List.set_append_right _ _ (by simp)];simp
theorem bits_aux: ∀ (j n:Nat) (suf:List Int),n<340282366920938463463374607431768211456→j≤128→Ev (fun k=>spoorref09_bits.l0 k (List.replicate j 0++suf) (lo n) (hi n) ((j:Int) - 1)) (bitsL j n++suf)
  |0,n,suf,hn,_=>by
    refine Ev.succ ?_;simp only[spoorref09_bits.l0];exact Ev.neg (by omega) (Ev.const (by simp [bitsL]))
  |j+1,n,suf,hn,hj=>by
    refine Ev.succ ?_;simp only[spoorref09_bits.l0];refine Ev.pos (by omega) (Ev.pos (by omega) (Ev.pos (by simp;omega) ?_));have e1:wrap64 (Int.tmod (lo n) 2)=((n % 2:Nat):Int):=by rw [Int.tmod_eq_emod_of_nonneg (lo_range n).1,w64 (by omega) (by omega)];unfold lo;omega
    have e2:IntKind.u64.wrap (IntKind.u64.wrap (Int.tdiv (lo n) 2)+IntKind.u64.wrap (Int.tmod (hi n) 2 * 9223372036854775808))=lo (n / 2):=by rw [Int.tdiv_eq_ediv_of_nonneg (lo_range n).1,Int.tmod_eq_emod_of_nonneg (hi_range hn).1,u64m,u64m,u64m];unfold lo hi;omega
    have e3:IntKind.u64.wrap (Int.tdiv (hi n) 2)=hi (n / 2):=by rw [Int.tdiv_eq_ediv_of_nonneg (hi_range hn).1,u64m];unfold hi;omega
    have e4:wrap64 (((j+1:Nat):Int) - 1 - 1)=(j:Int) - 1:=by rw [w64 (by omega) (by omega)];omega
    have e5:(((j+1:Nat):Int) - 1).toNat=j:=by omega
    rw [e1,e2,e3,e4,e5,set_mid];refine Ev.to (bits_aux j (n / 2) (((n % 2:Nat):Int) :: suf) (by omega) (by omega)) ?_;simp [bitsL]
theorem bits_ev (six:Bool) {n:Nat} (hn:n<340282366920938463463374607431768211456):Ev (fun k=>spoorref09_bits.f k six (hi n) (lo n)) (bitsL (Wn six) n):=by
  have hw:=Wn_le six;simp only[spoorref09_bits.f,rwide_is,Option.bind_some,Int.toNat_natCast];refine Ev.pos (by omega) (Ev.pos (by omega) ?_);have:=bits_aux (Wn six) n [] hn hw;simp only[List.append_nil]at this;have e:wrap64 (((List.replicate (Wn six) (0:Int)).length:Int) - 1)=(Wn six:Int) - 1:=by rw [List.length_replicate,w64 (by omega) (by omega)]
  rw [e];exact this
theorem check_aux (l:List Int) (len:Int) (hl:l.length≤128) (s:Bool) (a b:Int): ∀ (r:List Int) (j:Nat),l.drop j=r→Ev (fun k=>spoorref09_Check.l0 k l (l.length:Int) (j:Int) s a b len) (if ∀ x∈r.drop (len.toNat - j),x=0 then 0 else 2)
  | [],j,hj=>by
    have:=drop_nil_le hj;refine Ev.succ ?_;simp only[spoorref09_Check.l0];exact Ev.neg (by omega) (Ev.const (by simp))
  |x :: r,j,hj=>by
    have hlt:=drop_lt hj;have hx:=rd_drop hj;have e0:wrap64 ((j:Int)+1)=((j+1:Nat):Int):=by rw [w64 (by omega) (by omega)];omega
    have ih:=check_aux l len hl s a b r (j+1) (drop_next hj);refine Ev.succ ?_;simp only[spoorref09_Check.l0];refine Ev.pos (by omega) (Ev.pos (by omega) (Ev.pos (by omega) ?_));rw [e0,hx];by_cases h:(j:Int) ≥ len
    · have d0:len.toNat - j=0:=by omega
      have d1:len.toNat - (j+1)=0:=by omega
      rw [d1,List.drop_zero]at ih;rw [d0,List.drop_zero];refine Ev.pos h ?_;by_cases hz:x=0
      · refine Ev.pos hz (Ev.to ih ?_);by_cases hr: ∀ y∈r,y=0
        · rw [if_pos hr,if_pos (fun y hy=>(List.mem_cons.1 hy).elim (fun e=>e.trans hz) (hr y))]
        · rw [if_neg hr,if_neg (fun q=>hr (fun y hy=>q y (by simp [hy])))]
      ·rw [if_neg (fun q=>hz (q x (by simp)))];exact Ev.neg hz (Ev.now _)
    · refine Ev.neg h (Ev.to ih ?_);have d0:len.toNat - j=(len.toNat - (j+1))+1:=by omega
      rw [d0,List.drop_succ_cons]
theorem bitsL_drop {w a n:Nat} (h:a≤w):(bitsL w n).drop a=bitsL (w - a) n:=by
  have e:w=a+(w - a):=by omega
  conv=>lhs;rw [e,bitsL_split (w - a) a n]
  rw [List.drop_left' (bitsL_len _ _)]
theorem rcheck_ev (six:Bool) {n:Nat} (hn:n<340282366920938463463374607431768211456) (len:Int):Ev (fun k=>spoorref09_Check.f k six (hi n) (lo n) len) (if okP six n len then 0 else 2):=by
  have hw:=Wn_le six;have bad: ¬ okP six n len→Ev (fun k=>spoorref09_Check.j0 k true six (hi n) (lo n) len) (if okP six n len then 0 else 2):=by intro h;rw [if_neg h];refine Ev.succ ?_;simp only[spoorref09_Check.j0];exact Ev.pos trivial (Ev.now _)
  simp only[spoorref09_Check.f,rwide_is,rright_is six hn,Option.bind_some];by_cases h0:len<0
  · exact Ev.pos h0 (bad (fun h=>by have:=h.1;omega))
  refine Ev.neg h0 ?_;by_cases h1:len > ((Wn six:Nat):Int)
  · exact Ev.pos h1 (bad (fun h=>by have:=h.2.1;omega))
  refine Ev.neg h1 ?_;by_cases h2:n<2 ^ Wn six
  · rw [decide_eq_true h2];refine Ev.succ ?_;simp only[spoorref09_Check.j0];refine Ev.neg (by simp) (Ev.bind (bits_ev six hn) ?_);have:=check_aux (bitsL (Wn six) n) len (by rw [bitsL_len];exact hw) six (hi n) (lo n) _ 0 rfl;rw [List.drop_zero,Nat.sub_zero,bitsL_drop (by omega)]at this;refine Ev.to this ?_;simp only[bitsL_zero];by_cases z:n % 2 ^ (Wn six - len.toNat)=0
    · rw [if_pos z,if_pos (show okP six n len from ⟨by omega,by omega,h2,z⟩)]
    · rw [if_neg z,if_neg (fun h:okP six n len=>z h.2.2.2)]
  ·rw [decide_eq_false h2];exact bad (fun h=>h2 h.2.2.1)
end Go.Proofs.Ytodgadhegcjbhaa.Addr
end
section
namespace Go.Proofs.Ytodgadhegcjbhaa.Num
set_option linter.unusedVariables false
open Go.RowKit Go.Proofs.YtodgadhegcjbhaaW.PrintWords Go.Proofs.YtodgadhegcjbhaaW.PrintLast Go.Proofs.YtodgadhegcjbhaaW.PrintMore Go.Proofs.Ytodgadhegcjbhaa.Base Go.Proofs.Ytodgadhegcjbhaa.Q
theorem add_ev: ∀ (n:Nat) (xs:List Int),xs.length+(putL n).length≤140737488355328→Ev (fun k=>num_Add.l0 k xs (n:Int)) (xs++putL n):=by
  intro n
  induction n using Nat.strongRecOn with
  |_ n ih=>
    intro xs hl;have hp:=putL_pos n;by_cases h:n<128
    · refine Ev.step (f:=fun _=>some (xs++ [(n:Int) % 256])) (fun k=>?_) ?_;·simp only[num_Add.l0];rw [if_neg (by omega),if_pos (by omega)]
      ·rw [putL_small h];exact Ev.const (by rw [Int.emod_eq_of_lt (by omega) (by omega)])
    · have e:=putL_great h;rw [e,List.length_cons]at hl;have:=ih (n / 128) (by omega) (xs++ [(n:Int) % 128+128]) (by simp;omega);refine Ev.step (f:=fun k=>num_Add.l0 k (xs++ [(n:Int) % 128+128]) ((n / 128:Nat):Int)) (fun k=>?_) ?_
      · simp only[num_Add.l0];rw [if_pos (by omega),if_pos (by omega),or128 (by omega) (by omega)];have e1:(n:Int) % 256 % 128=(n:Int) % 128:=by omega
        have e2:((n / 128:Nat):Int)=(n:Int) / 128:=by omega
        rw [e1,e2]
      · rw [e]
        simpa using this
theorem rput_ev: ∀ (n:Nat),n<18446744073709551616→Ev (fun k=>spoorref01_Put.f k (n:Int)) (strOfNums (putL n)):=by
  intro n
  induction n using Nat.strongRecOn with
  |_ n ih=>
    intro hn;by_cases h:n<128
    · refine Ev.step (f:=fun _=>some (strOfNums ([(n:Int)]))) (fun k=>?_) ?_;·simp only[spoorref01_Put.f];rw [if_pos (by omega),Int.emod_eq_of_lt (by omega) (by omega)]
      · rw [putL_small h];exact Ev.now _
    · have e:=putL_great h;have hl:=putL_len (n:=n / 128) (by omega);have hh:=ih (n / 128) (by omega) (by omega);refine Ev.step (f:=fun k=>(spoorref01_Put.f k ((n / 128:Nat):Int)).bind fun t=>if (strOfNums [(n:Int) % 128+128]).size+t.size≤9223372036854775807 then some (strOfNums [(n:Int) % 128+128]++t) else none) (fun k=>?_) ?_
      · simp only[spoorref01_Put.f];rw [if_neg (by omega)];simp only[Option.bind_some];have e1:Int.tmod (n:Int) 128=(n:Int) % 128:=Int.tmod_eq_emod_of_nonneg (by omega);have e2:Int.tdiv (n:Int) 128=((n / 128:Nat):Int):=by rw [Int.tdiv_eq_ediv_of_nonneg (by omega)];omega
        rw [e1,e2,u64w (by omega) (by omega),u64w (by omega) (by omega),Int.emod_eq_of_lt (a:=(n:Int) % 128+128) (by omega) (by omega)]
      · refine Ev.bind hh (Ev.pos ?_ ?_)
        · rw [strOfNums_size,strOfNums_size];simp;omega
        · rw [← str_append,e];exact Ev.now _
def getR (x:Int × List Int × Int):Int × ByteArray × Int:=(x.1,strOfNums x.2.1,x.2.2)
theorem p128 {i:Nat} (h:i≤9):(0:Int)<128 ^ i∧(128:Int) ^ i≤9223372036854775808∧(2:Int) ^ (7 * i)=128 ^ i∧(i≤8→(128:Int) ^ i≤72057594037927936):=by
  have:i=0∨i=1∨i=2∨i=3∨i=4∨i=5∨i=6∨i=7∨i=8∨i=9:=by omega
  rcases this with rfl|rfl|rfl|rfl|rfl|rfl|rfl|rfl|rfl|rfl <;> decide
theorem shl7 {c:Int}{i:Nat} (h0:0≤c) (h1:c<128) (hi:i≤9) (h9:i=9→c≤1):shl .u64 (IntKind.u64.wrap c) (wrap64 (7 * (i:Int)))=c * 128 ^ i∧c * 128 ^ i+128 ^ i≤18446744073709551616:=by
  have:i=0∨i=1∨i=2∨i=3∨i=4∨i=5∨i=6∨i=7∨i=8∨i=9:=by omega
  rw [u64w h0 (by omega)];rcases this with rfl|rfl|rfl|rfl|rfl|rfl|rfl|rfl|rfl|rfl <;> simp [shl,wrap64,u64m,IntKind.bits] <;> omega
theorem get_ev (s : ByteArray) (hs : s.size ≤ 281474976710656) : ∀ (l : List Int) (i : Nat) (n : Int), (bytesOf s).drop i = l → i ≤ 9 → 0 ≤ n → n < 128 ^ i → Ev (fun k => num_Get.l0 k s n (mn (s.size : Int) 10) (i : Int)) (getR (getL i n l)) := by
  intro l
  induction l with
  | nil =>
    intro i n hd hi h0 h1
    have hle := drop_nil_le hd
    rw [bytesOf_length] at hle
    refine Ev.step (f := fun _ => some (0, (⟨#[]⟩ : ByteArray), 5)) (fun k => ?_) (Ev.now _)
    simp only [num_Get.l0]
    rw [if_neg (by unfold mn; split <;> omega)]
  | cons b l ih =>
    intro i n hd hi h0 h1
    have hlt := drop_lt hd
    rw [bytesOf_length] at hlt
    have hb : bt s (i : Int) = b := by rw [← rd_bytesOf]; exact rd_drop hd
    have hbb : Bytes (b :: l) := by rw [← hd]; exact (bytesOf_bytes s).drop i
    obtain ⟨b0, b1⟩ := hbb.head
    have hnext := drop_next hd
    have hrest : s.extract (i + 1) s.size = strOfNums l := by rw [str_from, hnext]
    obtain ⟨p0, p1, p2, p3⟩ := p128 hi
    have hmn : (i : Int) < mn (s.size : Int) 10 := by unfold mn; split <;> omega
    have hw : 0 ≤ wrap64 (7 * (i : Int)) := by rw [w64 (by omega) (by omega)]; omega
    have hw1 : wrap64 ((i : Int) + 1) = ((i + 1 : Nat) : Int) := by rw [w64 (by omega) (by omega)]; omega
    simp only [getL]
    -- the head of the loop
    have head : ∀ (q : Bool) (x : Int), (i = 9 → q = decide (b > 1)) → (i ≠ 9 → q = false) → Go.bits .or .u64 n (shl .u64 (IntKind.u64.wrap (Go.bits .andNot .u8 b 128)) (wrap64 (7 * (i : Int)))) = x → ∀ k, num_Get.l0 (k + 1) s n (mn (s.size : Int) 10) (i : Int) = num_Get.j1 k s x (i : Int) b (mn (s.size : Int) 10) (i : Int) q := by
      intro q x q1 q2 hx k
      simp only [num_Get.l0]
      rw [if_pos hmn, if_pos (by omega), if_pos (by omega), if_pos hw, hb, hx]
      by_cases h9 : i = 9
      · rw [if_pos (by omega), q1 h9]
      · rw [if_neg (by omega), q2 h9]
    rw [andNot128 b0 b1] at head
    by_cases h1' : i = 9 ∧ b > 1
    · rw [if_pos h1']
      refine Ev.step (fun k => head true _ (fun _ => by simp [h1'.2]) (fun h => absurd h1'.1 h) rfl k) ?_
      refine Ev.step (f := fun k => num_Get.j2 k s _ (i : Int) b (mn (s.size : Int) 10) (i : Int) true) (fun k => by simp only [num_Get.j1]; rw [if_pos trivial]) ?_
      exact Ev.step (f := fun _ => some (0, (⟨#[]⟩ : ByteArray), 7)) (fun k => by simp only [num_Get.j2]; rw [if_pos trivial]) (Ev.now _)
    rw [if_neg h1']
    have hc := shl7 (c := b % 128) (i := i) (by omega) (by omega) hi (fun h => by omega)
    have hor : Go.bits .or .u64 n (shl .u64 (IntKind.u64.wrap (b % 128)) (wrap64 (7 * (i : Int)))) = n + b % 128 * 128 ^ i := by
      have hn : 0 ≤ b % 128 * 128 ^ i := Int.mul_nonneg (by omega) (by omega)
      rw [hc.1, bits_or_comm, or_join (7 * i) hn (by rw [p2]; exact Int.mul_emod_left _ _) (by omega) h0 (by rw [p2]; exact h1) (by omega), Int.add_comm]
    have hd1 := head false _ (fun h => by symm; simp; omega) (fun _ => rfl) hor
    by_cases h2 : b ≥ 128
    · rw [if_pos h2]
      have hi8 : i ≤ 8 := by omega
      refine Ev.step hd1 ?_
      refine Ev.step (f := fun k => num_Get.j2 k s (n + b % 128 * 128 ^ i) (i : Int) b (mn (s.size : Int) 10) (i : Int) false) (fun k => by simp only [num_Get.j1]; rw [if_neg (by simp), if_neg (by omega)]) ?_
      refine Ev.step (f := fun k => num_Get.l0 k s (n + b % 128 * 128 ^ i) (mn (s.size : Int) 10) ((i + 1 : Nat) : Int)) (fun k => by simp only [num_Get.j2]; rw [if_neg (by simp), if_neg (by omega), hw1]) ?_
      have hn : 0 ≤ b % 128 * 128 ^ i := Int.mul_nonneg (by omega) (by omega)
      refine ih (i + 1) _ hnext (by omega) (by omega) ?_
      rw [Int.pow_succ]
      have : b % 128 * 128 ^ i ≤ 127 * 128 ^ i := Int.mul_le_mul_of_nonneg_right (by omega) (by omega)
      omega
    rw [if_neg h2]
    refine Ev.step hd1 ?_
    have hm : b % 128 = b := by omega
    rw [hm]
    by_cases h3 : b = 0 ∧ 0 < i
    · rw [if_pos h3]
      refine Ev.step (f := fun k => num_Get.j2 k s (n + b * 128 ^ i) (i : Int) b (mn (s.size : Int) 10) (i : Int) true) (fun k => by simp only [num_Get.j1]; rw [if_neg (by simp), if_pos h3.1, decide_eq_true (by omega)]) ?_
      exact Ev.step (f := fun _ => some (0, (⟨#[]⟩ : ByteArray), 7)) (fun k => by simp only [num_Get.j2]; rw [if_pos trivial]) (Ev.now _)
    · rw [if_neg h3]
      refine Ev.step (f := fun k => num_Get.j2 k s (n + b * 128 ^ i) (i : Int) b (mn (s.size : Int) 10) (i : Int) false) (fun k => by
        simp only [num_Get.j1]
        rw [if_neg (by simp)]
        by_cases hb0 : b = 0
        · rw [if_pos hb0, decide_eq_false (by omega)]
        · rw [if_neg hb0]) ?_
      refine Ev.step (f := fun _ => some (n + b * 128 ^ i, strOfNums l, 0)) (fun k => ?_) (Ev.now _)
      simp only [num_Get.j2]
      rw [if_neg (by simp), if_pos (by omega), hw1, if_pos (by omega), if_pos (by omega), Int.toNat_natCast, hrest]
theorem get_ev0 (s:ByteArray) (hs:s.size≤281474976710656):Ev (fun k=>num_Get.f k s) (getR (getL 0 0 (bytesOf s))):=by
  have:=get_ev s hs (bytesOf s) 0 0 rfl (by omega) (by omega) (by simp)
  simpa [num_Get.f] using this
theorem rget_ev (s:ByteArray) (hs:s.size≤281474976710656): ∀ (l:List Int) (i:Nat) (n:Int),(bytesOf s).drop i=l→i≤9→0≤n→n<128 ^ i→Ev (fun k=>spoorref01_Get.l0 k s n (128 ^ i) (i:Int)) (getR (getL i n l)):=by
  intro l
  induction l with
  |nil=>
    intro i n hd hi h0 h1;have hle:=drop_nil_le hd;rw [bytesOf_length]at hle;refine Ev.step (f:=fun _=>some (0,(⟨#[]⟩:ByteArray),5)) (fun k=>?_) (Ev.now _);simp only[spoorref01_Get.l0];rw [if_neg (by omega)]
  |cons b l ih=>
    intro i n hd hi h0 h1;have hlt:=drop_lt hd;rw [bytesOf_length]at hlt;have hb:bt s (i:Int)=b:=by rw [← rd_bytesOf];exact rd_drop hd
    have hbb:Bytes (b :: l):=by rw [← hd];exact (bytesOf_bytes s).drop i
    obtain⟨b0,b1⟩:=hbb.head;have hnext:=drop_next hd;have hrest:s.extract (i+1) s.size=strOfNums l:=by rw [str_from,hnext]
    obtain⟨p0,p1,p2,p3⟩:=p128 hi;have hw1:wrap64 ((i:Int)+1)=((i+1:Nat):Int):=by rw [w64 (by omega) (by omega)];omega
    simp only[getL]
    have head: ∀ (q:Bool),(i=9→q=decide (b > 1))→(i≠9→q=false)→ ∀ k,spoorref01_Get.l0 (k+1) s n (128 ^ i) (i:Int)=spoorref01_Get.j1 k s n (128 ^ i) (i:Int) b q:=by
      intro q q1 q2 k;simp only[spoorref01_Get.l0];rw [if_pos (by omega),if_pos (by omega),hb];by_cases h9:i=9
      · rw [if_pos (by omega),q1 h9]
      · rw [if_neg (by omega),q2 h9]
    by_cases h1':i=9∧b > 1;·rw [if_pos h1'];refine Ev.step (fun k=>head true (fun _=>by simp [h1'.2]) (fun h=>absurd h1'.1 h) k) ?_;exact Ev.step (f:=fun _=>some (0,(⟨#[]⟩:ByteArray),7)) (fun k=>by simp only[spoorref01_Get.j1];rw [if_pos trivial]) (Ev.now _)
    rw [if_neg h1'];have hc:=(shl7 (c:=b % 128) (i:=i) (by omega) (by omega) hi (fun h=>by omega)).2;have hn:0≤b % 128 * 128 ^ i:=Int.mul_nonneg (by omega) (by omega);have hsum:IntKind.u64.wrap (n+IntKind.u64.wrap (IntKind.u64.wrap (Int.tmod b 128) * 128 ^ i))=n+b % 128 * 128 ^ i:=by rw [Int.tmod_eq_emod_of_nonneg b0,u64w (n:=b % 128) (by omega) (by omega),u64w (n:=b % 128 * 128 ^ i) hn (by omega),u64w (by omega) (by omega)]
    refine Ev.step (head false (fun h=>by symm;simp;omega) (fun _=>rfl)) ?_;by_cases h2:b ≥ 128
    · rw [if_pos h2];have hi8:i≤8:=by omega
      have hp:=p3 hi8;refine Ev.step (f:=fun k=>spoorref01_Get.l0 k s (n+b % 128 * 128 ^ i) (128 ^ (i+1)) ((i+1:Nat):Int)) (fun k=>?_) ?_;·simp only[spoorref01_Get.j1];rw [if_neg (by simp),if_pos h2,hsum,hw1,u64w (n:=128 ^ i * 128) (by omega) (by omega),Int.pow_succ]
      ·refine ih (i+1) _ hnext (by omega) (by omega) ?_;rw [Int.pow_succ];have:b % 128 * 128 ^ i≤127 * 128 ^ i:=Int.mul_le_mul_of_nonneg_right (by omega) (by omega);omega
    rw [if_neg h2];have hm:b % 128=b:=by omega
    rw [hm]at hsum;by_cases h3:b=0∧0<i;·rw [if_pos h3];exact Ev.step (f:=fun _=>some (0,(⟨#[]⟩:ByteArray),7)) (fun k=>by simp only[spoorref01_Get.j1];rw [if_neg (by simp),if_neg h2,if_pos h3.1,if_pos (by omega)]) (Ev.now _)
    · rw [if_neg h3];refine Ev.step (f:=fun _=>some (n+b * 128 ^ i,strOfNums l,0)) (fun k=>?_) (Ev.now _);simp only[spoorref01_Get.j1];rw [if_neg (by simp),if_neg h2];by_cases hb0:b=0
      · rw [if_pos hb0,if_neg (by omega),hw1,if_pos (by omega),if_pos (by omega),Int.toNat_natCast,hrest,hsum]
      · rw [if_neg hb0,hw1,if_pos (by omega),if_pos (by omega),Int.toNat_natCast,hrest,hsum]
theorem rget_ev0 (s:ByteArray) (hs:s.size≤281474976710656):Ev (fun k=>spoorref01_Get.f k s) (getR (getL 0 0 (bytesOf s))):=by
  have:=rget_ev s hs (bytesOf s) 0 0 rfl (by omega) (by omega) (by simp)
  simpa [spoorref01_Get.f] using this
theorem getL_val {l:List Int} (hb:Bytes l):0≤(getL 0 0 l).1∧(getL 0 0 l).1<18446744073709551616:=by
  rcases getL_err l 0 0 with h|⟨_,h,_⟩
  ·obtain⟨m,hv,_,hm⟩:=getL_back0 (l:=l) (v:=(getL 0 0 l).1) (r:=(getL 0 0 l).2.1) hb (Prod.ext rfl (Prod.ext rfl h));omega
  · rw [h];omega
theorem reader_ev (s:ByteArray) (hs:s.size≤281474976710656):Ev (fun k=>num_Reader_Num.f k s 0) (getR (getL 0 0 (bytesOf s))):=by
  simp only[num_Reader_Num.f];exact Ev.pos trivial (Ev.bind (get_ev0 s hs) (Ev.now _))
end Go.Proofs.Ytodgadhegcjbhaa.Num
end
section
namespace Go.Proofs.Ytodgadhegcjbhaa.Msg
set_option linter.unusedVariables false
open Go.RowKit Go.Proofs.YtodgadhegcjbhaaW.PrintWords Go.Proofs.YtodgadhegcjbhaaW.PrintLast Go.Proofs.YtodgadhegcjbhaaW.PrintMore Go.Proofs.Ytodgadhegcjbhaa.Base Go.Proofs.Ytodgadhegcjbhaa.Num Go.Proofs.Ytodgadhegcjbhaa.Addr Go.Proofs.Ytodgadhegcjbhaa.Be Go.Proofs.Ytodgadhegcjbhaa.Q
theorem id_is (a:Int):msg_id.f a=some (decide (0≤a∧a≤1048576)):=by
  unfold msg_id.f;by_cases h:a ≥ 0
  · rw [if_pos h];congr 1;simp [h]
  · rw [if_neg h];congr 1;simp;omega
theorem iface_is (a:Int):msg_iface.f a=some (decide (0≤a∧a≤65536)):=by
  unfold msg_iface.f;by_cases h:a ≥ 0
  · rw [if_pos h];congr 1;simp [h]
  · rw [if_neg h];congr 1;simp;omega
theorem acts_is (k i:Int):msg_acts.f k i=some (decide (okA k i)):=by
  unfold msg_acts.f;rw [iface_is];by_cases h1:k=1
  · rw [if_pos h1];simp only[Option.bind_some]
    congr 1
    apply decide_eq_decide.2;unfold okA;omega
  rw [if_neg h1];by_cases h2:k=2
  · rw [if_pos h2]
    congr 1
    rw [Bool.eq_iff_iff];simp only[beq_iff_eq,decide_eq_true_eq];unfold okA;omega
  rw [if_neg h2];by_cases h3:k=3
  · rw [if_pos h3]
    congr 1
    rw [Bool.eq_iff_iff];simp only[beq_iff_eq,decide_eq_true_eq];unfold okA;omega
  rw [if_neg h3]
  congr 1
  rw [Bool.eq_iff_iff];simp only[decide_eq_true_eq];unfold okA;constructor
  · intro h;cases h
  · omega
theorem fin {B:Bool}{P:Prop} [Decidable P] (h:B=true↔ ¬ P):(if B=true then some (2:Int) else some 0)=some (if P then 0 else 2):=by
  by_cases p:P
  · rw [if_neg (by rw [h];simpa using p),if_pos p]
  · rw [if_pos (by rw [h];exact p),if_neg p]
theorem hilo0 {n:Nat}:(hi n=0∧lo n=0)↔n=0:=by unfold hi lo;omega
def okN (e:E11):Prop:=0≤e.ro∧e.ro≤1048576∧1≤e.sq∧e.sq≤1099511627776∧0≤e.ti∧e.ti≤1099511627776
instance (e:E11):Decidable (okN e):=by unfold okN;exact inferInstance
theorem j0_bad (a b c d:Int) (s:Bool) (x1 x2 x3 x4 x5 x6 x7:Int):Ev (fun k=>msg_Check.j0 k true a b c d s x1 x2 x3 x4 x5 x6 x7) 2:=by
  refine Ev.succ ?_;simp only[msg_Check.j0];exact Ev.pos trivial (Ev.now _)
theorem j1_ev (e:E11) (hn:e.n<340282366920938463463374607431768211456) (hN:okN e) (b:Bool) (hb:b=true↔e.kd=1∨e.kd=2):
    Ev (fun k=>msg_Check.j1 k true e.kd b e.kd e.ro e.sq e.ti e.six (hi e.n) (lo e.n) e.ln e.ak e.ai e.ifc e.pe 0 0 0 0 e.six (hi e.n) (lo e.n) e.ln e.ak e.ai e.ifc e.pe) (if okE e then 0 else 2):=by
  have h0:= @hilo0 e.n
  have hoe : okE e ↔ ((e.kd = 1 ∨ e.kd = 2) ∧ noP e ∧ noA e ∧ e.ifc = 0 ∧ e.pe = 0 ∨ e.kd = 3 ∧ okP e.six e.n e.ln ∧ okA e.ak e.ai ∧ e.ifc = 0 ∧ e.pe = 0 ∨ e.kd = 4 ∧ okP e.six e.n e.ln ∧ noA e ∧ e.ifc = 0 ∧ e.pe = 0 ∨
   e.kd = 5 ∧ noP e ∧ noA e ∧ (0 ≤ e.ifc ∧ e.ifc ≤ 65536) ∧ (0 ≤ e.pe ∧ e.pe ≤ 1048576) ∨ e.kd = 6 ∧ noP e ∧ noA e ∧ (0 ≤ e.ifc ∧ e.ifc ≤ 65536) ∧ e.pe = 0) := ⟨fun h => h.2, fun h => ⟨hN, h⟩⟩
  refine Ev.succ ?_;simp only[msg_Check.j1];by_cases c0:e.kd=1∨e.kd=2;·refine Ev.pos (hb.2 c0) (Ev.pos trivial (Ev.const (fin ?_)));rw [hoe];unfold noP noA;cases hsx:e.six <;> rcases c0 with c|c <;> simp [c] <;> omega
  refine Ev.neg (fun h=>c0 (hb.1 h)) ?_;by_cases c3:e.kd=3
  · refine Ev.pos c3 ?_;rw [acts_is];simp only[Option.bind_some];by_cases ca:okA e.ak e.ai
    · refine Ev.pos (decide_eq_true ca) (Ev.bind (check_ev e.six hn e.ln) ?_);by_cases cp:okP e.six e.n e.ln;·rw [if_pos cp];refine Ev.pos rfl (Ev.const (fin ?_));rw [hoe];simp [c3,cp,ca] <;> omega
      ·rw [if_neg cp];refine Ev.neg (by decide) (Ev.const ?_);rw [if_neg (by rw [hoe];simp [c3,cp])]
    ·refine Ev.neg (by simpa using ca) (Ev.const ?_);rw [if_neg (by rw [hoe];simp [c3,ca])]
  refine Ev.neg c3 ?_;by_cases c4:e.kd=4
  · refine Ev.pos c4 (Ev.pos trivial (Ev.bind (check_ev e.six hn e.ln) ?_));by_cases cp:okP e.six e.n e.ln;·rw [if_pos cp];refine Ev.pos rfl (Ev.const (fin ?_));rw [hoe];unfold noA;simp [c4,cp] <;> omega
    ·rw [if_neg cp];refine Ev.neg (by decide) (Ev.const ?_);rw [if_neg (by rw [hoe];simp [c4,cp])]
  refine Ev.neg c4 ?_;by_cases c5:e.kd=5
  · refine Ev.pos c5 ?_;rw [id_is,iface_is];simp only[Option.bind_some];by_cases ca:0≤e.pe∧e.pe≤1048576
    · refine Ev.pos (decide_eq_true ca) ?_;by_cases cb:0≤e.ifc∧e.ifc≤65536;·refine Ev.pos (decide_eq_true cb) (Ev.const (fin ?_));rw [hoe];unfold noP noA;cases hsx:e.six <;> simp [c5,ca,cb] <;> omega
      ·refine Ev.neg (by simpa using cb) (Ev.const ?_);rw [if_neg (by rw [hoe];omega)]
    ·refine Ev.neg (by simpa using ca) (Ev.const ?_);rw [if_neg (by rw [hoe];omega)]
  refine Ev.neg c5 ?_;by_cases c6:e.kd=6
  · refine Ev.pos c6 (Ev.pos trivial ?_);rw [iface_is];simp only[Option.bind_some];by_cases cb:0≤e.ifc∧e.ifc≤65536;·refine Ev.pos (decide_eq_true cb) (Ev.const (fin ?_));rw [hoe];unfold noP noA;cases hsx:e.six <;> simp [c6,cb] <;> omega
    ·refine Ev.neg (by simpa using cb) (Ev.const ?_);rw [if_neg (by rw [hoe];omega)]
  ·refine Ev.neg c6 (Ev.const ?_);rw [if_neg (by rw [hoe];omega)]
theorem echeck_ev (e:E11) (hn:e.n<340282366920938463463374607431768211456) (hs:0≤e.sq):Ev (fun k=>msg_Check.f k e.kd e.ro e.sq e.ti e.six (hi e.n) (lo e.n) e.ln e.ak e.ai e.ifc e.pe) (if okE e then 0 else 2):=by
  simp only[msg_Check.f];rw [id_is];simp only[Option.bind_some];by_cases h:okN e
  · obtain⟨h1,h2,h3,h4,h5,h6⟩:=h;refine Ev.pos (decide_eq_true ⟨h1,h2⟩) (Ev.neg (by omega) (Ev.neg (by omega) (Ev.neg (by omega) ?_)));rw [decide_eq_false (show ¬ e.ti > 1099511627776 by omega)];refine Ev.succ ?_;simp only[msg_Check.j0];refine Ev.neg (by decide) ?_;by_cases c:e.kd=1
    · exact Ev.pos c (j1_ev e hn ⟨h1,h2,h3,h4,h5,h6⟩ _ (by simp [c]))
    · exact Ev.neg c (j1_ev e hn ⟨h1,h2,h3,h4,h5,h6⟩ _ (by simp [c]))
  · rw [if_neg (fun g=>h g.1)];by_cases c1:0≤e.ro∧e.ro≤1048576
    · refine Ev.pos (decide_eq_true c1) ?_;by_cases c2:e.sq=0
      · exact Ev.pos c2 (j0_bad _ _ _ _ _ _ _ _ _ _ _ _)
      refine Ev.neg c2 ?_;by_cases c3:e.sq > 1099511627776
      · exact Ev.pos c3 (j0_bad _ _ _ _ _ _ _ _ _ _ _ _)
      refine Ev.neg c3 ?_;by_cases c4:e.ti<0
      · exact Ev.pos c4 (j0_bad _ _ _ _ _ _ _ _ _ _ _ _)
      refine Ev.neg c4 ?_;rw [decide_eq_true (show e.ti > 1099511627776 by unfold okN at h;omega)];exact j0_bad _ _ _ _ _ _ _ _ _ _ _ _
    · exact Ev.neg (by simpa using c1) (j0_bad _ _ _ _ _ _ _ _ _ _ _ _)
theorem byt8_be (n:Nat):byt8 (n:Int)=be 8 n:=by
  simp only[byt8,be,List.nil_append,List.cons_append];simp only[List.cons.injEq,and_true];omega
theorem word_six {n:Nat} (h:n<340282366920938463463374607431768211456):byt8 (hi n)++byt8 (lo n)=be 16 n:=by
  unfold hi lo;rw [byt8_be,byt8_be,show 16=8+8 from rfl,be_split 8 8 n]
  congr 1
  exact be_mod 8 _ _ (Nat.mod_mod _ _)
theorem word_four {n:Nat} (h:n<4294967296) {k:Nat} (hk:k≤4):(byt8 (lo n * 4294967296 % 18446744073709551616)++byt8 0).take k=(be 4 n).take k:=by
  have e:lo n * 4294967296 % 18446744073709551616=((n * 4294967296:Nat):Int):=by unfold lo;omega
  rw [e,byt8_be,show 8=4+4 from rfl,be_split 4 4,List.append_assoc,List.take_append_of_le_length (by rw [be_len];omega)]
  congr 2
  omega
theorem prefix_is {six:Bool}{n:Nat}{len:Int} (xs:List Int) (h:okP six n len) (hx:xs.length<140737488355000):msg_prefix.f xs six (hi n) (lo n) len=some (xs++preL six n len):=by
  obtain⟨h0,h1,h2,h3⟩:=h;have hw:=Wn_le six;have hl:=lo_range n;have hn:=Nat.lt_of_lt_of_le h2 (wn_pow six);have hh:=hi_range hn;unfold msg_prefix.f;rw [if_pos ⟨h0,by omega,hh.1,by omega,hl.1,by omega,hx⟩]
  congr 2
  unfold preL pre_word;have hk:=kn_le h1;cases six with
  |true=>
    rw [if_pos rfl,if_pos rfl,word_six hn];rfl
  |false=>
    rw [if_neg (by decide),if_neg (by decide),word_four (wn_four.1 h2) (show (len.toNat+7) / 8≤4 from hk)];rfl
theorem add_is {n:Int} (xs:List Int) (h0:0≤n) (h1:n<18446744073709551616) (hx:xs.length≤140737488355000):Ev (fun k=>num_Add.f k xs (IntKind.u64.wrap n)) (xs++putL n.toNat):=by
  rw [u64w h0 h1,show n=((n.toNat:Nat):Int) by omega];simp only[num_Add.f,Int.toNat_natCast];have:=putL_len (n:=n.toNat) (by omega);exact add_ev _ _ (by omega)
theorem add_is' {n:Int} (xs:List Int) (h0:0≤n) (h1:n<18446744073709551616) (hx:xs.length≤140737488355000):Ev (fun k=>num_Add.f k xs n) (xs++putL n.toNat):=by
  have:=add_is xs h0 h1 hx
  rwa [u64w h0 h1]at this
theorem action_ev {k i:Int} (xs:List Int) (h:okA k i) (hx:xs.length≤140737488354000):Ev (fun q=>msg_action.f q xs k i) (xs++actL k i):=by
  simp only[msg_action.f];refine Ev.pos (by omega) (Ev.bind (Ev.now _) ?_);unfold actL;rcases okA_act h with ⟨rfl,h0,h1⟩|⟨h1,h2,rfl⟩
  ·refine Ev.pos rfl (Ev.bind (add_is _ h0 (by omega) (by simp;omega)) ?_);rw [if_pos rfl,List.append_assoc];exact Ev.now _
  ·refine Ev.neg h1 ?_;rw [if_neg h1];exact Ev.now _
theorem put_ev (e:E11) (hn:e.n<340282366920938463463374607431768211456) (hs:0≤e.sq):Ev (fun k=>msg_Put.f k e.kd e.ro e.sq e.ti e.six (hi e.n) (lo e.n) e.ln e.ak e.ai e.ifc e.pe) (if okE e then (strOfNums (bodyL e),0) else ((⟨#[]⟩:ByteArray),2)):=by
  simp only[msg_Put.f];refine Ev.bind (echeck_ev e hn hs) ?_;by_cases h:okE e
  · rw [if_pos h,if_pos h];obtain⟨⟨h1,h2,h3,h4,h5,h6⟩,h7⟩:=h;have g1:=putL_len (n:=e.ro.toNat) (by omega);have g2:=putL_len (n:=e.sq.toNat) (by omega);have g3:=putL_len (n:=e.ti.toNat) (by omega);refine Ev.pos rfl (Ev.bind (add_is _ h1 (by omega) (by simp)) (Ev.bind (add_is' _ (by omega) (by omega) (by simp;omega)) (Ev.bind (add_is _ h5 (by omega) (by simp;omega)) ?_)));have hl:([e.kd]++putL e.ro.toNat++putL e.sq.toNat++putL e.ti.toNat).length≤31:=by simp;omega
    have hb:bodyL e= [e.kd]++putL e.ro.toNat++putL e.sq.toNat++putL e.ti.toNat++endL e:=by unfold bodyL;simp
    rw [hb];generalize [e.kd]++putL e.ro.toNat++putL e.sq.toNat++putL e.ti.toNat=L at hl ⊢;unfold endL;rcases h7 with ⟨hk,_⟩|⟨hk,hp,ha,_⟩|⟨hk,hp,_⟩|⟨hk,_,_,hi,hp⟩|⟨hk,_,_,hi,_⟩
    ·rw [if_neg (by omega),if_neg (by omega),if_neg (by omega),if_neg (by omega),List.append_nil];exact Ev.neg (by omega) (Ev.neg (by omega) (Ev.neg (by omega) (Ev.neg (by omega) (Ev.now _))))
    ·rw [if_pos hk];refine Ev.pos hk ?_;rw [prefix_is L hp (by omega)];simp only[Option.bind_some];have:=preL_len hp;refine Ev.bind (action_ev _ ha (by rw [List.length_append];omega)) ?_;rw [List.append_assoc];exact Ev.now _
    ·rw [if_neg (by omega),if_pos hk];refine Ev.neg (by omega) (Ev.pos hk ?_);rw [prefix_is L hp (by omega)];exact Ev.now _
    ·rw [if_neg (by omega),if_neg (by omega),if_pos hk];have:=putL_len (n:=e.ifc.toNat) (by omega);refine Ev.neg (by omega) (Ev.neg (by omega) (Ev.pos hk (Ev.bind (add_is _ hi.1 (by omega) (by omega)) (Ev.bind (add_is _ hp.1 (by omega) (by rw [List.length_append];omega)) ?_))));rw [List.append_assoc];exact Ev.now _
    ·rw [if_neg (by omega),if_neg (by omega),if_neg (by omega),if_pos hk];exact Ev.neg (by omega) (Ev.neg (by omega) (Ev.neg (by omega) (Ev.pos hk (Ev.bind (add_is _ hi.1 (by omega) (by omega)) (Ev.now _)))))
  ·rw [if_neg h,if_neg h];exact Ev.neg (by decide) (Ev.now _)
end Go.Proofs.Ytodgadhegcjbhaa.Msg
end
section
namespace Go.Proofs.Ytodgadhegcjbhaa.Msg
set_option linter.unusedVariables false
open Go.RowKit Go.Proofs.YtodgadhegcjbhaaW.PrintWords Go.Proofs.YtodgadhegcjbhaaW.PrintLast Go.Proofs.YtodgadhegcjbhaaW.PrintMore Go.Proofs.Ytodgadhegcjbhaa.Base Go.Proofs.Ytodgadhegcjbhaa.Num Go.Proofs.Ytodgadhegcjbhaa.Addr Go.Proofs.Ytodgadhegcjbhaa.Be Go.Proofs.Ytodgadhegcjbhaa.Q
theorem bt_nat (s:ByteArray) (i:Nat):bt s (i:Int)=rd (bytesOf s) i:=(rd_bytesOf s i).symm
theorem take_rd (l:List Int) (o i:Nat) (h:o+i<l.length):(l.drop o).take (i+1)=(l.drop o).take i++ [rd l ((o+i:Nat):Int)]:=by
  have hi:i<(l.drop o).length:=by rw [List.length_drop];omega
  rw [List.take_succ_eq_append_getElem hi]
  congr 2
  simp only[rd,Int.toNat_natCast];rw [List.getD_eq_getElem?_getD,List.getElem?_eq_getElem h,List.getElem_drop];rfl
theorem wd_nb (s:ByteArray) (o:Nat): ∀ i,i≤8→o+i≤s.size→wd s o i=((nb (((bytesOf s).drop o).take i) * 256 ^ (8 - i):Nat):Int)
  |0,_,_=>by simp [wd,nb]
  |i+1,h,hs=>by
    have hl:(bytesOf s).length=s.size:=bytesOf_length s;have hr:=bt_range s ((o+i:Nat):Int);rw [wd,wd_nb s o i (by omega) (by omega),take_rd _ o i (by omega),nb_snoc,bt_nat];rw [bt_nat]at hr;generalize rd (bytesOf s) ((o+i:Nat):Int)=x at hr;generalize nb (((bytesOf s).drop o).take i)=N;obtain⟨m,rfl⟩: ∃ m:Nat,x=m:=⟨x.toNat,by omega⟩;rw [Int.toNat_natCast];have e1:(256:Nat) ^ (8 - i)=256 * 256 ^ (8 - (i+1)):=by rw [show 8 - i=(8 - (i+1))+1 by omega,Nat.pow_succ,Nat.mul_comm]
    have e2:(2:Int) ^ (56 - 8 * i)=((256 ^ (8 - (i+1)):Nat):Int):=by rw [p256,show 8 * (8 - (i+1))=56 - 8 * i by omega];exact (Int.natCast_pow 2 _).symm
    rw [e1,e2,Nat.add_mul];generalize 256 ^ (8 - (i+1))=E;rw [← Int.natCast_mul, ← Int.natCast_add, ← Nat.mul_assoc,Nat.mul_comm N 256]
def preS : Option (Pfx × List Int) → Bool × Int × Int × Int × ByteArray × Int
  | some ((six, n, len), r) => (six, hi n, lo n, len, strOfNums r, 0)
  | none => (false, 0, 0, 0, (⟨#[]⟩ : ByteArray), 7)
theorem rest_bytes {s:ByteArray}{a b:Int}{l:List Int} (h:bytesOf s=a :: b :: l):bytesOf (s.extract 2 s.size)=l:=by rw [bytes_from,h];rfl
theorem size_of_bytes {s:ByteArray}{l:List Int} (h:bytesOf s=l):s.size=l.length:=by rw [← h,bytesOf_length]
theorem bt01 {s:ByteArray}{a b:Int}{l:List Int} (h:bytesOf s=a :: b :: l):bt s 0=a∧bt s 1=b:=by
  constructor
  · rw [bt_of h];rfl
  · rw [bt_of h];rfl
theorem four_num {rest:ByteArray}{l:List Int} (hr:bytesOf rest=l) {len:Int} (h1:len≤32) (hk:Kn len≤l.length):(0:Int)=hi (preN false len l)∧wd rest 0 (Kn len) / 4294967296=lo (preN false len l):=by
  have hk4:Kn len≤4:=by unfold Kn;omega
  have hs:=size_of_bytes hr;have hb:Bytes l:=by rw [← hr];exact bytesOf_bytes rest
  have e:preN false len l=nb (l.take (Kn len)) * 256 ^ (4 - Kn len):=by unfold preN;rw [nb_append,nb_zeros,List.length_replicate];rfl
  have hlt:preN false len l<4294967296:=by have:=nb_lt (l.take (Kn len)++List.replicate (Bn false - Kn len) 0) ((hb.take _).append (bytes_zeros _));rw [List.length_append,List.length_take,List.length_replicate]at this;rw [show min (Kn len) l.length+(Bn false - Kn len)=4 by have:Bn false=4:=rfl;omega]at this;exact this
  rw [wd_nb rest 0 (Kn len) (by omega) (by omega),hr,List.drop_zero];have e2:nb (l.take (Kn len)) * 256 ^ (8 - Kn len)=preN false len l * 4294967296:=by rw [e,show 8 - Kn len=(4 - Kn len)+4 by omega,Nat.pow_add,Nat.mul_assoc]
  rw [e2];unfold hi lo;omega
theorem six_num {rest:ByteArray}{l:List Int} (hr:bytesOf rest=l) {len:Int} (h1:len≤128) (hk:Kn len≤l.length):wd rest 0 (min 8 (Kn len))=hi (preN true len l)∧wd rest 8 (Kn len - 8)=lo (preN true len l):=by
  have hk4:Kn len≤16:=by unfold Kn;omega
  have hs:=size_of_bytes hr;have hb:Bytes l:=by rw [← hr];exact bytesOf_bytes rest
  have e:preN true len l=nb (l.take (Kn len)) * 256 ^ (16 - Kn len):=by unfold preN;rw [nb_append,nb_zeros,List.length_replicate];rfl
  rw [wd_nb rest 0 _ (by omega) (by omega)];by_cases h8:Kn len≤8
  · have e2:nb (l.take (Kn len)) * 256 ^ (16 - Kn len)=nb (l.take (Kn len)) * 256 ^ (8 - Kn len) * 18446744073709551616:=by rw [show 16 - Kn len=(8 - Kn len)+8 by omega,Nat.pow_add, ← Nat.mul_assoc]
    rw [Nat.min_eq_right h8,show Kn len - 8=0 by omega,hr,List.drop_zero];unfold hi lo;rw [e,e2];constructor
    · rw [Nat.mul_div_cancel _ (by decide)]
    · rw [Nat.mul_mod_left];rfl
  · rw [Nat.min_eq_left (by omega),wd_nb rest 8 _ (by omega) (by omega),hr,List.drop_zero];have e3:l.take (Kn len)=l.take 8++(l.drop 8).take (Kn len - 8):=by rw [← List.take_append_drop 8 (l.take (Kn len)),List.take_take,List.drop_take,Nat.min_eq_left (by omega)]
    have hlen:((l.drop 8).take (Kn len - 8)).length=Kn len - 8:=by rw [List.length_take,List.length_drop];omega
    have hlt:=nb_lt ((l.drop 8).take (Kn len - 8)) ((hb.drop 8).take _);rw [hlen]at hlt;have e4:preN true len l=nb (l.take 8) * 18446744073709551616+nb ((l.drop 8).take (Kn len - 8)) * 256 ^ (8 - (Kn len - 8)):=by rw [e,e3,nb_append,hlen,Nat.add_mul,Nat.mul_assoc, ← Nat.pow_add,show Kn len - 8+(16 - Kn len)=8 by omega,show 16 - Kn len=8 - (Kn len - 8) by omega]
    have hlt2:nb ((l.drop 8).take (Kn len - 8)) * 256 ^ (8 - (Kn len - 8))<18446744073709551616:=by have h:=Nat.mul_lt_mul_of_pos_right hlt (Nat.pow_pos (n:=8 - (Kn len - 8)) (show 0<256 by decide));rw [← Nat.pow_add,show Kn len - 8+(8 - (Kn len - 8))=8 by omega]at h;exact h
    unfold hi lo;rw [e4];generalize nb ((l.drop 8).take (Kn len - 8)) * 256 ^ (8 - (Kn len - 8))=B at hlt2 ⊢;simp only[Nat.sub_self,Nat.pow_zero,Nat.mul_one];constructor <;> omega
theorem preN_lt {six:Bool}{len:Int}{l:List Int} (hb:Bytes l) (h1:len≤Wn six) (hk:Kn len≤l.length):preN six len l<340282366920938463463374607431768211456:=by
  have:=nb_lt (l.take (Kn len)++List.replicate (Bn six - Kn len) 0) ((hb.take _).append (bytes_zeros _));have hkk:=kn_le h1;rw [List.length_append,List.length_take,List.length_replicate,show min (Kn len) l.length+(Bn six - Kn len)=Bn six by omega]at this;refine Nat.lt_of_lt_of_le this ?_;rw [p256, ← bn_wn];exact wn_pow six
theorem pfxof_ev {six:Bool}{n:Nat} (hn:n<340282366920938463463374607431768211456) (len:Int) (r:ByteArray):Ev (fun k=>pfx_of k six (hi n) (lo n) len r) (if okP six n len then (six,hi n,lo n,len,r,0) else (false,0,0,0,(⟨#[]⟩:ByteArray),7)):=by
  simp only[pfx_of];refine Ev.bind (check_ev six hn len) ?_;by_cases h:okP six n len
  · rw [if_pos h,if_pos h];exact Ev.pos rfl (Ev.now _)
  · rw [if_neg h,if_neg h];exact Ev.neg (by decide) (Ev.const rfl)
theorem getprefix_ev (s:ByteArray):Ev (fun k=>msg_GetPrefix.f k s) (preS (getP (bytesOf s))):=by
  simp only[msg_GetPrefix.f]
  match hl:bytesOf s with
  | []=>
    have:=size_of_bytes hl;simp only[List.length_nil]at this;exact Ev.pos (by omega) (Ev.const rfl)
  | [a]=>
    have:=size_of_bytes hl;simp only[List.length_cons,List.length_nil]at this;exact Ev.pos (by omega) (Ev.const rfl)
  |a :: b :: l=>
    have hs:=size_of_bytes hl;simp only[List.length_cons]at hs;have hb:Bytes (a :: b :: l):=by rw [← hl];exact bytesOf_bytes s
    have hr:=rest_bytes hl;have hrs:=size_of_bytes hr;obtain⟨b0,b1⟩:=bt01 hl;have hbb:=hb.tail.head;rw [b0,b1];refine Ev.neg (by omega) ?_;generalize s.extract 2 s.size=rest at hr hrs;have hkn:(b.toNat+7) / 8=Kn b:=rfl;have hrd:rest.extract (Kn b) rest.size=strOfNums (l.drop (Kn b)):=by rw [str_from,hr]
    rw [hkn,hrd];simp only[getP];have hkb:(Kn b:Int)=(b+7) / 8:=by unfold Kn;omega
    by_cases c4:a=4
    · refine Ev.pos c4 ?_;have e6:(a==6)=false:=by rw [c4];rfl
      rw [e6];by_cases c5:((rest.size:Nat):Int)<(b+7) / 8;·refine Ev.pos c5 (Ev.const ?_);rw [if_neg (fun h=>by have:=h.2.2.1;omega)];rfl
      refine Ev.neg c5 ?_;by_cases c6:b > 32;·refine Ev.pos c6 (Ev.const ?_);rw [if_neg (fun h=>by have:=h.2.1;have:Wn false=32:=rfl;omega)];rfl
      refine Ev.neg c6 ?_;obtain⟨f1,f2⟩:=four_num hr (by omega) (show Kn b≤l.length by omega);rw [f2];have hw:b≤Wn false:=by have:Wn false=32:=rfl;omega
      have h:=pfxof_ev (six:=false) (preN_lt hb.tail.tail hw (by omega)) b (strOfNums (l.drop (Kn b)));rw [← f1]at h;refine Ev.to h ?_;by_cases ok:okP false (preN false b l) b;·rw [if_pos ok,if_pos ⟨.inl c4,hw,by omega,ok⟩];simp only[preS, ← f1]
      · rw [if_neg ok,if_neg (fun h=>ok h.2.2.2)];rfl
    refine Ev.neg c4 ?_;by_cases c7:a=6
    · refine Ev.pos c7 ?_;have e6:(a==6)=true:=by rw [c7];rfl
      rw [e6];by_cases c5:((rest.size:Nat):Int)<(b+7) / 8;·refine Ev.pos c5 (Ev.const ?_);rw [if_neg (fun h=>by have:=h.2.2.1;omega)];rfl
      refine Ev.neg c5 ?_;by_cases c6:b > 128;·refine Ev.pos c6 (Ev.const ?_);rw [if_neg (fun h=>by have:=h.2.1;have:Wn true=128:=rfl;omega)];rfl
      refine Ev.neg c6 ?_;obtain⟨f1,f2⟩:=six_num hr (by omega) (show Kn b≤l.length by omega);rw [f1,f2];have hw:b≤Wn true:=by have:Wn true=128:=rfl;omega
      refine Ev.to (pfxof_ev (six:=true) (preN_lt hb.tail.tail hw (by omega)) b (strOfNums (l.drop (Kn b)))) ?_;by_cases ok:okP true (preN true b l) b
      · rw [if_pos ok,if_pos ⟨.inr c7,hw,by omega,ok⟩];rfl
      · rw [if_neg ok,if_neg (fun h=>ok h.2.2.2)];rfl
    ·refine Ev.neg c7 (Ev.const ?_);rw [if_neg (fun h=>by omega)];rfl
theorem reader_bad (s:ByteArray) {y:Int} (hy:y≠0):Ev (fun k=>num_Reader_Num.f k s y) (0,s,y):=by
  simp only[num_Reader_Num.f];exact Ev.neg hy (Ev.now _)
theorem many_ok {s:ByteArray} (hs:s.size≤281474976710656) {most v:Int}{r:List Int} (h0:0≤most) (h1:most≤9223372036854775807) (h:rdN most (bytesOf s)=some (v,r)):Ev (fun k=>num_Reader_Many.f k s 0 most) (v,strOfNums r,0):=by
  simp only[num_Reader_Many.f];have hb:=bytesOf_bytes s;obtain⟨a,b,c,d⟩:=rdN_back hb h;unfold rdN at h
  split at h
  · rename_i g
    simp only[Option.some.injEq,Prod.mk.injEq]at h;refine Ev.bind (reader_ev s hs) (Ev.neg ?_ (Ev.const ?_))
    · rw [u64w h0 (by omega)]
      show ¬ (getL 0 0 (bytesOf s)).1 > most
      omega
    · show some (wrap64 (getL 0 0 (bytesOf s)).1,strOfNums (getL 0 0 (bytesOf s)).2.1,(getL 0 0 (bytesOf s)).2.2)=_
      rw [h.1,h.2,g.1,w64 (by omega) (by omega)]
  · cases h
theorem many_bad {s:ByteArray} (hs:s.size≤281474976710656) {y most:Int} (h0:0≤most) (h1:most≤9223372036854775807) (h:y≠0∨y=0∧rdN most (bytesOf s)=none): ∃ v s' y',Ev (fun k=>num_Reader_Many.f k s y most) (v,s',y')∧y'≠0∧s'.size≤281474976710656:=by
  simp only[num_Reader_Many.f];rcases h with h|⟨rfl,h⟩
  ·refine⟨_,_,_,Ev.bind (reader_bad s h) (Ev.neg ?_ (Ev.now _)),h,hs⟩;rw [u64w h0 (by omega)];omega
  · have hlen:=getL_len (bytesOf s) 0 0;rw [bytesOf_length]at hlen;have hz:(strOfNums (getL 0 0 (bytesOf s)).2.1).size≤281474976710656:=by rw [strOfNums_size];omega
    have hv:=getL_val (bytesOf_bytes s);by_cases g:(getL 0 0 (bytesOf s)).1 > most;·refine⟨_,_,_,Ev.bind (reader_ev s hs) (Ev.pos ?_ (Ev.now _)),by decide,hz⟩;rw [u64w h0 (by omega)];exact g
    · refine⟨_,_,_,Ev.bind (reader_ev s hs) (Ev.neg ?_ (Ev.now _)),?_,hz⟩
      · rw [u64w h0 (by omega)];exact g
      · show (getL 0 0 (bytesOf s)).2.2≠0
        intro e;unfold rdN at h;rw [if_pos ⟨e,by omega⟩]at h;cases h
theorem u64_cases (s:ByteArray) (hs:s.size≤281474976710656) (y:Int):(∃ v r,y=0∧rdN 18446744073709551615 (bytesOf s)=some (v,r)∧Ev (fun k=>num_Reader_Num.f k s y) (v,strOfNums r,0))∨((y≠0∨rdN 18446744073709551615 (bytesOf s)=none)∧ ∃ v s' y',Ev (fun k=>num_Reader_Num.f k s y) (v,s',y')∧y'≠0∧s'.size≤281474976710656):=by
  by_cases hy:y=0
  · subst hy;have hlen:=getL_len (bytesOf s) 0 0;rw [bytesOf_length]at hlen;have hz:(strOfNums (getL 0 0 (bytesOf s)).2.1).size≤281474976710656:=by rw [strOfNums_size];omega
    have hv:=getL_val (bytesOf_bytes s);have hr:=reader_ev s hs;by_cases g:(getL 0 0 (bytesOf s)).2.2=0
    · refine .inl ⟨(getL 0 0 (bytesOf s)).1,(getL 0 0 (bytesOf s)).2.1,rfl,?_,?_⟩;·unfold rdN;rw [if_pos ⟨g,by omega⟩]
      ·refine Ev.to hr ?_;simp only[getR,g]
    ·refine .inr ⟨.inr ?_,_,_,_,hr,g,hz⟩;unfold rdN;rw [if_neg (fun h=>g h.1)]
  · exact .inr ⟨.inl hy,_,_,_,reader_bad s hy,hy,hs⟩
def actS : Option ((Int × Int) × List Int) → Int × Int × ByteArray × Int
  | some ((k, i), r) => (k, i, strOfNums r, 0)
  | none => (0, 0, (⟨#[]⟩ : ByteArray), 7)
theorem nil_iff (s:ByteArray):s.toList=([]:List UInt8)↔bytesOf s= []:=by
  rw [Go.ByteArray.toList_eq];constructor
  · intro h;rw [← List.length_eq_zero_iff,bytesOf_length,ByteArray.size, ← Array.length_toList,h];rfl
  ·intro h;rw [← List.length_eq_zero_iff,Array.length_toList];have:=bytesOf_length s;rw [h]at this;exact this.symm
theorem rest1 {s:ByteArray}{a:Int}{l:List Int} (h:bytesOf s=a :: l):bytesOf (s.extract 1 s.size)=l:=by rw [bytes_from,h];rfl
theorem bt0 {s:ByteArray}{a:Int}{l:List Int} (h:bytesOf s=a :: l):bt s 0=a:=by rw [bt_of h];rfl
theorem getaction_ev (s:ByteArray) (hs:s.size≤281474976710656):Ev (fun k=>msg_GetAction.f k s) (actS (getA (bytesOf s))):=by
  simp only[msg_GetAction.f]
  match hl:bytesOf s with
  | []=>exact Ev.pos ((nil_iff s).2 hl) (Ev.now _)
  |a :: l=>
    have hz:=size_of_bytes hl;simp only[List.length_cons]at hz;have hr:=rest1 hl;have hrs:=size_of_bytes hr;have hsr:s.extract 1 s.size=strOfNums l:=by rw [str_from,hl];rfl
    rw [bt0 hl];refine Ev.neg (fun h=>by rw [nil_iff,hl]at h;cases h) (Ev.pos (by omega) (Ev.pos (by omega) ?_));simp only[getA];by_cases c1:a=1
    · refine Ev.pos c1 ?_;rw [if_pos c1];cases hx:rdN 65536 l with
      |some x=>
        obtain⟨v,r⟩:=x;rw [← hr]at hx;refine Ev.bind (many_ok (by omega) (by omega) (by omega) hx) (Ev.pos rfl ?_);have hv:=rdN_back (bytesOf_bytes _) hx;rw [acts_is];simp only[Option.bind_some];rw [c1];exact Ev.pos (decide_eq_true (.inl ⟨rfl,hv.1,hv.2.1⟩)) (Ev.now _)
      |none=>
        rw [← hr]at hx;obtain⟨v,s',y',h,hy,_⟩:=many_bad (s:=s.extract 1 s.size) (by omega) (y:=0) (most:=65536) (by omega) (by omega) (.inr ⟨rfl,hx⟩);exact Ev.bind h (Ev.neg hy (Ev.now _))
    · refine Ev.neg c1 ?_;rw [if_neg c1,acts_is];simp only[Option.bind_some];by_cases c2:a=2∨a=3;·rw [if_pos c2,hsr];exact Ev.pos (decide_eq_true (.inr ⟨c2,rfl⟩)) (Ev.now _)
      ·rw [if_neg c2];refine Ev.neg ?_ (Ev.now _);simp only[decide_eq_true_eq];unfold okA;omega
theorem pre_bad (s:ByteArray) {y:Int} (hy:y≠0) (hs:s.size≤281474976710656): ∃ x1 x2 x3 x4,Ev (fun k=>api_Prefix.f k s y) (x1,x2,x3,x4,s,y):=by
  simp only[api_Prefix.f];refine⟨(preS (getP (bytesOf s))).1,(preS (getP (bytesOf s))).2.1,(preS (getP (bytesOf s))).2.2.1,(preS (getP (bytesOf s))).2.2.2.1,Ev.bind (getprefix_ev s) (Ev.const ?_)⟩;rw [if_neg hy,if_neg hy]
theorem act_bad (s:ByteArray) {y:Int} (hy:y≠0) (hs:s.size≤281474976710656): ∃ x1 x2,Ev (fun k=>api_Action.f k s y) (x1,x2,s,y):=by
  simp only[api_Action.f];refine⟨(actS (getA (bytesOf s))).1,(actS (getA (bytesOf s))).2.1,Ev.bind (getaction_ev s hs) (Ev.const ?_)⟩;rw [if_neg hy,if_neg hy]
theorem pre_cases (s:ByteArray) (hs:s.size≤281474976710656) (y:Int):(∃ six n ln r,y=0∧getP (bytesOf s)=some ((six,n,ln),r)∧Ev (fun k=>api_Prefix.f k s y) (six,hi n,lo n,ln,strOfNums r,0))∨((y≠0∨getP (bytesOf s)=none)∧ ∃ x1 x2 x3 x4 s' y',Ev (fun k=>api_Prefix.f k s y) (x1,x2,x3,x4,s',y')∧y'≠0∧s'.size≤281474976710656):=by
  by_cases hy:y=0
  · subst hy;have h:=getprefix_ev s;cases hx:getP (bytesOf s) with
    |some x=>
      obtain⟨⟨six,n,ln⟩,r⟩:=x;rw [hx]at h;refine .inl ⟨six,n,ln,r,rfl,rfl,?_⟩;simp only[api_Prefix.f];exact Ev.bind h (Ev.now _)
    |none=>
      rw [hx]at h;refine .inr ⟨.inr rfl,false,0,0,0,⟨#[]⟩,7,?_,by decide,by decide⟩;simp only[api_Prefix.f];exact Ev.bind h (Ev.const rfl)
  ·obtain⟨x1,x2,x3,x4,h⟩:=pre_bad s hy hs;exact .inr ⟨.inl hy,x1,x2,x3,x4,s,y,h,hy,hs⟩
theorem act_cases (s:ByteArray) (hs:s.size≤281474976710656) (y:Int):(∃ k i r,y=0∧getA (bytesOf s)=some ((k,i),r)∧Ev (fun q=>api_Action.f q s y) (k,i,strOfNums r,0))∨((y≠0∨getA (bytesOf s)=none)∧ ∃ x1 x2 s' y',Ev (fun q=>api_Action.f q s y) (x1,x2,s',y')∧y'≠0∧s'.size≤281474976710656):=by
  by_cases hy:y=0
  · subst hy;have h:=getaction_ev s hs;cases hx:getA (bytesOf s) with
    |some x=>
      obtain⟨⟨k,i⟩,r⟩:=x;rw [hx]at h;refine .inl ⟨k,i,r,rfl,rfl,?_⟩;simp only[api_Action.f];exact Ev.bind h (Ev.now _)
    |none=>
      rw [hx]at h;refine .inr ⟨.inr rfl,0,0,⟨#[]⟩,7,?_,by decide,by decide⟩;simp only[api_Action.f];exact Ev.bind h (Ev.const rfl)
  ·obtain⟨x1,x2,h⟩:=act_bad s hy hs;exact .inr ⟨.inl hy,x1,x2,s,y,h,hy,hs⟩
theorem many_cases (s:ByteArray) (hs:s.size≤281474976710656) (y:Int) {most:Int} (h0:0≤most) (h1:most≤9223372036854775807):(∃ v r,y=0∧rdN most (bytesOf s)=some (v,r)∧Ev (fun k=>num_Reader_Many.f k s y most) (v,strOfNums r,0))∨((y≠0∨rdN most (bytesOf s)=none)∧ ∃ v s' y',Ev (fun k=>num_Reader_Many.f k s y most) (v,s',y')∧y'≠0∧s'.size≤281474976710656):=by
  by_cases hy:y=0
  · subst hy;cases hx:rdN most (bytesOf s) with
    |some x=>obtain⟨v,r⟩:=x;exact .inl ⟨v,r,rfl,rfl,many_ok hs h0 h1 hx⟩
    |none=>exact .inr ⟨.inr rfl,many_bad hs h0 h1 (.inr ⟨rfl,hx⟩)⟩
  · exact .inr ⟨.inl hy,many_bad hs h0 h1 (.inl hy)⟩
def evS : Option E11 → Int × Int × Int × Int × Bool × Int × Int × Int × Int × Int × Int × Int × Int
  | some e => (e.kd, e.ro, e.sq, e.ti, e.six, hi e.n, lo e.n, e.ln, e.ak, e.ai, e.ifc, e.pe, 0)
  | none => (0, 0, 0, 0, false, 0, 0, 0, 0, 0, 0, 0, 7)
theorem gj0_bad (s:ByteArray) {y:Int} (hy:y≠0) (a b c d:Int) (x:Bool) (x1 x2 x3 x4 x5 x6 x7:Int):Ev (fun k=>msg_Get.j0 k s y a b c d x x1 x2 x3 x4 x5 x6 x7) (evS none):=by
  refine Ev.succ ?_;simp only[msg_Get.j0];refine Ev.neg hy (Ev.succ ?_);simp only[msg_Get.j1];exact Ev.pos trivial (Ev.now _)
theorem gj0_ok (r:List Int) (hr:Bytes r) (e:E11) (hn:e.n<340282366920938463463374607431768211456) (hs:0≤e.sq):Ev (fun k=>msg_Get.j0 k (strOfNums r) 0 e.kd e.ro e.sq e.ti e.six (hi e.n) (lo e.n) e.ln e.ak e.ai e.ifc e.pe) (evS (if r= []∧okE e then some e else none)):=by
  refine Ev.succ ?_;simp only[msg_Get.j0];refine Ev.pos trivial ?_;by_cases c:r= []
  · refine Ev.pos ((nil_iff _).2 (by rw [bytes_str hr];exact c)) ?_;have hc:=echeck_ev e hn hs;by_cases h:okE e;·rw [if_pos h]at hc;rw [if_pos ⟨c,h⟩];refine Ev.bind hc (Ev.succ ?_);simp only[msg_Get.j1];exact Ev.neg (by decide) (Ev.now _)
    ·rw [if_neg h]at hc;rw [if_neg (fun g=>h g.2)];refine Ev.bind hc (Ev.succ ?_);simp only[msg_Get.j1];exact Ev.pos (by decide) (Ev.now _)
  ·rw [if_neg (fun g=>c g.1)];refine Ev.neg (fun h=>c (by rw [nil_iff,bytes_str hr]at h;exact h)) (Ev.succ ?_);simp only[msg_Get.j1];exact Ev.pos trivial (Ev.now _)
end Go.Proofs.Ytodgadhegcjbhaa.Msg
end
section
namespace Go.Proofs.Ytodgadhegcjbhaa.Msg
set_option linter.unusedVariables false
open Go.RowKit Go.Proofs.YtodgadhegcjbhaaW.PrintWords Go.Proofs.YtodgadhegcjbhaaW.PrintLast Go.Proofs.YtodgadhegcjbhaaW.PrintMore Go.Proofs.Ytodgadhegcjbhaa.Base Go.Proofs.Ytodgadhegcjbhaa.Num Go.Proofs.Ytodgadhegcjbhaa.Addr Go.Proofs.Ytodgadhegcjbhaa.Be Go.Proofs.Ytodgadhegcjbhaa.Q
def tailG (k : Nat) (s : ByteArray) (y kd ro sq ti : Int) : Option (Int × Int × Int × Int × Bool × Int × Int × Int × Int × Int × Int × Int × Int) :=
  if kd = 3 then ((api_Prefix.f k s y).bind fun bt270 => ((api_Action.f k bt270.2.2.2.2.1 bt270.2.2.2.2.2).bind fun bt276 => (msg_Get.j0 k bt276.2.2.1 bt276.2.2.2 kd ro sq ti bt270.1 bt270.2.1 bt270.2.2.1 bt270.2.2.2.1 bt276.1 bt276.2.1 0 0)))
  else (if kd = 4 then ((api_Prefix.f k s y).bind fun bt280 => (msg_Get.j0 k bt280.2.2.2.2.1 bt280.2.2.2.2.2 kd ro sq ti bt280.1 bt280.2.1 bt280.2.2.1 bt280.2.2.2.1 0 0 0 0))
  else (if kd = 5 then ((num_Reader_Many.f k s y 65536).bind fun bt286 => ((num_Reader_Many.f k bt286.2.1 bt286.2.2 1048576).bind fun bt289 => (msg_Get.j0 k bt289.2.1 bt289.2.2 kd ro sq ti false 0 0 0 0 0 bt286.1 bt289.1)))
  else (if kd = 6 then ((num_Reader_Many.f k s y 65536).bind fun bt292 => (msg_Get.j0 k bt292.2.1 bt292.2.2 kd ro sq ti false 0 0 0 0 0 bt292.1 0))
  else (msg_Get.j0 k s y kd ro sq ti false 0 0 0 0 0 0 0))))
theorem tail_bad (s:ByteArray) (hs:s.size≤281474976710656) {y:Int} (hy:y≠0) (kd ro sq ti:Int):Ev (fun k=>tailG k s y kd ro sq ti) (evS none):=by
  simp only[tailG];by_cases c3:kd=3;·refine Ev.pos c3 ?_;obtain⟨x1,x2,x3,x4,h⟩:=pre_bad s hy hs;obtain⟨z1,z2,g⟩:=act_bad s hy hs;exact Ev.bind h (Ev.bind g (gj0_bad _ hy _ _ _ _ _ _ _ _ _ _ _ _))
  refine Ev.neg c3 ?_;by_cases c4:kd=4;·refine Ev.pos c4 ?_;obtain⟨x1,x2,x3,x4,h⟩:=pre_bad s hy hs;exact Ev.bind h (gj0_bad _ hy _ _ _ _ _ _ _ _ _ _ _ _)
  refine Ev.neg c4 ?_;by_cases c5:kd=5;·refine Ev.pos c5 ?_;obtain⟨v,s1,y1,h,hy1,hs1⟩:=many_bad hs (most:=65536) (by omega) (by omega) (.inl hy);obtain⟨v2,s2,y2,g,hy2,hs2⟩:=many_bad hs1 (most:=1048576) (by omega) (by omega) (.inl hy1);exact Ev.bind h (Ev.bind g (gj0_bad _ hy2 _ _ _ _ _ _ _ _ _ _ _ _))
  refine Ev.neg c5 ?_;by_cases c6:kd=6;·refine Ev.pos c6 ?_;obtain⟨v,s1,y1,h,hy1,hs1⟩:=many_bad hs (most:=65536) (by omega) (by omega) (.inl hy);exact Ev.bind h (gj0_bad _ hy1 _ _ _ _ _ _ _ _ _ _ _ _)
  · exact Ev.neg c6 (gj0_bad _ hy _ _ _ _ _ _ _ _ _ _ _ _)
theorem pfx_lt {l r : List Int} (hb : Bytes l) {six : Bool} {n : Nat} {ln : Int} (h : getP l = some ((six, n, ln), r)) : n < 340282366920938463463374607431768211456 :=
  Nat.lt_of_lt_of_le (getP_back hb h).1.2.2.1 (wn_pow six)
def endS (o:Option (E11 × List Int)):Option E11:=o.bind fun x=>if x.2= []∧okE x.1 then some x.1 else none
theorem tail_ok (l:List Int) (hb:Bytes l) (hs:l.length≤281474976710656) (kd ro sq ti:Int) (hq:0≤sq):Ev (fun k=>tailG k (strOfNums l) 0 kd ro sq ti) (evS (endS (getEnd kd ro sq ti l))):=by
  have hbl:bytesOf (strOfNums l)=l:=bytes_str hb;have hz:(strOfNums l).size≤281474976710656:=by rw [strOfNums_size];exact hs
  simp only[tailG];unfold getEnd;by_cases c3:kd=3
  · refine Ev.pos c3 ?_;rw [if_pos c3];rcases pre_cases (strOfNums l) hz 0 with ⟨six,n,ln,r,_,hp,h⟩|⟨hp,x1,x2,x3,x4,s',y',h,hy,hs'⟩
    · rw [hbl]at hp;have hr:Bytes r:=by have:=(getP_back hb hp).2;rw [this]at hb;exact hb.right
      have hrl:r.length≤281474976710656:=by have:=(getP_back hb hp).2;rw [this,List.length_append]at hs;omega
      have hbr:bytesOf (strOfNums r)=r:=bytes_str hr;rw [hp];simp only[Option.bind_some];refine Ev.bind h ?_;rcases act_cases (strOfNums r) (by rw [strOfNums_size];exact hrl) 0 with ⟨k,i,q,_,ha,g⟩|⟨ha,z1,z2,s'',y'',g,hy,hs''⟩
      · rw [hbr]at ha;rw [ha];refine Ev.bind g ?_;have hq':Bytes q:=by have:=(getA_back hr ha).2;rw [this]at hr;exact hr.right
        exact gj0_ok q hq' ⟨kd,ro,sq,ti,six,n,ln,k,i,0,0⟩ (pfx_lt hb hp) hq
      · rw [hbr]at ha;rcases ha with ha|ha
        · exact absurd rfl ha
        rw [ha];exact Ev.bind g (gj0_bad _ hy _ _ _ _ _ _ _ _ _ _ _ _)
    · rw [hbl]at hp;rcases hp with hp|hp
      · exact absurd rfl hp
      rw [hp];obtain⟨z1,z2,g⟩:=act_bad s' hy hs';exact Ev.bind h (Ev.bind g (gj0_bad _ hy _ _ _ _ _ _ _ _ _ _ _ _))
  refine Ev.neg c3 ?_;rw [if_neg c3];by_cases c4:kd=4
  · refine Ev.pos c4 ?_;rw [if_pos c4];rcases pre_cases (strOfNums l) hz 0 with ⟨six,n,ln,r,_,hp,h⟩|⟨hp,x1,x2,x3,x4,s',y',h,hy,hs'⟩
    · rw [hbl]at hp;have hr:Bytes r:=by have:=(getP_back hb hp).2;rw [this]at hb;exact hb.right
      rw [hp];refine Ev.bind h ?_;exact gj0_ok r hr ⟨kd,ro,sq,ti,six,n,ln,0,0,0,0⟩ (pfx_lt hb hp) hq
    · rw [hbl]at hp;rcases hp with hp|hp
      · exact absurd rfl hp
      rw [hp];exact Ev.bind h (gj0_bad _ hy _ _ _ _ _ _ _ _ _ _ _ _)
  refine Ev.neg c4 ?_;rw [if_neg c4];by_cases c5:kd=5
  · refine Ev.pos c5 ?_;rw [if_pos c5];rcases many_cases (strOfNums l) hz 0 (most:=65536) (by omega) (by omega) with ⟨v,r,_,hp,h⟩|⟨hp,v,s',y',h,hy,hs'⟩
    · rw [hbl]at hp;have hr:Bytes r:=by have:=(rdN_back hb hp).2.2.2;rw [this]at hb;exact hb.right
      have hrl:r.length≤281474976710656:=by have:=(rdN_back hb hp).2.2.2;rw [this,List.length_append]at hs;omega
      have hbr:bytesOf (strOfNums r)=r:=bytes_str hr;rw [hp];simp only[Option.bind_some];refine Ev.bind h ?_;rcases many_cases (strOfNums r) (by rw [strOfNums_size];exact hrl) 0 (most:=1048576) (by omega) (by omega) with ⟨w,q,_,ha,g⟩|⟨ha,w,s'',y'',g,hy,hs''⟩
      · rw [hbr]at ha;rw [ha];refine Ev.bind g ?_;have hq':Bytes q:=by have:=(rdN_back hr ha).2.2.2;rw [this]at hr;exact hr.right
        have z:=gj0_ok q hq' ⟨kd,ro,sq,ti,false,0,0,0,0,v,w⟩ (show (0:Nat)<_ by decide) hq;simp only[show hi 0=0 from rfl,show lo 0=0 from rfl]at z;exact z
      · rw [hbr]at ha;rcases ha with ha|ha
        · exact absurd rfl ha
        rw [ha];exact Ev.bind g (gj0_bad _ hy _ _ _ _ _ _ _ _ _ _ _ _)
    · rw [hbl]at hp;rcases hp with hp|hp
      · exact absurd rfl hp
      rw [hp];obtain⟨v2,s2,y2,g,hy2,hs2⟩:=many_bad hs' (most:=1048576) (by omega) (by omega) (.inl hy);exact Ev.bind h (Ev.bind g (gj0_bad _ hy2 _ _ _ _ _ _ _ _ _ _ _ _))
  refine Ev.neg c5 ?_;rw [if_neg c5];by_cases c6:kd=6
  · refine Ev.pos c6 ?_;rw [if_pos c6];rcases many_cases (strOfNums l) hz 0 (most:=65536) (by omega) (by omega) with ⟨v,r,_,hp,h⟩|⟨hp,v,s',y',h,hy,hs'⟩
    · rw [hbl]at hp;have hr:Bytes r:=by have:=(rdN_back hb hp).2.2.2;rw [this]at hb;exact hb.right
      rw [hp];refine Ev.bind h ?_;have z:=gj0_ok r hr ⟨kd,ro,sq,ti,false,0,0,0,0,v,0⟩ (show (0:Nat)<_ by decide) hq;simp only[show hi 0=0 from rfl,show lo 0=0 from rfl]at z;exact z
    · rw [hbl]at hp;rcases hp with hp|hp
      · exact absurd rfl hp
      rw [hp];exact Ev.bind h (gj0_bad _ hy _ _ _ _ _ _ _ _ _ _ _ _)
  ·refine Ev.neg c6 ?_;rw [if_neg c6];have z:=gj0_ok l hb (zE kd ro sq ti) (show (0:Nat)<_ by decide) hq;simp only[zE,show hi 0=0 from rfl,show lo 0=0 from rfl]at z;exact z
theorem rdN_le {big m v:Int}{l r:List Int} (hm:m≤big) (h:rdN big l=some (v,r)):rdN m l=if v≤m then some (v,r) else none:=by
  unfold rdN at h ⊢
  split at h
  · rename_i c
    simp only[Option.some.injEq,Prod.mk.injEq]at h;rw [h.1,h.2,c.1];by_cases g:v≤m
    · rw [if_pos ⟨rfl,g⟩,if_pos g]
    · rw [if_neg (fun x=>g x.2),if_neg g]
  · cases h
theorem rdN_none {big m:Int}{l:List Int} (hm:m≤big) (h:rdN big l=none):rdN m l=none:=by
  unfold rdN at h ⊢
  split at h
  · cases h
  · rename_i c
    rw [if_neg (fun x=>c ⟨x.1,by omega⟩)]
theorem end_none {kd ro sq ti:Int}{l:List Int} (hb:Bytes l) (h: ¬ (1≤sq∧sq≤1099511627776∧0≤ti∧ti≤1099511627776)):endS (getEnd kd ro sq ti l)=none:=by
  cases hx:getEnd kd ro sq ti l with
  |none=>rfl
  |some x=>
    obtain⟨e,r⟩:=x;obtain⟨_,_,h1,h2,_⟩:=getEnd_back hb hx;simp only[endS,Option.bind_some];rw [if_neg]
    rintro⟨_,hn,_⟩
    (try dsimp only at hn)
    rw [h1,h2]at hn;omega
theorem get_evn (s:ByteArray) (hs:s.size≤281474976710656):Ev (fun k=>msg_Get.f k s) (evS (getE (bytesOf s))):=by
  simp only[msg_Get.f]
  match hl:bytesOf s with
  | []=>exact Ev.pos ((nil_iff s).2 hl) (Ev.now _)
  |kd :: l=>
    have hz:=size_of_bytes hl;simp only[List.length_cons]at hz;have hb:Bytes (kd :: l):=by rw [← hl];exact bytesOf_bytes s
    have hr:=rest1 hl;have hsr:s.extract 1 s.size=strOfNums l:=by rw [str_from,hl];rfl
    rw [bt0 hl,hsr];refine Ev.neg (fun h=>by rw [nil_iff,hl]at h;cases h) (Ev.pos (by omega) (Ev.pos (by omega) ?_));simp only[getE];have hz1:(strOfNums l).size≤281474976710656:=by rw [strOfNums_size];omega
    have hbl:bytesOf (strOfNums l)=l:=bytes_str hb.tail;have u0: ∀ x:Int × ByteArray × Int, ∀ a b c:Int,Ev (fun k=>tailG k x.2.1 x.2.2 kd a b c) (evS none)→True:=fun _ _ _ _ _=>trivial
    rcases many_cases (strOfNums l) hz1 0 (most:=1048576) (by omega) (by omega) with ⟨ro,la,_,hp,h⟩|⟨hp,v,s1,y1,h,hy1,hs1⟩
    · rw [hbl]at hp;have e1:=(rdN_back hb.tail hp).2.2.2;have hba:Bytes la:=by have:=hb.tail;rw [e1]at this;exact this.right
      have hla:la.length≤281474976710656:=by have:=congrArg List.length e1;rw [List.length_append]at this;omega
      rw [hp];simp only[Option.bind_some];refine Ev.bind h ?_;rcases u64_cases (strOfNums la) (by rw [strOfNums_size];exact hla) 0 with ⟨sq,lb,_,hp2,h2⟩|⟨hp2,v2,s2,y2,h2,hy2,hs2⟩
      · rw [bytes_str hba]at hp2;have e2:=rdN_back hba hp2;have hbb:Bytes lb:=by have:=hba;rw [e2.2.2.2]at this;exact this.right
        have hlb:lb.length≤281474976710656:=by have:=congrArg List.length e2.2.2.2;rw [List.length_append]at this;omega
        rw [rdN_le (by omega) hp2];refine Ev.bind h2 ?_;rcases u64_cases (strOfNums lb) (by rw [strOfNums_size];exact hlb) 0 with ⟨ti,lc,_,hp3,h3⟩|⟨hp3,v3,s3,y3,h3,hy3,hs3⟩
        · rw [bytes_str hbb]at hp3;have e3:=rdN_back hbb hp3;have hbc:Bytes lc:=by have:=hbb;rw [e3.2.2.2]at this;exact this.right
          have hlc:lc.length≤281474976710656:=by have:=congrArg List.length e3.2.2.2;rw [List.length_append]at this;omega
          refine Ev.bind h3 ?_;refine Ev.to (tail_ok lc hbc hlc kd ro sq (wrap64 ti) e2.1) ?_;by_cases c1:sq≤1099511627776
          · rw [if_pos c1];simp only[Option.bind_some];rw [rdN_le (by omega) hp3];by_cases c2:ti≤1099511627776
            · rw [if_pos c2,w64 (by omega) (by omega)];rfl
            · rw [if_neg c2,end_none hbc]
              · rfl
              · intro g;have:wrap64 ti=ti∨wrap64 ti<0:=by unfold wrap64;omega
                omega
          · rw [if_neg c1,end_none hbc (by omega)];rfl
        · rcases hp3 with hp3|hp3
          · exact absurd rfl hp3
          rw [bytes_str hbb]at hp3;refine Ev.bind h3 (Ev.to (tail_bad s3 hs3 hy3 _ _ _ _) ?_);by_cases c1:sq≤1099511627776;·rw [if_pos c1];simp only[Option.bind_some];rw [rdN_none (by omega) hp3];rfl
          · rw [if_neg c1];rfl
      · rcases hp2 with hp2|hp2
        · exact absurd rfl hp2
        rw [bytes_str hba]at hp2;rw [rdN_none (by omega) hp2];refine Ev.bind h2 ?_;rcases u64_cases s2 hs2 y2 with ⟨_,_,hh,_⟩|⟨_,v3,s3,y3,h3,hy3,hs3⟩
        · exact absurd hh hy2
        · exact Ev.bind h3 (tail_bad s3 hs3 hy3 _ _ _ _)
    · rcases hp with hp|hp
      · exact absurd rfl hp
      rw [hbl]at hp;rw [hp];refine Ev.bind h ?_;rcases u64_cases s1 hs1 y1 with ⟨_,_,hh,_⟩|⟨_,v2,s2,y2,h2,hy2,hs2⟩
      · exact absurd hh hy1
      refine Ev.bind h2 ?_;rcases u64_cases s2 hs2 y2 with ⟨_,_,hh,_⟩|⟨_,v3,s3,y3,h3,hy3,hs3⟩
      · exact absurd hh hy2
      · exact Ev.bind h3 (tail_bad s3 hs3 hy3 _ _ _ _)
end Go.Proofs.Ytodgadhegcjbhaa.Msg
end
section
namespace Go.Proofs.Ytodgadhegcjbhaa.Msg
set_option linter.unusedVariables false
open Go.RowKit Go.Proofs.YtodgadhegcjbhaaW.PrintWords Go.Proofs.YtodgadhegcjbhaaW.PrintLast Go.Proofs.YtodgadhegcjbhaaW.PrintMore Go.Proofs.Ytodgadhegcjbhaa.Base Go.Proofs.Ytodgadhegcjbhaa.Num Go.Proofs.Ytodgadhegcjbhaa.Addr Go.Proofs.Ytodgadhegcjbhaa.Be Go.Proofs.Ytodgadhegcjbhaa.Q
theorem racts_is (k i:Int):spoorref11_Acts.f k i=some (decide (okA k i)):=by
  unfold spoorref11_Acts.f;by_cases h1:k=1
  · rw [if_pos h1];by_cases h2:i ≥ 0
    · rw [if_pos h2]
      congr 1
      apply decide_eq_decide.2;unfold okA;omega
    · rw [if_neg h2]
      congr 1
      symm
      rw [decide_eq_false_iff_not];unfold okA;omega
  rw [if_neg h1];by_cases h2:k=2
  · rw [if_pos h2]
    congr 1
    rw [Bool.eq_iff_iff];simp only[beq_iff_eq,decide_eq_true_eq];unfold okA;omega
  rw [if_neg h2];by_cases h3:k=3
  · rw [if_pos h3]
    congr 1
    rw [Bool.eq_iff_iff];simp only[beq_iff_eq,decide_eq_true_eq];unfold okA;omega
  rw [if_neg h3]
  congr 1
  rw [Bool.eq_iff_iff];simp only[decide_eq_true_eq];unfold okA;constructor
  · intro h;cases h
  · omega
theorem rj0_bad (a b c d:Int) (s:Bool) (x1 x2 x3 x4 x5 x6 x7:Int):Ev (fun k=>spoorref11_Check.j0 k true a b c d s x1 x2 x3 x4 x5 x6 x7) 2:=by
  refine Ev.succ ?_;simp only[spoorref11_Check.j0];exact Ev.pos trivial (Ev.now _)
theorem rj1_ev (e:E11) (hn:e.n<340282366920938463463374607431768211456) (hN:okN e) (b:Bool) (hb:b=true↔e.kd=1∨e.kd=2):
    Ev (fun k=>spoorref11_Check.j1 k true e.kd b e.kd e.ro e.sq e.ti e.six (hi e.n) (lo e.n) e.ln e.ak e.ai e.ifc e.pe e.kd e.ro e.sq e.ti false 0 0 0 0 0 0 0) (if okE e then 0 else 2):=by
  have h0:= @hilo0 e.n
  have hoe : okE e ↔ ((e.kd = 1 ∨ e.kd = 2) ∧ noP e ∧ noA e ∧ e.ifc = 0 ∧ e.pe = 0 ∨ e.kd = 3 ∧ okP e.six e.n e.ln ∧ okA e.ak e.ai ∧ e.ifc = 0 ∧ e.pe = 0 ∨ e.kd = 4 ∧ okP e.six e.n e.ln ∧ noA e ∧ e.ifc = 0 ∧ e.pe = 0 ∨
   e.kd = 5 ∧ noP e ∧ noA e ∧ (0 ≤ e.ifc ∧ e.ifc ≤ 65536) ∧ (0 ≤ e.pe ∧ e.pe ≤ 1048576) ∨ e.kd = 6 ∧ noP e ∧ noA e ∧ (0 ≤ e.ifc ∧ e.ifc ≤ 65536) ∧ e.pe = 0) := ⟨fun h => h.2, fun h => ⟨hN, h⟩⟩
  refine Ev.succ ?_;simp only[spoorref11_Check.j1];by_cases c0:e.kd=1∨e.kd=2;·refine Ev.pos (hb.2 c0) (Ev.pos trivial (Ev.const (fin ?_)));rw [hoe];unfold noP noA;cases hsx:e.six <;> rcases c0 with c|c <;> simp [c] <;> omega
  refine Ev.neg (fun h=>c0 (hb.1 h)) ?_;by_cases c3:e.kd=3
  · refine Ev.pos c3 (Ev.bind (rcheck_ev e.six hn e.ln) ?_);by_cases cp:okP e.six e.n e.ln
    · rw [if_pos cp];refine Ev.pos rfl ?_;rw [racts_is];simp only[Option.bind_some];by_cases ca:okA e.ak e.ai;·refine Ev.pos (decide_eq_true ca) (Ev.const (fin ?_));rw [hoe];simp [c3,cp,ca] <;> omega
      ·refine Ev.neg (by simpa using ca) (Ev.const ?_);rw [if_neg (by rw [hoe];simp [c3,ca])]
    ·rw [if_neg cp];refine Ev.neg (by decide) (Ev.const ?_);rw [if_neg (by rw [hoe];simp [c3,cp])]
  refine Ev.neg c3 ?_;by_cases c4:e.kd=4
  · refine Ev.pos c4 (Ev.bind (rcheck_ev e.six hn e.ln) ?_);by_cases cp:okP e.six e.n e.ln;·rw [if_pos cp];refine Ev.pos rfl (Ev.const (fin ?_));rw [hoe];unfold noA;simp [c4,cp] <;> omega
    ·rw [if_neg cp];refine Ev.neg (by decide) (Ev.const ?_);rw [if_neg (by rw [hoe];simp [c4,cp])]
  refine Ev.neg c4 ?_;by_cases c5:e.kd=5
  · refine Ev.pos c5 ?_;by_cases ca:0≤e.pe∧e.pe≤1048576
    · by_cases cb:0≤e.ifc∧e.ifc≤65536;·refine Ev.pos (by omega) (Ev.pos (by omega) (Ev.pos (by omega) (Ev.pos (by omega) (Ev.const (fin ?_)))));rw [hoe];unfold noP noA;cases hsx:e.six <;> simp [c5,ca,cb] <;> omega
      · rw [if_neg (show ¬ okE e by rw [hoe];omega)];by_cases g:e.ifc ≥ 0
        · exact Ev.pos g (Ev.neg (by omega) (Ev.now _))
        · exact Ev.neg g (Ev.now _)
    · rw [if_neg (show ¬ okE e by rw [hoe];omega)];by_cases g:e.ifc ≥ 0
      · refine Ev.pos g ?_;by_cases g2:e.ifc≤65536
        · refine Ev.pos g2 ?_;by_cases g3:e.pe ≥ 0
          · exact Ev.pos g3 (Ev.neg (by omega) (Ev.now _))
          · exact Ev.neg g3 (Ev.now _)
        · exact Ev.neg g2 (Ev.now _)
      · exact Ev.neg g (Ev.now _)
  refine Ev.neg c5 ?_;by_cases c6:e.kd=6
  · refine Ev.pos c6 ?_;by_cases cb:0≤e.ifc∧e.ifc≤65536;·refine Ev.pos (by omega) (Ev.pos (by omega) (Ev.const (fin ?_)));rw [hoe];unfold noP noA;cases hsx:e.six <;> simp [c6,cb] <;> omega
    · rw [if_neg (show ¬ okE e by rw [hoe];omega)];by_cases g:e.ifc ≥ 0
      · exact Ev.pos g (Ev.neg (by omega) (Ev.now _))
      · exact Ev.neg g (Ev.now _)
  ·refine Ev.neg c6 (Ev.const ?_);rw [if_neg (show ¬ okE e by rw [hoe];omega)]
theorem recheck_ev (e:E11) (hn:e.n<340282366920938463463374607431768211456):Ev (fun k=>spoorref11_Check.f k e.kd e.ro e.sq e.ti e.six (hi e.n) (lo e.n) e.ln e.ak e.ai e.ifc e.pe) (if okE e then 0 else 2):=by
  simp only[spoorref11_Check.f];by_cases h:okN e
  · obtain⟨h1,h2,h3,h4,h5,h6⟩:=h;refine Ev.neg (by omega) (Ev.neg (by omega) (Ev.neg (by omega) (Ev.neg (by omega) (Ev.neg (by omega) ?_))));rw [decide_eq_false (show ¬ e.ti > 1099511627776 by omega)];refine Ev.succ ?_;simp only[spoorref11_Check.j0];refine Ev.neg (by decide) ?_;by_cases c:e.kd=1
    · exact Ev.pos c (rj1_ev e hn ⟨h1,h2,h3,h4,h5,h6⟩ _ (by simp [c]))
    · exact Ev.neg c (rj1_ev e hn ⟨h1,h2,h3,h4,h5,h6⟩ _ (by simp [c]))
  · rw [if_neg (fun g=>h g.1)];by_cases c1:e.ro<0
    · exact Ev.pos c1 (rj0_bad _ _ _ _ _ _ _ _ _ _ _ _)
    refine Ev.neg c1 ?_;by_cases c2:e.ro > 1048576
    · exact Ev.pos c2 (rj0_bad _ _ _ _ _ _ _ _ _ _ _ _)
    refine Ev.neg c2 ?_;by_cases c2:e.sq<1
    · exact Ev.pos c2 (rj0_bad _ _ _ _ _ _ _ _ _ _ _ _)
    refine Ev.neg c2 ?_;by_cases c3:e.sq > 1099511627776
    · exact Ev.pos c3 (rj0_bad _ _ _ _ _ _ _ _ _ _ _ _)
    refine Ev.neg c3 ?_;by_cases c4:e.ti<0
    · exact Ev.pos c4 (rj0_bad _ _ _ _ _ _ _ _ _ _ _ _)
    refine Ev.neg c4 ?_;rw [decide_eq_true (show e.ti > 1099511627776 by unfold okN at h;omega)];exact rj0_bad _ _ _ _ _ _ _ _ _ _ _ _
theorem eight_step {n:Int}{l:List Int}{i:Int}{r:ByteArray} (h0:0≤n) (h1:n<18446744073709551616) (hi:0≤i) (hi1:i≤7) (hl:l.length=8)
    (h:Ev (fun k=>spoorref05_Eight.l0 k (n / 256) (l.set i.toNat (n % 256)) (i - 1)) r):Ev (fun k=>spoorref05_Eight.l0 k n l i) r:=by
  refine Ev.succ ?_;simp only[spoorref05_Eight.l0];refine Ev.pos hi (Ev.pos hi (Ev.pos (by omega) ?_));have e1:IntKind.u64.wrap (Int.tdiv n 256)=n / 256:=by rw [Int.tdiv_eq_ediv_of_nonneg h0];exact u64w (by omega) (by omega)
  have e2:Int.tmod n 256 % 256=n % 256:=by rw [Int.tmod_eq_emod_of_nonneg h0];omega
  rw [e1,e2,w64 (by omega) (by omega)];exact h
theorem eight_ev (n:Int) (h0:0≤n) (h1:n<18446744073709551616):Ev (fun k=>spoorref05_Eight.f k n) (strOfNums (byt8 n)):=by
  simp only[spoorref05_Eight.f];refine eight_step h0 h1 (by omega) (by omega) rfl ?_;refine eight_step (by omega) (by omega) (by omega) (by omega) rfl ?_;refine eight_step (by omega) (by omega) (by omega) (by omega) rfl ?_;refine eight_step (by omega) (by omega) (by omega) (by omega) rfl ?_;refine eight_step (by omega) (by omega) (by omega) (by omega) rfl ?_;refine eight_step (by omega) (by omega) (by omega) (by omega) rfl ?_;refine eight_step (by omega) (by omega) (by omega) (by omega) rfl ?_;refine eight_step (by omega) (by omega) (by omega) (by omega) rfl ?_;refine Ev.succ ?_;simp only[spoorref05_Eight.l0];refine Ev.neg (by omega) (Ev.const ?_)
  congr 2
  simp only[List.replicate,byt8]
  show [_,_,_,_,_,_,_,_]=_
  simp only[List.cons.injEq,and_true];omega
theorem number_l0 (s:ByteArray) (hs:s.size≤8): ∀ (d i:Nat),s.size - i=d→i≤s.size→Ev (fun k=>spoorref05_Number.l0 k s ((nb ((bytesOf s).take i):Nat):Int) i) ((nb (bytesOf s):Nat):Int)
  |0,i,hd,hi=>by
    obtain rfl:i=s.size:=by omega
    refine Ev.succ ?_;simp only[spoorref05_Number.l0];rw [List.take_of_length_le (by rw [bytesOf_length];exact Nat.le_refl _)];exact Ev.neg (by omega) (Ev.now _)
  |d+1,i,hd,hi=>by
    refine Ev.succ ?_;simp only[spoorref05_Number.l0];refine Ev.pos (by omega) (Ev.pos (by omega) ?_);have hlen:((bytesOf s).take i).length=i:=by rw [List.length_take,bytesOf_length];omega
    have hb:=nb_lt ((bytesOf s).take i) ((bytesOf_bytes s).take i);rw [hlen]at hb;have hp:256 ^ i≤256 ^ 7:=Nat.pow_le_pow_right (by decide) (by omega);have hr:=bt_range s i;have ht:=take_rd (bytesOf s) 0 i (by rw [bytesOf_length];omega);simp only[List.drop_zero,Nat.zero_add]at ht;have ih:=number_l0 s hs d (i+1) (by omega) (by omega);rw [ht,nb_snoc, ← bt_nat]at ih;rw [u64w (n:=256 * ((nb ((bytesOf s).take i):Nat):Int)) (by omega) (by omega),u64w (n:=bt s i) (by omega) (by omega),u64w (by omega) (by omega),w64 (by omega) (by omega)];have e:(((256 * nb ((bytesOf s).take i)+(bt s i).toNat:Nat)):Int)=256 * ((nb ((bytesOf s).take i):Nat):Int)+bt s i:=by omega
    rw [e]at ih;exact ih
theorem number_ev (s:ByteArray) (hs:s.size≤8):Ev (fun k=>spoorref05_Number.f k s) ((nb (bytesOf s):Nat):Int):=by
  simp only[spoorref05_Number.f];exact number_l0 s hs _ 0 rfl (by omega)
theorem zeros_eq (n:Nat) (h:n≤281474976710656):spoorref05_Zeros.f n=some (strOfNums (List.replicate n 0)):=by
  unfold spoorref05_Zeros.f;rw [if_pos (by omega),if_pos (by omega),Int.toNat_natCast]
theorem address_ev (six:Bool) {n:Nat} (hn:n<340282366920938463463374607431768211456):Ev (fun k=>spoorref11_address.f k six (hi n) (lo n)) (strOfNums (be (Bn six) n)):=by
  have h1:=hi_range hn;have h2:=lo_range n;simp only[spoorref11_address.f];refine Ev.bind (eight_ev _ h1.1 h1.2) (Ev.bind (eight_ev _ h2.1 h2.2) ?_);have e:=word_six hn;rw [← str_append,e];refine Ev.pos (by rw [strOfNums_size,strOfNums_size];exact (by decide:8+8≤9223372036854775807)) ?_;cases six with
  |true=>exact Ev.pos rfl (Ev.now _)
  |false=>
    refine Ev.neg (by decide) (Ev.pos (by rw [strOfNums_size,be_len];decide) (Ev.const ?_));rw [str_from,bytes_str (be_bytes _ _),show 16=12+4 from rfl,be_split 4 12,List.drop_left' (be_len _ _)];rfl
theorem kn_tdiv {len:Int} (h0:0≤len) (h1:len≤128):wrap64 (Int.tdiv (wrap64 (len+7)) 8)=(Kn len:Int):=by
  rw [w64 (n:=len+7) (by omega) (by omega),Int.tdiv_eq_ediv_of_nonneg (by omega),w64 (by omega) (by omega)];unfold Kn;omega
theorem rputprefix_ev (six:Bool) {n:Nat} (hn:n<340282366920938463463374607431768211456) (len:Int):Ev (fun k=>spoorref11_PutPrefix.f k six (hi n) (lo n) len) (if okP six n len then (strOfNums (preL six n len),0) else ((⟨#[]⟩:ByteArray),2)):=by
  simp only[spoorref11_PutPrefix.f];refine Ev.bind (rcheck_ev six hn len) ?_;by_cases h:okP six n len
  · rw [if_pos h,if_pos h];have h':=h;obtain⟨h0,h1,_⟩:=h';have hw:=Wn_le six;have hk:=kn_le h1;rw [kn_tdiv h0 (by omega)];refine Ev.pos rfl ?_;have hB:Bn six≤16:=by cases six <;> simp [Bn]
    have hx:strOfNums [sixB six,len % 256]++(strOfNums (be (Bn six) n)).extract 0 (Kn len:Int).toNat=strOfNums (preL six n len):=by
      rw [str_part,bytes_str (be_bytes _ _),List.drop_zero, ← str_append,Int.toNat_natCast]
      congr 1
      show sixB six :: len % 256 :: _=_
      rw [show len % 256=len by omega];rfl
    have hz:(strOfNums [sixB six,len % 256]).size+((strOfNums (be (Bn six) n)).extract 0 (Kn len:Int).toNat).size≤9223372036854775807:=by rw [str_part,strOfNums_size,strOfNums_size,bytes_str (be_bytes _ _),List.drop_zero,List.length_take,be_len];simp only[List.length_cons,List.length_nil];omega
    cases six with
    |true=>
      refine Ev.pos rfl (Ev.bind (Ev.now _) (Ev.bind (address_ev true hn) (Ev.pos (by omega) (Ev.pos (by rw [strOfNums_size,be_len];omega) (Ev.pos hz (Ev.const ?_))))));rw [← hx];rfl
    |false=>
      refine Ev.neg (by decide) (Ev.bind (Ev.now _) (Ev.bind (address_ev false hn) (Ev.pos (by omega) (Ev.pos (by rw [strOfNums_size,be_len];omega) (Ev.pos hz (Ev.const ?_))))));rw [← hx];rfl
  ·rw [if_neg h,if_neg h];exact Ev.neg (by decide) (Ev.now _)
theorem rnum_ev {m:Int} (h0:0≤m) (h1:m<18446744073709551616):Ev (fun k=>spoorref01_Put.f k (IntKind.u64.wrap m)) (strOfNums (putL m.toNat)):=by
  rw [u64w h0 h1,show m=((m.toNat:Nat):Int) by omega];exact rput_ev _ (by omega)
theorem rnum_ev' {m:Int} (h0:0≤m) (h1:m<18446744073709551616):Ev (fun k=>spoorref01_Put.f k m) (strOfNums (putL m.toNat)):=by
  have:=rnum_ev h0 h1
  rwa [u64w h0 h1]at this
theorem rputaction_ev (k i:Int):Ev (fun q=>spoorref11_PutAction.f q k i) (if okA k i then (strOfNums (actL k i),0) else ((⟨#[]⟩:ByteArray),2)):=by
  simp only[spoorref11_PutAction.f];rw [racts_is];simp only[Option.bind_some];by_cases h:okA k i
  · rw [if_pos h];refine Ev.pos (decide_eq_true h) ?_;unfold actL;rcases okA_act h with ⟨rfl,h0,h1⟩|⟨h1,h2,rfl⟩
    ·rw [if_pos rfl];have:=putL_len (n:=i.toNat) (by omega);refine Ev.pos rfl (Ev.bind (rnum_ev h0 (by omega)) (Ev.pos (by rw [strOfNums_size,strOfNums_size];simp only[List.length_cons,List.length_nil];omega) (Ev.const ?_)));rw [← str_append];rfl
    ·rw [if_neg h1];exact Ev.neg h1 (Ev.now _)
  ·rw [if_neg h];exact Ev.neg (by simpa using h) (Ev.now _)
end Go.Proofs.Ytodgadhegcjbhaa.Msg
end
