-- Merged and trimmed by this session's program wip/tools/trim.py.
import Derived.Test.YthkdfojmhloofaaRows
import Derived.ChangeArms
import Derived.WideShapes
import Derived.SizedLaws
import Derived.Laws.BytesArg
import Derived.Laws.BitsLemmas
import Derived.Test.YthkdfojmhloofaaTGramAll4
section
namespace Go.Proofs.Ythkdfojmhloofaa.Q
open Go.RowKit Go.Proofs.YthkdfojmhloofaaW.PrintWords Go.Proofs.YthkdfojmhloofaaW.PrintLast Go.Proofs.YthkdfojmhloofaaW.PrintMore
attribute [local go_sem] max2_int min2_int max_two min_two max_three min_three max_four min_four   -- for this text's walks alone
set_option linter.unusedVariables false
set_option linter.unusedSimpArgs false
attribute [local go_sem high] eqA35
set_option maxHeartbeats 8000000 in
set_option maxRecDepth 100000 in
theorem spoorlaw13_GramBack.calls (k:Nat) (A0:Option Addr) (c0:Nat) (l0:List (S35)) (a1:ByteArray) (r:Bool) (w:World) (hr0:Kd.C k35 w A0 l0.length l0) (hc0:l0.length≤c0) (h:spoorlaw13_GramBack.f k l0 a1=some r):
  Calls Try.prog 5 #[.slice A0 l0.length c0,.string a1] w fun e w'=>e= .returned (.bool r)∧Below w.heap.size w w':=by
 have hu35:=Try.underlying35;have HR0:=Ax hr0;have HC0:=Ax hc0;clear hr0 hc0;have HB:=Ax (Below.refl w.heap.size w);have H:((spoorlaw13_lives.f k).bind fun t311=>(if t311=true then ((gram_Stream.f k l0).bind fun bt312=>(if bt312.2=0 then (if bt312.1.size+a1.size≤9223372036854775807 then ((gram_Gots.f k (bt312.1++a1)).bind fun t314=>(if (t314.length:Int)<(l0.length:Int) then (spoorlaw13_GramBack.j0 k l0 t314 true) else ((gram_Gots.f k bt312.1).bind fun t317=>(if (t317.length:Int)=(l0.length:Int) then (if 0≤(l0.length:Int) then (if (l0.length:Int)≤(t314.length:Int) then ((gram_Gots.f k a1).bind fun t324=>((spoorref13_Same.f k (t314.drop ((l0.length:Int):Int).toNat) t324).bind fun t327=>(spoorlaw13_GramBack.j0 k l0 t314 (!t327)))) else (none)) else (none)) else (spoorlaw13_GramBack.j0 k l0 t314 true))))) else (none)) else (if bt312.1.toList=([]:List UInt8) then (some (bt312.2==2)) else (none)))) else (none)))=some r:=h;clear h;replace H:=Option.bind_eq_some_iff.mp H;obtain⟨t311,A30,H⟩:=H;replace H:(if t311=true then ((gram_Stream.f k l0).bind fun bt312=>(if bt312.2=0 then (if bt312.1.size+a1.size≤9223372036854775807 then ((gram_Gots.f k (bt312.1++a1)).bind fun t314=>(if (t314.length:Int)<(l0.length:Int) then (spoorlaw13_GramBack.j0 k l0 t314 true) else ((gram_Gots.f k bt312.1).bind fun t317=>(if (t317.length:Int)=(l0.length:Int) then (if 0≤(l0.length:Int) then (if (l0.length:Int)≤(t314.length:Int) then ((gram_Gots.f k a1).bind fun t324=>((spoorref13_Same.f k (t314.drop ((l0.length:Int):Int).toNat) t324).bind fun t327=>(spoorlaw13_GramBack.j0 k l0 t314 (!t327)))) else (none)) else (none)) else (spoorlaw13_GramBack.j0 k l0 t314 true))))) else (none)) else (if bt312.1.toList=([]:List UInt8) then (some (bt312.2==2)) else (none)))) else (none))=some r:=H;have A3:=Ax A30;clear A30;by_cases c4:t311=true
 ·subst c4;have H1:((gram_Stream.f k l0).bind fun bt312=>(if bt312.2=0 then (if bt312.1.size+a1.size≤9223372036854775807 then ((gram_Gots.f k (bt312.1++a1)).bind fun t314=>(if (t314.length:Int)<(l0.length:Int) then (spoorlaw13_GramBack.j0 k l0 t314 true) else ((gram_Gots.f k bt312.1).bind fun t317=>(if (t317.length:Int)=(l0.length:Int) then (if 0≤(l0.length:Int) then (if (l0.length:Int)≤(t314.length:Int) then ((gram_Gots.f k a1).bind fun t324=>((spoorref13_Same.f k (t314.drop ((l0.length:Int):Int).toNat) t324).bind fun t327=>(spoorlaw13_GramBack.j0 k l0 t314 (!t327)))) else (none)) else (none)) else (spoorlaw13_GramBack.j0 k l0 t314 true))))) else (none)) else (if bt312.1.toList=([]:List UInt8) then (some (bt312.2==2)) else (none))))=some r:=by rw [if_pos rfl]at H;exact H
  clear H;have H:=H1;clear H1;replace H:=Option.bind_eq_some_iff.mp H;obtain⟨⟨t312,t313⟩,A50,H⟩:=H;replace H:(if t313=0 then (if t312.size+a1.size≤9223372036854775807 then ((gram_Gots.f k (t312++a1)).bind fun t314=>(if (t314.length:Int)<(l0.length:Int) then (spoorlaw13_GramBack.j0 k l0 t314 true) else ((gram_Gots.f k t312).bind fun t317=>(if (t317.length:Int)=(l0.length:Int) then (if 0≤(l0.length:Int) then (if (l0.length:Int)≤(t314.length:Int) then ((gram_Gots.f k a1).bind fun t324=>((spoorref13_Same.f k (t314.drop ((l0.length:Int):Int).toNat) t324).bind fun t327=>(spoorlaw13_GramBack.j0 k l0 t314 (!t327)))) else (none)) else (none)) else (spoorlaw13_GramBack.j0 k l0 t314 true))))) else (none)) else (if t312.toList=([]:List UInt8) then (some (t313==2)) else (none)))=some r:=H;have A5:=Ax A50;clear A50;by_cases c6:t313=0
  ·rw [if_pos c6]at H;have c6b0:(t313==0)=true:=beq_iff_eq.mpr c6;have c6b1:(t313 !=0)=false:=bne_eq_false_iff_eq.mpr c6;clear c6;by_cases c7:t312.size+a1.size≤9223372036854775807
   ·rw [if_pos c7]at H;have c7b0:=eq_true c7;have c7b1:decide (t312.size+a1.size≤9223372036854775807)=true:=decide_eq_true c7;try have c7b2:(9223372036854775807<t312.size+a1.size)=False:=eq_false (Nat.not_lt.2 c7)
    replace H:=Option.bind_eq_some_iff.mp H;obtain⟨t314,A80,H⟩:=H;replace H:(if (t314.length:Int)<(l0.length:Int) then (spoorlaw13_GramBack.j0 k l0 t314 true) else ((gram_Gots.f k t312).bind fun t317=>(if (t317.length:Int)=(l0.length:Int) then (if 0≤(l0.length:Int) then (if (l0.length:Int)≤(t314.length:Int) then ((gram_Gots.f k a1).bind fun t324=>((spoorref13_Same.f k (t314.drop ((l0.length:Int):Int).toNat) t324).bind fun t327=>(spoorlaw13_GramBack.j0 k l0 t314 (!t327)))) else (none)) else (none)) else (spoorlaw13_GramBack.j0 k l0 t314 true))))=some r:=H;have A8:=Ax A80;clear A80;have HC9:=Ax H;clear H;go_enter Try.func5,Try.ntmps5;go_upto_region 7 with (first|((with_reducible refine gate_callee (f:=10) rfl ?_);refine goesL_ (some 10) rfl rfl Try.func10 (by kernel_rfl) rfl #[] rfl gS ?_;(with_reducible refine (spoorlaw13_lives.calls k  true _ A3.out).mono ?_);rintro e w10 ⟨rfl,hb⟩;refine⟨_,rfl,?_⟩;replace HB:=Bs0 HB hb;(try clear hb))|((with_reducible refine gate_callee (f:=17) rfl ?_);refine goesL_ (some 14) rfl rfl Try.func17 (by kernel_rfl) rfl #[.slice A0 l0.length c0] rfl gS ?_;(with_reducible refine (gram_Stream.calls k _ _ l0 t312 t313 _ ?side1 ?side2 A5.out).mono ?_);(case side1=>repeat (first|exact (Kd.C_below HR0.out HB.out)|(with_reducible refine Kd.C_alloc ?_ _)|(with_reducible refine Kd.C_drewN ?_ _)|(with_reducible refine Kd.C_drew ?_)));(case side2=>exact HC0.out);rintro e w11 ⟨rfl,hb⟩;refine⟨_,rfl,?_⟩;replace HB:=Bs0 HB hb;(try clear hb))|((with_reducible refine gate_callee (f:=15) rfl ?_);refine goesL_ (some 28) rfl rfl Try.func15 (by kernel_rfl) rfl #[.string (t312++a1)] rfl gS ?_;(with_reducible refine (gram_Gots.calls k (t312++a1) t314 _ A8.out).mono ?_);rintro e w12 ⟨v315,rfl,ho0,hb⟩;refine⟨_,rfl,?_⟩;have HO316:=Ax (Kd.R_lower ho0 (below_size (bw0 HB.out)));replace HB:=Bs0 HB hb;(try clear hb);(try clear ho0)))
    (try simp only[Act.put,List.setIfInBounds_toArray,List.set_cons_zero,List.set_cons_succ])
    go_cut [51] (fun v51 wc=> ∃ (kq:Nat) (x51_8:Bool),v51= .bool x51_8∧Aside0 (spoorlaw13_GramBack.j0 kq l0 t314 x51_8=some r)∧Aside0 (kq≤k)∧Aside0 (Kd.R k38 38 wc w.heap.size (fun _=>True) v315 t314)∧Aside0 (Below w.heap.size w wc))
    case first=>
     have H:=HC9.out;clear HC9;by_cases c13:(t314.length:Int)<(l0.length:Int)
     ·rw [if_pos c13]at H;have c13b0:decide ((t314.length:Int)<(l0.length:Int))=true:=decide_eq_true c13;have c13b1:decide (t314.length<l0.length)=true:=decide_eq_true (Int.ofNat_lt.mp c13);clear c13
      (first|rw [c13b0]|(simp only[i64_w,i32_w];rw [c13b0])|skip)
      have H':=Ax H;clear H;try go_wp2
      replace HO316:=Ax (Kd.R_drew HO316.out);replace HB:=Ax (below_drew1 HB.out);obtain⟨Ao15,co15,eo15⟩:=Kd.R_slice HO316.out
      (first|subst eo15|(injection eo15 with f1_ f2_ f3_;have f4_:=f1_.symm;have f5_:=f3_.symm;clear f1_ f2_ f3_;subst f4_;subst f5_))
      refine start_ (n:=23) (S:=fun w'=>True) (ds:= []) #[fa,fa,fa,fa,fa,fa,fa,fa,fa,fa,fa,fa,fa,fa,fa,fa,fa,fa,fa,fa,fa,fa,fa] (by kernel_rfl) rfl rfl trivial (fun hHeld=>?_);refine with_tabW spoorlaw13_GramBack.tab7 spoorlaw13_GramBack.bits7 (fun HT_ HW_=>?_);generalize w12.drew=w14 at HO316 HB hHeld ⊢;refine pz 0 29 #[tr,fa,fa,fa,fa,fa,fa,fa,fa,fa,fa,fa,fa,fa,fa,fa,fa,fa,fa,fa,fa,fa,fa] HT_.out ?_
      refine pz 1 30 #[tr,tr,fa,fa,fa,fa,fa,fa,fa,fa,fa,fa,fa,fa,fa,fa,fa,fa,fa,fa,fa,fa,fa] HT_.out ?_
      refine pz 2 31 #[tr,tr,tr,fa,fa,fa,fa,fa,fa,fa,fa,fa,fa,fa,fa,fa,fa,fa,fa,fa,fa,fa,fa] HT_.out ?_
      refine pz 3 32 #[tr,tr,tr,tr,fa,fa,fa,fa,fa,fa,fa,fa,fa,fa,fa,fa,fa,fa,fa,fa,fa,fa,fa] HT_.out ?_
      refine pz 4 33 #[tr,tr,tr,tr,tr,fa,fa,fa,fa,fa,fa,fa,fa,fa,fa,fa,fa,fa,fa,fa,fa,fa,fa] HT_.out ?_
      refine pz 5 34 #[tr,tr,tr,tr,tr,tr,fa,fa,fa,fa,fa,fa,fa,fa,fa,fa,fa,fa,fa,fa,fa,fa,fa] HT_.out ?_
      refine pu 6 35 #[tr,tr,tr,tr,tr,tr,tr,fa,fa,fa,fa,fa,fa,fa,fa,fa,fa,fa,fa,fa,fa,fa,fa] HT_.out ?_
      refine pu 7 36 #[tr,tr,tr,tr,tr,tr,tr,tr,fa,fa,fa,fa,fa,fa,fa,fa,fa,fa,fa,fa,fa,fa,fa] HT_.out ?_
      refine pu 8 37 #[tr,tr,tr,tr,tr,tr,tr,tr,tr,fa,fa,fa,fa,fa,fa,fa,fa,fa,fa,fa,fa,fa,fa] HT_.out ?_
      refine pu 9 38 #[tr,tr,tr,tr,tr,tr,tr,tr,tr,tr,fa,fa,fa,fa,fa,fa,fa,fa,fa,fa,fa,fa,fa] HT_.out ?_
      refine pu 10 39 #[tr,tr,tr,tr,tr,tr,tr,tr,tr,tr,tr,fa,fa,fa,fa,fa,fa,fa,fa,fa,fa,fa,fa] HT_.out ?_
      refine pu 11 40 #[tr,tr,tr,tr,tr,tr,tr,tr,tr,tr,tr,tr,fa,fa,fa,fa,fa,fa,fa,fa,fa,fa,fa] HT_.out ?_
      refine pz 12 41 #[tr,tr,tr,tr,tr,tr,tr,tr,tr,tr,tr,tr,tr,fa,fa,fa,fa,fa,fa,fa,fa,fa,fa] HT_.out ?_
      refine pz 13 42 #[tr,tr,tr,tr,tr,tr,tr,tr,tr,tr,tr,tr,tr,tr,fa,fa,fa,fa,fa,fa,fa,fa,fa] HT_.out ?_
      refine pu 14 43 #[tr,tr,tr,tr,tr,tr,tr,tr,tr,tr,tr,tr,tr,tr,tr,fa,fa,fa,fa,fa,fa,fa,fa] HT_.out ?_
      refine pu 15 44 #[tr,tr,tr,tr,tr,tr,tr,tr,tr,tr,tr,tr,tr,tr,tr,tr,fa,fa,fa,fa,fa,fa,fa] HT_.out ?_
      refine pu 16 45 #[tr,tr,tr,tr,tr,tr,tr,tr,tr,tr,tr,tr,tr,tr,tr,tr,tr,fa,fa,fa,fa,fa,fa] HT_.out ?_
      refine pu 17 46 #[tr,tr,tr,tr,tr,tr,tr,tr,tr,tr,tr,tr,tr,tr,tr,tr,tr,tr,fa,fa,fa,fa,fa] HT_.out ?_
      refine pu 18 47 #[tr,tr,tr,tr,tr,tr,tr,tr,tr,tr,tr,tr,tr,tr,tr,tr,tr,tr,tr,fa,fa,fa,fa] HT_.out ?_
      refine pu 19 48 #[tr,tr,tr,tr,tr,tr,tr,tr,tr,tr,tr,tr,tr,tr,tr,tr,tr,tr,tr,tr,fa,fa,fa] HT_.out ?_
      refine pu 20 49 #[tr,tr,tr,tr,tr,tr,tr,tr,tr,tr,tr,tr,tr,tr,tr,tr,tr,tr,tr,tr,tr,fa,fa] HT_.out ?_
      refine pu 21 50 #[tr,tr,tr,tr,tr,tr,tr,tr,tr,tr,tr,tr,tr,tr,tr,tr,tr,tr,tr,tr,tr,tr,fa] HT_.out ?_
      refine pz 22 51 #[tr,tr,tr,tr,tr,tr,tr,tr,tr,tr,tr,tr,tr,tr,tr,tr,tr,tr,tr,tr,tr,tr,tr] HT_.out ?_
      refine done_ (done_of HT_.out (by kernel_rfl)) ?_;try go_wp2
      go_meet
      case rel=>exact⟨_,(true),rS,H',⟨by first|omega|exact Nat.le_refl _⟩,⟨by (with_reducible repeat (first|apply Kd.R_alloc|apply Kd.R_drewN|apply Kd.R_drew));exact HO316.out⟩,⟨bw0 HB.out⟩⟩
     ·rw [if_neg c13]at H;have c13b0:decide ((t314.length:Int)<(l0.length:Int))=false:=decide_eq_false c13;have c13b1:decide (t314.length<l0.length)=false:=decide_eq_false (fun h=>c13 (Int.ofNat_lt.mpr h));clear c13
      (first|rw [c13b0]|(simp only[i64_w,i32_w];rw [c13b0])|skip)
      replace H:=Option.bind_eq_some_iff.mp H;obtain⟨t317,A160,H⟩:=H;replace H:(if (t317.length:Int)=(l0.length:Int) then (if 0≤(l0.length:Int) then (if (l0.length:Int)≤(t314.length:Int) then ((gram_Gots.f k a1).bind fun t324=>((spoorref13_Same.f k (t314.drop ((l0.length:Int):Int).toNat) t324).bind fun t327=>(spoorlaw13_GramBack.j0 k l0 t314 (!t327)))) else (none)) else (none)) else (spoorlaw13_GramBack.j0 k l0 t314 true))=some r:=H;have A16:=Ax A160;clear A160;by_cases c17:(t317.length:Int)=(l0.length:Int)
      ·rw [if_pos c17]at H;have c17b0:((t317.length:Int)==(l0.length:Int))=true:=beq_iff_eq.mpr c17;have c17b1:((t317.length:Int) !=(l0.length:Int))=false:=bne_eq_false_iff_eq.mpr c17;have c17b2:(t317.length==l0.length)=true:=by first|simpa using c17|(simp at c17 ⊢;omega)
       clear c17;by_cases c18:0≤(l0.length:Int)
       ·rw [if_pos c18]at H;have c18b0:=eq_true c18;have c18b1:decide (0≤(l0.length:Int))=true:=decide_eq_true c18;clear c18;by_cases c19:(l0.length:Int)≤(t314.length:Int)
        ·rw [if_pos c19]at H;have c19b0:=eq_true c19;have c19b1:decide ((l0.length:Int)≤(t314.length:Int))=true:=decide_eq_true c19;clear c19;obtain⟨y320,hy320⟩: ∃ y_:List (S38),y_=(t314.drop ((l0.length:Int):Int).toNat):=⟨_,rfl⟩;replace H:((gram_Gots.f k a1).bind fun t324=>((spoorref13_Same.f k y320 t324).bind fun t327=>(spoorlaw13_GramBack.j0 k l0 t314 (!t327))))=some r:=by first|(rw [hy320];with_reducible exact H)|(have H2_:=(Option.bind_some _ _).symm.trans H;rw [hy320];with_reducible exact H2_)|(have H2_:=(Option.bind_some _ _).symm.trans H;with_reducible exact H2_)|with_reducible exact H|(rw [hy320];exact H)|exact H
         have Ny320:=Ax hy320;clear hy320;replace H:=Option.bind_eq_some_iff.mp H;obtain⟨t324,A200,H⟩:=H;replace H:((spoorref13_Same.f k y320 t324).bind fun t327=>(spoorlaw13_GramBack.j0 k l0 t314 (!t327)))=some r:=H;have A20:=Ax A200;clear A200;replace H:=Option.bind_eq_some_iff.mp H;obtain⟨t327,A210,H⟩:=H;replace H:(spoorlaw13_GramBack.j0 k l0 t314 (!t327))=some r:=H;have A21:=Ax A210;clear A210;have H':=Ax H;clear H;try go_wp2
         replace HO316:=Ax (Kd.R_drew HO316.out);replace HB:=Ax (below_drew1 HB.out);obtain⟨Ao23,co23,eo23⟩:=Kd.R_slice HO316.out
         (first|subst eo23|(injection eo23 with f1_ f2_ f3_;have f4_:=f1_.symm;have f5_:=f3_.symm;clear f1_ f2_ f3_;subst f4_;subst f5_))
         refine start_ (n:=23) (S:=fun w'=>True) (ds:= []) #[fa,fa,fa,fa,fa,fa,fa,fa,fa,fa,fa,fa,fa,fa,fa,fa,fa,fa,fa,fa,fa,fa,fa] (by kernel_rfl) rfl rfl trivial (fun hHeld=>?_);refine with_tabW spoorlaw13_GramBack.tab7 spoorlaw13_GramBack.bits7 (fun HT_ HW_=>?_);generalize w12.drew=w22 at HO316 HB hHeld ⊢;refine pz 0 29 #[tr,fa,fa,fa,fa,fa,fa,fa,fa,fa,fa,fa,fa,fa,fa,fa,fa,fa,fa,fa,fa,fa,fa] HT_.out ?_
         refine pz 1 30 #[tr,tr,fa,fa,fa,fa,fa,fa,fa,fa,fa,fa,fa,fa,fa,fa,fa,fa,fa,fa,fa,fa,fa] HT_.out ?_
         refine pz 2 31 #[tr,tr,tr,fa,fa,fa,fa,fa,fa,fa,fa,fa,fa,fa,fa,fa,fa,fa,fa,fa,fa,fa,fa] HT_.out ?_
         refine pz 3 32 #[tr,tr,tr,tr,fa,fa,fa,fa,fa,fa,fa,fa,fa,fa,fa,fa,fa,fa,fa,fa,fa,fa,fa] HT_.out ?_
         refine pz 4 33 #[tr,tr,tr,tr,tr,fa,fa,fa,fa,fa,fa,fa,fa,fa,fa,fa,fa,fa,fa,fa,fa,fa,fa] HT_.out ?_
         refine pz 5 34 #[tr,tr,tr,tr,tr,tr,fa,fa,fa,fa,fa,fa,fa,fa,fa,fa,fa,fa,fa,fa,fa,fa,fa] HT_.out ?_
         refine pz 6 35 #[tr,tr,tr,tr,tr,tr,tr,fa,fa,fa,fa,fa,fa,fa,fa,fa,fa,fa,fa,fa,fa,fa,fa] HT_.out ?_
         refine pz 9 38 #[tr,tr,tr,tr,tr,tr,tr,fa,fa,tr,fa,fa,fa,fa,fa,fa,fa,fa,fa,fa,fa,fa,fa] HT_.out ?_
         refine pz 10 39 #[tr,tr,tr,tr,tr,tr,tr,fa,fa,tr,tr,fa,fa,fa,fa,fa,fa,fa,fa,fa,fa,fa,fa] HT_.out ?_
         refine one_ (i:=7) (N:=some 36) #[tr,tr,tr,tr,tr,tr,tr,tr,fa,tr,tr,fa,fa,fa,fa,fa,fa,fa,fa,fa,fa,fa,fa] rfl rfl (one_of HT_.out (by kernel_rfl)) (by decide) (fun K hK=>?_);refine goes_ Try.func15 (by kernel_rfl) rfl #[.string t312] (by rfl) rfl rfl gS ?_;with_reducible refine (gram_Gots.calls k t312 t317 _ A16.out).mono ?_
         rintro e w24 ⟨v318,rfl,ho0,hb⟩
         refine⟨_,rfl,?_⟩;have n0_:=Ax (Kd.R_elder' (by (with_reducible repeat (first|apply Kd.R_alloc|apply Kd.R_drewN|apply Kd.R_drew));exact HO316.out) (Kd.R_base ho0) hb);have n1_:=Ax (Kd.R_lower (Kd.R_new' ho0 (Kd.R_lt (by (with_reducible repeat (first|apply Kd.R_alloc|apply Kd.R_drewN|apply Kd.R_drew));exact HO316.out))) (below_size (bw0 HB.out)));have n2_:=Bs0 HB hb;clear HO316;clear HB;have HO316:=n0_;have HO319:=n1_;have HB:=n2_;clear n0_ n1_ n2_
         (try clear hb)
         (try clear ho0)
         obtain⟨Ao25,co25,eo25⟩:=Kd.R_slice HO319.out
         (first|subst eo25|(injection eo25 with f1_ f2_ f3_;have f4_:=f1_.symm;have f5_:=f3_.symm;clear f1_ f2_ f3_;subst f4_;subst f5_))
         have q26:((l0.length:Int):Int)≤((t314.length:Int):Int):=of_decide_eq_true (by first|(with_reducible assumption)|assumption);obtain⟨i026,hi026,_,hsz26,_⟩:=info_parts info38;have hroom26:t314.length≤co23:=(Kd.R_reads' HO316.out).2.1;have hC26:Kd.C k38 _ Ao23 t314.length t314:=(Kd.R_reads' HO316.out).2.2;have q026:(0:Int)≤((l0.length:Int):Int):=of_decide_eq_true (by first|(with_reducible assumption)|assumption);have hcut26:=cut_from (P:=Try.prog) 46 38 .i64 Try.underlying46 hi026 13 hsz26 Ao23 t314.length co23 (l0.length:Int) q026 q26;have hr26:=Kd.C_drop (m:=((l0.length:Int):Int).toNat) (c:=co23) hC26 (by omega) hroom26;obtain⟨A26,hA26⟩: ∃ A1,A1=(if co23=((l0.length:Int):Int).toNat then Ao23 else (Ao23:Option Addr).map (·.add (((l0.length:Int):Int).toNat * 13))):=⟨_,rfl⟩;obtain⟨c26,hc26⟩: ∃ c1,c1=co23 - ((l0.length:Int):Int).toNat:=⟨_,rfl⟩;have hy26:y320.length=t314.length - ((l0.length:Int):Int).toNat:=(by rw [Ny320.out,List.length_drop] <;> omega);rw [show (t314).drop ((l0.length:Int):Int).toNat=y320 from Ny320.out.symm]at hr26;replace hr26:Kd.C k38 _ A26 y320.length y320:=(by rw [hA26];exact hr26);rw [← hy26, ← hA26, ← hc26]at hcut26;have HR323:=Ax hr26;have HC323:=Ax (show y320.length≤c26 from by rw [hy26,hc26];exact Nat.sub_le_sub_right hroom26 _);clear hr26 hC26 hroom26 hi026 hsz26 hc26;have KY26:=Ax hy26;have KA26:=Ax hA26;clear hy26 hA26;have KL26:=Ax (show ((l0.length:Int):Int).toNat≤t314.length from by omega);replace q26:=eq_true q26;refine hK.out _ _ trivial (fun hHeld=>?_);clear hK K;refine norm_ (a':=?_) ?_ ?_;rotate_left
         ·show Act.put _ (some 36) _=_
          simp only[sP];rfl
         refine pz 8 37 #[tr,tr,tr,tr,tr,tr,tr,tr,tr,tr,tr,fa,fa,fa,fa,fa,fa,fa,fa,fa,fa,fa,fa] HT_.out ?_
         refine pz 11 40 #[tr,tr,tr,tr,tr,tr,tr,tr,tr,tr,tr,tr,fa,fa,fa,fa,fa,fa,fa,fa,fa,fa,fa] HT_.out ?_
         refine pz 12 41 #[tr,tr,tr,tr,tr,tr,tr,tr,tr,tr,tr,tr,tr,fa,fa,fa,fa,fa,fa,fa,fa,fa,fa] HT_.out ?_
         refine pz 13 42 #[tr,tr,tr,tr,tr,tr,tr,tr,tr,tr,tr,tr,tr,tr,fa,fa,fa,fa,fa,fa,fa,fa,fa] HT_.out ?_
         refine pz 14 43 #[tr,tr,tr,tr,tr,tr,tr,tr,tr,tr,tr,tr,tr,tr,tr,fa,fa,fa,fa,fa,fa,fa,fa] HT_.out ?_
         refine pz 15 44 #[tr,tr,tr,tr,tr,tr,tr,tr,tr,tr,tr,tr,tr,tr,tr,tr,fa,fa,fa,fa,fa,fa,fa] HT_.out ?_
         refine pz 16 45 #[tr,tr,tr,tr,tr,tr,tr,tr,tr,tr,tr,tr,tr,tr,tr,tr,tr,fa,fa,fa,fa,fa,fa] HT_.out ?_
         refine pz 17 46 #[tr,tr,tr,tr,tr,tr,tr,tr,tr,tr,tr,tr,tr,tr,tr,tr,tr,tr,fa,fa,fa,fa,fa] HT_.out ?_
         refine pz 18 47 #[tr,tr,tr,tr,tr,tr,tr,tr,tr,tr,tr,tr,tr,tr,tr,tr,tr,tr,tr,fa,fa,fa,fa] HT_.out ?_
         refine one_ (i:=19) (N:=some 48) #[tr,tr,tr,tr,tr,tr,tr,tr,tr,tr,tr,tr,tr,tr,tr,tr,tr,tr,tr,tr,fa,fa,fa] rfl rfl (one_of HT_.out (by kernel_rfl)) (by decide) (fun K hK=>?_);refine goes_ Try.func15 (by kernel_rfl) rfl #[.string a1] (by rfl) rfl rfl gS ?_;with_reducible refine (gram_Gots.calls k a1 t324 _ A20.out).mono ?_
         rintro e w27 ⟨v325,rfl,ho0,hb⟩
         refine⟨_,rfl,?_⟩;have n0_:=Ax (Kd.R_elder' (by (with_reducible repeat (first|apply Kd.R_alloc|apply Kd.R_drewN|apply Kd.R_drew));exact HO316.out) (Kd.R_base ho0) hb);have n1_:=Ax (Kd.R_elder' (by (with_reducible repeat (first|apply Kd.R_alloc|apply Kd.R_drewN|apply Kd.R_drew));exact HO319.out) (Kd.R_base ho0) hb);have n2_:=Ax (Kd.R_lower (Kd.R_new' (Kd.R_new' ho0 (Kd.R_lt (by (with_reducible repeat (first|apply Kd.R_alloc|apply Kd.R_drewN|apply Kd.R_drew));exact HO316.out))) (Kd.R_lt (by (with_reducible repeat (first|apply Kd.R_alloc|apply Kd.R_drewN|apply Kd.R_drew));exact HO319.out))) (below_size (bw0 HB.out)));have n3_:=Ax (Kd.C_below (by repeat (first|(with_reducible exact HR323.out)|(with_reducible refine Kd.C_alloc ?_ _)|(with_reducible refine Kd.C_drewN ?_ _)|(with_reducible refine Kd.C_drew ?_)|exact HR323.out)) hb);have n4_:=Bs0 HB hb;clear HO316;clear HO319;clear HR323;clear HB;have HO316:=n0_;have HO319:=n1_;have HO326:=n2_;have HR323:=n3_;have HB:=n4_;clear n0_ n1_ n2_ n3_ n4_
         (try clear hb)
         (try clear ho0)
         obtain⟨Ao28,co28,eo28⟩:=Kd.R_slice HO326.out
         (first|subst eo28|(injection eo28 with f1_ f2_ f3_;have f4_:=f1_.symm;have f5_:=f3_.symm;clear f1_ f2_ f3_;subst f4_;subst f5_))
         refine hK.out _ _ trivial (fun hHeld=>?_);clear hK K;refine norm_ (a':=?_) ?_ ?_;rotate_left
         ·show Act.put _ (some 48) _=_
          simp only[sP];rfl
         refine one_ (i:=20) (N:=some 49) #[tr,tr,tr,tr,tr,tr,tr,tr,tr,tr,tr,tr,tr,tr,tr,tr,tr,tr,tr,tr,tr,fa,fa] rfl rfl (one_of HT_.out (by kernel_rfl)) (by decide) (fun K hK=>?_);refine goes_ Try.func14 (by kernel_rfl) rfl #[.slice A26 y320.length c26,.slice Ao28 t324.length co28] (by rfl) rfl rfl gS ?_;with_reducible refine (spoorref13_Same.calls k _ _ y320 _ _ t324 t327 _ ?side1 ?side2 ?side3 ?side4 A21.out).mono ?_
         (case side1=>repeat (first|exact (by repeat (first|(with_reducible exact HR323.out)|(with_reducible refine Kd.C_alloc ?_ _)|(with_reducible refine Kd.C_drewN ?_ _)|(with_reducible refine Kd.C_drew ?_)|exact HR323.out))|(with_reducible refine Kd.C_alloc ?_ _)|(with_reducible refine Kd.C_drewN ?_ _)|(with_reducible refine Kd.C_drew ?_)))
         (case side2=>exact HC323.out)
         (case side3=>repeat (first|exact (Kd.R_reads' HO326.out).2.2|(with_reducible refine Kd.C_alloc ?_ _)|(with_reducible refine Kd.C_drewN ?_ _)|(with_reducible refine Kd.C_drew ?_)))
         (case side4=>exact (Kd.R_reads' HO326.out).2.1)
         rintro e w' ⟨rfl,⟨nd,rfl⟩⟩
         refine⟨_,rfl,?_⟩;refine hK.out _ _ trivial (fun hHeld=>?_);clear hK K;refine norm_ (a':=?_) ?_ ?_;rotate_left
         ·show Act.put _ (some 49) _=_
          simp only[sP];rfl
         refine pz 21 50 #[tr,tr,tr,tr,tr,tr,tr,tr,tr,tr,tr,tr,tr,tr,tr,tr,tr,tr,tr,tr,tr,tr,fa] HT_.out ?_
         refine pz 22 51 #[tr,tr,tr,tr,tr,tr,tr,tr,tr,tr,tr,tr,tr,tr,tr,tr,tr,tr,tr,tr,tr,tr,tr] HT_.out ?_
         refine done_ (done_of HT_.out (by kernel_rfl)) ?_;try go_wp2
         go_meet
         case rel=>exact⟨_,(!t327),rS,H',⟨by first|omega|exact Nat.le_refl _⟩,⟨by (with_reducible repeat (first|apply Kd.R_alloc|apply Kd.R_drewN|apply Kd.R_drew));exact Kd.R_mono HO316.out (fun _ hk=>trivial)⟩,⟨bw0 HB.out⟩⟩
        ·rw [if_neg c19]at H;exact absurd H (by simp)
       ·rw [if_neg c18]at H;exact absurd H (by simp)
      ·rw [if_neg c17]at H;have c17b0:((t317.length:Int)==(l0.length:Int))=false:=beq_eq_false_iff_ne.mpr c17;have c17b1:((t317.length:Int) !=(l0.length:Int))=true:=bne_iff_ne.mpr c17;have c17b2:(t317.length==l0.length)=false:=by first|simpa using c17|(simp at c17 ⊢;omega)
       have H':=Ax H;clear H;try go_wp2
       replace HO316:=Ax (Kd.R_drew HO316.out);replace HB:=Ax (below_drew1 HB.out);obtain⟨Ao30,co30,eo30⟩:=Kd.R_slice HO316.out
       (first|subst eo30|(injection eo30 with f1_ f2_ f3_;have f4_:=f1_.symm;have f5_:=f3_.symm;clear f1_ f2_ f3_;subst f4_;subst f5_))
       refine start_ (n:=23) (S:=fun w'=>True) (ds:= []) #[fa,fa,fa,fa,fa,fa,fa,fa,fa,fa,fa,fa,fa,fa,fa,fa,fa,fa,fa,fa,fa,fa,fa] (by kernel_rfl) rfl rfl trivial (fun hHeld=>?_);refine with_tabW spoorlaw13_GramBack.tab7 spoorlaw13_GramBack.bits7 (fun HT_ HW_=>?_);generalize w12.drew=w29 at HO316 HB hHeld ⊢;refine pz 0 29 #[tr,fa,fa,fa,fa,fa,fa,fa,fa,fa,fa,fa,fa,fa,fa,fa,fa,fa,fa,fa,fa,fa,fa] HT_.out ?_
       refine pz 1 30 #[tr,tr,fa,fa,fa,fa,fa,fa,fa,fa,fa,fa,fa,fa,fa,fa,fa,fa,fa,fa,fa,fa,fa] HT_.out ?_
       refine pz 2 31 #[tr,tr,tr,fa,fa,fa,fa,fa,fa,fa,fa,fa,fa,fa,fa,fa,fa,fa,fa,fa,fa,fa,fa] HT_.out ?_
       refine pz 3 32 #[tr,tr,tr,tr,fa,fa,fa,fa,fa,fa,fa,fa,fa,fa,fa,fa,fa,fa,fa,fa,fa,fa,fa] HT_.out ?_
       refine pz 4 33 #[tr,tr,tr,tr,tr,fa,fa,fa,fa,fa,fa,fa,fa,fa,fa,fa,fa,fa,fa,fa,fa,fa,fa] HT_.out ?_
       refine pz 5 34 #[tr,tr,tr,tr,tr,tr,fa,fa,fa,fa,fa,fa,fa,fa,fa,fa,fa,fa,fa,fa,fa,fa,fa] HT_.out ?_
       refine pz 6 35 #[tr,tr,tr,tr,tr,tr,tr,fa,fa,fa,fa,fa,fa,fa,fa,fa,fa,fa,fa,fa,fa,fa,fa] HT_.out ?_
       refine pz 9 38 #[tr,tr,tr,tr,tr,tr,tr,fa,fa,tr,fa,fa,fa,fa,fa,fa,fa,fa,fa,fa,fa,fa,fa] HT_.out ?_
       refine pz 10 39 #[tr,tr,tr,tr,tr,tr,tr,fa,fa,tr,tr,fa,fa,fa,fa,fa,fa,fa,fa,fa,fa,fa,fa] HT_.out ?_
       refine one_ (i:=7) (N:=some 36) #[tr,tr,tr,tr,tr,tr,tr,tr,fa,tr,tr,fa,fa,fa,fa,fa,fa,fa,fa,fa,fa,fa,fa] rfl rfl (one_of HT_.out (by kernel_rfl)) (by decide) (fun K hK=>?_);refine goes_ Try.func15 (by kernel_rfl) rfl #[.string t312] (by rfl) rfl rfl gS ?_;with_reducible refine (gram_Gots.calls k t312 t317 _ A16.out).mono ?_
       rintro e w31 ⟨v318,rfl,ho0,hb⟩
       refine⟨_,rfl,?_⟩;have n0_:=Ax (Kd.R_elder' (by (with_reducible repeat (first|apply Kd.R_alloc|apply Kd.R_drewN|apply Kd.R_drew));exact HO316.out) (Kd.R_base ho0) hb);have n1_:=Ax (Kd.R_lower (Kd.R_new' ho0 (Kd.R_lt (by (with_reducible repeat (first|apply Kd.R_alloc|apply Kd.R_drewN|apply Kd.R_drew));exact HO316.out))) (below_size (bw0 HB.out)));have n2_:=Bs0 HB hb;clear HO316;clear HB;have HO316:=n0_;have HO319:=n1_;have HB:=n2_;clear n0_ n1_ n2_
       (try clear hb)
       (try clear ho0)
       obtain⟨Ao32,co32,eo32⟩:=Kd.R_slice HO319.out
       (first|subst eo32|(injection eo32 with f1_ f2_ f3_;have f4_:=f1_.symm;have f5_:=f3_.symm;clear f1_ f2_ f3_;subst f4_;subst f5_))
       refine hK.out _ _ trivial (fun hHeld=>?_);clear hK K;refine norm_ (a':=?_) ?_ ?_;rotate_left
       ·show Act.put _ (some 36) _=_
        simp only[sP];rfl
       refine pz 8 37 #[tr,tr,tr,tr,tr,tr,tr,tr,tr,tr,tr,fa,fa,fa,fa,fa,fa,fa,fa,fa,fa,fa,fa] HT_.out ?_
       refine pz 11 40 #[tr,tr,tr,tr,tr,tr,tr,tr,tr,tr,tr,tr,fa,fa,fa,fa,fa,fa,fa,fa,fa,fa,fa] HT_.out ?_
       refine pz 12 41 #[tr,tr,tr,tr,tr,tr,tr,tr,tr,tr,tr,tr,tr,fa,fa,fa,fa,fa,fa,fa,fa,fa,fa] HT_.out ?_
       refine pz 13 42 #[tr,tr,tr,tr,tr,tr,tr,tr,tr,tr,tr,tr,tr,tr,fa,fa,fa,fa,fa,fa,fa,fa,fa] HT_.out ?_
       refine pu 14 43 #[tr,tr,tr,tr,tr,tr,tr,tr,tr,tr,tr,tr,tr,tr,tr,fa,fa,fa,fa,fa,fa,fa,fa] HT_.out ?_
       refine pu 15 44 #[tr,tr,tr,tr,tr,tr,tr,tr,tr,tr,tr,tr,tr,tr,tr,tr,fa,fa,fa,fa,fa,fa,fa] HT_.out ?_
       refine pu 16 45 #[tr,tr,tr,tr,tr,tr,tr,tr,tr,tr,tr,tr,tr,tr,tr,tr,tr,fa,fa,fa,fa,fa,fa] HT_.out ?_
       refine pu 17 46 #[tr,tr,tr,tr,tr,tr,tr,tr,tr,tr,tr,tr,tr,tr,tr,tr,tr,tr,fa,fa,fa,fa,fa] HT_.out ?_
       refine pu 18 47 #[tr,tr,tr,tr,tr,tr,tr,tr,tr,tr,tr,tr,tr,tr,tr,tr,tr,tr,tr,fa,fa,fa,fa] HT_.out ?_
       refine pu 19 48 #[tr,tr,tr,tr,tr,tr,tr,tr,tr,tr,tr,tr,tr,tr,tr,tr,tr,tr,tr,tr,fa,fa,fa] HT_.out ?_
       refine pu 20 49 #[tr,tr,tr,tr,tr,tr,tr,tr,tr,tr,tr,tr,tr,tr,tr,tr,tr,tr,tr,tr,tr,fa,fa] HT_.out ?_
       refine pu 21 50 #[tr,tr,tr,tr,tr,tr,tr,tr,tr,tr,tr,tr,tr,tr,tr,tr,tr,tr,tr,tr,tr,tr,fa] HT_.out ?_
       refine pz 22 51 #[tr,tr,tr,tr,tr,tr,tr,tr,tr,tr,tr,tr,tr,tr,tr,tr,tr,tr,tr,tr,tr,tr,tr] HT_.out ?_
       refine done_ (done_of HT_.out (by kernel_rfl)) ?_;try go_wp2
       go_meet
       case rel=>exact⟨_,(true),rS,H',⟨by first|omega|exact Nat.le_refl _⟩,⟨by (with_reducible repeat (first|apply Kd.R_alloc|apply Kd.R_drewN|apply Kd.R_drew));exact Kd.R_mono HO316.out (fun _ hk=>trivial)⟩,⟨bw0 HB.out⟩⟩
    case rest=>
     clear HC9;(try clear c1);(try clear c2);(try clear p2);(try clear q2);(try clear c13);(try clear c13b0);(try clear c13b1);(try clear c14);(try clear c15);(try clear c17);(try clear c17b0);(try clear c17b1);(try clear c17b2);(try clear c18);(try clear c18b0);(try clear c18b1);(try clear c19);(try clear c19b0);(try clear c19b1);(try clear c26);(try clear q26);(try clear q026);(try clear q26);obtain⟨kq,x51_8,rfl,HA,HJ8,HO_7,HB⟩:=hcut;cases kq with
     |zero=>exact absurd HA.out (by simp [spoorlaw13_GramBack.j0])
     |succ kj8=>
      have H:=HA.out;clear HA;simp only[spoorlaw13_GramBack.j0]at H;by_cases c33:x51_8=true
      ·subst c33;have H1:(none)=some r:=by rw [if_pos rfl]at H;exact H
       clear H;have H:=H1;clear H1;exact absurd H (by simp)
      ·replace c33:=Bool.eq_false_iff.mpr c33;subst c33;have H1:(spoorlaw13_GramBack.l0 kj8 t314 l0 (l0.length:Int) 0)=some r:=by rw [if_neg (show ¬ (false=true) by decide)]at H;exact H
       clear H;have H:=H1;clear H1;have H':=Ax H;clear H;go_wp2;go_loopg [54] kj8 (fun kq v54 w'=> ∃ (x54_2:Int),v54= .int .i64 x54_2∧Aside0 (spoorlaw13_GramBack.l0 kq t314 l0 (l0.length:Int) x54_2=some r)∧Aside0 (kq≤kj8)∧Aside0 (Kd.R k38 38 w' w.heap.size (fun _=>True) v315 t314)∧Aside0 (Below w.heap.size w w'))
       case atStart=>exact⟨(0),rS,H',⟨Nat.le_refl _⟩,⟨by (with_reducible repeat (first|apply Kd.R_alloc|apply Kd.R_drewN|apply Kd.R_drew));exact HO_7.out⟩,⟨bw0 HB.out⟩⟩
       case round=>
        clear H';(try clear c1);(try clear c2);(try clear p2);(try clear q2);(try clear c3);(try clear c13);(try clear c13b0);(try clear c13b1);(try clear c14);(try clear c15);(try clear c17);(try clear c17b0);(try clear c17b1);(try clear c17b2);(try clear c18);(try clear c18b0);(try clear c18b1);(try clear c19);(try clear c19b0);(try clear c19b1);(try clear c26);(try clear q26);(try clear c33);(try clear p2);(try clear q026);(try clear q2);(try clear q26);obtain⟨x54_2,rfl,HA,HK2,HO_7,HB⟩:=hrel;cases gk with
        |zero=>exact absurd HA.out (by simp [spoorlaw13_GramBack.l0])
        |succ k2=>
         have H:=HA.out;clear HA;simp only[spoorlaw13_GramBack.l0]at H;by_cases c34:x54_2<(l0.length:Int)
         ·rw [if_pos c34]at H;have c34b0:decide (x54_2<(l0.length:Int))=true:=decide_eq_true c34;clear c34;by_cases c35:0≤x54_2
          ·rw [if_pos c35]at H;have c35b0:decide (0≤x54_2)=true:=decide_eq_true c35;clear c35;by_cases c36:x54_2<(l0.length:Int)
           ·rw [if_pos c36]at H;have c36b0:decide (x54_2<(l0.length:Int))=true:=decide_eq_true c36;clear c36;by_cases c37:x54_2<(t314.length:Int)
            ·rw [if_pos c37]at H;have c37b0:decide (x54_2<(t314.length:Int))=true:=decide_eq_true c37;clear c37;by_cases c38:(!(((rd_T38 t314 x54_2).f0.f0)==((rd_T35 l0 x54_2).f0))||(!(((rd_T38 t314 x54_2).f0.f1)==((rd_T35 l0 x54_2).f1))||(!(((rd_T38 t314 x54_2).f0.f2)==((rd_T35 l0 x54_2).f2))||(!(((rd_T38 t314 x54_2).f0.f3)==((rd_T35 l0 x54_2).f3))||((!(((rd_T38 t314 x54_2).f0.f4.f0)==((rd_T35 l0 x54_2).f4.f0))||((!(((rd_T38 t314 x54_2).f0.f4.f1.f0)==((rd_T35 l0 x54_2).f4.f1.f0))||(!(((rd_T38 t314 x54_2).f0.f4.f1.f1)==((rd_T35 l0 x54_2).f4.f1.f1))))||(!(((rd_T38 t314 x54_2).f0.f4.f2)==((rd_T35 l0 x54_2).f4.f2)))))||((!(((rd_T38 t314 x54_2).f0.f5.f0)==((rd_T35 l0 x54_2).f5.f0))||(!(((rd_T38 t314 x54_2).f0.f5.f1)==((rd_T35 l0 x54_2).f5.f1))))||(!(((rd_T38 t314 x54_2).f0.f6)==((rd_T35 l0 x54_2).f6))||(!(((rd_T38 t314 x54_2).f0.f7)==((rd_T35 l0 x54_2).f7))))))))))=true;·rw [if_pos c38]at H;have c38b0:(!(((rd_T38 t314 x54_2).f0.f0)==((rd_T35 l0 x54_2).f0))||(!(((rd_T38 t314 x54_2).f0.f1)==((rd_T35 l0 x54_2).f1))||(!(((rd_T38 t314 x54_2).f0.f2)==((rd_T35 l0 x54_2).f2))||(!(((rd_T38 t314 x54_2).f0.f3)==((rd_T35 l0 x54_2).f3))||((!(((rd_T38 t314 x54_2).f0.f4.f0)==((rd_T35 l0 x54_2).f4.f0))||((!(((rd_T38 t314 x54_2).f0.f4.f1.f0)==((rd_T35 l0 x54_2).f4.f1.f0))||(!(((rd_T38 t314 x54_2).f0.f4.f1.f1)==((rd_T35 l0 x54_2).f4.f1.f1))))||(!(((rd_T38 t314 x54_2).f0.f4.f2)==((rd_T35 l0 x54_2).f4.f2)))))||((!(((rd_T38 t314 x54_2).f0.f5.f0)==((rd_T35 l0 x54_2).f5.f0))||(!(((rd_T38 t314 x54_2).f0.f5.f1)==((rd_T35 l0 x54_2).f5.f1))))||(!(((rd_T38 t314 x54_2).f0.f6)==((rd_T35 l0 x54_2).f6))||(!(((rd_T38 t314 x54_2).f0.f7)==((rd_T35 l0 x54_2).f7))))))))))=true:=c38;clear c38;exact absurd H (by simp)
             ·rw [if_neg c38]at H;have c38b0:(!(((rd_T38 t314 x54_2).f0.f0)==((rd_T35 l0 x54_2).f0))||(!(((rd_T38 t314 x54_2).f0.f1)==((rd_T35 l0 x54_2).f1))||(!(((rd_T38 t314 x54_2).f0.f2)==((rd_T35 l0 x54_2).f2))||(!(((rd_T38 t314 x54_2).f0.f3)==((rd_T35 l0 x54_2).f3))||((!(((rd_T38 t314 x54_2).f0.f4.f0)==((rd_T35 l0 x54_2).f4.f0))||((!(((rd_T38 t314 x54_2).f0.f4.f1.f0)==((rd_T35 l0 x54_2).f4.f1.f0))||(!(((rd_T38 t314 x54_2).f0.f4.f1.f1)==((rd_T35 l0 x54_2).f4.f1.f1))))||(!(((rd_T38 t314 x54_2).f0.f4.f2)==((rd_T35 l0 x54_2).f4.f2)))))||((!(((rd_T38 t314 x54_2).f0.f5.f0)==((rd_T35 l0 x54_2).f5.f0))||(!(((rd_T38 t314 x54_2).f0.f5.f1)==((rd_T35 l0 x54_2).f5.f1))))||(!(((rd_T38 t314 x54_2).f0.f6)==((rd_T35 l0 x54_2).f6))||(!(((rd_T38 t314 x54_2).f0.f7)==((rd_T35 l0 x54_2).f7))))))))))=false:=by simpa using c38
              clear c38;by_cases c39:((rd_T38 t314 x54_2).f1)=0
              ·rw [if_pos c39]at H;have c39b0:(((rd_T38 t314 x54_2).f1)==0)=true:=beq_iff_eq.mpr c39;have c39b1:(((rd_T38 t314 x54_2).f1) !=0)=false:=bne_eq_false_iff_eq.mpr c39;clear c39;have H':=Ax H;clear H;have p328:0≤(x54_2:Int):=of_decide_eq_true (by first|(with_reducible assumption)|assumption);have q328:x54_2<(l0.length:Int):=of_decide_eq_true (by first|(with_reducible assumption)|assumption);obtain⟨ad328,e328,hx328_0,hx328_1,hx328_2,hx328_3,hx328_4,hx328_5,hx328_6,hx328_7,hx328_8,hx328_9,hx328_10,hx328_11⟩:=at_T35 HR0.out x54_2 p328 q328;cases e328;replace hx328_0:=(HB.out.cell (World.block_lt_of_cell? w _ hx328_0)).trans hx328_0;replace hx328_1:=(HB.out.cell (World.block_lt_of_cell? w _ hx328_1)).trans hx328_1;replace hx328_2:=(HB.out.cell (World.block_lt_of_cell? w _ hx328_2)).trans hx328_2;replace hx328_3:=(HB.out.cell (World.block_lt_of_cell? w _ hx328_3)).trans hx328_3;replace hx328_4:=(HB.out.cell (World.block_lt_of_cell? w _ hx328_4)).trans hx328_4;replace hx328_5:=(HB.out.cell (World.block_lt_of_cell? w _ hx328_5)).trans hx328_5;replace hx328_6:=(HB.out.cell (World.block_lt_of_cell? w _ hx328_6)).trans hx328_6;replace hx328_7:=(HB.out.cell (World.block_lt_of_cell? w _ hx328_7)).trans hx328_7;replace hx328_8:=(HB.out.cell (World.block_lt_of_cell? w _ hx328_8)).trans hx328_8;replace hx328_9:=(HB.out.cell (World.block_lt_of_cell? w _ hx328_9)).trans hx328_9;replace hx328_10:=(HB.out.cell (World.block_lt_of_cell? w _ hx328_10)).trans hx328_10;replace hx328_11:=(HB.out.cell (World.block_lt_of_cell? w _ hx328_11)).trans hx328_11;replace p328:=eq_true p328;replace q328:=eq_true q328;try go_wp2_with (first|((with_reducible refine gate_dst (N:=9) rfl ?_);refine box_event ?hg (N:=9) ?hd (cs:= #[.int .u8 0,.int .i64 0,.int .u64 0,.int .i64 0,.bool false,.int .u64 0,.int .u64 0,.int .i64 0,.int .u8 0,.int .i64 0,.int .i64 0,.int .i64 0]) (t:=35) ?hr ?_;(case hd=>rfl);(case hg=>rfl);(case hr=>first|(go_simp;done)|(go_simp;rfl));intro gb329 hg w40 hbox hb;have n0_:=Ax (Kd.R_below (by (with_reducible repeat (first|apply Kd.R_alloc|apply Kd.R_drewN|apply Kd.R_drew));exact HO_7.out) hb);have n1_:=Bs0 HB hb;have n2_:=Ax (hbox);have n3_:=Gw0 HB hg;have n4_:=Gw0 HB hg;clear HO_7;clear HB;have HO_7:=n0_;have HB:=n1_;have BK329:=n2_;have GW329:=n3_;have GE329:=n4_;clear n0_ n1_ n2_ n3_ n4_;clear hb hbox hg;obtain⟨hcz41_0,hcz41_1,hcz41_2,hcz41_3,hcz41_4,hcz41_5,hcz41_6,hcz41_7,hcz41_8,hcz41_9,hcz41_10,hcz41_11,hfz41_0,hfz41_1,hfz41_2,hfz41_3,hfz41_4,hfz41_5,hfz41_6,hfz41_7,hfz41_8,hfz41_9,hfz41_10,hfz41_11⟩:=cl12 BK329))
               have n0_:Aside0 (Kd.R k38 38 ((((((((((((w40.setCell ⟨gb329,0,none⟩ (.int .u8 ((rd_T35 l0 x54_2).f0))).setCell ⟨gb329,1,none⟩ (.int .i64 ((rd_T35 l0 x54_2).f1))).setCell ⟨gb329,2,none⟩ (.int .u64 ((rd_T35 l0 x54_2).f2))).setCell ⟨gb329,3,none⟩ (.int .i64 ((rd_T35 l0 x54_2).f3))).setCell ⟨gb329,4,none⟩ (.bool ((rd_T35 l0 x54_2).f4.f0))).setCell ⟨gb329,5,none⟩ (.int .u64 ((rd_T35 l0 x54_2).f4.f1.f0))).setCell ⟨gb329,6,none⟩ (.int .u64 ((rd_T35 l0 x54_2).f4.f1.f1))).setCell ⟨gb329,7,none⟩ (.int .i64 ((rd_T35 l0 x54_2).f4.f2))).setCell ⟨gb329,8,none⟩ (.int .u8 ((rd_T35 l0 x54_2).f5.f0))).setCell ⟨gb329,9,none⟩ (.int .i64 ((rd_T35 l0 x54_2).f5.f1))).setCell ⟨gb329,10,none⟩ (.int .i64 ((rd_T35 l0 x54_2).f6))).setCell ⟨gb329,11,none⟩ (.int .i64 ((rd_T35 l0 x54_2).f7))) w.heap.size (fun _=>True) v315 t314):=⟨by (with_reducible repeat (first|apply Kd.R_alloc|apply Kd.R_drewN|apply Kd.R_drew));exact Kd.R_mono (Kd.R_far (p:=⟨gb329,11,none⟩) (Kd.R_far (p:=⟨gb329,10,none⟩) (Kd.R_far (p:=⟨gb329,9,none⟩) (Kd.R_far (p:=⟨gb329,8,none⟩) (Kd.R_far (p:=⟨gb329,7,none⟩) (Kd.R_far (p:=⟨gb329,6,none⟩) (Kd.R_far (p:=⟨gb329,5,none⟩) (Kd.R_far (p:=⟨gb329,4,none⟩) (Kd.R_far (p:=⟨gb329,3,none⟩) (Kd.R_far (p:=⟨gb329,2,none⟩) (Kd.R_far (p:=⟨gb329,1,none⟩) (Kd.R_far (p:=⟨gb329,0,none⟩) (Kd.R_types HO_7.out BK329.out (by decide)) (fun _ hk=>hk.2) (.int .u8 ((rd_T35 l0 x54_2).f0))) (fun _ hk=>hk.2) (.int .i64 ((rd_T35 l0 x54_2).f1))) (fun _ hk=>hk.2) (.int .u64 ((rd_T35 l0 x54_2).f2))) (fun _ hk=>hk.2) (.int .i64 ((rd_T35 l0 x54_2).f3))) (fun _ hk=>hk.2) (.bool ((rd_T35 l0 x54_2).f4.f0))) (fun _ hk=>hk.2) (.int .u64 ((rd_T35 l0 x54_2).f4.f1.f0))) (fun _ hk=>hk.2) (.int .u64 ((rd_T35 l0 x54_2).f4.f1.f1))) (fun _ hk=>hk.2) (.int .i64 ((rd_T35 l0 x54_2).f4.f2))) (fun _ hk=>hk.2) (.int .u8 ((rd_T35 l0 x54_2).f5.f0))) (fun _ hk=>hk.2) (.int .i64 ((rd_T35 l0 x54_2).f5.f1))) (fun _ hk=>hk.2) (.int .i64 ((rd_T35 l0 x54_2).f6))) (fun _ hk=>hk.2) (.int .i64 ((rd_T35 l0 x54_2).f7))) (fun _ hk=>trivial)⟩;have n1_:Aside0 (((((((((((((w40.setCell ⟨gb329,0,none⟩ (.int .u8 ((rd_T35 l0 x54_2).f0))).setCell ⟨gb329,1,none⟩ (.int .i64 ((rd_T35 l0 x54_2).f1))).setCell ⟨gb329,2,none⟩ (.int .u64 ((rd_T35 l0 x54_2).f2))).setCell ⟨gb329,3,none⟩ (.int .i64 ((rd_T35 l0 x54_2).f3))).setCell ⟨gb329,4,none⟩ (.bool ((rd_T35 l0 x54_2).f4.f0))).setCell ⟨gb329,5,none⟩ (.int .u64 ((rd_T35 l0 x54_2).f4.f1.f0))).setCell ⟨gb329,6,none⟩ (.int .u64 ((rd_T35 l0 x54_2).f4.f1.f1))).setCell ⟨gb329,7,none⟩ (.int .i64 ((rd_T35 l0 x54_2).f4.f2))).setCell ⟨gb329,8,none⟩ (.int .u8 ((rd_T35 l0 x54_2).f5.f0))).setCell ⟨gb329,9,none⟩ (.int .i64 ((rd_T35 l0 x54_2).f5.f1))).setCell ⟨gb329,10,none⟩ (.int .i64 ((rd_T35 l0 x54_2).f6))).setCell ⟨gb329,11,none⟩ (.int .i64 ((rd_T35 l0 x54_2).f7))).heap[gb329]? =some (.cells #[.int .u8 ((rd_T35 l0 x54_2).f0),.int .i64 ((rd_T35 l0 x54_2).f1),.int .u64 ((rd_T35 l0 x54_2).f2),.int .i64 ((rd_T35 l0 x54_2).f3),.bool ((rd_T35 l0 x54_2).f4.f0),.int .u64 ((rd_T35 l0 x54_2).f4.f1.f0),.int .u64 ((rd_T35 l0 x54_2).f4.f1.f1),.int .i64 ((rd_T35 l0 x54_2).f4.f2),.int .u8 ((rd_T35 l0 x54_2).f5.f0),.int .i64 ((rd_T35 l0 x54_2).f5.f1),.int .i64 ((rd_T35 l0 x54_2).f6),.int .i64 ((rd_T35 l0 x54_2).f7)] 35 (0,0))):=⟨gB BK329.out⟩;have n2_:Aside0 (Below w.heap.size w ((((((((((((w40.setCell ⟨gb329,0,none⟩ (.int .u8 ((rd_T35 l0 x54_2).f0))).setCell ⟨gb329,1,none⟩ (.int .i64 ((rd_T35 l0 x54_2).f1))).setCell ⟨gb329,2,none⟩ (.int .u64 ((rd_T35 l0 x54_2).f2))).setCell ⟨gb329,3,none⟩ (.int .i64 ((rd_T35 l0 x54_2).f3))).setCell ⟨gb329,4,none⟩ (.bool ((rd_T35 l0 x54_2).f4.f0))).setCell ⟨gb329,5,none⟩ (.int .u64 ((rd_T35 l0 x54_2).f4.f1.f0))).setCell ⟨gb329,6,none⟩ (.int .u64 ((rd_T35 l0 x54_2).f4.f1.f1))).setCell ⟨gb329,7,none⟩ (.int .i64 ((rd_T35 l0 x54_2).f4.f2))).setCell ⟨gb329,8,none⟩ (.int .u8 ((rd_T35 l0 x54_2).f5.f0))).setCell ⟨gb329,9,none⟩ (.int .i64 ((rd_T35 l0 x54_2).f5.f1))).setCell ⟨gb329,10,none⟩ (.int .i64 ((rd_T35 l0 x54_2).f6))).setCell ⟨gb329,11,none⟩ (.int .i64 ((rd_T35 l0 x54_2).f7)))):=⟨bw1 HB.out GE329.out⟩
               (try clear HO_7)
               (try clear BK329)
               (try clear HB)
               generalize ((((((((((((w40.setCell ⟨gb329,0,none⟩ (.int .u8 ((rd_T35 l0 x54_2).f0))).setCell ⟨gb329,1,none⟩ (.int .i64 ((rd_T35 l0 x54_2).f1))).setCell ⟨gb329,2,none⟩ (.int .u64 ((rd_T35 l0 x54_2).f2))).setCell ⟨gb329,3,none⟩ (.int .i64 ((rd_T35 l0 x54_2).f3))).setCell ⟨gb329,4,none⟩ (.bool ((rd_T35 l0 x54_2).f4.f0))).setCell ⟨gb329,5,none⟩ (.int .u64 ((rd_T35 l0 x54_2).f4.f1.f0))).setCell ⟨gb329,6,none⟩ (.int .u64 ((rd_T35 l0 x54_2).f4.f1.f1))).setCell ⟨gb329,7,none⟩ (.int .i64 ((rd_T35 l0 x54_2).f4.f2))).setCell ⟨gb329,8,none⟩ (.int .u8 ((rd_T35 l0 x54_2).f5.f0))).setCell ⟨gb329,9,none⟩ (.int .i64 ((rd_T35 l0 x54_2).f5.f1))).setCell ⟨gb329,10,none⟩ (.int .i64 ((rd_T35 l0 x54_2).f6))).setCell ⟨gb329,11,none⟩ (.int .i64 ((rd_T35 l0 x54_2).f7)))=w42 at n0_ n1_ n2_ ⊢;have HO_7:=n0_;have BK329:=n1_;have HB:=n2_;clear n0_ n1_ n2_;replace HO_7:=Ax (Kd.R_drew HO_7.out);replace BK329:=Ax (blk_drew BK329.out);replace HB:=Ax (below_drew1 HB.out);obtain⟨Ao44,co44,eo44⟩:=Kd.R_slice HO_7.out
               (first|subst eo44|(injection eo44 with f1_ f2_ f3_;have f4_:=f1_.symm;have f5_:=f3_.symm;clear f1_ f2_ f3_;subst f4_;subst f5_))
               have p330:0≤(x54_2:Int):=of_decide_eq_true (by first|(with_reducible assumption)|assumption);have q330:x54_2<(t314.length:Int):=of_decide_eq_true (by first|(with_reducible assumption)|assumption);obtain⟨ad330,e330,hx330_0,hx330_1,hx330_2,hx330_3,hx330_4,hx330_5,hx330_6,hx330_7,hx330_8,hx330_9,hx330_10,hx330_11,hx330_12⟩:=at_T38 (Kd.R_reads' HO_7.out).2.2 x54_2 p330 q330;cases e330;replace p330:=eq_true p330;replace q330:=eq_true q330;have p331:0≤(x54_2:Int):=of_decide_eq_true (by first|(with_reducible assumption)|assumption);have q331:x54_2<(t314.length:Int):=of_decide_eq_true (by first|(with_reducible assumption)|assumption);obtain⟨ad331,e331,hx331_0,hx331_1,hx331_2,hx331_3,hx331_4,hx331_5,hx331_6,hx331_7,hx331_8,hx331_9,hx331_10,hx331_11,hx331_12⟩:=at_T38 (Kd.R_reads' HO_7.out).2.2 x54_2 p331 q331;obtain rfl:ad330=ad331:=(by injection e331);replace p331:=eq_true p331;replace q331:=eq_true q331;refine start_ (n:=15) (S:=fun w'=>w'.cell? ⟨gb329,0,none⟩=some (.int .u8 ((rd_T35 l0 x54_2).f0))∧w'.cell? ⟨gb329,1,none⟩=some (.int .i64 ((rd_T35 l0 x54_2).f1))∧w'.cell? ⟨gb329,2,none⟩=some (.int .u64 ((rd_T35 l0 x54_2).f2))∧w'.cell? ⟨gb329,3,none⟩=some (.int .i64 ((rd_T35 l0 x54_2).f3))∧w'.cell? ⟨gb329,4,none⟩=some (.bool ((rd_T35 l0 x54_2).f4.f0))∧w'.cell? ⟨gb329,5,none⟩=some (.int .u64 ((rd_T35 l0 x54_2).f4.f1.f0))∧w'.cell? ⟨gb329,6,none⟩=some (.int .u64 ((rd_T35 l0 x54_2).f4.f1.f1))∧w'.cell? ⟨gb329,7,none⟩=some (.int .i64 ((rd_T35 l0 x54_2).f4.f2))∧w'.cell? ⟨gb329,8,none⟩=some (.int .u8 ((rd_T35 l0 x54_2).f5.f0))∧w'.cell? ⟨gb329,9,none⟩=some (.int .i64 ((rd_T35 l0 x54_2).f5.f1))∧w'.cell? ⟨gb329,10,none⟩=some (.int .i64 ((rd_T35 l0 x54_2).f6))∧w'.cell? ⟨gb329,11,none⟩=some (.int .i64 ((rd_T35 l0 x54_2).f7))∧w'.cell? (ad330.add ((x54_2).toNat * 13))=some (.int .u8 ((rd_T38 t314 x54_2).f0.f0))∧w'.cell? ⟨(ad330.add ((x54_2).toNat * 13)).block,(ad330.add ((x54_2).toNat * 13)).off+1,none⟩=some (.int .i64 ((rd_T38 t314 x54_2).f0.f1))∧w'.cell? ⟨(ad330.add ((x54_2).toNat * 13)).block,(ad330.add ((x54_2).toNat * 13)).off+2,none⟩=some (.int .u64 ((rd_T38 t314 x54_2).f0.f2))∧w'.cell? ⟨(ad330.add ((x54_2).toNat * 13)).block,(ad330.add ((x54_2).toNat * 13)).off+3,none⟩=some (.int .i64 ((rd_T38 t314 x54_2).f0.f3))∧w'.cell? ⟨(ad330.add ((x54_2).toNat * 13)).block,(ad330.add ((x54_2).toNat * 13)).off+4,none⟩=some (.bool ((rd_T38 t314 x54_2).f0.f4.f0))∧w'.cell? ⟨(ad330.add ((x54_2).toNat * 13)).block,(ad330.add ((x54_2).toNat * 13)).off+5,none⟩=some (.int .u64 ((rd_T38 t314 x54_2).f0.f4.f1.f0))∧w'.cell? ⟨(ad330.add ((x54_2).toNat * 13)).block,(ad330.add ((x54_2).toNat * 13)).off+6,none⟩=some (.int .u64 ((rd_T38 t314 x54_2).f0.f4.f1.f1))∧w'.cell? ⟨(ad330.add ((x54_2).toNat * 13)).block,(ad330.add ((x54_2).toNat * 13)).off+7,none⟩=some (.int .i64 ((rd_T38 t314 x54_2).f0.f4.f2))∧w'.cell? ⟨(ad330.add ((x54_2).toNat * 13)).block,(ad330.add ((x54_2).toNat * 13)).off+8,none⟩=some (.int .u8 ((rd_T38 t314 x54_2).f0.f5.f0))∧w'.cell? ⟨(ad330.add ((x54_2).toNat * 13)).block,(ad330.add ((x54_2).toNat * 13)).off+9,none⟩=some (.int .i64 ((rd_T38 t314 x54_2).f0.f5.f1))∧w'.cell? ⟨(ad330.add ((x54_2).toNat * 13)).block,(ad330.add ((x54_2).toNat * 13)).off+10,none⟩=some (.int .i64 ((rd_T38 t314 x54_2).f0.f6))∧w'.cell? ⟨(ad330.add ((x54_2).toNat * 13)).block,(ad330.add ((x54_2).toNat * 13)).off+11,none⟩=some (.int .i64 ((rd_T38 t314 x54_2).f0.f7))∧w'.cell? ⟨(ad330.add ((x54_2).toNat * 13)).block,(ad330.add ((x54_2).toNat * 13)).off+12,none⟩=some (.int .i64 ((rd_T38 t314 x54_2).f1))∧w'.cell? (ad330.add ((x54_2).toNat * 13))=some (.int .u8 ((rd_T38 t314 x54_2).f0.f0))∧w'.cell? ⟨(ad330.add ((x54_2).toNat * 13)).block,(ad330.add ((x54_2).toNat * 13)).off+1,none⟩=some (.int .i64 ((rd_T38 t314 x54_2).f0.f1))∧w'.cell? ⟨(ad330.add ((x54_2).toNat * 13)).block,(ad330.add ((x54_2).toNat * 13)).off+2,none⟩=some (.int .u64 ((rd_T38 t314 x54_2).f0.f2))∧w'.cell? ⟨(ad330.add ((x54_2).toNat * 13)).block,(ad330.add ((x54_2).toNat * 13)).off+3,none⟩=some (.int .i64 ((rd_T38 t314 x54_2).f0.f3))∧w'.cell? ⟨(ad330.add ((x54_2).toNat * 13)).block,(ad330.add ((x54_2).toNat * 13)).off+4,none⟩=some (.bool ((rd_T38 t314 x54_2).f0.f4.f0))∧w'.cell? ⟨(ad330.add ((x54_2).toNat * 13)).block,(ad330.add ((x54_2).toNat * 13)).off+5,none⟩=some (.int .u64 ((rd_T38 t314 x54_2).f0.f4.f1.f0))∧w'.cell? ⟨(ad330.add ((x54_2).toNat * 13)).block,(ad330.add ((x54_2).toNat * 13)).off+6,none⟩=some (.int .u64 ((rd_T38 t314 x54_2).f0.f4.f1.f1))∧w'.cell? ⟨(ad330.add ((x54_2).toNat * 13)).block,(ad330.add ((x54_2).toNat * 13)).off+7,none⟩=some (.int .i64 ((rd_T38 t314 x54_2).f0.f4.f2))∧w'.cell? ⟨(ad330.add ((x54_2).toNat * 13)).block,(ad330.add ((x54_2).toNat * 13)).off+8,none⟩=some (.int .u8 ((rd_T38 t314 x54_2).f0.f5.f0))∧w'.cell? ⟨(ad330.add ((x54_2).toNat * 13)).block,(ad330.add ((x54_2).toNat * 13)).off+9,none⟩=some (.int .i64 ((rd_T38 t314 x54_2).f0.f5.f1))∧w'.cell? ⟨(ad330.add ((x54_2).toNat * 13)).block,(ad330.add ((x54_2).toNat * 13)).off+10,none⟩=some (.int .i64 ((rd_T38 t314 x54_2).f0.f6))∧w'.cell? ⟨(ad330.add ((x54_2).toNat * 13)).block,(ad330.add ((x54_2).toNat * 13)).off+11,none⟩=some (.int .i64 ((rd_T38 t314 x54_2).f0.f7))∧w'.cell? ⟨(ad330.add ((x54_2).toNat * 13)).block,(ad330.add ((x54_2).toNat * 13)).off+12,none⟩=some (.int .i64 ((rd_T38 t314 x54_2).f1))) (ds:= []) #[fa,fa,fa,fa,fa,fa,fa,fa,fa,fa,fa,fa,fa,fa,fa] (by kernel_rfl) rfl rfl ⟨(blk_cell BK329.out 0).trans rfl,(blk_cell BK329.out 1).trans rfl,(blk_cell BK329.out 2).trans rfl,(blk_cell BK329.out 3).trans rfl,(blk_cell BK329.out 4).trans rfl,(blk_cell BK329.out 5).trans rfl,(blk_cell BK329.out 6).trans rfl,(blk_cell BK329.out 7).trans rfl,(blk_cell BK329.out 8).trans rfl,(blk_cell BK329.out 9).trans rfl,(blk_cell BK329.out 10).trans rfl,(blk_cell BK329.out 11).trans rfl,hx330_0,hx330_1,hx330_2,hx330_3,hx330_4,hx330_5,hx330_6,hx330_7,hx330_8,hx330_9,hx330_10,hx330_11,hx330_12,hx331_0,hx331_1,hx331_2,hx331_3,hx331_4,hx331_5,hx331_6,hx331_7,hx331_8,hx331_9,hx331_10,hx331_11,hx331_12⟩ (fun hHeld=>?_);refine with_tabW spoorlaw13_GramBack.tab12 spoorlaw13_GramBack.bits12 (fun HT_ HW_=>?_);generalize w42.drew=w43 at HO_7 BK329 HB hx330_0 hx330_1 hx330_10 hx330_11 hx330_12 hx330_2 hx330_3 hx330_4 hx330_5 hx330_6 hx330_7 hx330_8 hx330_9 hx331_0 hx331_1 hx331_10 hx331_11 hx331_12 hx331_2 hx331_3 hx331_4 hx331_5 hx331_6 hx331_7 hx331_8 hx331_9 hHeld ⊢;refine pz 0 59 #[tr,fa,fa,fa,fa,fa,fa,fa,fa,fa,fa,fa,fa,fa,fa] HT_.out ?_
               refine pz 1 60 #[tr,tr,fa,fa,fa,fa,fa,fa,fa,fa,fa,fa,fa,fa,fa] HT_.out ?_
               refine pz 2 61 #[tr,tr,tr,fa,fa,fa,fa,fa,fa,fa,fa,fa,fa,fa,fa] HT_.out ?_
               refine pz 3 62 #[tr,tr,tr,tr,fa,fa,fa,fa,fa,fa,fa,fa,fa,fa,fa] HT_.out ?_
               refine take_ (i:=4) (N:=some 63) (v:=?_) (a':=?_) #[tr,tr,tr,tr,tr,fa,fa,fa,fa,fa,fa,fa,fa,fa,fa] rfl rfl (take_ofW HT_.out HW_.out (by kernel_rfl)) (fun _ _ _ h=>h) (Or.inl ⟨by rfl,?_⟩) hHeld ?_ ?_;rotate_left
               ·rintro w' ⟨s0,s1,s2,s3,s4,s5,s6,s7,s8,s9,s10,s11,s12,s13,s14,s15,s16,s17,s18,s19,s20,s21,s22,s23,s24,s25,s26,s27,s28,s29,s30,s31,s32,s33,s34,s35,s36,s37⟩
                go_simp;with_reducible rfl
               rotate_left;·simp only[sP];rfl
               refine take_ (i:=5) (N:=some 64) (v:=?_) (a':=?_) #[tr,tr,tr,tr,tr,tr,fa,fa,fa,fa,fa,fa,fa,fa,fa] rfl rfl (take_ofW HT_.out HW_.out (by kernel_rfl)) (fun _ _ _ h=>h) (Or.inl ⟨by rfl,?_⟩) hHeld ?_ ?_;rotate_left
               ·rintro w' ⟨s0,s1,s2,s3,s4,s5,s6,s7,s8,s9,s10,s11,s12,s13,s14,s15,s16,s17,s18,s19,s20,s21,s22,s23,s24,s25,s26,s27,s28,s29,s30,s31,s32,s33,s34,s35,s36,s37⟩
                go_simp;with_reducible rfl
               rotate_left;·simp only[sP];rfl
               refine pz 6 65 #[tr,tr,tr,tr,tr,tr,tr,fa,fa,fa,fa,fa,fa,fa,fa] HT_.out ?_
               refine pz 7 66 #[tr,tr,tr,tr,tr,tr,tr,tr,fa,fa,fa,fa,fa,fa,fa] HT_.out ?_
               refine pz 8 67 #[tr,tr,tr,tr,tr,tr,tr,tr,tr,fa,fa,fa,fa,fa,fa] HT_.out ?_
               refine pz 9 68 #[tr,tr,tr,tr,tr,tr,tr,tr,tr,tr,fa,fa,fa,fa,fa] HT_.out ?_
               refine pz 10 69 #[tr,tr,tr,tr,tr,tr,tr,tr,tr,tr,tr,fa,fa,fa,fa] HT_.out ?_
               refine pz 11 70 #[tr,tr,tr,tr,tr,tr,tr,tr,tr,tr,tr,tr,fa,fa,fa] HT_.out ?_
               refine take_ (i:=12) (N:=some 71) (v:=?_) (a':=?_) #[tr,tr,tr,tr,tr,tr,tr,tr,tr,tr,tr,tr,tr,fa,fa] rfl rfl (take_ofW HT_.out HW_.out (by kernel_rfl)) (fun _ _ _ h=>h) (Or.inl ⟨by rfl,?_⟩) hHeld ?_ ?_;rotate_left
               ·rintro w' ⟨s0,s1,s2,s3,s4,s5,s6,s7,s8,s9,s10,s11,s12,s13,s14,s15,s16,s17,s18,s19,s20,s21,s22,s23,s24,s25,s26,s27,s28,s29,s30,s31,s32,s33,s34,s35,s36,s37⟩
                go_simp;with_reducible rfl
               rotate_left;·simp only[sP];rfl
               refine pz 13 72 #[tr,tr,tr,tr,tr,tr,tr,tr,tr,tr,tr,tr,tr,tr,fa] HT_.out ?_
               refine pz 14 73 #[tr,tr,tr,tr,tr,tr,tr,tr,tr,tr,tr,tr,tr,tr,tr] HT_.out ?_
               refine done_ (done_of HT_.out (by kernel_rfl)) ?_;try go_wp2
               go_roundg k2
               case measure=>have:=HJ8.out;have:=HK2.out;omega
               case rel=>exact⟨(wrap64 (x54_2+1)),rS,H',⟨by have:=HJ8.out;have:=HK2.out;omega⟩,⟨by (with_reducible repeat (first|apply Kd.R_alloc|apply Kd.R_drewN|apply Kd.R_drew));exact HO_7.out⟩,⟨bw1 HB.out GE329.out⟩⟩
              ·rw [if_neg c39]at H;exact absurd H (by simp)
            ·rw [if_neg c37]at H;exact absurd H (by simp)
           ·rw [if_neg c36]at H;exact absurd H (by simp)
          ·rw [if_neg c35]at H;exact absurd H (by simp)
         ·rw [if_neg c34]at H;have c34b0:decide (x54_2<(l0.length:Int))=false:=decide_eq_false c34;clear c34;obtain rfl:=Option.some.inj H;go_wp2;go_ret;exact⟨eS,bw0 HB.out⟩
   ·rw [if_neg c7]at H;exact absurd H (by simp)
  ·rw [if_neg c6]at H;have c6b0:(t313==0)=false:=beq_eq_false_iff_ne.mpr c6;have c6b1:(t313 !=0)=true:=bne_iff_ne.mpr c6;by_cases c45:t312.toList=([]:List UInt8);·rw [if_pos c45]at H;have c45b0:(t312.toList==([]:List UInt8))=true:=beq_iff_eq.mpr c45;have c45b1:(t312.toList !=([]:List UInt8))=false:=bne_eq_false_iff_eq.mpr c45;clear c45;obtain rfl:=Option.some.inj H;go_enter Try.func5,Try.ntmps5;go_wp2_with (first|((with_reducible refine gate_callee (f:=10) rfl ?_);refine goesL_ (some 10) rfl rfl Try.func10 (by kernel_rfl) rfl #[] rfl gS ?_;(with_reducible refine (spoorlaw13_lives.calls k  true _ A3.out).mono ?_);rintro e w46 ⟨rfl,hb⟩;refine⟨_,rfl,?_⟩;replace HB:=Bs0 HB hb;(try clear hb))|((with_reducible refine gate_callee (f:=17) rfl ?_);refine goesL_ (some 14) rfl rfl Try.func17 (by kernel_rfl) rfl #[.slice A0 l0.length c0] rfl gS ?_;(with_reducible refine (gram_Stream.calls k _ _ l0 t312 t313 _ ?side1 ?side2 A5.out).mono ?_);(case side1=>repeat (first|exact (Kd.C_below HR0.out HB.out)|(with_reducible refine Kd.C_alloc ?_ _)|(with_reducible refine Kd.C_drewN ?_ _)|(with_reducible refine Kd.C_drew ?_)));(case side2=>exact HC0.out);rintro e w47 ⟨rfl,hb⟩;refine⟨_,rfl,?_⟩;replace HB:=Bs0 HB hb;(try clear hb)));go_ret;exact⟨eS,bw0 HB.out⟩
   ·rw [if_neg c45]at H;exact absurd H (by simp)
 ·replace c4:=Bool.eq_false_iff.mpr c4;subst c4;have H1:(none)=some r:=by rw [if_neg (show ¬ (false=true) by decide)]at H;exact H
  clear H;have H:=H1;clear H1;exact absurd H (by simp)
mutual
def spoorlaw13_GramNoise.j0 : Nat → List (S35) → List (S35) → ByteArray → ByteArray → ByteArray → Bool → Option (Bool)
 | 0, _, _, _, _, _, _ => none
 | k + 1, x0, x1, x2, x7, x9, x35 => if x35 = true then (some true) else (spoorlaw13_GramNoise.l0 k x0 x1 x2 x7 x9 (x2.size : Int) 0)
def spoorlaw13_GramNoise.l0 : Nat → List (S35) → List (S35) → ByteArray → ByteArray → ByteArray → Int → Int → Option (Bool)
 | 0, _, _, _, _, _, _, _ => none
 | k + 1, x0, x1, x2, x7, x9, x37, x38 => if x38 < x37 then (if 0 ≤ x38 then (if x38 < (x2.size : Int) then (if (bt x2 x38) = 245 then (some true) else (spoorlaw13_GramNoise.l0 k x0 x1 x2 x7 x9 x37 (wrap64 (x38 + 1)))) else (none)) else (none)) else (if x7.size + x2.size ≤ 9223372036854775807 then (if (x7 ++ x2).size + x9.size ≤ 9223372036854775807 then ((gram_Gots.f k ((x7 ++ x2) ++ x9)).bind fun t337 => (if (t337.length : Int) = (wrap64 ((wrap64 ((x0.length : Int) + 1)) + (x1.length : Int))) then (if 0 ≤ (x0.length : Int) then (if (x0.length : Int) < (t337.length : Int) then (spoorlaw13_GramNoise.j2 k x0 x7 x9 t337 (((rd_T38 t337 (x0.length : Int)).f1) != 7)) else (none)) else (none)) else (spoorlaw13_GramNoise.j2 k x0 x7 x9 t337 true))) else (none)) else (none))
def spoorlaw13_GramNoise.j2 : Nat → List (S35) → ByteArray → ByteArray → List (S38) → Bool → Option (Bool)
 | 0, _, _, _, _, _ => none
 | k + 1, x0, x7, x9, x12, x69 => if x69 = true then (none) else (if x7.size + x9.size ≤ 9223372036854775807 then ((gram_Gots.f k (x7 ++ x9)).bind fun t341 => ((some (([] : List (S38)) : List (S38))).bind fun y344 => (if 0 ≤ (x0.length : Int) then (if (x0.length : Int) ≤ (x12.length : Int) then ((some (x12.take ((x0.length : Int) : Int).toNat : List (S38))).bind fun y347 => (if y344.length + y347.length < 1353245080339 then ((some (y344 ++ y347 : List (S38))).bind fun y351 => (if 0 ≤ (wrap64 ((x0.length : Int) + 1)) then (if (wrap64 ((x0.length : Int) + 1)) ≤ (x12.length : Int) then ((some (x12.drop ((wrap64 ((x0.length : Int) + 1)) : Int).toNat : List (S38))).bind fun y354 => (if y351.length + y354.length < 1353245080339 then ((spoorref13_Same.f k (y351 ++ y354) t341).bind fun t361 => (some t361)) else (none))) else (none)) else (none))) else (none))) else (none)) else (none)))) else (none))
end
def spoorlaw13_GramNoise.f (k:Nat) (l0:List (S35)) (l1:List (S35)) (a2:ByteArray):Option (Bool):=(spoorlaw13_lives.f k).bind fun t332=>(if t332=true then ((gram_Stream.f k l0).bind fun bt333=>((gram_Stream.f k l1).bind fun bt335=>(if bt333.2=0 then (if bt335.2=0 then (spoorlaw13_GramNoise.j0 k l0 l1 a2 bt333.1 bt335.1 (a2.toList==([]:List UInt8))) else (spoorlaw13_GramNoise.j0 k l0 l1 a2 bt333.1 bt335.1 true)) else (spoorlaw13_GramNoise.j0 k l0 l1 a2 bt333.1 bt335.1 true)))) else (none))
def spoorlaw13_GramNoise.T17:Bool × List (List Nat × List Nat):=(true, [([], []),([], []),([], []),([2], [2]),([1,3], [1,3]),([0,4], [0,4]),([], []),([], []),([7], [7]),([8], [8]),([6,9], [6,9]),([5,10,5], [5,10]),([], []),([11,12,11], [11,12]),([13,13,0,1,2,3,4,5,6,7,8,9,10,11,12,13], [13])])
def spoorlaw13_GramNoise.B17:List Nat:= [0,0,0,4,14,31,0,0,128,384,960,2047,0,8191,16383]
theorem spoorlaw13_GramNoise.tab17:rtab .any (opsOf Try.f6 17)=spoorlaw13_GramNoise.T17:=by kernel_rfl
theorem spoorlaw13_GramNoise.bits17:waitsOk spoorlaw13_GramNoise.T17.2 spoorlaw13_GramNoise.B17=true:=by kernel_rfl
end Go.Proofs.Ythkdfojmhloofaa.Q
end
section
namespace Go.Proofs.Ythkdfojmhloofaa.Open
set_option linter.unusedVariables false
open Go.RowKit Go.WideShapes Go.Proofs.YthkdfojmhloofaaW.PrintWords Go.Proofs.YthkdfojmhloofaaW.PrintLast Go.Proofs.YthkdfojmhloofaaW.PrintMore
open Go.Proofs.Ythkdfojmhloofaa.Rows (uptoBulk uptoBulkAll)
def Opens {α : Type} (P : Program) (t : TypeId) (K : Kd α) (wf : α → Prop) (mu : α → Nat) : Prop :=
  ∀ {H : Type} (enc : TypeId × Value → H) (W : World) (spare : Nat → Bool) (held : Bool) (n : Nat) (cs : List Value) (x : DataW H × List MemPlace),
    DataW.trod enc P W 0 spare held n t cs = some x → ∃ a, K.K W a cs ∧ wf a ∧ mu a ≤ uptoBulk x.1
def wfInt (k:IntKind) (n:Int):Prop:=(Lit.int k n).wf=true
def wfStr (s:ByteArray):Prop:=s.size≤maxLen
def wfAny {α:Type} (_:α):Prop:=True
def wfAll {α:Type} (wf:α→Prop) (l:List α):Prop:= ∀ a∈l,wf a
def mu1 {α:Type} (_:α):Nat:=1
def muStr (s:ByteArray):Nat:=s.size+1
def muAll {α : Type} (mu : α → Nat) : List α → Nat
  | [] => 1
  | a :: l => mu a + muAll mu l
theorem wfAll_nil {α:Type} (wf:α→Prop):wfAll wf []:=fun _ h=>by cases h
theorem opens_int {P:Program}{t:TypeId}{k:IntKind} (hu:P.underlying t=some (.int k)):Opens P t (Kd.int k) (wfInt k) mu1:=by
  intro H enc W spare held n cs x h;obtain⟨a,rfl,rfl,hw⟩:=DataW.trod_int hu h;exact⟨a,rfl,hw,by simp [mu1,uptoBulk]⟩
theorem opens_bool {P:Program}{t:TypeId} (hu:P.underlying t=some .bool):Opens P t Kd.bool wfAny mu1:=by
  intro H enc W spare held n cs x h;obtain⟨a,rfl,rfl⟩:=DataW.trod_bool hu h;exact⟨a,rfl,trivial,by simp [mu1,uptoBulk]⟩
theorem opens_string {P:Program}{t:TypeId} (hu:P.underlying t=some .string):Opens P t Kd.string wfStr muStr:=by
  intro H enc W spare held n cs x h;obtain⟨s,rfl,rfl,hs⟩:=DataW.trod_string hu h;exact⟨s,rfl,hs,by simp [muStr,uptoBulk]⟩
theorem muAll_len {α:Type}{mu:α→Nat} (hm: ∀ a,1≤mu a): ∀ l:List α,l.length+1≤muAll mu l
  | []=>Nat.le_refl _
  |a :: l=>by
    have:=muAll_len hm l;have:=hm a;simp only[muAll,List.length_cons];omega
theorem opens_list {α H:Type}{P:Program}{e:TypeId}{K:Kd α}{wf:α→Prop}{mu:α→Nat} (he:Opens P e K wf mu) (enc:TypeId × Value→H) (W:World) (spare:Nat→Bool) (held:Bool) (n:Nat) (rd:Nat→Option (List Value)):
    ∀ (elems:List (DataW H × List MemPlace)) (off:Nat),(∀ i,i<elems.length→(rd (off+i)).bind (DataW.trod enc P W 0 spare held n e)=elems[i]?)→
      ∃ l:List α,l.length=elems.length∧(∀ i a,l[i]? =some a→ ∃ cs,rd (off+i)=some cs∧K.K W a cs)∧wfAll wf l∧muAll mu l≤uptoBulkAll (elems.map (·.1))+1
  | [],off,_=>⟨[],rfl,(fun i a h=>by simp at h),wfAll_nil _,by simp [muAll,uptoBulkAll]⟩
  |x :: elems,off,h=>by
    have h0:=h 0 (by simp);simp only[Nat.add_zero,List.getElem?_cons_zero]at h0;obtain⟨cs,hc,ht⟩:=Option.bind_eq_some_iff.1 h0;obtain⟨a,hK,hw,hm⟩:=he enc W spare held n cs x ht
    obtain⟨l,hl,hr,hwf,hmu⟩:=opens_list he enc W spare held n rd elems (off+1) (fun i hi=>by
      have:=h (i+1) (by simp;omega);rw [List.getElem?_cons_succ]at this
      rwa [show off+1+i=off+(i+1) by omega])
    refine⟨a :: l,by simp [hl],?_,?_,?_⟩
    · intro i b hb;cases i with
      |zero=>
        obtain rfl:a=b:=by simpa using hb
        exact⟨cs,hc,hK⟩
      |succ i=>
        rw [List.getElem?_cons_succ]at hb;obtain⟨cs',h1,h2⟩:=hr i b hb;exact⟨cs',by rwa [show off+(i+1)=off+1+i by omega],h2⟩
    · intro b hb;rcases List.mem_cons.1 hb with rfl|hb
      · exact hw
      · exact hwf b hb
    ·simp only[muAll,List.map_cons,uptoBulkAll];omega
theorem cells_some {W:World}{ad:Addr}{n:Nat}{cs:List Value} (h:W.cells? 0 ad n=some cs):cs.length=n∧ ∀ i u,cs[i]? =some u→W.cell? (ad.add i)=some u:=by
  obtain⟨_,hl,hc⟩:=World.cells?_some h;refine⟨hl,fun i u hi=>?_⟩;rw [hc i (by rw [← hl];exact (List.getElem?_eq_some_iff.1 hi).1)];exact hi
theorem opens_slice {α:Type}{P:Program}{t e:TypeId}{K:Kd α}{wf:α→Prop}{mu:α→Nat} (he:Opens P e K wf mu) (hu:P.underlying t=some (.slice e)) (hsz:P.cellsOf e=K.sz) (e':Nat):
    Opens P t (Kd.slice e' K) (fun l=>wfAll wf l∧l.length≤maxLen) (muAll mu):=by
  intro H enc W spare held n cs x h;rcases DataW.trod_slice hu h with ⟨rfl,rfl⟩|⟨a,len,cap,elems,rest,m,rfl,rfl,rfl,_,hlc,hcm,hel,hrd,_,_⟩
  · exact⟨[],⟨none,0,rfl,Nat.le_refl _,rfl,Nat.zero_le _,fun h=>absurd h (Nat.lt_irrefl _)⟩,⟨wfAll_nil _,by simp⟩,by simp [muAll,uptoBulk]⟩
  · obtain⟨l,hl,hr,hw,hm⟩:=opens_list he enc W spare held m (fun i=>W.cells? 0 (a.add (i * P.cellsOf e)) (P.cellsOf e)) elems 0 (fun i hi=>by
      rw [Nat.zero_add]
      exact hrd i (by omega))
    refine⟨l,⟨some a,cap,by rw [hl,hel],by omega,?_⟩,⟨hw,by omega⟩,?_⟩
    · refine⟨rfl,by simp only[maxLen]at hcm;omega,fun _=>⟨a,rfl,fun j p hp=>?_⟩⟩;obtain⟨cs,hc,hK⟩:=hr j p hp;rw [Nat.zero_add]at hc;obtain⟨h1,h2⟩:=cells_some hc;refine⟨cs,by rw [h1,hsz],hK,fun i u hi=>?_⟩;have:=h2 i u hi
      rwa [Addr.add_add,hsz]at this
    ·simp only[uptoBulk];omega
end Go.Proofs.Ythkdfojmhloofaa.Open
end
section
namespace Go.Proofs.Ythkdfojmhloofaa.Q
set_option linter.unusedVariables false
set_option linter.unusedSimpArgs false
open Go.RowKit Go.Proofs.YthkdfojmhloofaaW.PrintWords Go.Proofs.YthkdfojmhloofaaW.PrintLast Go.Proofs.YthkdfojmhloofaaW.PrintMore Go.Proofs.Ythkdfojmhloofaa.Open
open Go.Proofs.Ythkdfojmhloofaa.Rows (uptoBulk uptoBulkAll)
def wf28 (x:S28):Prop:=(wfInt .u64) x.f0∧(wfInt .u64) x.f1
def mu28 (x:S28):Nat:=mu1 x.f0+mu1 x.f1+1
set_option maxRecDepth 100000 in
theorem opn28:Opens Try.prog 28 k28 wf28 mu28:=by
  intro H enc W spare held n cs x h;obtain⟨xs,m,rfl,rfl,hl,hs,hf⟩:=DataW.trod_struct Try.underlying28 h;have hc:cs.length=2:=hl.trans (by kernel_rfl);have hx:xs.length=2:=hs;clear hl hs h
  match cs,hc,xs,hx,hf with
  | [c0,c1],_, [y0,y1],_,hf=>
    have e0:Try.prog.cellsOf 26=1:=by kernel_rfl
    have e1:Try.prog.cellsOf 26=1:=by kernel_rfl
    have g0:=hf 0 _ rfl;simp only[List.getElem_toArray,List.getElem_cons_zero,List.getElem_cons_succ,e0]at g0;obtain⟨a0,K0,w0,m0⟩:=(opens_int Try.underlying26) enc W spare held m [c0] y0 g0;have g1:=hf 1 _ rfl;simp only[List.getElem_toArray,List.getElem_cons_zero,List.getElem_cons_succ,e1]at g1;obtain⟨a1,K1,w1,m1⟩:=(opens_int Try.underlying26) enc W spare held m [c1] y1 g1;exact⟨⟨a0,a1⟩,⟨[c0], [c1],rfl,K0,K1⟩,⟨w0,w1⟩,by simp only[mu28,List.map_cons,List.map_nil,uptoBulk,uptoBulkAll];omega⟩
def wf30 (x:S30):Prop:=wfAny x.f0∧wf28 x.f1∧(wfInt .i64) x.f2
def mu30 (x:S30):Nat:=mu1 x.f0+mu28 x.f1+mu1 x.f2+1
set_option maxRecDepth 100000 in
theorem opn30:Opens Try.prog 30 k30 wf30 mu30:=by
  intro H enc W spare held n cs x h;obtain⟨xs,m,rfl,rfl,hl,hs,hf⟩:=DataW.trod_struct Try.underlying30 h;have hc:cs.length=4:=hl.trans (by kernel_rfl);have hx:xs.length=3:=hs;clear hl hs h
  match cs,hc,xs,hx,hf with
  | [c0,c1,c2,c3],_, [y0,y1,y2],_,hf=>
    have e0:Try.prog.cellsOf 4=1:=by kernel_rfl
    have e1:Try.prog.cellsOf 28=2:=by kernel_rfl
    have e2:Try.prog.cellsOf 3=1:=by kernel_rfl
    have g0:=hf 0 _ rfl;simp only[List.getElem_toArray,List.getElem_cons_zero,List.getElem_cons_succ,e0]at g0;obtain⟨a0,K0,w0,m0⟩:=(opens_bool Try.underlying4) enc W spare held m [c0] y0 g0;have g1:=hf 1 _ rfl;simp only[List.getElem_toArray,List.getElem_cons_zero,List.getElem_cons_succ,e1]at g1;obtain⟨a1,K1,w1,m1⟩:=opn28 enc W spare held m [c1,c2] y1 g1;have g2:=hf 2 _ rfl;simp only[List.getElem_toArray,List.getElem_cons_zero,List.getElem_cons_succ,e2]at g2;obtain⟨a2,K2,w2,m2⟩:=(opens_int Try.underlying3) enc W spare held m [c3] y2 g2;exact⟨⟨a0,a1,a2⟩,⟨[c0], [c1,c2,c3],rfl,K0,⟨[c1,c2], [c3],rfl,K1,K2⟩⟩,⟨w0,w1,w2⟩,by simp only[mu30,List.map_cons,List.map_nil,uptoBulk,uptoBulkAll];omega⟩
def wf33 (x:S33):Prop:=(wfInt .u8) x.f0∧(wfInt .i64) x.f1
def mu33 (x:S33):Nat:=mu1 x.f0+mu1 x.f1+1
set_option maxRecDepth 100000 in
theorem opn33:Opens Try.prog 33 k33 wf33 mu33:=by
  intro H enc W spare held n cs x h;obtain⟨xs,m,rfl,rfl,hl,hs,hf⟩:=DataW.trod_struct Try.underlying33 h;have hc:cs.length=2:=hl.trans (by kernel_rfl);have hx:xs.length=2:=hs;clear hl hs h
  match cs,hc,xs,hx,hf with
  | [c0,c1],_, [y0,y1],_,hf=>
    have e0:Try.prog.cellsOf 31=1:=by kernel_rfl
    have e1:Try.prog.cellsOf 3=1:=by kernel_rfl
    have g0:=hf 0 _ rfl;simp only[List.getElem_toArray,List.getElem_cons_zero,List.getElem_cons_succ,e0]at g0;obtain⟨a0,K0,w0,m0⟩:=(opens_int Try.underlying31) enc W spare held m [c0] y0 g0;have g1:=hf 1 _ rfl;simp only[List.getElem_toArray,List.getElem_cons_zero,List.getElem_cons_succ,e1]at g1;obtain⟨a1,K1,w1,m1⟩:=(opens_int Try.underlying3) enc W spare held m [c1] y1 g1;exact⟨⟨a0,a1⟩,⟨[c0], [c1],rfl,K0,K1⟩,⟨w0,w1⟩,by simp only[mu33,List.map_cons,List.map_nil,uptoBulk,uptoBulkAll];omega⟩
def wf35 (x:S35):Prop:=(wfInt .u8) x.f0∧(wfInt .i64) x.f1∧(wfInt .u64) x.f2∧(wfInt .i64) x.f3∧wf30 x.f4∧wf33 x.f5∧(wfInt .i64) x.f6∧(wfInt .i64) x.f7
def mu35 (x:S35):Nat:=mu1 x.f0+mu1 x.f1+mu1 x.f2+mu1 x.f3+mu30 x.f4+mu33 x.f5+mu1 x.f6+mu1 x.f7+1
set_option maxRecDepth 100000 in
theorem opn35:Opens Try.prog 35 k35 wf35 mu35:=by
  intro H enc W spare held n cs x h;obtain⟨xs,m,rfl,rfl,hl,hs,hf⟩:=DataW.trod_struct Try.underlying35 h;have hc:cs.length=12:=hl.trans (by kernel_rfl);have hx:xs.length=8:=hs;clear hl hs h
  match cs,hc,xs,hx,hf with
  | [c0,c1,c2,c3,c4,c5,c6,c7,c8,c9,c10,c11],_, [y0,y1,y2,y3,y4,y5,y6,y7],_,hf=>
    have e0:Try.prog.cellsOf 25=1:=by kernel_rfl
    have e1:Try.prog.cellsOf 3=1:=by kernel_rfl
    have e2:Try.prog.cellsOf 26=1:=by kernel_rfl
    have e3:Try.prog.cellsOf 2=1:=by kernel_rfl
    have e4:Try.prog.cellsOf 30=4:=by kernel_rfl
    have e5:Try.prog.cellsOf 33=2:=by kernel_rfl
    have e6:Try.prog.cellsOf 3=1:=by kernel_rfl
    have e7:Try.prog.cellsOf 3=1:=by kernel_rfl
    have g0:=hf 0 _ rfl;simp only[List.getElem_toArray,List.getElem_cons_zero,List.getElem_cons_succ,e0]at g0;obtain⟨a0,K0,w0,m0⟩:=(opens_int Try.underlying25) enc W spare held m [c0] y0 g0;have g1:=hf 1 _ rfl;simp only[List.getElem_toArray,List.getElem_cons_zero,List.getElem_cons_succ,e1]at g1;obtain⟨a1,K1,w1,m1⟩:=(opens_int Try.underlying3) enc W spare held m [c1] y1 g1;have g2:=hf 2 _ rfl;simp only[List.getElem_toArray,List.getElem_cons_zero,List.getElem_cons_succ,e2]at g2;obtain⟨a2,K2,w2,m2⟩:=(opens_int Try.underlying26) enc W spare held m [c2] y2 g2;have g3:=hf 3 _ rfl;simp only[List.getElem_toArray,List.getElem_cons_zero,List.getElem_cons_succ,e3]at g3;obtain⟨a3,K3,w3,m3⟩:=(opens_int Try.underlying2) enc W spare held m [c3] y3 g3;have g4:=hf 4 _ rfl;simp only[List.getElem_toArray,List.getElem_cons_zero,List.getElem_cons_succ,e4]at g4;obtain⟨a4,K4,w4,m4⟩:=opn30 enc W spare held m [c4,c5,c6,c7] y4 g4;have g5:=hf 5 _ rfl;simp only[List.getElem_toArray,List.getElem_cons_zero,List.getElem_cons_succ,e5]at g5;obtain⟨a5,K5,w5,m5⟩:=opn33 enc W spare held m [c8,c9] y5 g5;have g6:=hf 6 _ rfl;simp only[List.getElem_toArray,List.getElem_cons_zero,List.getElem_cons_succ,e6]at g6;obtain⟨a6,K6,w6,m6⟩:=(opens_int Try.underlying3) enc W spare held m [c10] y6 g6;have g7:=hf 7 _ rfl;simp only[List.getElem_toArray,List.getElem_cons_zero,List.getElem_cons_succ,e7]at g7;obtain⟨a7,K7,w7,m7⟩:=(opens_int Try.underlying3) enc W spare held m [c11] y7 g7;exact⟨⟨a0,a1,a2,a3,a4,a5,a6,a7⟩,⟨[c0], [c1,c2,c3,c4,c5,c6,c7,c8,c9,c10,c11],rfl,K0,⟨[c1], [c2,c3,c4,c5,c6,c7,c8,c9,c10,c11],rfl,K1,⟨[c2], [c3,c4,c5,c6,c7,c8,c9,c10,c11],rfl,K2,⟨[c3], [c4,c5,c6,c7,c8,c9,c10,c11],rfl,K3,⟨[c4,c5,c6,c7], [c8,c9,c10,c11],rfl,K4,⟨[c8,c9], [c10,c11],rfl,K5,⟨[c10], [c11],rfl,K6,K7⟩⟩⟩⟩⟩⟩⟩,⟨w0,w1,w2,w3,w4,w5,w6,w7⟩,by simp only[mu35,List.map_cons,List.map_nil,uptoBulk,uptoBulkAll];omega⟩
end Go.Proofs.Ythkdfojmhloofaa.Q
end
section
namespace Go.Proofs.Ythkdfojmhloofaa.Q
set_option linter.unusedVariables false
open Go.RowKit Go.Proofs.YthkdfojmhloofaaW.PrintWords Go.Proofs.YthkdfojmhloofaaW.PrintLast Go.Proofs.YthkdfojmhloofaaW.PrintMore Go.Proofs.Ythkdfojmhloofaa.Open
def spoorlaw13_GramBack.PureUpto:Prop:= ∀ (l0:List (S35)) (a1:ByteArray),(fun l=>wfAll wf35 l∧l.length≤maxLen) l0→wfStr a1→(muAll mu35) l0+muStr a1≤1048576→ ∃ k,spoorlaw13_GramBack.f k l0 a1=some true
end Go.Proofs.Ythkdfojmhloofaa.Q
end
section
namespace Go.Proofs.Ythkdfojmhloofaa.Base
set_option linter.unusedVariables false
open Go.RowKit Go.Proofs.YthkdfojmhloofaaW.PrintWords Go.Proofs.YthkdfojmhloofaaW.PrintLast Go.Proofs.YthkdfojmhloofaaW.PrintMore
theorem Ev.pos {α:Type}{c:Prop} [Decidable c] {f g:Nat→Option α}{r:α} (h:c) (k:Ev f r):Ev (fun n=>if c then f n else g n) r:=Ev.congr (fun _=>if_pos h) k
theorem Ev.neg {α:Type}{c:Prop} [Decidable c] {f g:Nat→Option α}{r:α} (h: ¬ c) (k:Ev g r):Ev (fun n=>if c then f n else g n) r:=Ev.congr (fun _=>if_neg h) k
theorem Ev.const {α:Type}{o:Option α}{r:α} (h:o=some r):Ev (fun _=>o) r:=⟨0,fun _ _=>h⟩
theorem Ev.succ {α:Type}{g:Nat→Option α}{r:α} (h:Ev (fun k=>g (k+1)) r):Ev g r:=Ev.step (fun _=>rfl) h
theorem Ev.to {α:Type}{g:Nat→Option α}{r q:α} (h:Ev g r) (e:r=q):Ev g q:=e▸h
theorem w64 {n:Int} (h0: -9223372036854775808≤n) (h1:n≤9223372036854775807):wrap64 n=n:=by unfold wrap64;omega
theorem u64w {n:Int} (h0:0≤n) (h1:n<18446744073709551616):IntKind.u64.wrap n=n:=by
  simp [IntKind.wrap,IntKind.bits,IntKind.signed];omega
theorem u64m (n:Int):IntKind.u64.wrap n=n % 18446744073709551616:=by simp [IntKind.wrap,IntKind.bits,IntKind.signed]
theorem wf_u64 {n:Int} (h:(Lit.int .u64 n).wf=true):0≤n∧n<18446744073709551616:=by
  have h1:IntKind.u64.min≤n∧n≤IntKind.u64.max:=by simpa [Lit.wf] using h
  have a:IntKind.u64.min=0:=by decide
  have b:IntKind.u64.max=18446744073709551615:=by decide
  omega
def Bytes (l:List Int):Prop:= ∀ x∈l,0≤x∧x<256
theorem Bytes.nil:Bytes []:=fun _ h=>by cases h
theorem Bytes.cons {x:Int}{l:List Int} (h0:0≤x) (h1:x<256) (h:Bytes l):Bytes (x :: l):=fun y hy=>by
  rcases List.mem_cons.1 hy with rfl|hy
  · exact⟨h0,h1⟩
  · exact h y hy
theorem Bytes.head {x:Int}{l:List Int} (h:Bytes (x :: l)):0≤x∧x<256:=h x (by simp)
theorem Bytes.tail {x:Int}{l:List Int} (h:Bytes (x :: l)):Bytes l:=fun y hy=>h y (by simp [hy])
theorem Bytes.append {a b:List Int} (ha:Bytes a) (hb:Bytes b):Bytes (a++b):=fun x hx=>(List.mem_append.1 hx).elim (ha x) (hb x)
theorem Bytes.left {a b:List Int} (h:Bytes (a++b)):Bytes a:=fun x hx=>h x (by simp [hx])
theorem Bytes.right {a b:List Int} (h:Bytes (a++b)):Bytes b:=fun x hx=>h x (by simp [hx])
theorem Bytes.drop {l:List Int} (h:Bytes l) (n:Nat):Bytes (l.drop n):=fun x hx=>h x (List.mem_of_mem_drop hx)
theorem Bytes.take {l:List Int} (h:Bytes l) (n:Nat):Bytes (l.take n):=fun x hx=>h x (List.mem_of_mem_take hx)
theorem bytesOf_bytes (s:ByteArray):Bytes (bytesOf s):=by
  intro x hx;obtain⟨b,_,rfl⟩:=List.mem_map.1 hx;have:=b.toNat_lt;omega
theorem str_ext {a b:ByteArray} (h:a.data.toList=b.data.toList):a=b:=by
  cases a with|mk a=>cases b with|mk b=>
  have:a=b:=Array.toList_inj.mp h;rw [this]
theorem str_bytes (s:ByteArray):strOfNums (bytesOf s)=s:=by
  refine str_ext ?_;rw [strOfNums_data,bytesOf,List.map_map]
  conv=>rhs;rw [← List.map_id s.data.toList]
  refine List.map_congr_left fun b _=>?_
  simp
theorem bytes_str {l:List Int} (h:Bytes l):bytesOf (strOfNums l)=l:=by
  rw [bytesOf,strOfNums_data,List.map_map]
  conv=>rhs;rw [← List.map_id l]
  refine List.map_congr_left fun x hx=>?_
  obtain⟨h0,h1⟩:=h x hx;simp;omega
theorem str_append (a b:List Int):strOfNums (a++b)=strOfNums a++strOfNums b:=by
  refine str_ext ?_;rw [ByteArray.data_append,Array.toList_append,strOfNums_data,strOfNums_data,strOfNums_data,List.map_append]
theorem bytes_extract (s:ByteArray) (i j:Nat):bytesOf (s.extract i j)=((bytesOf s).take j).drop i:=by
  unfold bytesOf;rw [ByteArray.data_extract,Array.toList_extract,List.extract_eq_take_drop,List.map_take,List.map_drop,List.drop_take]
theorem bytes_from (s:ByteArray) (i:Nat):bytesOf (s.extract i s.size)=(bytesOf s).drop i:=by
  rw [bytes_extract,List.take_of_length_le (by rw [bytesOf_length];exact Nat.le_refl _)]
theorem str_from (s:ByteArray) (i:Nat):s.extract i s.size=strOfNums ((bytesOf s).drop i):=by rw [← bytes_from,str_bytes]
theorem str_part (s:ByteArray) (i j:Nat):s.extract i j=strOfNums (((bytesOf s).take j).drop i):=by rw [← bytes_extract,str_bytes]
theorem bt_of {s:ByteArray}{l:List Int} (h:bytesOf s=l) (i:Int):bt s i=rd l i:=by rw [← rd_bytesOf,h]
theorem rd_drop {l:List Int}{i:Nat}{x:Int}{r:List Int} (h:l.drop i=x :: r):rd l (i:Int)=x:=by
  have h1:l[i]? =some x:=by
    have:=List.getElem?_drop (xs:=l) (i:=i) (j:=0);rw [h]at this
    simpa using this.symm
  simp [rd,List.getD_eq_getElem?_getD,h1]
theorem drop_lt {l:List Int}{i:Nat}{x:Int}{r:List Int} (h:l.drop i=x :: r):i<l.length:=by
  rcases Nat.lt_or_ge i l.length with g|g
  · exact g
  · rw [List.drop_eq_nil_of_le g]at h;cases h
theorem drop_next {α:Type}{l:List α}{i:Nat}{x:α}{r:List α} (h:l.drop i=x :: r):l.drop (i+1)=r:=by
  rw [← List.drop_drop,h];rfl
theorem drop_nil_le {α:Type}{l:List α}{i:Nat} (h:l.drop i= []):l.length≤i:=List.drop_eq_nil_iff.1 h
theorem str_nil:strOfNums []=(⟨#[]⟩:ByteArray):=rfl
theorem or128 {x:Int} (h0:0≤x) (h1:x<256):Go.bits .or .u8 x 128=x % 128+128:=by
  have h: ∀ n:Fin 256,Go.bits .or .u8 ((n.val:Nat):Int) 128=((n.val:Nat):Int) % 128+128:=by decide+kernel
  have:=h ⟨x.toNat,by omega⟩
  simpa [Int.toNat_of_nonneg h0] using this
theorem andNot128 {x:Int} (h0:0≤x) (h1:x<256):Go.bits .andNot .u8 x 128=x % 128:=by
  have h: ∀ n:Fin 256,Go.bits .andNot .u8 ((n.val:Nat):Int) 128=((n.val:Nat):Int) % 128:=by decide+kernel
  have:=h ⟨x.toNat,by omega⟩
  simpa [Int.toNat_of_nonneg h0] using this
theorem bits_or_comm (k:IntKind) (x y:Int):Go.bits .or k x y=Go.bits .or k y x:=by
  unfold Go.bits;simp only[BitVec.or_comm]
theorem wraps_u64 (n:Int) (h₀:0≤n) (h₁:n<2 ^ 64):IntKind.u64.wrap n=n:=u64w h₀ (by omega)
theorem or_join {x y : Int} (i : Nat) (hx : 0 ≤ x) (hm : x % 2 ^ i = 0) (hx1 : x < 18446744073709551616) (hy : 0 ≤ y) (hy1 : y < 2 ^ i) (hy2 : y < 18446744073709551616) : Go.bits .or .u64 x y = x + y :=
  bits_join .u64 64 (by decide) wraps_u64 i x y hx hm (by omega) hy hy1 (by omega)
end Go.Proofs.Ythkdfojmhloofaa.Base
end
section
namespace Go.Proofs.Ythkdfojmhloofaa.Num
set_option linter.unusedVariables false
open Go.RowKit Go.Proofs.YthkdfojmhloofaaW.PrintWords Go.Proofs.YthkdfojmhloofaaW.PrintLast Go.Proofs.YthkdfojmhloofaaW.PrintMore Go.Proofs.Ythkdfojmhloofaa.Base
def putL (n:Nat):List Int:=if n<128 then [(n:Int)] else ((n:Int) % 128+128) :: putL (n / 128)
termination_by n
theorem putL_small {n:Nat} (h:n<128):putL n= [(n:Int)]:=by rw [putL,if_pos h]
theorem putL_great {n:Nat} (h: ¬ n<128):putL n=((n:Int) % 128+128) :: putL (n / 128):=by rw [putL,if_neg h]
theorem putL_ne (n:Nat):putL n≠ []:=by
  rw [putL]
  split <;> simp
theorem putL_pos (n:Nat):0<(putL n).length:=List.length_pos_iff.2 (putL_ne n)
theorem putL_bytes (n:Nat):Bytes (putL n):=by
  induction n using Nat.strongRecOn with
  |_ n ih=>
    by_cases h:n<128;·rw [putL_small h];exact Bytes.cons (by omega) (by omega) Bytes.nil
    ·rw [putL_great h];exact Bytes.cons (by omega) (by omega) (ih _ (by omega))
theorem putL_len_aux: ∀ (j n:Nat),n<128 ^ (j+1)→(putL n).length≤j+1
  |0,n,h=>by rw [putL_small (by simpa using h)];simp
  |j+1,n,h=>by
    by_cases g:n<128
    · rw [putL_small g];simp
    · rw [putL_great g,List.length_cons]
      have:=putL_len_aux j (n / 128) (by
        rw [Nat.div_lt_iff_lt_mul (by decide)]
        rwa [Nat.pow_succ]at h)
      omega
theorem putL_len {n:Nat} (h:n<18446744073709551616):(putL n).length≤10:=putL_len_aux 9 n (Nat.lt_of_lt_of_le h (by decide))
def getL : Nat → Int → List Int → Int × List Int × Int
  | _, _, [] => (0, [], 5)
  | i, n, b :: r => if i = 9 ∧ b > 1 then (0, [], 7) else if b ≥ 128 then getL (i + 1) (n + b % 128 * 128 ^ i) r else if b = 0 ∧ 0 < i then (0, [], 7) else (n + b * 128 ^ i, r, 0)
theorem getL_put (more:List Int): ∀ (m i:Nat) (n:Int),i≤9→m * 128 ^ i<18446744073709551616→(0<i→0<m)→getL i n (putL m++more)=(n+m * 128 ^ i,more,0):=by
  intro m
  induction m using Nat.strongRecOn with
  |_ m ih=>
    intro i n hi hm h0
    have h9:i=9→m≤1:=by
      rintro rfl
      have:m * 9223372036854775808<18446744073709551616:=by simpa using hm
      omega
    by_cases h:m<128;·rw [putL_small h];simp only[List.cons_append,List.nil_append,getL];rw [if_neg (by omega),if_neg (by omega),if_neg (by omega)]
    · rw [putL_great h];simp only[List.cons_append,getL];have hd:m / 128 * 128 ^ (i+1)≤m * 128 ^ i:=by rw [Nat.pow_succ,Nat.mul_comm (128 ^ i), ← Nat.mul_assoc];exact Nat.mul_le_mul_right _ (Nat.div_mul_le_self _ _)
      rw [if_neg (by omega),if_pos (by omega),ih (m / 128) (by omega) (i+1) _ (by omega) (by omega) (by omega)];refine Prod.ext ?_ rfl
      show n+((m:Int) % 128+128) % 128 * 128 ^ i+((m / 128:Nat):Int) * 128 ^ (i+1)=n+(m:Int) * 128 ^ i
      rw [Int.pow_succ];have e:((m:Int) % 128+128) % 128=(m:Int) % 128:=by omega
      have e2:((m / 128:Nat):Int)=(m:Int) / 128:=by omega
      rw [e,e2,Int.add_assoc,Int.mul_comm (128 ^ i) 128, ← Int.mul_assoc, ← Int.add_mul]
      congr 2
      omega
theorem getL_put0 {m:Nat} (more:List Int) (h:m<18446744073709551616):getL 0 0 (putL m++more)=((m:Int),more,0):=by
  rw [getL_put more m 0 0 (by omega) (by simpa using h) (by omega)];simp
theorem getL_back: ∀ (l:List Int) (i:Nat) (n v:Int) (r:List Int),Bytes l→i≤9→getL i n l=(v,r,0)→ ∃ m:Nat,v=n+m * 128 ^ i∧l=putL m++r∧(0<i→0<m)∧m * 128 ^ i<18446744073709551616
  | [],i,n,v,r,_,_,h=>by simp [getL]at h
  |b :: l,i,n,v,r,hb,hi,h=>by
    obtain⟨b0,b1⟩:=hb.head;simp only[getL]at h;by_cases h1:i=9∧b > 1
    · rw [if_pos h1]at h;simp at h
    rw [if_neg h1]at h;by_cases h2:b ≥ 128
    · rw [if_pos h2]at h;obtain⟨m,hv,hl,hm,hs⟩:=getL_back l (i+1) _ v r hb.tail (by omega) h;have hm:=hm (by omega);have e:(((b % 128).toNat+m * 128:Nat):Int)=b % 128+m * 128:=by omega
      refine⟨(b % 128).toNat+m * 128,?_,?_,by omega,?_⟩
      · rw [hv,e,Int.pow_succ,Int.add_mul,Int.add_assoc,Int.mul_comm (128 ^ i) 128,Int.mul_assoc]
      · rw [putL_great (by omega),hl];have e1:((b % 128).toNat+m * 128) / 128=m:=by omega
        have e2:((((b % 128).toNat+m * 128:Nat):Int) % 128+128)=b:=by omega
        rw [e1,e2];rfl
      · have hp:0<128 ^ i:=Nat.pow_pos (by decide);have hlt:((b % 128).toNat+m * 128) * 128 ^ i<(m+1) * 128 ^ (i+1):=by rw [Nat.pow_succ,Nat.mul_comm (128 ^ i), ← Nat.mul_assoc];exact Nat.mul_lt_mul_of_pos_right (by omega) hp
        have hi8:i≤8:=by omega
        have hmm:m * 128 ^ (i+1)<18446744073709551616:=hs
        have key: ∀ j:Nat,j≤8→m * 128 ^ (j+1)<18446744073709551616→18446744073709551616=128 ^ (j+1) * (18446744073709551616 / 128 ^ (j+1)):=by
          intro j hj _;have:j=0∨j=1∨j=2∨j=3∨j=4∨j=5∨j=6∨j=7∨j=8:=by omega
          rcases this with rfl|rfl|rfl|rfl|rfl|rfl|rfl|rfl|rfl <;> decide
        have hq:=key i hi8 hmm
        have hm1:m+1≤18446744073709551616 / 128 ^ (i+1):=by
          have:m * 128 ^ (i+1)<18446744073709551616 / 128 ^ (i+1) * 128 ^ (i+1):=by rw [Nat.mul_comm (18446744073709551616 / _)];omega
          exact Nat.lt_of_mul_lt_mul_right this
        have:(m+1) * 128 ^ (i+1)≤18446744073709551616:=by rw [hq,Nat.mul_comm (128 ^ (i+1))];exact Nat.mul_le_mul_right _ hm1
        omega
    rw [if_neg h2]at h;by_cases h3:b=0∧0<i
    · rw [if_pos h3]at h;simp at h
    rw [if_neg h3]at h;simp only[Prod.mk.injEq,and_true]at h;obtain⟨rfl,rfl⟩:=h;refine⟨b.toNat,by rw [Int.toNat_of_nonneg b0],?_,by omega,?_⟩
    · rw [putL_small (by omega),Int.toNat_of_nonneg b0];rfl
    · have:i=0∨i=1∨i=2∨i=3∨i=4∨i=5∨i=6∨i=7∨i=8∨i=9:=by omega
      rcases this with rfl|rfl|rfl|rfl|rfl|rfl|rfl|rfl|rfl|rfl <;> simp only[Nat.reducePow] <;> omega
theorem getL_back0 {l r:List Int}{v:Int} (hb:Bytes l) (h:getL 0 0 l=(v,r,0)): ∃ m:Nat,v=m∧l=putL m++r∧m<18446744073709551616:=by
  obtain⟨m,hv,hl,_,hs⟩:=getL_back l 0 0 v r hb (by omega) h;exact⟨m,by simpa using hv,hl,by simpa using hs⟩
theorem getL_err: ∀ (l:List Int) (i:Nat) (n:Int),(getL i n l).2.2=0∨((getL i n l).2.2≠0∧(getL i n l).1=0∧(getL i n l).2.1= [])
  | [],_,_=>by simp [getL]
  |b :: l,i,n=>by
    simp only[getL]
    split
    · exact .inr (by simp)
    split
    · exact getL_err l _ _
    split
    · exact .inr (by simp)
    · exact .inl rfl
theorem getL_len: ∀ (l:List Int) (i:Nat) (n:Int),(getL i n l).2.1.length≤l.length
  | [],_,_=>by simp [getL]
  |b :: l,i,n=>by
    simp only[getL]
    split
    · simp
    split
    · have:=getL_len l (i+1) (n+b % 128 * 128 ^ i);simp;omega
    split
    · simp
    · simp
end Go.Proofs.Ythkdfojmhloofaa.Num
end
section
namespace Go.Proofs.Ythkdfojmhloofaa.Addr
set_option linter.unusedVariables false
open Go.RowKit Go.Proofs.YthkdfojmhloofaaW.PrintWords Go.Proofs.YthkdfojmhloofaaW.PrintLast Go.Proofs.YthkdfojmhloofaaW.PrintMore Go.Proofs.Ythkdfojmhloofaa.Base
def Wn (six:Bool):Nat:=if six then 128 else 32
theorem Wn_le (six:Bool):Wn six≤128:=by cases six <;> simp [Wn]
def hi (n:Nat):Int:=((n / 18446744073709551616:Nat):Int)
def lo (n:Nat):Int:=((n % 18446744073709551616:Nat):Int)
theorem lo_range (n:Nat):0≤lo n∧lo n<18446744073709551616:=by unfold lo;omega
theorem hi_range {n:Nat} (h:n<340282366920938463463374607431768211456):0≤hi n∧hi n<18446744073709551616:=by unfold hi;omega
theorem p2pos (n:Nat):0<2 ^ n:=Nat.two_pow_pos n
theorem p2le {n:Nat} (h:n≤128):2 ^ n≤340282366920938463463374607431768211456:=Nat.le_trans (Nat.pow_le_pow_right (by decide) h) (by decide)
theorem p2le64 {n:Nat} (h:n≤64):2 ^ n≤18446744073709551616:=Nat.le_trans (Nat.pow_le_pow_right (by decide) h) (by decide)
theorem p2lt64 {n:Nat} (h:n<64):2 ^ n≤9223372036854775808:=Nat.le_trans (Nat.pow_le_pow_right (show 0<2 by decide) (show n≤63 by omega)) (by decide)
theorem p2split {n:Nat} (h:64≤n):2 ^ n=18446744073709551616 * 2 ^ (n - 64):=by
  have:2 ^ n=2 ^ 64 * 2 ^ (n - 64):=by rw [← Nat.pow_add];congr 1;omega
  rw [this]
theorem p2split' {n:Nat} (h:n≤64):18446744073709551616=2 ^ n * 2 ^ (64 - n):=by
  have:2 ^ 64=2 ^ n * 2 ^ (64 - n):=by rw [← Nat.pow_add];congr 1;omega
  rw [← this]
theorem wn_pow (six:Bool):2 ^ Wn six≤340282366920938463463374607431768211456:=p2le (Wn_le six)
theorem wn_six {n:Nat}:(n<2 ^ Wn true)↔n<340282366920938463463374607431768211456:=Iff.rfl
theorem wn_four {n:Nat}:(n<2 ^ Wn false)↔n<4294967296:=Iff.rfl
theorem mod_parts {n N:Nat} (h:64≤n):N % 2 ^ n=0↔(N / 18446744073709551616) % 2 ^ (n - 64)=0∧N % 18446744073709551616=0:=by
  rw [p2split h,Nat.mod_mul];constructor
  · intro e;constructor
    · rcases Nat.eq_zero_or_pos (N / 18446744073709551616 % 2 ^ (n - 64)) with z|z
      · exact z
      · omega
    · omega
  · rintro⟨a,b⟩
    rw [a,b]
theorem mod_low {n N:Nat} (h:n≤64):(N % 18446744073709551616) % 2 ^ n=N % 2 ^ n:=by
  refine Nat.mod_mod_of_dvd N ⟨2 ^ (64 - n),?_⟩;exact p2split' h
theorem or_zero {x y:Int} (hx:0≤x) (hx1:x<18446744073709551616) (hy:0≤y) (hy1:y<18446744073709551616):Go.bits .or .u64 x y=0↔x=0∧y=0:=by
  obtain⟨a,rfl⟩:=Int.eq_ofNat_of_zero_le hx;obtain⟨b,rfl⟩:=Int.eq_ofNat_of_zero_le hy;rw [(bits_nat .u64 64 (by decide) wraps_u64 a b (by omega) (by omega)).2];constructor
  · intro h;have h0:a ||| b=0:=by exact_mod_cast h
    have:=Nat.or_eq_zero_iff.1 h0;omega
  · rintro⟨h1,h2⟩
    have e1:a=0:=by omega
    have e2:b=0:=by omega
    subst e1;subst e2;rfl
theorem and_mask {x:Int}{j:Nat} (hx:0≤x) (hx1:x<18446744073709551616) (hj:j≤64):Go.bits .and .u64 x ((2 ^ j - 1:Nat):Int)=x % ((2 ^ j:Nat):Int):=by
  have:=bits_mask .u64 64 (by decide) wraps_u64 j hj x hx (by omega);have e:((2 ^ j - 1:Nat):Int)=(2:Int) ^ j - 1:=by rw [Int.natCast_sub (p2pos j)];simp
  rw [e,this];simp
theorem shl1 {m:Nat} (h:m<64):shl .u64 1 (m:Int)=((2 ^ m:Nat):Int):=by
  have:=p2lt64 h;unfold shl;rw [Int.toNat_natCast,Nat.min_eq_left (by simp [IntKind.bits];omega),Int.one_mul];have e:(2:Int) ^ m=((2 ^ m:Nat):Int):=by simp
  rw [e];generalize 2 ^ m=q at *;exact u64w (by omega) (by omega)
def okP (six:Bool) (n:Nat) (len:Int):Prop:=0≤len∧len≤Wn six∧n<2 ^ Wn six∧n % 2 ^ (Wn six - len.toNat)=0
instance (six:Bool) (n:Nat) (len:Int):Decidable (okP six n len):=by unfold okP;exact inferInstance
def hostN (six:Bool) (len:Int):Nat:=2 ^ (Wn six - len.toNat) - 1
def hasP (six:Bool) (n:Nat) (len:Int) (six':Bool) (m:Nat):Prop:=okP six n len∧six=six'∧m<2 ^ Wn six'∧n≤m∧m≤n+hostN six len
instance (six:Bool) (n:Nat) (len:Int) (six':Bool) (m:Nat):Decidable (hasP six n len six' m):=by unfold hasP;exact inferInstance
end Go.Proofs.Ythkdfojmhloofaa.Addr
end
section
namespace Go.Proofs.Ythkdfojmhloofaa.Be
set_option linter.unusedVariables false
open Go.RowKit Go.Proofs.YthkdfojmhloofaaW.PrintWords Go.Proofs.YthkdfojmhloofaaW.PrintLast Go.Proofs.YthkdfojmhloofaaW.PrintMore Go.Proofs.Ythkdfojmhloofaa.Base
def be : Nat → Nat → List Int
  | 0, _ => []
  | j + 1, n => be j (n / 256) ++ [((n % 256 : Nat) : Int)]
def nb (l:List Int):Nat:=l.foldl (fun a b=>256 * a+b.toNat) 0
theorem snoc_ind {P:List Int→Prop} (h0:P []) (h1: ∀ l x,P l→P (l++ [x])) (l:List Int):P l:=by
  have h: ∀ r:List Int,P r.reverse:=by
    intro r
    induction r with
    |nil=>exact h0
    |cons a r ih=>rw [List.reverse_cons];exact h1 _ _ ih
  have:=h l.reverse
  rwa [List.reverse_reverse]at this
theorem nb_snoc (l:List Int) (b:Int):nb (l++ [b])=256 * nb l+b.toNat:=by simp [nb,List.foldl_append]
theorem be_len : ∀ j n, (be j n).length = j
  | 0, _ => rfl
  | j + 1, n => by rw [be, List.length_append, be_len j]; rfl
theorem be_bytes: ∀ j n,Bytes (be j n)
  |0,_=>Bytes.nil
  |j+1,n=>by
    rw [be];exact (be_bytes j _).append (Bytes.cons (by omega) (by omega) Bytes.nil)
theorem nb_be: ∀ j n,nb (be j n)=n % 256 ^ j
  |0,n=>by simp [be,nb,Nat.mod_one]
  |j+1,n=>by
    rw [be,nb_snoc,nb_be j,Int.toNat_natCast,Nat.pow_succ,Nat.mul_comm (256 ^ j) 256,Nat.mod_mul];omega
theorem be_nb (l:List Int):Bytes l→be l.length (nb l)=l:=by
  induction l using snoc_ind with
  |h0=>intro _;rfl
  |h1 l x ih=>
    intro hb;have hx:=hb.right.head;have e:(l++ [x]).length=l.length+1:=by simp
    rw [e,be,nb_snoc];have e1:(256 * nb l+x.toNat) / 256=nb l:=by omega
    have e2:(((256 * nb l+x.toNat) % 256:Nat):Int)=x:=by omega
    rw [e1,e2,ih hb.left]
theorem be_split: ∀ (b a n:Nat),be (a+b) n=be a (n / 256 ^ b)++be b n
  |0,a,n=>by simp [be]
  |b+1,a,n=>by
    rw [show a+(b+1)=a+b+1 by omega,be,be_split b a,be,Nat.div_div_eq_div_mul,Nat.pow_succ,Nat.mul_comm 256,List.append_assoc]
theorem nb_append (a b:List Int):nb (a++b)=nb a * 256 ^ b.length+nb b:=by
  induction b using snoc_ind with
  |h0=>simp [nb]
  |h1 l x ih=>
    rw [← List.append_assoc,nb_snoc,nb_snoc,ih,List.length_append,List.length_singleton,Nat.pow_succ,Nat.mul_add, ← Nat.add_assoc, ← Nat.mul_assoc (nb a),Nat.mul_comm 256 (nb a * _)]
theorem nb_lt (l:List Int):Bytes l→nb l<256 ^ l.length:=by
  induction l using snoc_ind with
  |h0=>intro _;simp [nb]
  |h1 l x ih=>
    intro hb;have hx:=hb.right.head;have:=ih hb.left;rw [nb_snoc,List.length_append,List.length_singleton,Nat.pow_succ];omega
theorem be_zero (j:Nat):be j 0=List.replicate j 0:=by
  induction j with
  |zero=>rfl
  |succ j ih=>rw [be,Nat.zero_div,ih,List.replicate_succ'];rfl
theorem be_mod (j n m:Nat) (h:n % 256 ^ j=m % 256 ^ j):be j n=be j m:=by
  have e: ∀ x,be j (nb (be j x))=be j x:=fun x=>by
    have:=be_nb (be j x) (be_bytes j x)
    rwa [be_len]at this
  rw [← e n, ← e m,nb_be,nb_be,h]
theorem be_zeros {j n:Nat} (h:n % 256 ^ j=0):be j n=List.replicate j 0:=by rw [be_mod j n 0 (by rw [h];simp),be_zero]
theorem nb_zeros (j:Nat):nb (List.replicate j 0)=0:=by rw [← be_zero,nb_be,Nat.zero_mod]
theorem bytes_zeros (n:Nat):Bytes (List.replicate n 0):=fun x hx=>by
  rw [List.eq_of_mem_replicate hx];omega
end Go.Proofs.Ythkdfojmhloofaa.Be
end
section
namespace Go.Proofs.Ythkdfojmhloofaa.Msg
set_option linter.unusedVariables false
open Go.RowKit Go.Proofs.YthkdfojmhloofaaW.PrintWords Go.Proofs.YthkdfojmhloofaaW.PrintLast Go.Proofs.YthkdfojmhloofaaW.PrintMore Go.Proofs.Ythkdfojmhloofaa.Base Go.Proofs.Ythkdfojmhloofaa.Num Go.Proofs.Ythkdfojmhloofaa.Addr Go.Proofs.Ythkdfojmhloofaa.Be
def Bn (six:Bool):Nat:=if six then 16 else 4
theorem bn_wn (six:Bool):Wn six=8 * Bn six:=by cases six <;> rfl
theorem p256 (j:Nat):256 ^ j=2 ^ (8 * j):=by rw [Nat.pow_mul]
def Kn (len:Int):Nat:=(len.toNat+7) / 8
def sixB (six:Bool):Int:=if six then 6 else 4
def preL (six:Bool) (n:Nat) (len:Int):List Int:=sixB six :: len :: (be (Bn six) n).take (Kn len)
theorem kn_le {six:Bool}{len:Int} (h:len≤Wn six):Kn len≤Bn six:=by rw [bn_wn]at h;unfold Kn;omega
theorem pre_tail {six:Bool}{n:Nat}{len:Int} (h:okP six n len):be (Bn six) n=(be (Bn six) n).take (Kn len)++List.replicate (Bn six - Kn len) 0:=by
  obtain⟨h0,h1,h2,h3⟩:=h;have hk:=kn_le h1;have hw:=bn_wn six;obtain⟨b,hb⟩: ∃ b,Bn six=Kn len+b:=⟨Bn six - Kn len,by omega⟩;rw [hb,be_split,List.take_left' (be_len _ _),Nat.add_sub_cancel_left]
  congr 1
  apply be_zeros;rw [p256];apply Nat.mod_eq_zero_of_dvd;refine Nat.dvd_trans (Nat.pow_dvd_pow 2 ?_) (Nat.dvd_of_mod_eq_zero h3);unfold Kn at hb;omega
theorem preL_bytes {six:Bool}{n:Nat}{len:Int} (h:okP six n len):Bytes (preL six n len):=by
  obtain⟨h0,h1,_⟩:=h;have:=Wn_le six;refine Bytes.cons (by cases six <;> simp [sixB]) (by cases six <;> simp [sixB]) (Bytes.cons h0 (by omega) ((be_bytes _ _).take _))
theorem preL_len {six:Bool}{n:Nat}{len:Int} (h:okP six n len):(preL six n len).length≤18:=by
  simp only[preL,List.length_cons,List.length_take,be_len];have:Bn six≤16:=by cases six <;> simp [Bn]
  omega
def preN (six:Bool) (len:Int) (l:List Int):Nat:=nb (l.take (Kn len)++List.replicate (Bn six - Kn len) 0)
abbrev Pfx:=Bool × Nat × Int
def getP : List Int → Option (Pfx × List Int)
  | b :: len :: l => if (b = 4 ∨ b = 6) ∧ len ≤ Wn (b == 6) ∧ Kn len ≤ l.length ∧ okP (b == 6) (preN (b == 6) len l) len then some ((b == 6, preN (b == 6) len l, len), l.drop (Kn len)) else none
  | _ => none
theorem preN_put {six:Bool}{n:Nat}{len:Int} (r:List Int) (h:okP six n len):preN six len ((be (Bn six) n).take (Kn len)++r)=n:=by
  unfold preN;rw [List.take_left' (by rw [List.length_take,be_len];exact Nat.min_eq_left (kn_le h.2.1)), ← pre_tail h,nb_be];have hw:256 ^ Bn six=2 ^ Wn six:=by rw [p256,bn_wn]
  rw [hw,Nat.mod_eq_of_lt h.2.2.1]
theorem getP_put {six:Bool}{n:Nat}{len:Int} (r:List Int) (h:okP six n len):getP (preL six n len++r)=some ((six,n,len),r):=by
  simp only[preL,List.cons_append,getP];have e6:(sixB six==6)=six:=by cases six <;> rfl
  have e4:sixB six=4∨sixB six=6:=by cases six <;> simp [sixB]
  have hk:=kn_le h.2.1;rw [e6,preN_put r h,if_pos ⟨e4,h.2.1,by simp [be_len];omega,h⟩,List.drop_left' (by rw [List.length_take,be_len];exact Nat.min_eq_left hk)]
theorem getP_back {l r:List Int}{six:Bool}{n:Nat}{len:Int} (hb:Bytes l) (h:getP l=some ((six,n,len),r)):okP six n len∧l=preL six n len++r:=by
  match l,h with
  |b :: ln :: l,h=>
    simp only[getP]at h
    split at h
    · rename_i c
      obtain⟨c1,c2,c3,c4⟩:=c;simp only[Option.some.injEq,Prod.mk.injEq]at h;obtain⟨⟨rfl,rfl,rfl⟩,rfl⟩:=h;refine⟨c4,?_⟩;have e6:sixB (b==6)=b:=by rcases c1 with rfl|rfl <;> rfl
      have hk:=kn_le c2;have hl:(l.take (Kn ln)++List.replicate (Bn (b==6) - Kn ln) 0).length=Bn (b==6):=by rw [List.length_append,List.length_take,List.length_replicate];omega
      have e:=be_nb (l.take (Kn ln)++List.replicate (Bn (b==6) - Kn ln) 0) ((hb.tail.tail.take _).append (bytes_zeros _));rw [hl]at e;simp only[preL,e6,List.cons_append]
      congr 2
      unfold preN;rw [e,List.take_left' (by rw [List.length_take];exact Nat.min_eq_left c3),List.take_append_drop]
    · cases h
  | [],h=>simp [getP]at h
  | [_],h=>simp [getP]at h
def okA (k i:Int):Prop:=k=1∧0≤i∧i≤65536∨(k=2∨k=3)∧i=0
instance (k i:Int):Decidable (okA k i):=by unfold okA;exact inferInstance
def actL (k i:Int):List Int:=k :: (if k=1 then putL i.toNat else [])
def rdN (most:Int) (l:List Int):Option (Int × List Int):=if (getL 0 0 l).2.2=0∧(getL 0 0 l).1≤most then some ((getL 0 0 l).1,(getL 0 0 l).2.1) else none
theorem rdN_put {most m:Int} (r:List Int) (h0:0≤m) (h:m≤most) (h1:m<18446744073709551616):rdN most (putL m.toNat++r)=some (m,r):=by
  unfold rdN;rw [getL_put0 r (by omega),if_pos ⟨rfl,by show ((m.toNat:Nat):Int)≤_;omega⟩];rw [show ((m.toNat:Nat):Int)=m by omega]
theorem rdN_back {most v:Int}{l r:List Int} (hb:Bytes l) (h:rdN most l=some (v,r)):0≤v∧v≤most∧v<18446744073709551616∧l=putL v.toNat++r:=by
  unfold rdN at h
  split at h
  · rename_i c
    simp only[Option.some.injEq,Prod.mk.injEq]at h;obtain⟨m,hv,hl,hm⟩:=getL_back0 (l:=l) (v:=(getL 0 0 l).1) (r:=(getL 0 0 l).2.1) hb (Prod.ext rfl (Prod.ext rfl c.1));have e:v.toNat=m:=by omega
    exact⟨by omega,by omega,by omega,by rw [e, ← h.2];exact hl⟩
  · cases h
def getA : List Int → Option ((Int × Int) × List Int)
  | k :: l => if k = 1 then (rdN 65536 l).bind fun x => some ((1, x.1), x.2) else if k = 2 ∨ k = 3 then some ((k, 0), l) else none
  | [] => none
theorem okA_act {k i:Int} (h:okA k i):k=1∧0≤i∧i≤65536∨k≠1∧(k=2∨k=3)∧i=0:=by unfold okA at h;omega
theorem getA_put {k i:Int} (r:List Int) (h:okA k i):getA (actL k i++r)=some ((k,i),r):=by
  rcases okA_act h with ⟨rfl,h0,h1⟩|⟨h1,h2,rfl⟩
  ·simp only[actL,if_pos,List.cons_append,getA];rw [rdN_put r h0 h1 (by omega)];rfl
  ·simp only[actL,if_neg h1,List.cons_append,List.nil_append,getA];rw [if_pos h2]
theorem getA_back {l r:List Int}{k i:Int} (hb:Bytes l) (h:getA l=some ((k,i),r)):okA k i∧l=actL k i++r:=by
  match l,h with
  |b :: l,h=>
    simp only[getA]at h
    split at h
    · rename_i c
      obtain⟨⟨v,s⟩,hx,h⟩:=Option.bind_eq_some_iff.mp h;simp only[Option.some.injEq,Prod.mk.injEq]at h;obtain⟨⟨rfl,rfl⟩,rfl⟩:=h;obtain⟨h0,h1,h2,hl⟩:=rdN_back hb.tail hx;exact⟨.inl ⟨rfl,h0,h1⟩,by rw [c,hl];rfl⟩
    · split at h
      · rename_i c1 c2
        simp only[Option.some.injEq,Prod.mk.injEq]at h;obtain⟨⟨rfl,rfl⟩,rfl⟩:=h;exact⟨.inr ⟨c2,rfl⟩,by simp [actL,c1]⟩
      · cases h
theorem actL_bytes {k i:Int} (h:okA k i):Bytes (actL k i):=by
  rcases okA_act h with ⟨rfl,h0,h1⟩|⟨h1,h2,rfl⟩
  · simp only[actL,if_pos];exact Bytes.cons (by omega) (by omega) (putL_bytes _)
  · simp only[actL,if_neg h1];exact Bytes.cons (by omega) (by omega) Bytes.nil
theorem actL_len {k i:Int} (h:okA k i):(actL k i).length≤11:=by
  rcases okA_act h with ⟨rfl,h0,h1⟩|⟨h1,h2,rfl⟩
  ·simp only[actL,if_pos,List.length_cons];have:=putL_len (n:=i.toNat) (by omega);omega
  · simp [actL,h1]
structure E11 where
  kd : Int
  ro : Int
  sq : Int
  ti : Int
  six : Bool
  n : Nat
  ln : Int
  ak : Int
  ai : Int
  ifc : Int
  pe : Int
  deriving DecidableEq
def noP (e:E11):Prop:=e.six=false∧e.n=0∧e.ln=0
def noA (e:E11):Prop:=e.ak=0∧e.ai=0
def okE (e : E11) : Prop := (0 ≤ e.ro ∧ e.ro ≤ 1048576 ∧ 1 ≤ e.sq ∧ e.sq ≤ 1099511627776 ∧ 0 ≤ e.ti ∧ e.ti ≤ 1099511627776) ∧
  ((e.kd = 1 ∨ e.kd = 2) ∧ noP e ∧ noA e ∧ e.ifc = 0 ∧ e.pe = 0 ∨ e.kd = 3 ∧ okP e.six e.n e.ln ∧ okA e.ak e.ai ∧ e.ifc = 0 ∧ e.pe = 0 ∨ e.kd = 4 ∧ okP e.six e.n e.ln ∧ noA e ∧ e.ifc = 0 ∧ e.pe = 0 ∨
   e.kd = 5 ∧ noP e ∧ noA e ∧ (0 ≤ e.ifc ∧ e.ifc ≤ 65536) ∧ (0 ≤ e.pe ∧ e.pe ≤ 1048576) ∨ e.kd = 6 ∧ noP e ∧ noA e ∧ (0 ≤ e.ifc ∧ e.ifc ≤ 65536) ∧ e.pe = 0)
instance (e:E11):Decidable (noP e):=by unfold noP;exact inferInstance
instance (e:E11):Decidable (noA e):=by unfold noA;exact inferInstance
instance (e:E11):Decidable (okE e):=by unfold okE;exact inferInstance
def endL (e:E11):List Int:=if e.kd=3 then preL e.six e.n e.ln++actL e.ak e.ai else if e.kd=4 then preL e.six e.n e.ln else if e.kd=5 then putL e.ifc.toNat++putL e.pe.toNat else if e.kd=6 then putL e.ifc.toNat else []
def bodyL (e:E11):List Int:=e.kd :: (putL e.ro.toNat++(putL e.sq.toNat++(putL e.ti.toNat++endL e)))
def zE (kd ro sq ti:Int):E11:=⟨kd,ro,sq,ti,false,0,0,0,0,0,0⟩
def getEnd (kd ro sq ti : Int) (l : List Int) : Option (E11 × List Int) :=
  if kd = 3 then (getP l).bind fun p => (getA p.2).bind fun a => some (⟨kd, ro, sq, ti, p.1.1, p.1.2.1, p.1.2.2, a.1.1, a.1.2, 0, 0⟩, a.2)
  else if kd = 4 then (getP l).bind fun p => some (⟨kd, ro, sq, ti, p.1.1, p.1.2.1, p.1.2.2, 0, 0, 0, 0⟩, p.2)
  else if kd = 5 then (rdN 65536 l).bind fun x => (rdN 1048576 x.2).bind fun y => some (⟨kd, ro, sq, ti, false, 0, 0, 0, 0, x.1, y.1⟩, y.2)
  else if kd = 6 then (rdN 65536 l).bind fun x => some (⟨kd, ro, sq, ti, false, 0, 0, 0, 0, x.1, 0⟩, x.2)
  else some (zE kd ro sq ti, l)
def getE : List Int → Option E11
  | kd :: l => (rdN 1048576 l).bind fun a => (rdN 1099511627776 a.2).bind fun b => (rdN 1099511627776 b.2).bind fun c => (getEnd kd a.1 b.1 c.1 c.2).bind fun x => if x.2 = [] ∧ okE x.1 then some x.1 else none
  | [] => none
theorem getEnd_put {e:E11} (r:List Int) (h:okE e):getEnd e.kd e.ro e.sq e.ti (endL e++r)=some (e,r):=by
  obtain⟨hn,h⟩:=h;obtain⟨kd,ro,sq,ti,six,n,ln,ak,ai,ifc,pe⟩:=e;dsimp only at *;rcases h with ⟨hk,⟨h1,h2,h3⟩,⟨h4,h5⟩,h6,h7⟩|⟨rfl,hp,ha,h6,h7⟩|⟨rfl,hp,⟨h4,h5⟩,h6,h7⟩|⟨rfl,⟨h1,h2,h3⟩,⟨h4,h5⟩,h6,h7⟩|⟨rfl,⟨h1,h2,h3⟩,⟨h4,h5⟩,h6,h7⟩ <;> (try dsimp only at *)
  ·subst h1 h2 h3 h4 h5 h6 h7;unfold getEnd endL;rw [if_neg (by omega),if_neg (by omega),if_neg (by omega),if_neg (by omega)];dsimp only;rw [if_neg (by omega),if_neg (by omega),if_neg (by omega),if_neg (by omega)];rfl
  ·subst h6 h7;unfold getEnd endL;dsimp only;rw [if_pos rfl,if_pos rfl,List.append_assoc,getP_put _ hp];simp only[Option.bind_some];rw [getA_put _ ha];rfl
  ·subst h4 h5 h6 h7;unfold getEnd endL;dsimp only;rw [if_neg (by decide),if_pos rfl,if_neg (by decide),if_pos rfl,getP_put _ hp];rfl
  ·subst h1 h2 h3 h4 h5;unfold getEnd endL;dsimp only;rw [if_neg (by decide),if_neg (by decide),if_pos rfl,if_neg (by decide),if_neg (by decide),if_pos rfl,List.append_assoc,rdN_put _ h6.1 h6.2 (by omega)];simp only[Option.bind_some];rw [rdN_put _ h7.1 h7.2 (by omega)];rfl
  ·subst h1 h2 h3 h4 h5 h7;unfold getEnd endL;dsimp only;rw [if_neg (by decide),if_neg (by decide),if_neg (by decide),if_pos rfl,if_neg (by decide),if_neg (by decide),if_neg (by decide),if_pos rfl,rdN_put _ h6.1 h6.2 (by omega)];rfl
theorem getEnd_back {kd ro sq ti:Int}{l r:List Int}{e:E11} (hb:Bytes l) (h:getEnd kd ro sq ti l=some (e,r)):e.kd=kd∧e.ro=ro∧e.sq=sq∧e.ti=ti∧l=endL e++r:=by
  unfold getEnd at h
  split at h
  · rename_i c
    obtain⟨⟨⟨a,b,c'⟩,s⟩,hp,h⟩:=Option.bind_eq_some_iff.mp h;obtain⟨⟨⟨x,y⟩,u⟩,ha,h⟩:=Option.bind_eq_some_iff.mp h;simp only[Option.some.injEq,Prod.mk.injEq]at h;obtain⟨rfl,rfl⟩:=h;obtain⟨_,hl⟩:=getP_back hb hp;obtain⟨_,hm⟩:=getA_back (by rw [hl]at hb;exact hb.right) ha;refine⟨rfl,rfl,rfl,rfl,?_⟩;unfold endL;dsimp only at *;rw [if_pos c,hl,hm,List.append_assoc]
  split at h
  · rename_i c1 c
    obtain⟨⟨⟨a,b,c'⟩,s⟩,hp,h⟩:=Option.bind_eq_some_iff.mp h;simp only[Option.some.injEq,Prod.mk.injEq]at h;obtain⟨rfl,rfl⟩:=h;obtain⟨_,hl⟩:=getP_back hb hp;refine⟨rfl,rfl,rfl,rfl,?_⟩;unfold endL;dsimp only at *;rw [if_neg c1,if_pos c,hl]
  split at h
  · rename_i c1 c2 c
    obtain⟨⟨a,s⟩,hp,h⟩:=Option.bind_eq_some_iff.mp h;obtain⟨⟨x,u⟩,ha,h⟩:=Option.bind_eq_some_iff.mp h;simp only[Option.some.injEq,Prod.mk.injEq]at h;obtain⟨rfl,rfl⟩:=h;obtain⟨_,_,_,hl⟩:=rdN_back hb hp;obtain⟨_,_,_,hm⟩:=rdN_back (by rw [hl]at hb;exact hb.right) ha;refine⟨rfl,rfl,rfl,rfl,?_⟩;unfold endL;dsimp only at *;rw [if_neg c1,if_neg c2,if_pos c,hl,hm,List.append_assoc]
  split at h
  · rename_i c1 c2 c3 c
    obtain⟨⟨a,s⟩,hp,h⟩:=Option.bind_eq_some_iff.mp h;simp only[Option.some.injEq,Prod.mk.injEq]at h;obtain⟨rfl,rfl⟩:=h;obtain⟨_,_,_,hl⟩:=rdN_back hb hp;refine⟨rfl,rfl,rfl,rfl,?_⟩;unfold endL;dsimp only at *;rw [if_neg c1,if_neg c2,if_neg c3,if_pos c,hl]
  · rename_i c1 c2 c3 c4
    simp only[Option.some.injEq,Prod.mk.injEq]at h;obtain⟨rfl,rfl⟩:=h;refine⟨rfl,rfl,rfl,rfl,?_⟩;unfold endL zE;dsimp only;rw [if_neg c1,if_neg c2,if_neg c3,if_neg c4];rfl
theorem getE_body {e:E11} (h:okE e):getE (bodyL e)=some e:=by
  have hn:=h.1;have hp:=getEnd_put [] h;rw [List.append_nil]at hp;unfold bodyL;simp only[getE];rw [rdN_put _ (by omega) (by omega) (by omega)];simp only[Option.bind_some];rw [rdN_put _ (by omega) (by omega) (by omega)];simp only[Option.bind_some];rw [rdN_put _ (by omega) (by omega) (by omega)];simp only[Option.bind_some];rw [hp];simp only[Option.bind_some];rw [if_pos ⟨trivial,h⟩]
theorem endL_bytes {e:E11} (h:okE e):Bytes (endL e):=by
  obtain⟨_,h⟩:=h;unfold endL;rcases h with ⟨hk,_⟩|⟨hk,hp,ha,_⟩|⟨hk,hp,_⟩|⟨hk,_⟩|⟨hk,_⟩
  · rw [if_neg (by omega),if_neg (by omega),if_neg (by omega),if_neg (by omega)];exact Bytes.nil
  · rw [if_pos hk];exact (preL_bytes hp).append (actL_bytes ha)
  · rw [if_neg (by omega),if_pos hk];exact preL_bytes hp
  · rw [if_neg (by omega),if_neg (by omega),if_pos hk];exact (putL_bytes _).append (putL_bytes _)
  · rw [if_neg (by omega),if_neg (by omega),if_neg (by omega),if_pos hk];exact putL_bytes _
theorem kd_range {e:E11} (h:okE e):1≤e.kd∧e.kd≤6:=by
  obtain⟨_,h⟩:=h;rcases h with ⟨hk,_⟩|⟨hk,hp,ha,_⟩|⟨hk,hp,_⟩|⟨hk,_⟩|⟨hk,_⟩ <;> omega
theorem bodyL_bytes {e:E11} (h:okE e):Bytes (bodyL e):=by
  have:=kd_range h;exact Bytes.cons (by omega) (by omega) ((putL_bytes _).append ((putL_bytes _).append ((putL_bytes _).append (endL_bytes h))))
theorem putL_len6 {n:Nat} (h:n≤1099511627776):(putL n).length≤6:=putL_len_aux 5 n (Nat.lt_of_le_of_lt h (by decide))
theorem putL_len3 {n:Nat} (h:n≤1048576):(putL n).length≤3:=putL_len_aux 2 n (Nat.lt_of_le_of_lt h (by decide))
theorem endL_len {e:E11} (h:okE e):(endL e).length≤29:=by
  obtain⟨_,h⟩:=h;unfold endL;rcases h with ⟨hk,_⟩|⟨hk,hp,ha,_⟩|⟨hk,hp,_⟩|⟨hk,_,_,h1,h2⟩|⟨hk,_,_,h1,_⟩
  · rw [if_neg (by omega),if_neg (by omega),if_neg (by omega),if_neg (by omega)];simp
  · rw [if_pos hk,List.length_append];have:=preL_len hp;have:=actL_len ha;omega
  · rw [if_neg (by omega),if_pos hk];have:=preL_len hp;omega
  ·rw [if_neg (by omega),if_neg (by omega),if_pos hk,List.length_append];have:=putL_len3 (n:=e.ifc.toNat) (by omega);have:=putL_len3 (n:=e.pe.toNat) (by omega);omega
  ·rw [if_neg (by omega),if_neg (by omega),if_neg (by omega),if_pos hk];have:=putL_len3 (n:=e.ifc.toNat) (by omega);omega
theorem bodyL_len {e:E11} (h:okE e):4≤(bodyL e).length∧(bodyL e).length≤64:=by
  have hn:=h.1;have h1:=putL_len3 (n:=e.ro.toNat) (by omega);have h2:=putL_len6 (n:=e.sq.toNat) (by omega);have h3:=putL_len6 (n:=e.ti.toNat) (by omega);have h4:=endL_len h;have g1:=putL_pos e.ro.toNat;have g2:=putL_pos e.sq.toNat;have g3:=putL_pos e.ti.toNat;unfold bodyL;simp only[List.length_cons,List.length_append];omega
end Go.Proofs.Ythkdfojmhloofaa.Msg
end
section
namespace Go.Proofs.Ythkdfojmhloofaa.Addr
set_option linter.unusedVariables false
open Go.RowKit Go.Proofs.YthkdfojmhloofaaW.PrintWords Go.Proofs.YthkdfojmhloofaaW.PrintLast Go.Proofs.YthkdfojmhloofaaW.PrintMore Go.Proofs.Ythkdfojmhloofaa.Base Go.Proofs.Ythkdfojmhloofaa.Q
theorem right_is (six:Bool) {n:Nat} (hn:n<340282366920938463463374607431768211456):addr_Right.f six (hi n) (lo n)=some (decide (n<2 ^ Wn six)):=by
  obtain⟨h1,h2⟩:=hi_range hn;obtain⟨h3,h4⟩:=lo_range n;unfold addr_Right.f;cases six with
  |true=>rw [if_pos rfl,decide_eq_true (wn_six.2 hn)]
  |false=>
    rw [if_neg (by simp)];by_cases h:n<4294967296
    · rw [decide_eq_true (wn_four.2 h),if_pos (by unfold hi;omega)];have:lo n / 4294967296=0:=by unfold lo;omega
      rw [this];rfl
    · rw [decide_eq_false (fun q=>h (wn_four.1 q))];by_cases hz:hi n=0
      · rw [if_pos hz];have:lo n / 4294967296≠0:=by unfold lo;unfold hi at hz;omega
        simp [this]
      · rw [if_neg hz]
theorem wide_is (six:Bool):addr_Wide.f six=some ((Wn six:Nat):Int):=by cases six <;> rfl
theorem below_is {n:Nat} (hn:n≤128):addr_below.f (n:Int)=some (hi (2 ^ n - 1),lo (2 ^ n - 1)):=by
  unfold addr_below.f;by_cases h:n=128
  · subst h;rw [if_pos (by omega)]
    decide+kernel
  rw [if_neg (by omega)];by_cases h2:64≤n
  · have e:wrap64 ((n:Int) - 64)=((n - 64:Nat):Int):=by rw [w64 (by omega) (by omega)];omega
    rw [if_pos (by omega),e,if_pos (by omega),shl1 (by omega)];have hp:=p2lt64 (show n - 64<64 by omega);have hq:=p2pos (n - 64);rw [p2split h2];generalize 2 ^ (n - 64)=q at *;rw [u64w (by omega) (by omega)];unfold hi lo
    congr 2 <;> omega
  · rw [if_neg (by omega),if_pos (by omega),shl1 (by omega)];have hp:=p2lt64 (show n<64 by omega);have hq:=p2pos n;generalize 2 ^ n=q at *;rw [u64w (by omega) (by omega)];unfold hi lo
    congr 2 <;> omega
theorem host_is (six:Bool) (a b:Int) {len:Int} (h0:0≤len) (h1:len≤Wn six):addr_host.f six a b len=some (hi (hostN six len),lo (hostN six len)):=by
  have hw:=Wn_le six;simp only[addr_host.f,wide_is,Option.bind_some];have e:wrap64 (((Wn six:Nat):Int) - len)=((Wn six - len.toNat:Nat):Int):=by rw [w64 (by omega) (by omega)];omega
  rw [e,below_is (by omega)];rfl
theorem check_ev (six:Bool) {n:Nat} (hn:n<340282366920938463463374607431768211456) (len:Int):Ev (fun k=>addr_Check.f k six (hi n) (lo n) len) (if okP six n len then 0 else 2):=by
  have hw:=Wn_le six;have bad: ¬ okP six n len→Ev (fun k=>addr_Check.j0 k true six (hi n) (lo n) len) (if okP six n len then 0 else 2):=by intro h;rw [if_neg h];refine Ev.succ ?_;simp only[addr_Check.j0];exact Ev.pos trivial (Ev.now _)
  simp only[addr_Check.f,wide_is,right_is six hn,Option.bind_some];by_cases h0:len<0
  · exact Ev.pos h0 (bad (fun h=>by have:=h.1;omega))
  refine Ev.neg h0 ?_;by_cases h1:len > ((Wn six:Nat):Int)
  · exact Ev.pos h1 (bad (fun h=>by have:=h.2.1;omega))
  refine Ev.neg h1 ?_;by_cases h2:n<2 ^ Wn six
  · rw [decide_eq_true h2];refine Ev.succ ?_;simp only[addr_Check.j0,host_is six _ _ (show 0≤len by omega) (show len≤((Wn six:Nat):Int) by omega),Option.bind_some];refine Ev.neg (by simp) ?_;obtain⟨a0,a1⟩:=hi_range hn;obtain⟨b0,b1⟩:=lo_range n;have hk:Wn six - len.toNat≤128:=by omega
    have key:Go.bits .or .u64 (Go.bits .and .u64 (hi n) (hi (hostN six len))) (Go.bits .and .u64 (lo n) (lo (hostN six len)))=0↔n % 2 ^ (Wn six - len.toNat)=0:=by
      unfold hostN;generalize Wn six - len.toNat=k at *;have hp:=p2pos k;by_cases g:64≤k
      · have e1:hi (2 ^ k - 1)=((2 ^ (k - 64) - 1:Nat):Int):=by rw [p2split g];have:=p2pos (k - 64);generalize 2 ^ (k - 64)=q at *;unfold hi;omega
        have e2:lo (2 ^ k - 1)=((2 ^ 64 - 1:Nat):Int):=by rw [p2split g];have:=p2pos (k - 64);generalize 2 ^ (k - 64)=q at *;unfold lo;omega
        have p64:=p2le64 (show k - 64≤64 by omega);have q64:=p2pos (k - 64);rw [e1,e2,and_mask a0 a1 (by omega),and_mask b0 b1 (by omega),mod_parts g];have hm:=Int.emod_nonneg (hi n) (show ((2 ^ (k - 64):Nat):Int)≠0 by omega);have hl:=Int.emod_lt_of_pos (hi n) (show (0:Int)<((2 ^ (k - 64):Nat):Int) by omega);rw [or_zero hm (by omega) (by omega) (by omega)];have c1:hi n % ((2 ^ (k - 64):Nat):Int)=((n / 18446744073709551616 % 2 ^ (k - 64):Nat):Int):=by unfold hi;simp
        have c2:lo n % ((2 ^ 64:Nat):Int)=((n % 18446744073709551616:Nat):Int):=by unfold lo;omega
        rw [c1,c2];omega
      · have g':k≤64:=by omega
        have p64:=p2lt64 (show k<64 by omega);have e1:hi (2 ^ k - 1)=((2 ^ 0 - 1:Nat):Int):=by generalize 2 ^ k=q at *;unfold hi;omega
        have e2:lo (2 ^ k - 1)=((2 ^ k - 1:Nat):Int):=by generalize 2 ^ k=q at *;unfold lo;omega
        rw [e1,e2,and_mask a0 a1 (by omega),and_mask b0 b1 g', ← mod_low g'];have hm:=Int.emod_nonneg (lo n) (show ((2 ^ k:Nat):Int)≠0 by omega);have hl:=Int.emod_lt_of_pos (lo n) (show (0:Int)<((2 ^ k:Nat):Int) by omega);rw [or_zero (by omega) (by omega) hm (by omega)];have c2:lo n % ((2 ^ k:Nat):Int)=((n % 18446744073709551616 % 2 ^ k:Nat):Int):=by unfold lo;simp
        rw [c2];omega
    by_cases z:n % 2 ^ (Wn six - len.toNat)=0;·rw [if_pos (show okP six n len from ⟨by omega,by omega,h2,z⟩)];exact Ev.pos (key.2 z) (Ev.now _)
    ·rw [if_neg (fun h:okP six n len=>z h.2.2.2)];exact Ev.neg (fun h=>z (key.1 h)) (Ev.now _)
  ·rw [decide_eq_false h2];exact bad (fun h=>h2 h.2.2.1)
end Go.Proofs.Ythkdfojmhloofaa.Addr
end
section
namespace Go.Proofs.Ythkdfojmhloofaa.Num
set_option linter.unusedVariables false
open Go.RowKit Go.Proofs.YthkdfojmhloofaaW.PrintWords Go.Proofs.YthkdfojmhloofaaW.PrintLast Go.Proofs.YthkdfojmhloofaaW.PrintMore Go.Proofs.Ythkdfojmhloofaa.Base Go.Proofs.Ythkdfojmhloofaa.Q
theorem add_ev: ∀ (n:Nat) (xs:List Int),xs.length+(putL n).length≤140737488355328→Ev (fun k=>num_Add.l0 k xs (n:Int)) (xs++putL n):=by
  intro n
  induction n using Nat.strongRecOn with
  |_ n ih=>
    intro xs hl;have hp:=putL_pos n;by_cases h:n<128
    · refine Ev.step (f:=fun _=>some (xs++ [(n:Int) % 256])) (fun k=>?_) ?_;·simp only[num_Add.l0];rw [if_neg (by omega),if_pos (by omega)]
      ·rw [putL_small h];exact Ev.const (by rw [Int.emod_eq_of_lt (by omega) (by omega)])
    · have e:=putL_great h;rw [e,List.length_cons]at hl;have:=ih (n / 128) (by omega) (xs++ [(n:Int) % 128+128]) (by simp;omega);refine Ev.step (f:=fun k=>num_Add.l0 k (xs++ [(n:Int) % 128+128]) ((n / 128:Nat):Int)) (fun k=>?_) ?_
      · simp only[num_Add.l0];rw [if_pos (by omega),if_pos (by omega),or128 (by omega) (by omega)];have e1:(n:Int) % 256 % 128=(n:Int) % 128:=by omega
        have e2:((n / 128:Nat):Int)=(n:Int) / 128:=by omega
        rw [e1,e2]
      · rw [e]
        simpa using this
def getR (x:Int × List Int × Int):Int × ByteArray × Int:=(x.1,strOfNums x.2.1,x.2.2)
theorem p128 {i:Nat} (h:i≤9):(0:Int)<128 ^ i∧(128:Int) ^ i≤9223372036854775808∧(2:Int) ^ (7 * i)=128 ^ i∧(i≤8→(128:Int) ^ i≤72057594037927936):=by
  have:i=0∨i=1∨i=2∨i=3∨i=4∨i=5∨i=6∨i=7∨i=8∨i=9:=by omega
  rcases this with rfl|rfl|rfl|rfl|rfl|rfl|rfl|rfl|rfl|rfl <;> decide
theorem shl7 {c:Int}{i:Nat} (h0:0≤c) (h1:c<128) (hi:i≤9) (h9:i=9→c≤1):shl .u64 (IntKind.u64.wrap c) (wrap64 (7 * (i:Int)))=c * 128 ^ i∧c * 128 ^ i+128 ^ i≤18446744073709551616:=by
  have:i=0∨i=1∨i=2∨i=3∨i=4∨i=5∨i=6∨i=7∨i=8∨i=9:=by omega
  rw [u64w h0 (by omega)];rcases this with rfl|rfl|rfl|rfl|rfl|rfl|rfl|rfl|rfl|rfl <;> simp [shl,wrap64,u64m,IntKind.bits] <;> omega
theorem get_ev (s : ByteArray) (hs : s.size ≤ 281474976710656) : ∀ (l : List Int) (i : Nat) (n : Int), (bytesOf s).drop i = l → i ≤ 9 → 0 ≤ n → n < 128 ^ i → Ev (fun k => num_Get.l0 k s n (mn (s.size : Int) 10) (i : Int)) (getR (getL i n l)) := by
  intro l
  induction l with
  | nil =>
    intro i n hd hi h0 h1
    have hle := drop_nil_le hd
    rw [bytesOf_length] at hle
    refine Ev.step (f := fun _ => some (0, (⟨#[]⟩ : ByteArray), 5)) (fun k => ?_) (Ev.now _)
    simp only [num_Get.l0]
    rw [if_neg (by unfold mn; split <;> omega)]
  | cons b l ih =>
    intro i n hd hi h0 h1
    have hlt := drop_lt hd
    rw [bytesOf_length] at hlt
    have hb : bt s (i : Int) = b := by rw [← rd_bytesOf]; exact rd_drop hd
    have hbb : Bytes (b :: l) := by rw [← hd]; exact (bytesOf_bytes s).drop i
    obtain ⟨b0, b1⟩ := hbb.head
    have hnext := drop_next hd
    have hrest : s.extract (i + 1) s.size = strOfNums l := by rw [str_from, hnext]
    obtain ⟨p0, p1, p2, p3⟩ := p128 hi
    have hmn : (i : Int) < mn (s.size : Int) 10 := by unfold mn; split <;> omega
    have hw : 0 ≤ wrap64 (7 * (i : Int)) := by rw [w64 (by omega) (by omega)]; omega
    have hw1 : wrap64 ((i : Int) + 1) = ((i + 1 : Nat) : Int) := by rw [w64 (by omega) (by omega)]; omega
    simp only [getL]
    -- the head of the loop
    have head : ∀ (q : Bool) (x : Int), (i = 9 → q = decide (b > 1)) → (i ≠ 9 → q = false) → Go.bits .or .u64 n (shl .u64 (IntKind.u64.wrap (Go.bits .andNot .u8 b 128)) (wrap64 (7 * (i : Int)))) = x → ∀ k, num_Get.l0 (k + 1) s n (mn (s.size : Int) 10) (i : Int) = num_Get.j1 k s x (i : Int) b (mn (s.size : Int) 10) (i : Int) q := by
      intro q x q1 q2 hx k
      simp only [num_Get.l0]
      rw [if_pos hmn, if_pos (by omega), if_pos (by omega), if_pos hw, hb, hx]
      by_cases h9 : i = 9
      · rw [if_pos (by omega), q1 h9]
      · rw [if_neg (by omega), q2 h9]
    rw [andNot128 b0 b1] at head
    by_cases h1' : i = 9 ∧ b > 1
    · rw [if_pos h1']
      refine Ev.step (fun k => head true _ (fun _ => by simp [h1'.2]) (fun h => absurd h1'.1 h) rfl k) ?_
      refine Ev.step (f := fun k => num_Get.j2 k s _ (i : Int) b (mn (s.size : Int) 10) (i : Int) true) (fun k => by simp only [num_Get.j1]; rw [if_pos trivial]) ?_
      exact Ev.step (f := fun _ => some (0, (⟨#[]⟩ : ByteArray), 7)) (fun k => by simp only [num_Get.j2]; rw [if_pos trivial]) (Ev.now _)
    rw [if_neg h1']
    have hc := shl7 (c := b % 128) (i := i) (by omega) (by omega) hi (fun h => by omega)
    have hor : Go.bits .or .u64 n (shl .u64 (IntKind.u64.wrap (b % 128)) (wrap64 (7 * (i : Int)))) = n + b % 128 * 128 ^ i := by
      have hn : 0 ≤ b % 128 * 128 ^ i := Int.mul_nonneg (by omega) (by omega)
      rw [hc.1, bits_or_comm, or_join (7 * i) hn (by rw [p2]; exact Int.mul_emod_left _ _) (by omega) h0 (by rw [p2]; exact h1) (by omega), Int.add_comm]
    have hd1 := head false _ (fun h => by symm; simp; omega) (fun _ => rfl) hor
    by_cases h2 : b ≥ 128
    · rw [if_pos h2]
      have hi8 : i ≤ 8 := by omega
      refine Ev.step hd1 ?_
      refine Ev.step (f := fun k => num_Get.j2 k s (n + b % 128 * 128 ^ i) (i : Int) b (mn (s.size : Int) 10) (i : Int) false) (fun k => by simp only [num_Get.j1]; rw [if_neg (by simp), if_neg (by omega)]) ?_
      refine Ev.step (f := fun k => num_Get.l0 k s (n + b % 128 * 128 ^ i) (mn (s.size : Int) 10) ((i + 1 : Nat) : Int)) (fun k => by simp only [num_Get.j2]; rw [if_neg (by simp), if_neg (by omega), hw1]) ?_
      have hn : 0 ≤ b % 128 * 128 ^ i := Int.mul_nonneg (by omega) (by omega)
      refine ih (i + 1) _ hnext (by omega) (by omega) ?_
      rw [Int.pow_succ]
      have : b % 128 * 128 ^ i ≤ 127 * 128 ^ i := Int.mul_le_mul_of_nonneg_right (by omega) (by omega)
      omega
    rw [if_neg h2]
    refine Ev.step hd1 ?_
    have hm : b % 128 = b := by omega
    rw [hm]
    by_cases h3 : b = 0 ∧ 0 < i
    · rw [if_pos h3]
      refine Ev.step (f := fun k => num_Get.j2 k s (n + b * 128 ^ i) (i : Int) b (mn (s.size : Int) 10) (i : Int) true) (fun k => by simp only [num_Get.j1]; rw [if_neg (by simp), if_pos h3.1, decide_eq_true (by omega)]) ?_
      exact Ev.step (f := fun _ => some (0, (⟨#[]⟩ : ByteArray), 7)) (fun k => by simp only [num_Get.j2]; rw [if_pos trivial]) (Ev.now _)
    · rw [if_neg h3]
      refine Ev.step (f := fun k => num_Get.j2 k s (n + b * 128 ^ i) (i : Int) b (mn (s.size : Int) 10) (i : Int) false) (fun k => by
        simp only [num_Get.j1]
        rw [if_neg (by simp)]
        by_cases hb0 : b = 0
        · rw [if_pos hb0, decide_eq_false (by omega)]
        · rw [if_neg hb0]) ?_
      refine Ev.step (f := fun _ => some (n + b * 128 ^ i, strOfNums l, 0)) (fun k => ?_) (Ev.now _)
      simp only [num_Get.j2]
      rw [if_neg (by simp), if_pos (by omega), hw1, if_pos (by omega), if_pos (by omega), Int.toNat_natCast, hrest]
theorem get_ev0 (s:ByteArray) (hs:s.size≤281474976710656):Ev (fun k=>num_Get.f k s) (getR (getL 0 0 (bytesOf s))):=by
  have:=get_ev s hs (bytesOf s) 0 0 rfl (by omega) (by omega) (by simp)
  simpa [num_Get.f] using this
theorem getL_val {l:List Int} (hb:Bytes l):0≤(getL 0 0 l).1∧(getL 0 0 l).1<18446744073709551616:=by
  rcases getL_err l 0 0 with h|⟨_,h,_⟩
  ·obtain⟨m,hv,_,hm⟩:=getL_back0 (l:=l) (v:=(getL 0 0 l).1) (r:=(getL 0 0 l).2.1) hb (Prod.ext rfl (Prod.ext rfl h));omega
  · rw [h];omega
theorem reader_ev (s:ByteArray) (hs:s.size≤281474976710656):Ev (fun k=>num_Reader_Num.f k s 0) (getR (getL 0 0 (bytesOf s))):=by
  simp only[num_Reader_Num.f];exact Ev.pos trivial (Ev.bind (get_ev0 s hs) (Ev.now _))
end Go.Proofs.Ythkdfojmhloofaa.Num
end
section
namespace Go.Proofs.Ythkdfojmhloofaa.Msg
set_option linter.unusedVariables false
open Go.RowKit Go.Proofs.YthkdfojmhloofaaW.PrintWords Go.Proofs.YthkdfojmhloofaaW.PrintLast Go.Proofs.YthkdfojmhloofaaW.PrintMore Go.Proofs.Ythkdfojmhloofaa.Base Go.Proofs.Ythkdfojmhloofaa.Num Go.Proofs.Ythkdfojmhloofaa.Addr Go.Proofs.Ythkdfojmhloofaa.Be Go.Proofs.Ythkdfojmhloofaa.Q
theorem id_is (a:Int):msg_id.f a=some (decide (0≤a∧a≤1048576)):=by
  unfold msg_id.f;by_cases h:a ≥ 0
  · rw [if_pos h];congr 1;simp [h]
  · rw [if_neg h];congr 1;simp;omega
theorem iface_is (a:Int):msg_iface.f a=some (decide (0≤a∧a≤65536)):=by
  unfold msg_iface.f;by_cases h:a ≥ 0
  · rw [if_pos h];congr 1;simp [h]
  · rw [if_neg h];congr 1;simp;omega
theorem acts_is (k i:Int):msg_acts.f k i=some (decide (okA k i)):=by
  unfold msg_acts.f;rw [iface_is];by_cases h1:k=1
  · rw [if_pos h1];simp only[Option.bind_some]
    congr 1
    apply decide_eq_decide.2;unfold okA;omega
  rw [if_neg h1];by_cases h2:k=2
  · rw [if_pos h2]
    congr 1
    rw [Bool.eq_iff_iff];simp only[beq_iff_eq,decide_eq_true_eq];unfold okA;omega
  rw [if_neg h2];by_cases h3:k=3
  · rw [if_pos h3]
    congr 1
    rw [Bool.eq_iff_iff];simp only[beq_iff_eq,decide_eq_true_eq];unfold okA;omega
  rw [if_neg h3]
  congr 1
  rw [Bool.eq_iff_iff];simp only[decide_eq_true_eq];unfold okA;constructor
  · intro h;cases h
  · omega
theorem fin {B:Bool}{P:Prop} [Decidable P] (h:B=true↔ ¬ P):(if B=true then some (2:Int) else some 0)=some (if P then 0 else 2):=by
  by_cases p:P
  · rw [if_neg (by rw [h];simpa using p),if_pos p]
  · rw [if_pos (by rw [h];exact p),if_neg p]
theorem hilo0 {n:Nat}:(hi n=0∧lo n=0)↔n=0:=by unfold hi lo;omega
def okN (e:E11):Prop:=0≤e.ro∧e.ro≤1048576∧1≤e.sq∧e.sq≤1099511627776∧0≤e.ti∧e.ti≤1099511627776
instance (e:E11):Decidable (okN e):=by unfold okN;exact inferInstance
theorem j0_bad (a b c d:Int) (s:Bool) (x1 x2 x3 x4 x5 x6 x7:Int):Ev (fun k=>msg_Check.j0 k true a b c d s x1 x2 x3 x4 x5 x6 x7) 2:=by
  refine Ev.succ ?_;simp only[msg_Check.j0];exact Ev.pos trivial (Ev.now _)
theorem j1_ev (e:E11) (hn:e.n<340282366920938463463374607431768211456) (hN:okN e) (b:Bool) (hb:b=true↔e.kd=1∨e.kd=2):
    Ev (fun k=>msg_Check.j1 k true e.kd b e.kd e.ro e.sq e.ti e.six (hi e.n) (lo e.n) e.ln e.ak e.ai e.ifc e.pe 0 0 0 0 e.six (hi e.n) (lo e.n) e.ln e.ak e.ai e.ifc e.pe) (if okE e then 0 else 2):=by
  have h0:= @hilo0 e.n
  have hoe : okE e ↔ ((e.kd = 1 ∨ e.kd = 2) ∧ noP e ∧ noA e ∧ e.ifc = 0 ∧ e.pe = 0 ∨ e.kd = 3 ∧ okP e.six e.n e.ln ∧ okA e.ak e.ai ∧ e.ifc = 0 ∧ e.pe = 0 ∨ e.kd = 4 ∧ okP e.six e.n e.ln ∧ noA e ∧ e.ifc = 0 ∧ e.pe = 0 ∨
   e.kd = 5 ∧ noP e ∧ noA e ∧ (0 ≤ e.ifc ∧ e.ifc ≤ 65536) ∧ (0 ≤ e.pe ∧ e.pe ≤ 1048576) ∨ e.kd = 6 ∧ noP e ∧ noA e ∧ (0 ≤ e.ifc ∧ e.ifc ≤ 65536) ∧ e.pe = 0) := ⟨fun h => h.2, fun h => ⟨hN, h⟩⟩
  refine Ev.succ ?_;simp only[msg_Check.j1];by_cases c0:e.kd=1∨e.kd=2;·refine Ev.pos (hb.2 c0) (Ev.pos trivial (Ev.const (fin ?_)));rw [hoe];unfold noP noA;cases hsx:e.six <;> rcases c0 with c|c <;> simp [c] <;> omega
  refine Ev.neg (fun h=>c0 (hb.1 h)) ?_;by_cases c3:e.kd=3
  · refine Ev.pos c3 ?_;rw [acts_is];simp only[Option.bind_some];by_cases ca:okA e.ak e.ai
    · refine Ev.pos (decide_eq_true ca) (Ev.bind (check_ev e.six hn e.ln) ?_);by_cases cp:okP e.six e.n e.ln;·rw [if_pos cp];refine Ev.pos rfl (Ev.const (fin ?_));rw [hoe];simp [c3,cp,ca] <;> omega
      ·rw [if_neg cp];refine Ev.neg (by decide) (Ev.const ?_);rw [if_neg (by rw [hoe];simp [c3,cp])]
    ·refine Ev.neg (by simpa using ca) (Ev.const ?_);rw [if_neg (by rw [hoe];simp [c3,ca])]
  refine Ev.neg c3 ?_;by_cases c4:e.kd=4
  · refine Ev.pos c4 (Ev.pos trivial (Ev.bind (check_ev e.six hn e.ln) ?_));by_cases cp:okP e.six e.n e.ln;·rw [if_pos cp];refine Ev.pos rfl (Ev.const (fin ?_));rw [hoe];unfold noA;simp [c4,cp] <;> omega
    ·rw [if_neg cp];refine Ev.neg (by decide) (Ev.const ?_);rw [if_neg (by rw [hoe];simp [c4,cp])]
  refine Ev.neg c4 ?_;by_cases c5:e.kd=5
  · refine Ev.pos c5 ?_;rw [id_is,iface_is];simp only[Option.bind_some];by_cases ca:0≤e.pe∧e.pe≤1048576
    · refine Ev.pos (decide_eq_true ca) ?_;by_cases cb:0≤e.ifc∧e.ifc≤65536;·refine Ev.pos (decide_eq_true cb) (Ev.const (fin ?_));rw [hoe];unfold noP noA;cases hsx:e.six <;> simp [c5,ca,cb] <;> omega
      ·refine Ev.neg (by simpa using cb) (Ev.const ?_);rw [if_neg (by rw [hoe];omega)]
    ·refine Ev.neg (by simpa using ca) (Ev.const ?_);rw [if_neg (by rw [hoe];omega)]
  refine Ev.neg c5 ?_;by_cases c6:e.kd=6
  · refine Ev.pos c6 (Ev.pos trivial ?_);rw [iface_is];simp only[Option.bind_some];by_cases cb:0≤e.ifc∧e.ifc≤65536;·refine Ev.pos (decide_eq_true cb) (Ev.const (fin ?_));rw [hoe];unfold noP noA;cases hsx:e.six <;> simp [c6,cb] <;> omega
    ·refine Ev.neg (by simpa using cb) (Ev.const ?_);rw [if_neg (by rw [hoe];omega)]
  ·refine Ev.neg c6 (Ev.const ?_);rw [if_neg (by rw [hoe];omega)]
theorem echeck_ev (e:E11) (hn:e.n<340282366920938463463374607431768211456) (hs:0≤e.sq):Ev (fun k=>msg_Check.f k e.kd e.ro e.sq e.ti e.six (hi e.n) (lo e.n) e.ln e.ak e.ai e.ifc e.pe) (if okE e then 0 else 2):=by
  simp only[msg_Check.f];rw [id_is];simp only[Option.bind_some];by_cases h:okN e
  · obtain⟨h1,h2,h3,h4,h5,h6⟩:=h;refine Ev.pos (decide_eq_true ⟨h1,h2⟩) (Ev.neg (by omega) (Ev.neg (by omega) (Ev.neg (by omega) ?_)));rw [decide_eq_false (show ¬ e.ti > 1099511627776 by omega)];refine Ev.succ ?_;simp only[msg_Check.j0];refine Ev.neg (by decide) ?_;by_cases c:e.kd=1
    · exact Ev.pos c (j1_ev e hn ⟨h1,h2,h3,h4,h5,h6⟩ _ (by simp [c]))
    · exact Ev.neg c (j1_ev e hn ⟨h1,h2,h3,h4,h5,h6⟩ _ (by simp [c]))
  · rw [if_neg (fun g=>h g.1)];by_cases c1:0≤e.ro∧e.ro≤1048576
    · refine Ev.pos (decide_eq_true c1) ?_;by_cases c2:e.sq=0
      · exact Ev.pos c2 (j0_bad _ _ _ _ _ _ _ _ _ _ _ _)
      refine Ev.neg c2 ?_;by_cases c3:e.sq > 1099511627776
      · exact Ev.pos c3 (j0_bad _ _ _ _ _ _ _ _ _ _ _ _)
      refine Ev.neg c3 ?_;by_cases c4:e.ti<0
      · exact Ev.pos c4 (j0_bad _ _ _ _ _ _ _ _ _ _ _ _)
      refine Ev.neg c4 ?_;rw [decide_eq_true (show e.ti > 1099511627776 by unfold okN at h;omega)];exact j0_bad _ _ _ _ _ _ _ _ _ _ _ _
    · exact Ev.neg (by simpa using c1) (j0_bad _ _ _ _ _ _ _ _ _ _ _ _)
theorem byt8_be (n:Nat):byt8 (n:Int)=be 8 n:=by
  simp only[byt8,be,List.nil_append,List.cons_append];simp only[List.cons.injEq,and_true];omega
theorem word_six {n:Nat} (h:n<340282366920938463463374607431768211456):byt8 (hi n)++byt8 (lo n)=be 16 n:=by
  unfold hi lo;rw [byt8_be,byt8_be,show 16=8+8 from rfl,be_split 8 8 n]
  congr 1
  exact be_mod 8 _ _ (Nat.mod_mod _ _)
theorem word_four {n:Nat} (h:n<4294967296) {k:Nat} (hk:k≤4):(byt8 (lo n * 4294967296 % 18446744073709551616)++byt8 0).take k=(be 4 n).take k:=by
  have e:lo n * 4294967296 % 18446744073709551616=((n * 4294967296:Nat):Int):=by unfold lo;omega
  rw [e,byt8_be,show 8=4+4 from rfl,be_split 4 4,List.append_assoc,List.take_append_of_le_length (by rw [be_len];omega)]
  congr 2
  omega
theorem prefix_is {six:Bool}{n:Nat}{len:Int} (xs:List Int) (h:okP six n len) (hx:xs.length<140737488355000):msg_prefix.f xs six (hi n) (lo n) len=some (xs++preL six n len):=by
  obtain⟨h0,h1,h2,h3⟩:=h;have hw:=Wn_le six;have hl:=lo_range n;have hn:=Nat.lt_of_lt_of_le h2 (wn_pow six);have hh:=hi_range hn;unfold msg_prefix.f;rw [if_pos ⟨h0,by omega,hh.1,by omega,hl.1,by omega,hx⟩]
  congr 2
  unfold preL pre_word;have hk:=kn_le h1;cases six with
  |true=>
    rw [if_pos rfl,if_pos rfl,word_six hn];rfl
  |false=>
    rw [if_neg (by decide),if_neg (by decide),word_four (wn_four.1 h2) (show (len.toNat+7) / 8≤4 from hk)];rfl
theorem add_is {n:Int} (xs:List Int) (h0:0≤n) (h1:n<18446744073709551616) (hx:xs.length≤140737488355000):Ev (fun k=>num_Add.f k xs (IntKind.u64.wrap n)) (xs++putL n.toNat):=by
  rw [u64w h0 h1,show n=((n.toNat:Nat):Int) by omega];simp only[num_Add.f,Int.toNat_natCast];have:=putL_len (n:=n.toNat) (by omega);exact add_ev _ _ (by omega)
theorem add_is' {n:Int} (xs:List Int) (h0:0≤n) (h1:n<18446744073709551616) (hx:xs.length≤140737488355000):Ev (fun k=>num_Add.f k xs n) (xs++putL n.toNat):=by
  have:=add_is xs h0 h1 hx
  rwa [u64w h0 h1]at this
theorem action_ev {k i:Int} (xs:List Int) (h:okA k i) (hx:xs.length≤140737488354000):Ev (fun q=>msg_action.f q xs k i) (xs++actL k i):=by
  simp only[msg_action.f];refine Ev.pos (by omega) (Ev.bind (Ev.now _) ?_);unfold actL;rcases okA_act h with ⟨rfl,h0,h1⟩|⟨h1,h2,rfl⟩
  ·refine Ev.pos rfl (Ev.bind (add_is _ h0 (by omega) (by simp;omega)) ?_);rw [if_pos rfl,List.append_assoc];exact Ev.now _
  ·refine Ev.neg h1 ?_;rw [if_neg h1];exact Ev.now _
theorem put_ev (e:E11) (hn:e.n<340282366920938463463374607431768211456) (hs:0≤e.sq):Ev (fun k=>msg_Put.f k e.kd e.ro e.sq e.ti e.six (hi e.n) (lo e.n) e.ln e.ak e.ai e.ifc e.pe) (if okE e then (strOfNums (bodyL e),0) else ((⟨#[]⟩:ByteArray),2)):=by
  simp only[msg_Put.f];refine Ev.bind (echeck_ev e hn hs) ?_;by_cases h:okE e
  · rw [if_pos h,if_pos h];obtain⟨⟨h1,h2,h3,h4,h5,h6⟩,h7⟩:=h;have g1:=putL_len (n:=e.ro.toNat) (by omega);have g2:=putL_len (n:=e.sq.toNat) (by omega);have g3:=putL_len (n:=e.ti.toNat) (by omega);refine Ev.pos rfl (Ev.bind (add_is _ h1 (by omega) (by simp)) (Ev.bind (add_is' _ (by omega) (by omega) (by simp;omega)) (Ev.bind (add_is _ h5 (by omega) (by simp;omega)) ?_)));have hl:([e.kd]++putL e.ro.toNat++putL e.sq.toNat++putL e.ti.toNat).length≤31:=by simp;omega
    have hb:bodyL e= [e.kd]++putL e.ro.toNat++putL e.sq.toNat++putL e.ti.toNat++endL e:=by unfold bodyL;simp
    rw [hb];generalize [e.kd]++putL e.ro.toNat++putL e.sq.toNat++putL e.ti.toNat=L at hl ⊢;unfold endL;rcases h7 with ⟨hk,_⟩|⟨hk,hp,ha,_⟩|⟨hk,hp,_⟩|⟨hk,_,_,hi,hp⟩|⟨hk,_,_,hi,_⟩
    ·rw [if_neg (by omega),if_neg (by omega),if_neg (by omega),if_neg (by omega),List.append_nil];exact Ev.neg (by omega) (Ev.neg (by omega) (Ev.neg (by omega) (Ev.neg (by omega) (Ev.now _))))
    ·rw [if_pos hk];refine Ev.pos hk ?_;rw [prefix_is L hp (by omega)];simp only[Option.bind_some];have:=preL_len hp;refine Ev.bind (action_ev _ ha (by rw [List.length_append];omega)) ?_;rw [List.append_assoc];exact Ev.now _
    ·rw [if_neg (by omega),if_pos hk];refine Ev.neg (by omega) (Ev.pos hk ?_);rw [prefix_is L hp (by omega)];exact Ev.now _
    ·rw [if_neg (by omega),if_neg (by omega),if_pos hk];have:=putL_len (n:=e.ifc.toNat) (by omega);refine Ev.neg (by omega) (Ev.neg (by omega) (Ev.pos hk (Ev.bind (add_is _ hi.1 (by omega) (by omega)) (Ev.bind (add_is _ hp.1 (by omega) (by rw [List.length_append];omega)) ?_))));rw [List.append_assoc];exact Ev.now _
    ·rw [if_neg (by omega),if_neg (by omega),if_neg (by omega),if_pos hk];exact Ev.neg (by omega) (Ev.neg (by omega) (Ev.neg (by omega) (Ev.pos hk (Ev.bind (add_is _ hi.1 (by omega) (by omega)) (Ev.now _)))))
  ·rw [if_neg h,if_neg h];exact Ev.neg (by decide) (Ev.now _)
end Go.Proofs.Ythkdfojmhloofaa.Msg
end
section
namespace Go.Proofs.Ythkdfojmhloofaa.Msg
set_option linter.unusedVariables false
open Go.RowKit Go.Proofs.YthkdfojmhloofaaW.PrintWords Go.Proofs.YthkdfojmhloofaaW.PrintLast Go.Proofs.YthkdfojmhloofaaW.PrintMore Go.Proofs.Ythkdfojmhloofaa.Base Go.Proofs.Ythkdfojmhloofaa.Num Go.Proofs.Ythkdfojmhloofaa.Addr Go.Proofs.Ythkdfojmhloofaa.Be Go.Proofs.Ythkdfojmhloofaa.Q
theorem bt_nat (s:ByteArray) (i:Nat):bt s (i:Int)=rd (bytesOf s) i:=(rd_bytesOf s i).symm
theorem take_rd (l:List Int) (o i:Nat) (h:o+i<l.length):(l.drop o).take (i+1)=(l.drop o).take i++ [rd l ((o+i:Nat):Int)]:=by
  have hi:i<(l.drop o).length:=by rw [List.length_drop];omega
  rw [List.take_succ_eq_append_getElem hi]
  congr 2
  simp only[rd,Int.toNat_natCast];rw [List.getD_eq_getElem?_getD,List.getElem?_eq_getElem h,List.getElem_drop];rfl
theorem wd_nb (s:ByteArray) (o:Nat): ∀ i,i≤8→o+i≤s.size→wd s o i=((nb (((bytesOf s).drop o).take i) * 256 ^ (8 - i):Nat):Int)
  |0,_,_=>by simp [wd,nb]
  |i+1,h,hs=>by
    have hl:(bytesOf s).length=s.size:=bytesOf_length s;have hr:=bt_range s ((o+i:Nat):Int);rw [wd,wd_nb s o i (by omega) (by omega),take_rd _ o i (by omega),nb_snoc,bt_nat];rw [bt_nat]at hr;generalize rd (bytesOf s) ((o+i:Nat):Int)=x at hr;generalize nb (((bytesOf s).drop o).take i)=N;obtain⟨m,rfl⟩: ∃ m:Nat,x=m:=⟨x.toNat,by omega⟩;rw [Int.toNat_natCast];have e1:(256:Nat) ^ (8 - i)=256 * 256 ^ (8 - (i+1)):=by rw [show 8 - i=(8 - (i+1))+1 by omega,Nat.pow_succ,Nat.mul_comm]
    have e2:(2:Int) ^ (56 - 8 * i)=((256 ^ (8 - (i+1)):Nat):Int):=by rw [p256,show 8 * (8 - (i+1))=56 - 8 * i by omega];exact (Int.natCast_pow 2 _).symm
    rw [e1,e2,Nat.add_mul];generalize 256 ^ (8 - (i+1))=E;rw [← Int.natCast_mul, ← Int.natCast_add, ← Nat.mul_assoc,Nat.mul_comm N 256]
def preS : Option (Pfx × List Int) → Bool × Int × Int × Int × ByteArray × Int
  | some ((six, n, len), r) => (six, hi n, lo n, len, strOfNums r, 0)
  | none => (false, 0, 0, 0, (⟨#[]⟩ : ByteArray), 7)
theorem rest_bytes {s:ByteArray}{a b:Int}{l:List Int} (h:bytesOf s=a :: b :: l):bytesOf (s.extract 2 s.size)=l:=by rw [bytes_from,h];rfl
theorem size_of_bytes {s:ByteArray}{l:List Int} (h:bytesOf s=l):s.size=l.length:=by rw [← h,bytesOf_length]
theorem bt01 {s:ByteArray}{a b:Int}{l:List Int} (h:bytesOf s=a :: b :: l):bt s 0=a∧bt s 1=b:=by
  constructor
  · rw [bt_of h];rfl
  · rw [bt_of h];rfl
theorem four_num {rest:ByteArray}{l:List Int} (hr:bytesOf rest=l) {len:Int} (h1:len≤32) (hk:Kn len≤l.length):(0:Int)=hi (preN false len l)∧wd rest 0 (Kn len) / 4294967296=lo (preN false len l):=by
  have hk4:Kn len≤4:=by unfold Kn;omega
  have hs:=size_of_bytes hr;have hb:Bytes l:=by rw [← hr];exact bytesOf_bytes rest
  have e:preN false len l=nb (l.take (Kn len)) * 256 ^ (4 - Kn len):=by unfold preN;rw [nb_append,nb_zeros,List.length_replicate];rfl
  have hlt:preN false len l<4294967296:=by have:=nb_lt (l.take (Kn len)++List.replicate (Bn false - Kn len) 0) ((hb.take _).append (bytes_zeros _));rw [List.length_append,List.length_take,List.length_replicate]at this;rw [show min (Kn len) l.length+(Bn false - Kn len)=4 by have:Bn false=4:=rfl;omega]at this;exact this
  rw [wd_nb rest 0 (Kn len) (by omega) (by omega),hr,List.drop_zero];have e2:nb (l.take (Kn len)) * 256 ^ (8 - Kn len)=preN false len l * 4294967296:=by rw [e,show 8 - Kn len=(4 - Kn len)+4 by omega,Nat.pow_add,Nat.mul_assoc]
  rw [e2];unfold hi lo;omega
theorem six_num {rest:ByteArray}{l:List Int} (hr:bytesOf rest=l) {len:Int} (h1:len≤128) (hk:Kn len≤l.length):wd rest 0 (min 8 (Kn len))=hi (preN true len l)∧wd rest 8 (Kn len - 8)=lo (preN true len l):=by
  have hk4:Kn len≤16:=by unfold Kn;omega
  have hs:=size_of_bytes hr;have hb:Bytes l:=by rw [← hr];exact bytesOf_bytes rest
  have e:preN true len l=nb (l.take (Kn len)) * 256 ^ (16 - Kn len):=by unfold preN;rw [nb_append,nb_zeros,List.length_replicate];rfl
  rw [wd_nb rest 0 _ (by omega) (by omega)];by_cases h8:Kn len≤8
  · have e2:nb (l.take (Kn len)) * 256 ^ (16 - Kn len)=nb (l.take (Kn len)) * 256 ^ (8 - Kn len) * 18446744073709551616:=by rw [show 16 - Kn len=(8 - Kn len)+8 by omega,Nat.pow_add, ← Nat.mul_assoc]
    rw [Nat.min_eq_right h8,show Kn len - 8=0 by omega,hr,List.drop_zero];unfold hi lo;rw [e,e2];constructor
    · rw [Nat.mul_div_cancel _ (by decide)]
    · rw [Nat.mul_mod_left];rfl
  · rw [Nat.min_eq_left (by omega),wd_nb rest 8 _ (by omega) (by omega),hr,List.drop_zero];have e3:l.take (Kn len)=l.take 8++(l.drop 8).take (Kn len - 8):=by rw [← List.take_append_drop 8 (l.take (Kn len)),List.take_take,List.drop_take,Nat.min_eq_left (by omega)]
    have hlen:((l.drop 8).take (Kn len - 8)).length=Kn len - 8:=by rw [List.length_take,List.length_drop];omega
    have hlt:=nb_lt ((l.drop 8).take (Kn len - 8)) ((hb.drop 8).take _);rw [hlen]at hlt;have e4:preN true len l=nb (l.take 8) * 18446744073709551616+nb ((l.drop 8).take (Kn len - 8)) * 256 ^ (8 - (Kn len - 8)):=by rw [e,e3,nb_append,hlen,Nat.add_mul,Nat.mul_assoc, ← Nat.pow_add,show Kn len - 8+(16 - Kn len)=8 by omega,show 16 - Kn len=8 - (Kn len - 8) by omega]
    have hlt2:nb ((l.drop 8).take (Kn len - 8)) * 256 ^ (8 - (Kn len - 8))<18446744073709551616:=by have h:=Nat.mul_lt_mul_of_pos_right hlt (Nat.pow_pos (n:=8 - (Kn len - 8)) (show 0<256 by decide));rw [← Nat.pow_add,show Kn len - 8+(8 - (Kn len - 8))=8 by omega]at h;exact h
    unfold hi lo;rw [e4];generalize nb ((l.drop 8).take (Kn len - 8)) * 256 ^ (8 - (Kn len - 8))=B at hlt2 ⊢;simp only[Nat.sub_self,Nat.pow_zero,Nat.mul_one];constructor <;> omega
theorem preN_lt {six:Bool}{len:Int}{l:List Int} (hb:Bytes l) (h1:len≤Wn six) (hk:Kn len≤l.length):preN six len l<340282366920938463463374607431768211456:=by
  have:=nb_lt (l.take (Kn len)++List.replicate (Bn six - Kn len) 0) ((hb.take _).append (bytes_zeros _));have hkk:=kn_le h1;rw [List.length_append,List.length_take,List.length_replicate,show min (Kn len) l.length+(Bn six - Kn len)=Bn six by omega]at this;refine Nat.lt_of_lt_of_le this ?_;rw [p256, ← bn_wn];exact wn_pow six
theorem pfxof_ev {six:Bool}{n:Nat} (hn:n<340282366920938463463374607431768211456) (len:Int) (r:ByteArray):Ev (fun k=>pfx_of k six (hi n) (lo n) len r) (if okP six n len then (six,hi n,lo n,len,r,0) else (false,0,0,0,(⟨#[]⟩:ByteArray),7)):=by
  simp only[pfx_of];refine Ev.bind (check_ev six hn len) ?_;by_cases h:okP six n len
  · rw [if_pos h,if_pos h];exact Ev.pos rfl (Ev.now _)
  · rw [if_neg h,if_neg h];exact Ev.neg (by decide) (Ev.const rfl)
theorem getprefix_ev (s:ByteArray):Ev (fun k=>msg_GetPrefix.f k s) (preS (getP (bytesOf s))):=by
  simp only[msg_GetPrefix.f]
  match hl:bytesOf s with
  | []=>
    have:=size_of_bytes hl;simp only[List.length_nil]at this;exact Ev.pos (by omega) (Ev.const rfl)
  | [a]=>
    have:=size_of_bytes hl;simp only[List.length_cons,List.length_nil]at this;exact Ev.pos (by omega) (Ev.const rfl)
  |a :: b :: l=>
    have hs:=size_of_bytes hl;simp only[List.length_cons]at hs;have hb:Bytes (a :: b :: l):=by rw [← hl];exact bytesOf_bytes s
    have hr:=rest_bytes hl;have hrs:=size_of_bytes hr;obtain⟨b0,b1⟩:=bt01 hl;have hbb:=hb.tail.head;rw [b0,b1];refine Ev.neg (by omega) ?_;generalize s.extract 2 s.size=rest at hr hrs;have hkn:(b.toNat+7) / 8=Kn b:=rfl;have hrd:rest.extract (Kn b) rest.size=strOfNums (l.drop (Kn b)):=by rw [str_from,hr]
    rw [hkn,hrd];simp only[getP];have hkb:(Kn b:Int)=(b+7) / 8:=by unfold Kn;omega
    by_cases c4:a=4
    · refine Ev.pos c4 ?_;have e6:(a==6)=false:=by rw [c4];rfl
      rw [e6];by_cases c5:((rest.size:Nat):Int)<(b+7) / 8;·refine Ev.pos c5 (Ev.const ?_);rw [if_neg (fun h=>by have:=h.2.2.1;omega)];rfl
      refine Ev.neg c5 ?_;by_cases c6:b > 32;·refine Ev.pos c6 (Ev.const ?_);rw [if_neg (fun h=>by have:=h.2.1;have:Wn false=32:=rfl;omega)];rfl
      refine Ev.neg c6 ?_;obtain⟨f1,f2⟩:=four_num hr (by omega) (show Kn b≤l.length by omega);rw [f2];have hw:b≤Wn false:=by have:Wn false=32:=rfl;omega
      have h:=pfxof_ev (six:=false) (preN_lt hb.tail.tail hw (by omega)) b (strOfNums (l.drop (Kn b)));rw [← f1]at h;refine Ev.to h ?_;by_cases ok:okP false (preN false b l) b;·rw [if_pos ok,if_pos ⟨.inl c4,hw,by omega,ok⟩];simp only[preS, ← f1]
      · rw [if_neg ok,if_neg (fun h=>ok h.2.2.2)];rfl
    refine Ev.neg c4 ?_;by_cases c7:a=6
    · refine Ev.pos c7 ?_;have e6:(a==6)=true:=by rw [c7];rfl
      rw [e6];by_cases c5:((rest.size:Nat):Int)<(b+7) / 8;·refine Ev.pos c5 (Ev.const ?_);rw [if_neg (fun h=>by have:=h.2.2.1;omega)];rfl
      refine Ev.neg c5 ?_;by_cases c6:b > 128;·refine Ev.pos c6 (Ev.const ?_);rw [if_neg (fun h=>by have:=h.2.1;have:Wn true=128:=rfl;omega)];rfl
      refine Ev.neg c6 ?_;obtain⟨f1,f2⟩:=six_num hr (by omega) (show Kn b≤l.length by omega);rw [f1,f2];have hw:b≤Wn true:=by have:Wn true=128:=rfl;omega
      refine Ev.to (pfxof_ev (six:=true) (preN_lt hb.tail.tail hw (by omega)) b (strOfNums (l.drop (Kn b)))) ?_;by_cases ok:okP true (preN true b l) b
      · rw [if_pos ok,if_pos ⟨.inr c7,hw,by omega,ok⟩];rfl
      · rw [if_neg ok,if_neg (fun h=>ok h.2.2.2)];rfl
    ·refine Ev.neg c7 (Ev.const ?_);rw [if_neg (fun h=>by omega)];rfl
theorem reader_bad (s:ByteArray) {y:Int} (hy:y≠0):Ev (fun k=>num_Reader_Num.f k s y) (0,s,y):=by
  simp only[num_Reader_Num.f];exact Ev.neg hy (Ev.now _)
theorem many_ok {s:ByteArray} (hs:s.size≤281474976710656) {most v:Int}{r:List Int} (h0:0≤most) (h1:most≤9223372036854775807) (h:rdN most (bytesOf s)=some (v,r)):Ev (fun k=>num_Reader_Many.f k s 0 most) (v,strOfNums r,0):=by
  simp only[num_Reader_Many.f];have hb:=bytesOf_bytes s;obtain⟨a,b,c,d⟩:=rdN_back hb h;unfold rdN at h
  split at h
  · rename_i g
    simp only[Option.some.injEq,Prod.mk.injEq]at h;refine Ev.bind (reader_ev s hs) (Ev.neg ?_ (Ev.const ?_))
    · rw [u64w h0 (by omega)]
      show ¬ (getL 0 0 (bytesOf s)).1 > most
      omega
    · show some (wrap64 (getL 0 0 (bytesOf s)).1,strOfNums (getL 0 0 (bytesOf s)).2.1,(getL 0 0 (bytesOf s)).2.2)=_
      rw [h.1,h.2,g.1,w64 (by omega) (by omega)]
  · cases h
theorem many_bad {s:ByteArray} (hs:s.size≤281474976710656) {y most:Int} (h0:0≤most) (h1:most≤9223372036854775807) (h:y≠0∨y=0∧rdN most (bytesOf s)=none): ∃ v s' y',Ev (fun k=>num_Reader_Many.f k s y most) (v,s',y')∧y'≠0∧s'.size≤281474976710656:=by
  simp only[num_Reader_Many.f];rcases h with h|⟨rfl,h⟩
  ·refine⟨_,_,_,Ev.bind (reader_bad s h) (Ev.neg ?_ (Ev.now _)),h,hs⟩;rw [u64w h0 (by omega)];omega
  · have hlen:=getL_len (bytesOf s) 0 0;rw [bytesOf_length]at hlen;have hz:(strOfNums (getL 0 0 (bytesOf s)).2.1).size≤281474976710656:=by rw [strOfNums_size];omega
    have hv:=getL_val (bytesOf_bytes s);by_cases g:(getL 0 0 (bytesOf s)).1 > most;·refine⟨_,_,_,Ev.bind (reader_ev s hs) (Ev.pos ?_ (Ev.now _)),by decide,hz⟩;rw [u64w h0 (by omega)];exact g
    · refine⟨_,_,_,Ev.bind (reader_ev s hs) (Ev.neg ?_ (Ev.now _)),?_,hz⟩
      · rw [u64w h0 (by omega)];exact g
      · show (getL 0 0 (bytesOf s)).2.2≠0
        intro e;unfold rdN at h;rw [if_pos ⟨e,by omega⟩]at h;cases h
theorem u64_cases (s:ByteArray) (hs:s.size≤281474976710656) (y:Int):(∃ v r,y=0∧rdN 18446744073709551615 (bytesOf s)=some (v,r)∧Ev (fun k=>num_Reader_Num.f k s y) (v,strOfNums r,0))∨((y≠0∨rdN 18446744073709551615 (bytesOf s)=none)∧ ∃ v s' y',Ev (fun k=>num_Reader_Num.f k s y) (v,s',y')∧y'≠0∧s'.size≤281474976710656):=by
  by_cases hy:y=0
  · subst hy;have hlen:=getL_len (bytesOf s) 0 0;rw [bytesOf_length]at hlen;have hz:(strOfNums (getL 0 0 (bytesOf s)).2.1).size≤281474976710656:=by rw [strOfNums_size];omega
    have hv:=getL_val (bytesOf_bytes s);have hr:=reader_ev s hs;by_cases g:(getL 0 0 (bytesOf s)).2.2=0
    · refine .inl ⟨(getL 0 0 (bytesOf s)).1,(getL 0 0 (bytesOf s)).2.1,rfl,?_,?_⟩;·unfold rdN;rw [if_pos ⟨g,by omega⟩]
      ·refine Ev.to hr ?_;simp only[getR,g]
    ·refine .inr ⟨.inr ?_,_,_,_,hr,g,hz⟩;unfold rdN;rw [if_neg (fun h=>g h.1)]
  · exact .inr ⟨.inl hy,_,_,_,reader_bad s hy,hy,hs⟩
def actS : Option ((Int × Int) × List Int) → Int × Int × ByteArray × Int
  | some ((k, i), r) => (k, i, strOfNums r, 0)
  | none => (0, 0, (⟨#[]⟩ : ByteArray), 7)
theorem nil_iff (s:ByteArray):s.toList=([]:List UInt8)↔bytesOf s= []:=by
  rw [Go.ByteArray.toList_eq];constructor
  · intro h;rw [← List.length_eq_zero_iff,bytesOf_length,ByteArray.size, ← Array.length_toList,h];rfl
  ·intro h;rw [← List.length_eq_zero_iff,Array.length_toList];have:=bytesOf_length s;rw [h]at this;exact this.symm
theorem rest1 {s:ByteArray}{a:Int}{l:List Int} (h:bytesOf s=a :: l):bytesOf (s.extract 1 s.size)=l:=by rw [bytes_from,h];rfl
theorem bt0 {s:ByteArray}{a:Int}{l:List Int} (h:bytesOf s=a :: l):bt s 0=a:=by rw [bt_of h];rfl
theorem getaction_ev (s:ByteArray) (hs:s.size≤281474976710656):Ev (fun k=>msg_GetAction.f k s) (actS (getA (bytesOf s))):=by
  simp only[msg_GetAction.f]
  match hl:bytesOf s with
  | []=>exact Ev.pos ((nil_iff s).2 hl) (Ev.now _)
  |a :: l=>
    have hz:=size_of_bytes hl;simp only[List.length_cons]at hz;have hr:=rest1 hl;have hrs:=size_of_bytes hr;have hsr:s.extract 1 s.size=strOfNums l:=by rw [str_from,hl];rfl
    rw [bt0 hl];refine Ev.neg (fun h=>by rw [nil_iff,hl]at h;cases h) (Ev.pos (by omega) (Ev.pos (by omega) ?_));simp only[getA];by_cases c1:a=1
    · refine Ev.pos c1 ?_;rw [if_pos c1];cases hx:rdN 65536 l with
      |some x=>
        obtain⟨v,r⟩:=x;rw [← hr]at hx;refine Ev.bind (many_ok (by omega) (by omega) (by omega) hx) (Ev.pos rfl ?_);have hv:=rdN_back (bytesOf_bytes _) hx;rw [acts_is];simp only[Option.bind_some];rw [c1];exact Ev.pos (decide_eq_true (.inl ⟨rfl,hv.1,hv.2.1⟩)) (Ev.now _)
      |none=>
        rw [← hr]at hx;obtain⟨v,s',y',h,hy,_⟩:=many_bad (s:=s.extract 1 s.size) (by omega) (y:=0) (most:=65536) (by omega) (by omega) (.inr ⟨rfl,hx⟩);exact Ev.bind h (Ev.neg hy (Ev.now _))
    · refine Ev.neg c1 ?_;rw [if_neg c1,acts_is];simp only[Option.bind_some];by_cases c2:a=2∨a=3;·rw [if_pos c2,hsr];exact Ev.pos (decide_eq_true (.inr ⟨c2,rfl⟩)) (Ev.now _)
      ·rw [if_neg c2];refine Ev.neg ?_ (Ev.now _);simp only[decide_eq_true_eq];unfold okA;omega
theorem pre_bad (s:ByteArray) {y:Int} (hy:y≠0) (hs:s.size≤281474976710656): ∃ x1 x2 x3 x4,Ev (fun k=>api_Prefix.f k s y) (x1,x2,x3,x4,s,y):=by
  simp only[api_Prefix.f];refine⟨(preS (getP (bytesOf s))).1,(preS (getP (bytesOf s))).2.1,(preS (getP (bytesOf s))).2.2.1,(preS (getP (bytesOf s))).2.2.2.1,Ev.bind (getprefix_ev s) (Ev.const ?_)⟩;rw [if_neg hy,if_neg hy]
theorem act_bad (s:ByteArray) {y:Int} (hy:y≠0) (hs:s.size≤281474976710656): ∃ x1 x2,Ev (fun k=>api_Action.f k s y) (x1,x2,s,y):=by
  simp only[api_Action.f];refine⟨(actS (getA (bytesOf s))).1,(actS (getA (bytesOf s))).2.1,Ev.bind (getaction_ev s hs) (Ev.const ?_)⟩;rw [if_neg hy,if_neg hy]
theorem pre_cases (s:ByteArray) (hs:s.size≤281474976710656) (y:Int):(∃ six n ln r,y=0∧getP (bytesOf s)=some ((six,n,ln),r)∧Ev (fun k=>api_Prefix.f k s y) (six,hi n,lo n,ln,strOfNums r,0))∨((y≠0∨getP (bytesOf s)=none)∧ ∃ x1 x2 x3 x4 s' y',Ev (fun k=>api_Prefix.f k s y) (x1,x2,x3,x4,s',y')∧y'≠0∧s'.size≤281474976710656):=by
  by_cases hy:y=0
  · subst hy;have h:=getprefix_ev s;cases hx:getP (bytesOf s) with
    |some x=>
      obtain⟨⟨six,n,ln⟩,r⟩:=x;rw [hx]at h;refine .inl ⟨six,n,ln,r,rfl,rfl,?_⟩;simp only[api_Prefix.f];exact Ev.bind h (Ev.now _)
    |none=>
      rw [hx]at h;refine .inr ⟨.inr rfl,false,0,0,0,⟨#[]⟩,7,?_,by decide,by decide⟩;simp only[api_Prefix.f];exact Ev.bind h (Ev.const rfl)
  ·obtain⟨x1,x2,x3,x4,h⟩:=pre_bad s hy hs;exact .inr ⟨.inl hy,x1,x2,x3,x4,s,y,h,hy,hs⟩
theorem act_cases (s:ByteArray) (hs:s.size≤281474976710656) (y:Int):(∃ k i r,y=0∧getA (bytesOf s)=some ((k,i),r)∧Ev (fun q=>api_Action.f q s y) (k,i,strOfNums r,0))∨((y≠0∨getA (bytesOf s)=none)∧ ∃ x1 x2 s' y',Ev (fun q=>api_Action.f q s y) (x1,x2,s',y')∧y'≠0∧s'.size≤281474976710656):=by
  by_cases hy:y=0
  · subst hy;have h:=getaction_ev s hs;cases hx:getA (bytesOf s) with
    |some x=>
      obtain⟨⟨k,i⟩,r⟩:=x;rw [hx]at h;refine .inl ⟨k,i,r,rfl,rfl,?_⟩;simp only[api_Action.f];exact Ev.bind h (Ev.now _)
    |none=>
      rw [hx]at h;refine .inr ⟨.inr rfl,0,0,⟨#[]⟩,7,?_,by decide,by decide⟩;simp only[api_Action.f];exact Ev.bind h (Ev.const rfl)
  ·obtain⟨x1,x2,h⟩:=act_bad s hy hs;exact .inr ⟨.inl hy,x1,x2,s,y,h,hy,hs⟩
theorem many_cases (s:ByteArray) (hs:s.size≤281474976710656) (y:Int) {most:Int} (h0:0≤most) (h1:most≤9223372036854775807):(∃ v r,y=0∧rdN most (bytesOf s)=some (v,r)∧Ev (fun k=>num_Reader_Many.f k s y most) (v,strOfNums r,0))∨((y≠0∨rdN most (bytesOf s)=none)∧ ∃ v s' y',Ev (fun k=>num_Reader_Many.f k s y most) (v,s',y')∧y'≠0∧s'.size≤281474976710656):=by
  by_cases hy:y=0
  · subst hy;cases hx:rdN most (bytesOf s) with
    |some x=>obtain⟨v,r⟩:=x;exact .inl ⟨v,r,rfl,rfl,many_ok hs h0 h1 hx⟩
    |none=>exact .inr ⟨.inr rfl,many_bad hs h0 h1 (.inr ⟨rfl,hx⟩)⟩
  · exact .inr ⟨.inl hy,many_bad hs h0 h1 (.inl hy)⟩
def evS : Option E11 → Int × Int × Int × Int × Bool × Int × Int × Int × Int × Int × Int × Int × Int
  | some e => (e.kd, e.ro, e.sq, e.ti, e.six, hi e.n, lo e.n, e.ln, e.ak, e.ai, e.ifc, e.pe, 0)
  | none => (0, 0, 0, 0, false, 0, 0, 0, 0, 0, 0, 0, 7)
theorem gj0_bad (s:ByteArray) {y:Int} (hy:y≠0) (a b c d:Int) (x:Bool) (x1 x2 x3 x4 x5 x6 x7:Int):Ev (fun k=>msg_Get.j0 k s y a b c d x x1 x2 x3 x4 x5 x6 x7) (evS none):=by
  refine Ev.succ ?_;simp only[msg_Get.j0];refine Ev.neg hy (Ev.succ ?_);simp only[msg_Get.j1];exact Ev.pos trivial (Ev.now _)
theorem gj0_ok (r:List Int) (hr:Bytes r) (e:E11) (hn:e.n<340282366920938463463374607431768211456) (hs:0≤e.sq):Ev (fun k=>msg_Get.j0 k (strOfNums r) 0 e.kd e.ro e.sq e.ti e.six (hi e.n) (lo e.n) e.ln e.ak e.ai e.ifc e.pe) (evS (if r= []∧okE e then some e else none)):=by
  refine Ev.succ ?_;simp only[msg_Get.j0];refine Ev.pos trivial ?_;by_cases c:r= []
  · refine Ev.pos ((nil_iff _).2 (by rw [bytes_str hr];exact c)) ?_;have hc:=echeck_ev e hn hs;by_cases h:okE e;·rw [if_pos h]at hc;rw [if_pos ⟨c,h⟩];refine Ev.bind hc (Ev.succ ?_);simp only[msg_Get.j1];exact Ev.neg (by decide) (Ev.now _)
    ·rw [if_neg h]at hc;rw [if_neg (fun g=>h g.2)];refine Ev.bind hc (Ev.succ ?_);simp only[msg_Get.j1];exact Ev.pos (by decide) (Ev.now _)
  ·rw [if_neg (fun g=>c g.1)];refine Ev.neg (fun h=>c (by rw [nil_iff,bytes_str hr]at h;exact h)) (Ev.succ ?_);simp only[msg_Get.j1];exact Ev.pos trivial (Ev.now _)
end Go.Proofs.Ythkdfojmhloofaa.Msg
end
section
namespace Go.Proofs.Ythkdfojmhloofaa.Msg
set_option linter.unusedVariables false
open Go.RowKit Go.Proofs.YthkdfojmhloofaaW.PrintWords Go.Proofs.YthkdfojmhloofaaW.PrintLast Go.Proofs.YthkdfojmhloofaaW.PrintMore Go.Proofs.Ythkdfojmhloofaa.Base Go.Proofs.Ythkdfojmhloofaa.Num Go.Proofs.Ythkdfojmhloofaa.Addr Go.Proofs.Ythkdfojmhloofaa.Be Go.Proofs.Ythkdfojmhloofaa.Q
def tailG (k : Nat) (s : ByteArray) (y kd ro sq ti : Int) : Option (Int × Int × Int × Int × Bool × Int × Int × Int × Int × Int × Int × Int × Int) :=
  if kd = 3 then ((api_Prefix.f k s y).bind fun bt270 => ((api_Action.f k bt270.2.2.2.2.1 bt270.2.2.2.2.2).bind fun bt276 => (msg_Get.j0 k bt276.2.2.1 bt276.2.2.2 kd ro sq ti bt270.1 bt270.2.1 bt270.2.2.1 bt270.2.2.2.1 bt276.1 bt276.2.1 0 0)))
  else (if kd = 4 then ((api_Prefix.f k s y).bind fun bt280 => (msg_Get.j0 k bt280.2.2.2.2.1 bt280.2.2.2.2.2 kd ro sq ti bt280.1 bt280.2.1 bt280.2.2.1 bt280.2.2.2.1 0 0 0 0))
  else (if kd = 5 then ((num_Reader_Many.f k s y 65536).bind fun bt286 => ((num_Reader_Many.f k bt286.2.1 bt286.2.2 1048576).bind fun bt289 => (msg_Get.j0 k bt289.2.1 bt289.2.2 kd ro sq ti false 0 0 0 0 0 bt286.1 bt289.1)))
  else (if kd = 6 then ((num_Reader_Many.f k s y 65536).bind fun bt292 => (msg_Get.j0 k bt292.2.1 bt292.2.2 kd ro sq ti false 0 0 0 0 0 bt292.1 0))
  else (msg_Get.j0 k s y kd ro sq ti false 0 0 0 0 0 0 0))))
theorem tail_bad (s:ByteArray) (hs:s.size≤281474976710656) {y:Int} (hy:y≠0) (kd ro sq ti:Int):Ev (fun k=>tailG k s y kd ro sq ti) (evS none):=by
  simp only[tailG];by_cases c3:kd=3;·refine Ev.pos c3 ?_;obtain⟨x1,x2,x3,x4,h⟩:=pre_bad s hy hs;obtain⟨z1,z2,g⟩:=act_bad s hy hs;exact Ev.bind h (Ev.bind g (gj0_bad _ hy _ _ _ _ _ _ _ _ _ _ _ _))
  refine Ev.neg c3 ?_;by_cases c4:kd=4;·refine Ev.pos c4 ?_;obtain⟨x1,x2,x3,x4,h⟩:=pre_bad s hy hs;exact Ev.bind h (gj0_bad _ hy _ _ _ _ _ _ _ _ _ _ _ _)
  refine Ev.neg c4 ?_;by_cases c5:kd=5;·refine Ev.pos c5 ?_;obtain⟨v,s1,y1,h,hy1,hs1⟩:=many_bad hs (most:=65536) (by omega) (by omega) (.inl hy);obtain⟨v2,s2,y2,g,hy2,hs2⟩:=many_bad hs1 (most:=1048576) (by omega) (by omega) (.inl hy1);exact Ev.bind h (Ev.bind g (gj0_bad _ hy2 _ _ _ _ _ _ _ _ _ _ _ _))
  refine Ev.neg c5 ?_;by_cases c6:kd=6;·refine Ev.pos c6 ?_;obtain⟨v,s1,y1,h,hy1,hs1⟩:=many_bad hs (most:=65536) (by omega) (by omega) (.inl hy);exact Ev.bind h (gj0_bad _ hy1 _ _ _ _ _ _ _ _ _ _ _ _)
  · exact Ev.neg c6 (gj0_bad _ hy _ _ _ _ _ _ _ _ _ _ _ _)
theorem pfx_lt {l r : List Int} (hb : Bytes l) {six : Bool} {n : Nat} {ln : Int} (h : getP l = some ((six, n, ln), r)) : n < 340282366920938463463374607431768211456 :=
  Nat.lt_of_lt_of_le (getP_back hb h).1.2.2.1 (wn_pow six)
def endS (o:Option (E11 × List Int)):Option E11:=o.bind fun x=>if x.2= []∧okE x.1 then some x.1 else none
theorem tail_ok (l:List Int) (hb:Bytes l) (hs:l.length≤281474976710656) (kd ro sq ti:Int) (hq:0≤sq):Ev (fun k=>tailG k (strOfNums l) 0 kd ro sq ti) (evS (endS (getEnd kd ro sq ti l))):=by
  have hbl:bytesOf (strOfNums l)=l:=bytes_str hb;have hz:(strOfNums l).size≤281474976710656:=by rw [strOfNums_size];exact hs
  simp only[tailG];unfold getEnd;by_cases c3:kd=3
  · refine Ev.pos c3 ?_;rw [if_pos c3];rcases pre_cases (strOfNums l) hz 0 with ⟨six,n,ln,r,_,hp,h⟩|⟨hp,x1,x2,x3,x4,s',y',h,hy,hs'⟩
    · rw [hbl]at hp;have hr:Bytes r:=by have:=(getP_back hb hp).2;rw [this]at hb;exact hb.right
      have hrl:r.length≤281474976710656:=by have:=(getP_back hb hp).2;rw [this,List.length_append]at hs;omega
      have hbr:bytesOf (strOfNums r)=r:=bytes_str hr;rw [hp];simp only[Option.bind_some];refine Ev.bind h ?_;rcases act_cases (strOfNums r) (by rw [strOfNums_size];exact hrl) 0 with ⟨k,i,q,_,ha,g⟩|⟨ha,z1,z2,s'',y'',g,hy,hs''⟩
      · rw [hbr]at ha;rw [ha];refine Ev.bind g ?_;have hq':Bytes q:=by have:=(getA_back hr ha).2;rw [this]at hr;exact hr.right
        exact gj0_ok q hq' ⟨kd,ro,sq,ti,six,n,ln,k,i,0,0⟩ (pfx_lt hb hp) hq
      · rw [hbr]at ha;rcases ha with ha|ha
        · exact absurd rfl ha
        rw [ha];exact Ev.bind g (gj0_bad _ hy _ _ _ _ _ _ _ _ _ _ _ _)
    · rw [hbl]at hp;rcases hp with hp|hp
      · exact absurd rfl hp
      rw [hp];obtain⟨z1,z2,g⟩:=act_bad s' hy hs';exact Ev.bind h (Ev.bind g (gj0_bad _ hy _ _ _ _ _ _ _ _ _ _ _ _))
  refine Ev.neg c3 ?_;rw [if_neg c3];by_cases c4:kd=4
  · refine Ev.pos c4 ?_;rw [if_pos c4];rcases pre_cases (strOfNums l) hz 0 with ⟨six,n,ln,r,_,hp,h⟩|⟨hp,x1,x2,x3,x4,s',y',h,hy,hs'⟩
    · rw [hbl]at hp;have hr:Bytes r:=by have:=(getP_back hb hp).2;rw [this]at hb;exact hb.right
      rw [hp];refine Ev.bind h ?_;exact gj0_ok r hr ⟨kd,ro,sq,ti,six,n,ln,0,0,0,0⟩ (pfx_lt hb hp) hq
    · rw [hbl]at hp;rcases hp with hp|hp
      · exact absurd rfl hp
      rw [hp];exact Ev.bind h (gj0_bad _ hy _ _ _ _ _ _ _ _ _ _ _ _)
  refine Ev.neg c4 ?_;rw [if_neg c4];by_cases c5:kd=5
  · refine Ev.pos c5 ?_;rw [if_pos c5];rcases many_cases (strOfNums l) hz 0 (most:=65536) (by omega) (by omega) with ⟨v,r,_,hp,h⟩|⟨hp,v,s',y',h,hy,hs'⟩
    · rw [hbl]at hp;have hr:Bytes r:=by have:=(rdN_back hb hp).2.2.2;rw [this]at hb;exact hb.right
      have hrl:r.length≤281474976710656:=by have:=(rdN_back hb hp).2.2.2;rw [this,List.length_append]at hs;omega
      have hbr:bytesOf (strOfNums r)=r:=bytes_str hr;rw [hp];simp only[Option.bind_some];refine Ev.bind h ?_;rcases many_cases (strOfNums r) (by rw [strOfNums_size];exact hrl) 0 (most:=1048576) (by omega) (by omega) with ⟨w,q,_,ha,g⟩|⟨ha,w,s'',y'',g,hy,hs''⟩
      · rw [hbr]at ha;rw [ha];refine Ev.bind g ?_;have hq':Bytes q:=by have:=(rdN_back hr ha).2.2.2;rw [this]at hr;exact hr.right
        have z:=gj0_ok q hq' ⟨kd,ro,sq,ti,false,0,0,0,0,v,w⟩ (show (0:Nat)<_ by decide) hq;simp only[show hi 0=0 from rfl,show lo 0=0 from rfl]at z;exact z
      · rw [hbr]at ha;rcases ha with ha|ha
        · exact absurd rfl ha
        rw [ha];exact Ev.bind g (gj0_bad _ hy _ _ _ _ _ _ _ _ _ _ _ _)
    · rw [hbl]at hp;rcases hp with hp|hp
      · exact absurd rfl hp
      rw [hp];obtain⟨v2,s2,y2,g,hy2,hs2⟩:=many_bad hs' (most:=1048576) (by omega) (by omega) (.inl hy);exact Ev.bind h (Ev.bind g (gj0_bad _ hy2 _ _ _ _ _ _ _ _ _ _ _ _))
  refine Ev.neg c5 ?_;rw [if_neg c5];by_cases c6:kd=6
  · refine Ev.pos c6 ?_;rw [if_pos c6];rcases many_cases (strOfNums l) hz 0 (most:=65536) (by omega) (by omega) with ⟨v,r,_,hp,h⟩|⟨hp,v,s',y',h,hy,hs'⟩
    · rw [hbl]at hp;have hr:Bytes r:=by have:=(rdN_back hb hp).2.2.2;rw [this]at hb;exact hb.right
      rw [hp];refine Ev.bind h ?_;have z:=gj0_ok r hr ⟨kd,ro,sq,ti,false,0,0,0,0,v,0⟩ (show (0:Nat)<_ by decide) hq;simp only[show hi 0=0 from rfl,show lo 0=0 from rfl]at z;exact z
    · rw [hbl]at hp;rcases hp with hp|hp
      · exact absurd rfl hp
      rw [hp];exact Ev.bind h (gj0_bad _ hy _ _ _ _ _ _ _ _ _ _ _ _)
  ·refine Ev.neg c6 ?_;rw [if_neg c6];have z:=gj0_ok l hb (zE kd ro sq ti) (show (0:Nat)<_ by decide) hq;simp only[zE,show hi 0=0 from rfl,show lo 0=0 from rfl]at z;exact z
theorem rdN_le {big m v:Int}{l r:List Int} (hm:m≤big) (h:rdN big l=some (v,r)):rdN m l=if v≤m then some (v,r) else none:=by
  unfold rdN at h ⊢
  split at h
  · rename_i c
    simp only[Option.some.injEq,Prod.mk.injEq]at h;rw [h.1,h.2,c.1];by_cases g:v≤m
    · rw [if_pos ⟨rfl,g⟩,if_pos g]
    · rw [if_neg (fun x=>g x.2),if_neg g]
  · cases h
theorem rdN_none {big m:Int}{l:List Int} (hm:m≤big) (h:rdN big l=none):rdN m l=none:=by
  unfold rdN at h ⊢
  split at h
  · cases h
  · rename_i c
    rw [if_neg (fun x=>c ⟨x.1,by omega⟩)]
theorem end_none {kd ro sq ti:Int}{l:List Int} (hb:Bytes l) (h: ¬ (1≤sq∧sq≤1099511627776∧0≤ti∧ti≤1099511627776)):endS (getEnd kd ro sq ti l)=none:=by
  cases hx:getEnd kd ro sq ti l with
  |none=>rfl
  |some x=>
    obtain⟨e,r⟩:=x;obtain⟨_,_,h1,h2,_⟩:=getEnd_back hb hx;simp only[endS,Option.bind_some];rw [if_neg]
    rintro⟨_,hn,_⟩
    (try dsimp only at hn)
    rw [h1,h2]at hn;omega
theorem get_evn (s:ByteArray) (hs:s.size≤281474976710656):Ev (fun k=>msg_Get.f k s) (evS (getE (bytesOf s))):=by
  simp only[msg_Get.f]
  match hl:bytesOf s with
  | []=>exact Ev.pos ((nil_iff s).2 hl) (Ev.now _)
  |kd :: l=>
    have hz:=size_of_bytes hl;simp only[List.length_cons]at hz;have hb:Bytes (kd :: l):=by rw [← hl];exact bytesOf_bytes s
    have hr:=rest1 hl;have hsr:s.extract 1 s.size=strOfNums l:=by rw [str_from,hl];rfl
    rw [bt0 hl,hsr];refine Ev.neg (fun h=>by rw [nil_iff,hl]at h;cases h) (Ev.pos (by omega) (Ev.pos (by omega) ?_));simp only[getE];have hz1:(strOfNums l).size≤281474976710656:=by rw [strOfNums_size];omega
    have hbl:bytesOf (strOfNums l)=l:=bytes_str hb.tail;have u0: ∀ x:Int × ByteArray × Int, ∀ a b c:Int,Ev (fun k=>tailG k x.2.1 x.2.2 kd a b c) (evS none)→True:=fun _ _ _ _ _=>trivial
    rcases many_cases (strOfNums l) hz1 0 (most:=1048576) (by omega) (by omega) with ⟨ro,la,_,hp,h⟩|⟨hp,v,s1,y1,h,hy1,hs1⟩
    · rw [hbl]at hp;have e1:=(rdN_back hb.tail hp).2.2.2;have hba:Bytes la:=by have:=hb.tail;rw [e1]at this;exact this.right
      have hla:la.length≤281474976710656:=by have:=congrArg List.length e1;rw [List.length_append]at this;omega
      rw [hp];simp only[Option.bind_some];refine Ev.bind h ?_;rcases u64_cases (strOfNums la) (by rw [strOfNums_size];exact hla) 0 with ⟨sq,lb,_,hp2,h2⟩|⟨hp2,v2,s2,y2,h2,hy2,hs2⟩
      · rw [bytes_str hba]at hp2;have e2:=rdN_back hba hp2;have hbb:Bytes lb:=by have:=hba;rw [e2.2.2.2]at this;exact this.right
        have hlb:lb.length≤281474976710656:=by have:=congrArg List.length e2.2.2.2;rw [List.length_append]at this;omega
        rw [rdN_le (by omega) hp2];refine Ev.bind h2 ?_;rcases u64_cases (strOfNums lb) (by rw [strOfNums_size];exact hlb) 0 with ⟨ti,lc,_,hp3,h3⟩|⟨hp3,v3,s3,y3,h3,hy3,hs3⟩
        · rw [bytes_str hbb]at hp3;have e3:=rdN_back hbb hp3;have hbc:Bytes lc:=by have:=hbb;rw [e3.2.2.2]at this;exact this.right
          have hlc:lc.length≤281474976710656:=by have:=congrArg List.length e3.2.2.2;rw [List.length_append]at this;omega
          refine Ev.bind h3 ?_;refine Ev.to (tail_ok lc hbc hlc kd ro sq (wrap64 ti) e2.1) ?_;by_cases c1:sq≤1099511627776
          · rw [if_pos c1];simp only[Option.bind_some];rw [rdN_le (by omega) hp3];by_cases c2:ti≤1099511627776
            · rw [if_pos c2,w64 (by omega) (by omega)];rfl
            · rw [if_neg c2,end_none hbc]
              · rfl
              · intro g;have:wrap64 ti=ti∨wrap64 ti<0:=by unfold wrap64;omega
                omega
          · rw [if_neg c1,end_none hbc (by omega)];rfl
        · rcases hp3 with hp3|hp3
          · exact absurd rfl hp3
          rw [bytes_str hbb]at hp3;refine Ev.bind h3 (Ev.to (tail_bad s3 hs3 hy3 _ _ _ _) ?_);by_cases c1:sq≤1099511627776;·rw [if_pos c1];simp only[Option.bind_some];rw [rdN_none (by omega) hp3];rfl
          · rw [if_neg c1];rfl
      · rcases hp2 with hp2|hp2
        · exact absurd rfl hp2
        rw [bytes_str hba]at hp2;rw [rdN_none (by omega) hp2];refine Ev.bind h2 ?_;rcases u64_cases s2 hs2 y2 with ⟨_,_,hh,_⟩|⟨_,v3,s3,y3,h3,hy3,hs3⟩
        · exact absurd hh hy2
        · exact Ev.bind h3 (tail_bad s3 hs3 hy3 _ _ _ _)
    · rcases hp with hp|hp
      · exact absurd rfl hp
      rw [hbl]at hp;rw [hp];refine Ev.bind h ?_;rcases u64_cases s1 hs1 y1 with ⟨_,_,hh,_⟩|⟨_,v2,s2,y2,h2,hy2,hs2⟩
      · exact absurd hh hy1
      refine Ev.bind h2 ?_;rcases u64_cases s2 hs2 y2 with ⟨_,_,hh,_⟩|⟨_,v3,s3,y3,h3,hy3,hs3⟩
      · exact absurd hh hy2
      · exact Ev.bind h3 (tail_bad s3 hs3 hy3 _ _ _ _)
end Go.Proofs.Ythkdfojmhloofaa.Msg
end
