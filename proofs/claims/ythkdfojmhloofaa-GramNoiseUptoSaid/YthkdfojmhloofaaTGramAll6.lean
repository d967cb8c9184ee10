/- A stream of events comes to them, whatever is put behind it; noise between two messages comes to one refusal; a cutter makes just the pieces of a stream: of what is of bulk at most 1048576. -/
import Derived.Test.YthkdfojmhloofaaRows
import Derived.WalkKit
import Derived.ProofKit
import Derived.OpenShut
import Derived.ShutString
import Derived.ChangeOld
import Derived.Below
import Derived.SizedLaws
import Derived.JoinedCond
import Derived.Test.YthkdfojmhloofaaTGramAll5
section
namespace Go.Proofs.Ythkdfojmhloofaa.Q
open Go.RowKit Go.Proofs.YthkdfojmhloofaaW.PrintWords Go.Proofs.YthkdfojmhloofaaW.PrintLast Go.Proofs.YthkdfojmhloofaaW.PrintMore
attribute [local go_sem] max2_int min2_int max_two min_two max_three min_three max_four min_four   -- for this text's walks alone
set_option linter.unusedVariables false
set_option linter.unusedSimpArgs false
set_option maxHeartbeats 8000000 in
set_option maxRecDepth 100000 in
theorem spoorlaw13_GramNoise.calls (k:Nat) (A0:Option Addr) (c0:Nat) (l0:List (S35)) (A1:Option Addr) (c1:Nat) (l1:List (S35)) (a2:ByteArray) (r:Bool) (w:World) (hr0:Kd.C k35 w A0 l0.length l0) (hc0:l0.length≤c0) (hr1:Kd.C k35 w A1 l1.length l1) (hc1:l1.length≤c1) (h:spoorlaw13_GramNoise.f k l0 l1 a2=some r):
  Calls Try.prog 6 #[.slice A0 l0.length c0,.slice A1 l1.length c1,.string a2] w fun e w'=>e= .returned (.bool r)∧Below w.heap.size w w':=by
 have HR0:=Ax hr0;have HC0:=Ax hc0;clear hr0 hc0;have HR1:=Ax hr1;have HC1:=Ax hc1;clear hr1 hc1;have HB:=Ax (Below.refl w.heap.size w);have H:((spoorlaw13_lives.f k).bind fun t332=>(if t332=true then ((gram_Stream.f k l0).bind fun bt333=>((gram_Stream.f k l1).bind fun bt335=>(if bt333.2=0 then (if bt335.2=0 then (spoorlaw13_GramNoise.j0 k l0 l1 a2 bt333.1 bt335.1 (a2.toList==([]:List UInt8))) else (spoorlaw13_GramNoise.j0 k l0 l1 a2 bt333.1 bt335.1 true)) else (spoorlaw13_GramNoise.j0 k l0 l1 a2 bt333.1 bt335.1 true)))) else (none)))=some r:=h;clear h;replace H:=Option.bind_eq_some_iff.mp H;obtain⟨t332,A40,H⟩:=H;replace H:(if t332=true then ((gram_Stream.f k l0).bind fun bt333=>((gram_Stream.f k l1).bind fun bt335=>(if bt333.2=0 then (if bt335.2=0 then (spoorlaw13_GramNoise.j0 k l0 l1 a2 bt333.1 bt335.1 (a2.toList==([]:List UInt8))) else (spoorlaw13_GramNoise.j0 k l0 l1 a2 bt333.1 bt335.1 true)) else (spoorlaw13_GramNoise.j0 k l0 l1 a2 bt333.1 bt335.1 true)))) else (none))=some r:=H;have A4:=Ax A40;clear A40;by_cases c5:t332=true
 ·subst c5;have H1:((gram_Stream.f k l0).bind fun bt333=>((gram_Stream.f k l1).bind fun bt335=>(if bt333.2=0 then (if bt335.2=0 then (spoorlaw13_GramNoise.j0 k l0 l1 a2 bt333.1 bt335.1 (a2.toList==([]:List UInt8))) else (spoorlaw13_GramNoise.j0 k l0 l1 a2 bt333.1 bt335.1 true)) else (spoorlaw13_GramNoise.j0 k l0 l1 a2 bt333.1 bt335.1 true))))=some r:=by rw [if_pos rfl]at H;exact H
  clear H;have H:=H1;clear H1;replace H:=Option.bind_eq_some_iff.mp H;obtain⟨⟨t333,t334⟩,A60,H⟩:=H;replace H:((gram_Stream.f k l1).bind fun bt335=>(if t334=0 then (if bt335.2=0 then (spoorlaw13_GramNoise.j0 k l0 l1 a2 t333 bt335.1 (a2.toList==([]:List UInt8))) else (spoorlaw13_GramNoise.j0 k l0 l1 a2 t333 bt335.1 true)) else (spoorlaw13_GramNoise.j0 k l0 l1 a2 t333 bt335.1 true)))=some r:=H;have A6:=Ax A60;clear A60;replace H:=Option.bind_eq_some_iff.mp H;obtain⟨⟨t335,t336⟩,A70,H⟩:=H;replace H:(if t334=0 then (if t336=0 then (spoorlaw13_GramNoise.j0 k l0 l1 a2 t333 t335 (a2.toList==([]:List UInt8))) else (spoorlaw13_GramNoise.j0 k l0 l1 a2 t333 t335 true)) else (spoorlaw13_GramNoise.j0 k l0 l1 a2 t333 t335 true))=some r:=H;have A7:=Ax A70;clear A70;have HC8:=Ax H;clear H;go_enter Try.func6,Try.ntmps6;go_upto_region 5 with (first|((with_reducible refine gate_callee (f:=10) rfl ?_);refine goesL_ (some 14) rfl rfl Try.func10 (by kernel_rfl) rfl #[] rfl gS ?_;(with_reducible refine (spoorlaw13_lives.calls k  true _ A4.out).mono ?_);rintro e w9 ⟨rfl,hb⟩;refine⟨_,rfl,?_⟩;replace HB:=Bs0 HB hb;(try clear hb);(try clear hb2);(try clear hk);(try clear hi))|((with_reducible refine gate_callee (f:=17) rfl ?_);refine goesL_ (some 18) rfl rfl Try.func17 (by kernel_rfl) rfl #[.slice A0 l0.length c0] rfl gS ?_;(with_reducible refine (gram_Stream.calls k _ _ l0 t333 t334 _ ?side1 ?side2 A6.out).mono ?_);(case side1=>repeat (first|exact (Kd.C_below HR0.out HB.out)|(with_reducible refine Kd.C_alloc ?_ _)|(with_reducible refine Kd.C_drewN ?_ _)|(with_reducible refine Kd.C_drew ?_)));(case side2=>exact HC0.out);rintro e w10 ⟨rfl,hb⟩;refine⟨_,rfl,?_⟩;replace HB:=Bs0 HB hb;(try clear hb);(try clear hb2);(try clear hk);(try clear hi))|((with_reducible refine gate_callee (f:=17) rfl ?_);refine goesL_ (some 23) rfl rfl Try.func17 (by kernel_rfl) rfl #[.slice A1 l1.length c1] rfl gS ?_;(with_reducible refine (gram_Stream.calls k _ _ l1 t335 t336 _ ?side1 ?side2 A7.out).mono ?_);(case side1=>repeat (first|exact (Kd.C_below HR1.out HB.out)|(with_reducible refine Kd.C_alloc ?_ _)|(with_reducible refine Kd.C_drewN ?_ _)|(with_reducible refine Kd.C_drew ?_)));(case side2=>exact HC1.out);rintro e w11 ⟨rfl,hb⟩;refine⟨_,rfl,?_⟩;replace HB:=Bs0 HB hb;(try clear hb);(try clear hb2);(try clear hk);(try clear hi)))
  (try simp only[Act.put,List.setIfInBounds_toArray,List.set_cons_zero,List.set_cons_succ])
  go_cut [35] (fun v35 wc=> ∃ (kq:Nat) (x35_7:Bool),v35= .bool x35_7∧Aside0 (spoorlaw13_GramNoise.j0 kq l0 l1 a2 t333 t335 x35_7=some r)∧Aside0 (kq≤k)∧Aside0 (Below w.heap.size w wc))
  case first=>
   have H:=HC8.out;clear HC8;by_cases c12:t334=0
   ·rw [if_pos c12]at H;have c12b0:(t334==0)=true:=beq_iff_eq.mpr c12;have c12b1:(t334 !=0)=false:=bne_eq_false_iff_eq.mpr c12;clear c12
    (first|rw [c12b0]|(simp only[i64_w,i32_w];rw [c12b0])|skip)
    by_cases c13:t336=0
    ·rw [if_pos c13]at H;have c13b0:(t336==0)=true:=beq_iff_eq.mpr c13;have c13b1:(t336 !=0)=false:=bne_eq_false_iff_eq.mpr c13;clear c13;have H':=Ax H;clear H;go_wp2;go_meet
     case rel=>exact⟨_,((a2.toList==([]:List UInt8))),rS,H',⟨by first|omega|exact Nat.le_refl _⟩,⟨bw0 HB.out⟩⟩
    ·rw [if_neg c13]at H;have c13b0:(t336==0)=false:=beq_eq_false_iff_ne.mpr c13;have c13b1:(t336 !=0)=true:=bne_iff_ne.mpr c13;have H':=Ax H;clear H;go_wp2;go_meet
     case rel=>exact⟨_,(true),rS,H',⟨by first|omega|exact Nat.le_refl _⟩,⟨bw0 HB.out⟩⟩
   ·rw [if_neg c12]at H;have c12b0:(t334==0)=false:=beq_eq_false_iff_ne.mpr c12;have c12b1:(t334 !=0)=true:=bne_iff_ne.mpr c12
    (first|rw [c12b0]|(simp only[i64_w,i32_w];rw [c12b0])|skip)
    have H':=Ax H;clear H;go_wp2;go_meet
    case rel=>exact⟨_,(true),rS,H',⟨by first|omega|exact Nat.le_refl _⟩,⟨bw0 HB.out⟩⟩
  case rest=>
   clear HC8;(try clear c1);(try clear p2);(try clear c5);(try clear c6);(try clear c10);(try clear c12);(try clear c12b0);(try clear c12b1);(try clear c13);(try clear c13b0);(try clear c13b1);obtain⟨kq,x35_7,rfl,HA,HJ7,HB⟩:=hcut;cases kq with
   |zero=>exact absurd HA.out (by simp [spoorlaw13_GramNoise.j0])
   |succ kj7=>
    have H:=HA.out;clear HA;simp only[spoorlaw13_GramNoise.j0]at H;by_cases c14:x35_7=true
    ·subst c14;have H1:(some true)=some r:=by rw [if_pos rfl]at H;exact H
     clear H;have H:=H1;clear H1;obtain rfl:=Option.some.inj H;go_wp2;go_ret;exact⟨eS,bw0 HB.out⟩
    ·replace c14:=Bool.eq_false_iff.mpr c14;subst c14;have H1:(spoorlaw13_GramNoise.l0 kj7 l0 l1 a2 t333 t335 (a2.size:Int) 0)=some r:=by rw [if_neg (show ¬ (false=true) by decide)]at H;exact H
     clear H;have H:=H1;clear H1;have H':=Ax H;clear H;go_wp2;go_loopg [38] kj7 (fun kq v38 w'=> ∃ (x38_2:Int),v38= .int .i64 x38_2∧Aside0 (spoorlaw13_GramNoise.l0 kq l0 l1 a2 t333 t335 (a2.size:Int) x38_2=some r)∧Aside0 (kq≤kj7)∧Aside0 (Below w.heap.size w w'))
     case atStart=>exact⟨(0),rS,H',⟨Nat.le_refl _⟩,⟨bw0 HB.out⟩⟩
     case round=>
      clear H';(try clear c1);(try clear p2);(try clear c5);(try clear c6);(try clear c10);(try clear c12);(try clear c12b0);(try clear c12b1);(try clear c13);(try clear c13b0);(try clear c13b1);(try clear c14);(try clear p2);obtain⟨x38_2,rfl,HA,HK2,HB⟩:=hrel;cases gk with
      |zero=>exact absurd HA.out (by simp [spoorlaw13_GramNoise.l0])
      |succ k2=>
       have H:=HA.out;clear HA;simp only[spoorlaw13_GramNoise.l0]at H;by_cases c15:x38_2<(a2.size:Int)
       ·rw [if_pos c15]at H;have c15b0:decide (x38_2<(a2.size:Int))=true:=decide_eq_true c15;clear c15;by_cases c16:0≤x38_2
        ·rw [if_pos c16]at H;have c16b0:decide (0≤x38_2)=true:=decide_eq_true c16;clear c16;by_cases c17:x38_2<(a2.size:Int)
         ·rw [if_pos c17]at H;have c17b0:decide (x38_2<(a2.size:Int))=true:=decide_eq_true c17;clear c17;by_cases c19:(bt a2 x38_2)=245;·rw [if_pos c19]at H;have c19b0:((bt a2 x38_2)==245)=true:=beq_iff_eq.mpr c19;have c19b1:((bt a2 x38_2) !=245)=false:=bne_eq_false_iff_eq.mpr c19;clear c19;obtain rfl:=Option.some.inj H;have p18:0≤(x38_2:Int):=of_decide_eq_true (by first|(with_reducible assumption)|assumption);have q18:x38_2<(a2.size:Int):=of_decide_eq_true (by first|(with_reducible assumption)|assumption);have hx18:=bt_at a2 x38_2;replace p18:=eq_true p18;replace q18:=eq_true q18;go_wp2;go_ret;exact⟨eS,bw0 HB.out⟩
          ·rw [if_neg c19]at H;have c19b0:((bt a2 x38_2)==245)=false:=beq_eq_false_iff_ne.mpr c19;have c19b1:((bt a2 x38_2) !=245)=true:=bne_iff_ne.mpr c19;have H':=Ax H;clear H;have p18:0≤(x38_2:Int):=of_decide_eq_true (by first|(with_reducible assumption)|assumption);have q18:x38_2<(a2.size:Int):=of_decide_eq_true (by first|(with_reducible assumption)|assumption);have hx18:=bt_at a2 x38_2;replace p18:=eq_true p18;replace q18:=eq_true q18;go_wp2;go_roundg k2
           case measure=>have:=HJ7.out;have:=HK2.out;omega
           case rel=>exact⟨(wrap64 (x38_2+1)),rS,H',⟨by have:=HJ7.out;have:=HK2.out;omega⟩,⟨bw0 HB.out⟩⟩
         ·rw [if_neg c17]at H;exact absurd H (by simp)
        ·rw [if_neg c16]at H;exact absurd H (by simp)
       ·rw [if_neg c15]at H;have c15b0:decide (x38_2<(a2.size:Int))=false:=decide_eq_false c15;clear c15;by_cases c20:t333.size+a2.size≤9223372036854775807
        ·rw [if_pos c20]at H;have c20b0:=eq_true c20;have c20b1:decide (t333.size+a2.size≤9223372036854775807)=true:=decide_eq_true c20;try have c20b2:(9223372036854775807<t333.size+a2.size)=False:=eq_false (Nat.not_lt.2 c20)
         by_cases c21:(t333++a2).size+t335.size≤9223372036854775807
         ·rw [if_pos c21]at H;have c21b0:=eq_true c21;have c21b1:decide ((t333++a2).size+t335.size≤9223372036854775807)=true:=decide_eq_true c21;try have c21b2:(9223372036854775807<(t333++a2).size+t335.size)=False:=eq_false (Nat.not_lt.2 c21)
          try have c21b3:(9223372036854775807<t333.size+a2.size+t335.size)=False:=eq_false (by have h_:=c21;(try simp only[ByteArray.size_append]at h_);omega)
          replace H:=Option.bind_eq_some_iff.mp H;obtain⟨t337,A220,H⟩:=H;replace H:(if (t337.length:Int)=(wrap64 ((wrap64 ((l0.length:Int)+1))+(l1.length:Int))) then (if 0≤(l0.length:Int) then (if (l0.length:Int)<(t337.length:Int) then (spoorlaw13_GramNoise.j2 k2 l0 t333 t335 t337 (((rd_T38 t337 (l0.length:Int)).f1) !=7)) else (none)) else (none)) else (spoorlaw13_GramNoise.j2 k2 l0 t333 t335 t337 true))=some r:=H;have A22:=Ax A220;clear A220;have HC23:=Ax H;clear H;go_upto_region 14 with (first|((with_reducible refine gate_callee (f:=15) rfl ?_);refine goesL_ (some 51) rfl rfl Try.func15 (by kernel_rfl) rfl #[.string ((t333++a2)++t335)] rfl gS ?_;(with_reducible refine (gram_Gots.calls k2 ((t333++a2)++t335) t337 _ A22.out).mono ?_);rintro e w24 ⟨v338,rfl,ho0,hb⟩;refine⟨_,rfl,?_⟩;have HO339:=Ax (Kd.R_lower ho0 (below_size (bw0 HB.out)));replace HB:=Bs0 HB hb;(try clear hb);(try clear hb2);(try clear hk);(try clear hi);(try clear ho0)))
          (try simp only[Act.put,List.setIfInBounds_toArray,List.set_cons_zero,List.set_cons_succ])
          go_cut [69] (fun v69 wc=> ∃ (kq:Nat) (x69_22:Bool),v69= .bool x69_22∧Aside0 (spoorlaw13_GramNoise.j2 kq l0 t333 t335 t337 x69_22=some r)∧Aside0 (kq≤k2)∧Aside0 (Kd.R k38 38 wc w.heap.size (fun _=>True) v338 t337)∧Aside0 (Below w.heap.size w wc))
          case first=>
           have H:=HC23.out;clear HC23;by_cases c25:(t337.length:Int)=(wrap64 ((wrap64 ((l0.length:Int)+1))+(l1.length:Int)))
           ·rw [if_pos c25]at H;have c25b0:((t337.length:Int)==(wrap64 ((wrap64 ((l0.length:Int)+1))+(l1.length:Int))))=true:=beq_iff_eq.mpr c25;have c25b1:((t337.length:Int) !=(wrap64 ((wrap64 ((l0.length:Int)+1))+(l1.length:Int))))=false:=bne_eq_false_iff_eq.mpr c25;clear c25
            (first|rw [c25b0]|(simp only[i64_w,i32_w];rw [c25b0])|skip)
            by_cases c26:0≤(l0.length:Int)
            ·rw [if_pos c26]at H;have c26b0:decide (0≤(l0.length:Int))=true:=decide_eq_true c26;have c26b1:decide (0≤l0.length)=true:=decide_eq_true (by omega);clear c26;by_cases c27:(l0.length:Int)<(t337.length:Int)
             ·rw [if_pos c27]at H;have c27b0:decide ((l0.length:Int)<(t337.length:Int))=true:=decide_eq_true c27;have c27b1:decide (l0.length<t337.length)=true:=decide_eq_true (Int.ofNat_lt.mp c27);clear c27;have H':=Ax H;clear H;obtain⟨Ao28,co28,eo28⟩:=Kd.R_slice HO339.out;subst eo28;have p340:0≤((l0.length:Int):Int):=of_decide_eq_true (by first|(with_reducible assumption)|assumption);have q340:(l0.length:Int)<(t337.length:Int):=of_decide_eq_true (by first|(with_reducible assumption)|assumption);obtain⟨ad340,e340,hx340_0,hx340_1,hx340_2,hx340_3,hx340_4,hx340_5,hx340_6,hx340_7,hx340_8,hx340_9,hx340_10,hx340_11,hx340_12⟩:=at_T38 (Kd.R_reads' HO339.out).2.2 (l0.length:Int) p340 q340;cases e340
              (try simp only[Go.IntWalk.toNatUp]at hx340_0)
              (try simp only[Go.IntWalk.toNatUp]at hx340_1)
              (try simp only[Go.IntWalk.toNatUp]at hx340_2)
              (try simp only[Go.IntWalk.toNatUp]at hx340_3)
              (try simp only[Go.IntWalk.toNatUp]at hx340_4)
              (try simp only[Go.IntWalk.toNatUp]at hx340_5)
              (try simp only[Go.IntWalk.toNatUp]at hx340_6)
              (try simp only[Go.IntWalk.toNatUp]at hx340_7)
              (try simp only[Go.IntWalk.toNatUp]at hx340_8)
              (try simp only[Go.IntWalk.toNatUp]at hx340_9)
              (try simp only[Go.IntWalk.toNatUp]at hx340_10)
              (try simp only[Go.IntWalk.toNatUp]at hx340_11)
              (try simp only[Go.IntWalk.toNatUp]at hx340_12)
              replace p340:=eq_true p340;replace q340:=eq_true q340;go_wp2;go_meet
              case rel=>exact⟨_,((((rd_T38 t337 (l0.length:Int)).f1) !=7)),rS,H',⟨by have:=HJ7.out;have:=HK2.out;first|omega|exact Nat.le_refl _⟩,⟨by (with_reducible repeat (first|apply Kd.R_alloc|apply Kd.R_drewN|apply Kd.R_drew));exact HO339.out⟩,⟨bw0 HB.out⟩⟩
             ·rw [if_neg c27]at H;exact absurd H (by simp)
            ·rw [if_neg c26]at H;exact absurd H (by simp)
           ·rw [if_neg c25]at H;have c25b0:((t337.length:Int)==(wrap64 ((wrap64 ((l0.length:Int)+1))+(l1.length:Int))))=false:=beq_eq_false_iff_ne.mpr c25;have c25b1:((t337.length:Int) !=(wrap64 ((wrap64 ((l0.length:Int)+1))+(l1.length:Int))))=true:=bne_iff_ne.mpr c25
            (first|rw [c25b0]|(simp only[i64_w,i32_w];rw [c25b0])|skip)
            have H':=Ax H;clear H;obtain⟨Ao29,co29,eo29⟩:=Kd.R_slice HO339.out;subst eo29;go_wp2;go_meet
            case rel=>exact⟨_,(true),rS,H',⟨by have:=HJ7.out;have:=HK2.out;first|omega|exact Nat.le_refl _⟩,⟨by (with_reducible repeat (first|apply Kd.R_alloc|apply Kd.R_drewN|apply Kd.R_drew));exact HO339.out⟩,⟨bw0 HB.out⟩⟩
          case rest=>
           clear HC23;(try clear c1);(try clear p1);(try clear q1);(try clear hx1);(try clear c2);(try clear p2);(try clear p3);(try clear q3);(try clear hx3);(try clear c5);(try clear c6);(try clear p6);(try clear c10);(try clear c12);(try clear c12b0);(try clear c12b1);(try clear c13);(try clear c13b0);(try clear c13b1);(try clear c14);(try clear c15);(try clear c15b0);(try clear c16);(try clear c16b0);(try clear c17);(try clear c17b0);(try clear p18);(try clear q18);(try clear hx18);(try clear c19);(try clear c19b0);(try clear c19b1);(try clear c20);(try clear c20b0);(try clear c20b1);(try clear c20b2);(try clear c21);(try clear c21b0);(try clear c21b1);(try clear c21b2);(try clear c25);(try clear c25b0);(try clear c25b1);(try clear c26);(try clear c26b0);(try clear c26b1);(try clear c27);(try clear c27b0);(try clear c27b1);(try clear hx340_0);(try clear hx340_1);(try clear hx340_10);(try clear hx340_11);(try clear hx340_12);(try clear hx340_2);(try clear hx340_3);(try clear hx340_4);(try clear hx340_5);(try clear hx340_6);(try clear hx340_7);(try clear hx340_8);(try clear hx340_9);(try clear p18);(try clear p2);(try clear p340);(try clear q18);(try clear q340);obtain⟨kq,x69_22,rfl,HA,HJ22,HO_12,HB⟩:=hcut;cases kq with
           |zero=>exact absurd HA.out (by simp [spoorlaw13_GramNoise.j2])
           |succ kj22=>
            have H:=HA.out;clear HA;simp only[spoorlaw13_GramNoise.j2]at H;by_cases c30:x69_22=true
            ·subst c30;have H1:(none)=some r:=by rw [if_pos rfl]at H;exact H
             clear H;have H:=H1;clear H1;exact absurd H (by simp)
            ·replace c30:=Bool.eq_false_iff.mpr c30;subst c30;have H1:(if t333.size+t335.size≤9223372036854775807 then ((gram_Gots.f kj22 (t333++t335)).bind fun t341=>((some (([]:List (S38)):List (S38))).bind fun y344=>(if 0≤(l0.length:Int) then (if (l0.length:Int)≤(t337.length:Int) then ((some (t337.take ((l0.length:Int):Int).toNat:List (S38))).bind fun y347=>(if y344.length+y347.length<1353245080339 then ((some (y344++y347:List (S38))).bind fun y351=>(if 0≤(wrap64 ((l0.length:Int)+1)) then (if (wrap64 ((l0.length:Int)+1))≤(t337.length:Int) then ((some (t337.drop ((wrap64 ((l0.length:Int)+1)):Int).toNat:List (S38))).bind fun y354=>(if y351.length+y354.length<1353245080339 then ((spoorref13_Same.f kj22 (y351++y354) t341).bind fun t361=>(some t361)) else (none))) else (none)) else (none))) else (none))) else (none)) else (none)))) else (none))=some r:=by rw [if_neg (show ¬ (false=true) by decide)]at H;exact H
             clear H;have H:=H1;clear H1;by_cases c31:t333.size+t335.size≤9223372036854775807
             ·rw [if_pos c31]at H;have c31b0:=eq_true c31;have c31b1:decide (t333.size+t335.size≤9223372036854775807)=true:=decide_eq_true c31;try have c31b2:(9223372036854775807<t333.size+t335.size)=False:=eq_false (Nat.not_lt.2 c31)
              replace H:=Option.bind_eq_some_iff.mp H;obtain⟨t341,A320,H⟩:=H;replace H:((some (([]:List (S38)):List (S38))).bind fun y344=>(if 0≤(l0.length:Int) then (if (l0.length:Int)≤(t337.length:Int) then ((some (t337.take ((l0.length:Int):Int).toNat:List (S38))).bind fun y347=>(if y344.length+y347.length<1353245080339 then ((some (y344++y347:List (S38))).bind fun y351=>(if 0≤(wrap64 ((l0.length:Int)+1)) then (if (wrap64 ((l0.length:Int)+1))≤(t337.length:Int) then ((some (t337.drop ((wrap64 ((l0.length:Int)+1)):Int).toNat:List (S38))).bind fun y354=>(if y351.length+y354.length<1353245080339 then ((spoorref13_Same.f kj22 (y351++y354) t341).bind fun t361=>(some t361)) else (none))) else (none)) else (none))) else (none))) else (none)) else (none)))=some r:=H;have A32:=Ax A320;clear A320;obtain⟨y344,hy344⟩: ∃ y_:List (S38),y_=(([]:List (S38))):=⟨_,rfl⟩;replace H:(if 0≤(l0.length:Int) then (if (l0.length:Int)≤(t337.length:Int) then ((some (t337.take ((l0.length:Int):Int).toNat:List (S38))).bind fun y347=>(if y344.length+y347.length<1353245080339 then ((some (y344++y347:List (S38))).bind fun y351=>(if 0≤(wrap64 ((l0.length:Int)+1)) then (if (wrap64 ((l0.length:Int)+1))≤(t337.length:Int) then ((some (t337.drop ((wrap64 ((l0.length:Int)+1)):Int).toNat:List (S38))).bind fun y354=>(if y351.length+y354.length<1353245080339 then ((spoorref13_Same.f kj22 (y351++y354) t341).bind fun t361=>(some t361)) else (none))) else (none)) else (none))) else (none))) else (none)) else (none))=some r:=by first|(rw [hy344];with_reducible exact H)|(have H2_:=(Option.bind_some _ _).symm.trans H;rw [hy344];with_reducible exact H2_)|(have H2_:=(Option.bind_some _ _).symm.trans H;with_reducible exact H2_)|with_reducible exact H|(rw [hy344];exact H)|exact H
              have Ny344:=Ax hy344;clear hy344;by_cases c33:0≤(l0.length:Int)
              ·rw [if_pos c33]at H;have c33b0:=eq_true c33;have c33b1:decide (0≤(l0.length:Int))=true:=decide_eq_true c33;clear c33;by_cases c34:(l0.length:Int)≤(t337.length:Int)
               ·rw [if_pos c34]at H;have c34b0:=eq_true c34;have c34b1:decide ((l0.length:Int)≤(t337.length:Int))=true:=decide_eq_true c34;clear c34;obtain⟨y347,hy347⟩: ∃ y_:List (S38),y_=(t337.take ((l0.length:Int):Int).toNat):=⟨_,rfl⟩;replace H:(if y344.length+y347.length<1353245080339 then ((some (y344++y347:List (S38))).bind fun y351=>(if 0≤(wrap64 ((l0.length:Int)+1)) then (if (wrap64 ((l0.length:Int)+1))≤(t337.length:Int) then ((some (t337.drop ((wrap64 ((l0.length:Int)+1)):Int).toNat:List (S38))).bind fun y354=>(if y351.length+y354.length<1353245080339 then ((spoorref13_Same.f kj22 (y351++y354) t341).bind fun t361=>(some t361)) else (none))) else (none)) else (none))) else (none))=some r:=by first|(rw [hy347];with_reducible exact H)|(have H2_:=(Option.bind_some _ _).symm.trans H;rw [hy347];with_reducible exact H2_)|(have H2_:=(Option.bind_some _ _).symm.trans H;with_reducible exact H2_)|with_reducible exact H|(rw [hy347];exact H)|exact H
                have Ny347:=Ax hy347;clear hy347;by_cases c35:y344.length+y347.length<1353245080339
                ·rw [if_pos c35]at H;have LMc35:=Ax c35;clear c35;obtain⟨y351,hy351⟩: ∃ y_:List (S38),y_=(y344++y347):=⟨_,rfl⟩;replace H:(if 0≤(wrap64 ((l0.length:Int)+1)) then (if (wrap64 ((l0.length:Int)+1))≤(t337.length:Int) then ((some (t337.drop ((wrap64 ((l0.length:Int)+1)):Int).toNat:List (S38))).bind fun y354=>(if y351.length+y354.length<1353245080339 then ((spoorref13_Same.f kj22 (y351++y354) t341).bind fun t361=>(some t361)) else (none))) else (none)) else (none))=some r:=by first|(rw [hy351];with_reducible exact H)|(have H2_:=(Option.bind_some _ _).symm.trans H;rw [hy351];with_reducible exact H2_)|(have H2_:=(Option.bind_some _ _).symm.trans H;with_reducible exact H2_)|with_reducible exact H|(rw [hy351];exact H)|exact H
                 have Ny351:=Ax hy351;clear hy351;obtain⟨ji36,hji36⟩: ∃ j_:Int,(wrap64 ((l0.length:Int)+1))=j_:=⟨_,rfl⟩;replace H:(if 0≤(ji36) then (if (ji36)≤(t337.length:Int) then ((some (t337.drop ((ji36):Int).toNat:List (S38))).bind fun y354=>(if y351.length+y354.length<1353245080339 then ((spoorref13_Same.f kj22 (y351++y354) t341).bind fun t361=>(some t361)) else (none))) else (none)) else (none))=some r:=by first|(rw [hji36]at H;exact H)|(simp only[hji36]at H ⊢;exact H)
                 (try rw [hji36]at A32)
                 have hji36w:(IntKind.i64.wrap ((l0.length:Int)+1))=ji36:=(i64_w _).trans hji36;by_cases c37:0≤(ji36)
                 ·rw [if_pos c37]at H;have c37b0:=eq_true c37;have c37b1:decide (0≤(ji36))=true:=decide_eq_true c37;clear c37;by_cases c38:(ji36)≤(t337.length:Int)
                  ·rw [if_pos c38]at H;have c38b0:=eq_true c38;have c38b1:decide ((ji36)≤(t337.length:Int))=true:=decide_eq_true c38;clear c38;obtain⟨y354,hy354⟩: ∃ y_:List (S38),y_=(t337.drop ((ji36):Int).toNat):=⟨_,rfl⟩;replace H:(if y351.length+y354.length<1353245080339 then ((spoorref13_Same.f kj22 (y351++y354) t341).bind fun t361=>(some t361)) else (none))=some r:=by first|(rw [hy354];with_reducible exact H)|(have H2_:=(Option.bind_some _ _).symm.trans H;rw [hy354];with_reducible exact H2_)|(have H2_:=(Option.bind_some _ _).symm.trans H;with_reducible exact H2_)|with_reducible exact H|(rw [hy354];exact H)|exact H
                   have Ny354:=Ax hy354;clear hy354;by_cases c39:y351.length+y354.length<1353245080339
                   ·rw [if_pos c39]at H;have LMc39:=Ax c39;clear c39;obtain⟨y358,hy358⟩: ∃ y_:List (S38),y_=(y351++y354):=⟨_,rfl⟩;replace H:((spoorref13_Same.f kj22 y358 t341).bind fun t361=>(some t361))=some r:=by first|(rw [hy358];with_reducible exact H)|(have H2_:=(Option.bind_some _ _).symm.trans H;rw [hy358];with_reducible exact H2_)|(have H2_:=(Option.bind_some _ _).symm.trans H;with_reducible exact H2_)|with_reducible exact H|(rw [hy358];exact H)|exact H
                    have Ny358:=Ax hy358;clear hy358;replace H:=Option.bind_eq_some_iff.mp H;obtain⟨t361,A400,H⟩:=H;replace H:(some t361)=some r:=H;have A40:=Ax A400;clear A400;obtain rfl:=Option.some.inj H;try go_wp2_with (first|((with_reducible refine gate_callee (f:=15) rfl ?_);refine goesL_ (some 73) rfl rfl Try.func15 (by kernel_rfl) rfl #[.string (t333++t335)] rfl gS ?_;(with_reducible refine (gram_Gots.calls kj22 (t333++t335) t341 _ A32.out).mono ?_);rintro e w41 ⟨v342,rfl,ho0,hb⟩;refine⟨_,rfl,?_⟩;have n0_:=Ax (Kd.R_elder' (by (with_reducible repeat (first|apply Kd.R_alloc|apply Kd.R_drewN|apply Kd.R_drew));exact HO_12.out) (Kd.R_base ho0) hb);have n1_:=Ax (Kd.R_lower (Kd.R_new' ho0 (Kd.R_lt (by (with_reducible repeat (first|apply Kd.R_alloc|apply Kd.R_drewN|apply Kd.R_drew));exact HO_12.out))) (below_size (bw0 HB.out)));have n2_:=Bs0 HB hb;clear HO_12;clear HB;have HO_12:=n0_;have HO343:=n1_;have HB:=n2_;clear n0_ n1_ n2_;(try clear hb);(try clear hb2);(try clear hk);(try clear hi);(try clear ho0)))
                    replace HO_12:=Ax (Kd.R_drew HO_12.out);replace HO343:=Ax (Kd.R_drew HO343.out);replace HB:=Ax (below_drew1 HB.out);obtain⟨Ao44,co44,eo44⟩:=Kd.R_slice HO_12.out
                    (first|subst eo44|(injection eo44 with f1_ f2_ f3_;have f4_:=f1_.symm;have f5_:=f3_.symm;clear f1_ f2_ f3_;subst f4_;subst f5_))
                    have q43:((l0.length:Int):Int)≤((t337.length:Int):Int):=of_decide_eq_true (by first|(with_reducible assumption)|assumption);obtain⟨i043,hi043,_,hsz43,_⟩:=info_parts info38;have hroom43:t337.length≤co44:=(Kd.R_reads' HO_12.out).2.1;have hC43:Kd.C k38 _ Ao44 t337.length t337:=(Kd.R_reads' HO_12.out).2.2;have hcut43:=cut_to (P:=Try.prog) 46 38 .i64 Try.underlying46 hi043 Ao44 t337.length co44 (l0.length:Int) (of_decide_eq_true (by first|(with_reducible assumption)|assumption)) q43 hroom43;have hr43:=Kd.C_take (m:=((l0.length:Int):Int).toNat) hC43 (by omega);have hy43:y347.length=((l0.length:Int):Int).toNat:=(by rw [Ny347.out,List.length_take];omega);rw [← Ny347.out]at hr43;rw [← hy43]at hcut43;have HR350:=Ax hr43;have HC350:=Ax (show y347.length≤co44 from by omega);clear hr43 hC43 hroom43 hi043 hsz43;have KY43:=Ax hy43;clear hy43;have KL43:=Ax (show ((l0.length:Int):Int).toNat≤t337.length from by omega);replace q43:=eq_true q43;have q45:((ji36):Int)≤((t337.length:Int):Int):=of_decide_eq_true (by first|(with_reducible assumption)|assumption);obtain⟨i045,hi045,_,hsz45,_⟩:=info_parts info38;have hroom45:t337.length≤co44:=(Kd.R_reads' HO_12.out).2.1;have hC45:Kd.C k38 _ Ao44 t337.length t337:=(Kd.R_reads' HO_12.out).2.2;have q045:(0:Int)≤((ji36):Int):=of_decide_eq_true (by first|(with_reducible assumption)|assumption);have hcut45:=cut_from (P:=Try.prog) 46 38 .i64 Try.underlying46 hi045 13 hsz45 Ao44 t337.length co44 (ji36) q045 q45;have hr45:=Kd.C_drop (m:=((ji36):Int).toNat) (c:=co44) hC45 (by omega) hroom45;obtain⟨A45,hA45⟩: ∃ A1,A1=(if co44=((ji36):Int).toNat then Ao44 else (Ao44:Option Addr).map (·.add (((ji36):Int).toNat * 13))):=⟨_,rfl⟩;obtain⟨c45,hc45⟩: ∃ c1,c1=co44 - ((ji36):Int).toNat:=⟨_,rfl⟩;have hy45:y354.length=t337.length - ((ji36):Int).toNat:=(by rw [Ny354.out,List.length_drop] <;> omega);rw [show (t337).drop ((ji36):Int).toNat=y354 from Ny354.out.symm]at hr45;replace hr45:Kd.C k38 _ A45 y354.length y354:=(by rw [hA45];exact hr45);rw [← hy45, ← hA45, ← hc45]at hcut45;have HR357:=Ax hr45;have HC357:=Ax (show y354.length≤c45 from by rw [hy45,hc45];exact Nat.sub_le_sub_right hroom45 _);clear hr45 hC45 hroom45 hi045 hsz45 hc45;have KY45:=Ax hy45;have KA45:=Ax hA45;clear hy45 hA45;have KL45:=Ax (show ((ji36):Int).toNat≤t337.length from by omega);replace q45:=eq_true q45;refine start_ (n:=15) (S:=fun w'=>True) (ds:= []) #[fa,fa,fa,fa,fa,fa,fa,fa,fa,fa,fa,fa,fa,fa,fa] (by kernel_rfl) rfl rfl trivial (fun hHeld=>?_);refine with_tabW spoorlaw13_GramNoise.tab17 spoorlaw13_GramNoise.bits17 (fun HT_ HW_=>?_);generalize w41.drew=w42 at HO_12 HO343 HB HR350 HR357 hHeld ⊢;refine pz 1 75 #[fa,tr,fa,fa,fa,fa,fa,fa,fa,fa,fa,fa,fa,fa,fa] HT_.out ?_
                    refine pz 2 76 #[fa,tr,tr,fa,fa,fa,fa,fa,fa,fa,fa,fa,fa,fa,fa] HT_.out ?_
                    refine pz 3 77 #[fa,tr,tr,tr,fa,fa,fa,fa,fa,fa,fa,fa,fa,fa,fa] HT_.out ?_
                    refine pz 4 78 #[fa,tr,tr,tr,tr,fa,fa,fa,fa,fa,fa,fa,fa,fa,fa] HT_.out ?_
                    refine pz 6 80 #[fa,tr,tr,tr,tr,fa,tr,fa,fa,fa,fa,fa,fa,fa,fa] HT_.out ?_
                    refine pz 7 81 #[fa,tr,tr,tr,tr,fa,tr,tr,fa,fa,fa,fa,fa,fa,fa] HT_.out ?_
                    refine pz 8 82 #[fa,tr,tr,tr,tr,fa,tr,tr,tr,fa,fa,fa,fa,fa,fa] HT_.out ?_
                    refine pz 9 83 #[fa,tr,tr,tr,tr,fa,tr,tr,tr,tr,fa,fa,fa,fa,fa] HT_.out ?_
                    refine pz 10 84 #[fa,tr,tr,tr,tr,fa,tr,tr,tr,tr,tr,fa,fa,fa,fa] HT_.out ?_
                    refine pz 12 86 #[fa,tr,tr,tr,tr,fa,tr,tr,tr,tr,tr,fa,tr,fa,fa] HT_.out ?_
                    refine one_ (i:=0) (N:=some 74) #[tr,tr,tr,tr,tr,fa,tr,tr,tr,tr,tr,fa,tr,fa,fa] rfl rfl (one_of HT_.out (by kernel_rfl)) (by decide) (fun K hK=>?_);refine Kd.R_lit_step k38 _ 38 ?hg (N:=74) ?hd (xs:=([]:List (S38))) (inner:= []) (ok:=fun _=>True) (okp:=fun _=>True) ?hr ?hp (fun _ hk=>hk) trivial (Below.refl _ _) (Nat.le_refl _) (by simp) ?_;(case hd=>rfl);(case hg=>rfl);(case hr=>first|(go_simp;done)|(go_simp;rfl));(case hp=>exact (Reps.none _ _));intro v345 w46 ho47 hb hg_ hnew_;clear hg_ hnew_
                    (first|rw [← Ny344.out]at ho47|(simp only[Int.reduceToNat]at ho47;rw [← Ny344.out]at ho47))
                    have n0_:=Ax (Kd.R_elder' (by (with_reducible repeat (first|apply Kd.R_alloc|apply Kd.R_drewN|apply Kd.R_drew));exact HO_12.out) (Kd.R_base ho47) hb);have n1_:=Ax (Kd.R_elder' (by (with_reducible repeat (first|apply Kd.R_alloc|apply Kd.R_drewN|apply Kd.R_drew));exact HO343.out) (Kd.R_base ho47) hb);have n2_:=Ax (Kd.R_lower (Kd.R_new' (Kd.R_new' ho47 (Kd.R_lt (by (with_reducible repeat (first|apply Kd.R_alloc|apply Kd.R_drewN|apply Kd.R_drew));exact HO_12.out))) (Kd.R_lt (by (with_reducible repeat (first|apply Kd.R_alloc|apply Kd.R_drewN|apply Kd.R_drew));exact HO343.out))) (below_size (bw0 HB.out)));have n3_:=Ax (Kd.C_below (by repeat (first|(with_reducible exact HR350.out)|(with_reducible refine Kd.C_alloc ?_ _)|(with_reducible refine Kd.C_drewN ?_ _)|(with_reducible refine Kd.C_drew ?_)|exact HR350.out)) hb);have n4_:=Ax (Kd.C_below (by repeat (first|(with_reducible exact HR357.out)|(with_reducible refine Kd.C_alloc ?_ _)|(with_reducible refine Kd.C_drewN ?_ _)|(with_reducible refine Kd.C_drew ?_)|exact HR357.out)) hb);have n5_:=Bs0 HB hb;clear HO_12;clear HO343;clear HR350;clear HR357;clear HB;have HO_12:=n0_;have HO343:=n1_;have HO346:=n2_;have HR350:=n3_;have HR357:=n4_;have HB:=n5_;clear n0_ n1_ n2_ n3_ n4_ n5_;clear hb ho47;refine hK.out _ _ trivial (fun hHeld=>?_);clear hK K;refine norm_ (a':=?_) ?_ ?_;rotate_left
                    ·show Act.put _ (some 74) _=_
                     simp only[sP];rfl
                    refine one_ (i:=5) (N:=some 79) #[tr,tr,tr,tr,tr,tr,tr,tr,tr,tr,tr,fa,tr,fa,fa] rfl rfl (one_of HT_.out (by kernel_rfl)) (by decide) (fun K hK=>?_);refine Kd.R_append_rows_step k38 (w0:=w) w.heap.size (by rfl) (.tmp 74) (.tmp 78) 46 38 (.agg #[(.int .u8 0),(.int .i64 0),(.int .u64 0),(.int .i64 0),(.bool false),(.int .u64 0),(.int .u64 0),(.int .i64 0),(.int .u8 0),(.int .i64 0),(.int .i64 0),(.int .i64 0),(.int .i64 0)]) 104 rfl Try.underlying46 info38 rfl (by decide) (by omega) v345 y344 y347 _ _ _ (fun k_=>some k_≠(.slice Ao44 t337.length co44:Value).ownBlock∧some k_≠(v342:Value).ownBlock) (fun _=>False) rfl rfl ?aO ?aR (fun _ _ h=>h) (fun _ h=>h.elim) ?aF ?aB ?aS ?aL ?_
                    (case aR=>repeat (first|exact (by repeat (first|(with_reducible exact HR350.out)|(with_reducible refine Kd.C_alloc ?_ _)|(with_reducible refine Kd.C_drewN ?_ _)|(with_reducible refine Kd.C_drew ?_)|exact HR350.out))|(with_reducible refine Kd.C_alloc ?_ _)|(with_reducible refine Kd.C_drewN ?_ _)|(with_reducible refine Kd.C_drew ?_)))
                    (case aB=>exact (bw0 HB.out))
                    (case aF=>exact (fun k_ hk=>⟨Kd.fresh' (Kd.R_lt (by (with_reducible repeat (first|apply Kd.R_alloc|apply Kd.R_drewN|apply Kd.R_drew));exact HO_12.out)) k_ hk,Kd.fresh' (Kd.R_lt (by (with_reducible repeat (first|apply Kd.R_alloc|apply Kd.R_drewN|apply Kd.R_drew));exact HO343.out)) k_ hk⟩))
                    (case aO=>exact (by (with_reducible repeat (first|apply Kd.R_alloc|apply Kd.R_drewN|apply Kd.R_drew));exact Kd.R_mono HO346.out (fun _ hk=>⟨hk.1.2,hk.2⟩)))
                    (case aS=>exact (below_size (bw0 HB.out)))
                    (case aL=>have:=LMc35.out;omega)
                    intro v352 w48 ho hb hg hat;rw [← Ny351.out]at ho;have n0_:=Ax (Kd.R_after (ok:=(fun k_=>some k_≠(v342:Value).ownBlock)) (by (with_reducible repeat (first|apply Kd.R_alloc|apply Kd.R_drewN|apply Kd.R_drew));exact Kd.R_mono HO_12.out (fun _ hk=>⟨hk.1.2,hk.2⟩)) hg hat);have n1_:=Ax (Kd.R_after (ok:=(fun k_=>some k_≠(.slice Ao44 t337.length co44:Value).ownBlock)) (by (with_reducible repeat (first|apply Kd.R_alloc|apply Kd.R_drewN|apply Kd.R_drew));exact Kd.R_mono HO343.out (fun _ hk=>⟨hk.1.2,hk.2⟩)) hg hat);have n2_:=Ax (hb);have n3_:=Ax ((show Kd.C k38 w48 Ao44 y347.length y347 from by rw [Ny347.out];exact Kd.C_take (m:=((l0.length:Int):Int).toNat) ((Kd.R_reads' (Kd.R_after (ok:=(fun k_=>some k_≠(v342:Value).ownBlock)) (by (with_reducible repeat (first|apply Kd.R_alloc|apply Kd.R_drewN|apply Kd.R_drew));exact Kd.R_mono HO_12.out (fun _ hk=>⟨hk.1.2,hk.2⟩)) hg hat)).2.2) KL43.out));have n4_:=Ax ((show Kd.C k38 w48 A45 y354.length y354 from by rw [Ny354.out,KA45.out];exact Kd.C_drop (m:=((ji36):Int).toNat) (c:=co44) ((Kd.R_reads' (Kd.R_after (ok:=(fun k_=>some k_≠(v342:Value).ownBlock)) (by (with_reducible repeat (first|apply Kd.R_alloc|apply Kd.R_drewN|apply Kd.R_drew));exact Kd.R_mono HO_12.out (fun _ hk=>⟨hk.1.2,hk.2⟩)) hg hat)).2.2) KL45.out ((Kd.R_reads' (Kd.R_after (ok:=(fun k_=>some k_≠(v342:Value).ownBlock)) (by (with_reducible repeat (first|apply Kd.R_alloc|apply Kd.R_drewN|apply Kd.R_drew));exact Kd.R_mono HO_12.out (fun _ hk=>⟨hk.1.2,hk.2⟩)) hg hat)).2.1)));have n5_:=Ax (ho);clear HO_12;clear HO343;clear HB;clear HR350;clear HR357;clear HO346;have HO_12:=n0_;have HO343:=n1_;have HB:=n2_;have HR350:=n3_;have HR357:=n4_;have HO353:=n5_;clear n0_ n1_ n2_ n3_ n4_ n5_;clear ho hb hg hat;refine hK.out _ _ trivial (fun hHeld=>?_);clear hK K;refine norm_ (a':=?_) ?_ ?_;rotate_left
                    ·show Act.put _ (some 79) _=_
                     simp only[sP];rfl
                    refine one_ (i:=11) (N:=some 85) #[tr,tr,tr,tr,tr,tr,tr,tr,tr,tr,tr,tr,tr,fa,fa] rfl rfl (one_of HT_.out (by kernel_rfl)) (by decide) (fun K hK=>?_);refine Kd.R_append_rows_step k38 (w0:=w) w.heap.size (by rfl) (.tmp 79) (.tmp 84) 46 38 (.agg #[(.int .u8 0),(.int .i64 0),(.int .u64 0),(.int .i64 0),(.bool false),(.int .u64 0),(.int .u64 0),(.int .i64 0),(.int .u8 0),(.int .i64 0),(.int .i64 0),(.int .i64 0),(.int .i64 0)]) 104 rfl Try.underlying46 info38 rfl (by decide) (by omega) v352 y351 y354 _ _ _ (fun k_=>some k_≠(.slice Ao44 t337.length co44:Value).ownBlock∧some k_≠(v342:Value).ownBlock) (fun _=>False) rfl rfl ?aO ?aR (fun _ _ h=>h) (fun _ h=>h.elim) ?aF ?aB ?aS ?aL ?_
                    (case aR=>repeat (first|exact (by repeat (first|(with_reducible exact HR357.out)|(with_reducible refine Kd.C_alloc ?_ _)|(with_reducible refine Kd.C_drewN ?_ _)|(with_reducible refine Kd.C_drew ?_)|exact HR357.out))|(with_reducible refine Kd.C_alloc ?_ _)|(with_reducible refine Kd.C_drewN ?_ _)|(with_reducible refine Kd.C_drew ?_)))
                    (case aB=>exact (bw0 HB.out))
                    (case aF=>exact (fun k_ hk=>⟨Kd.fresh' (Kd.R_lt (by (with_reducible repeat (first|apply Kd.R_alloc|apply Kd.R_drewN|apply Kd.R_drew));exact HO_12.out)) k_ hk,Kd.fresh' (Kd.R_lt (by (with_reducible repeat (first|apply Kd.R_alloc|apply Kd.R_drewN|apply Kd.R_drew));exact HO343.out)) k_ hk⟩))
                    (case aO=>exact (by (with_reducible repeat (first|apply Kd.R_alloc|apply Kd.R_drewN|apply Kd.R_drew));exact HO353.out))
                    (case aS=>exact (below_size (bw0 HB.out)))
                    (case aL=>have:=LMc39.out;omega)
                    intro v359 w49 ho hb hg hat;rw [← Ny358.out]at ho;have n0_:=Ax (Kd.R_after (ok:=(fun k_=>some k_≠(v342:Value).ownBlock)) (by (with_reducible repeat (first|apply Kd.R_alloc|apply Kd.R_drewN|apply Kd.R_drew));exact HO_12.out) hg hat);have n1_:=Ax (Kd.R_after (ok:=(fun k_=>some k_≠(.slice Ao44 t337.length co44:Value).ownBlock)) (by (with_reducible repeat (first|apply Kd.R_alloc|apply Kd.R_drewN|apply Kd.R_drew));exact HO343.out) hg hat);have n2_:=Ax (hb);have n3_:=Ax ((show Kd.C k38 w49 Ao44 y347.length y347 from by rw [Ny347.out];exact Kd.C_take (m:=((l0.length:Int):Int).toNat) ((Kd.R_reads' (Kd.R_after (ok:=(fun k_=>some k_≠(v342:Value).ownBlock)) (by (with_reducible repeat (first|apply Kd.R_alloc|apply Kd.R_drewN|apply Kd.R_drew));exact HO_12.out) hg hat)).2.2) KL43.out));have n4_:=Ax ((show Kd.C k38 w49 A45 y354.length y354 from by rw [Ny354.out,KA45.out];exact Kd.C_drop (m:=((ji36):Int).toNat) (c:=co44) ((Kd.R_reads' (Kd.R_after (ok:=(fun k_=>some k_≠(v342:Value).ownBlock)) (by (with_reducible repeat (first|apply Kd.R_alloc|apply Kd.R_drewN|apply Kd.R_drew));exact HO_12.out) hg hat)).2.2) KL45.out ((Kd.R_reads' (Kd.R_after (ok:=(fun k_=>some k_≠(v342:Value).ownBlock)) (by (with_reducible repeat (first|apply Kd.R_alloc|apply Kd.R_drewN|apply Kd.R_drew));exact HO_12.out) hg hat)).2.1)));have n5_:=Ax (ho);clear HO_12;clear HO343;clear HB;clear HR350;clear HR357;clear HO353;have HO_12:=n0_;have HO343:=n1_;have HB:=n2_;have HR350:=n3_;have HR357:=n4_;have HO360:=n5_;clear n0_ n1_ n2_ n3_ n4_ n5_;clear ho hb hg hat;obtain⟨Ao50,co50,eo50⟩:=Kd.R_slice HO360.out
                    (first|subst eo50|(injection eo50 with f1_ f2_ f3_;have f4_:=f1_.symm;have f5_:=f3_.symm;clear f1_ f2_ f3_;subst f4_;subst f5_))
                    obtain⟨Ao51,co51,eo51⟩:=Kd.R_slice HO343.out
                    (first|subst eo51|(injection eo51 with f1_ f2_ f3_;have f4_:=f1_.symm;have f5_:=f3_.symm;clear f1_ f2_ f3_;subst f4_;subst f5_))
                    refine hK.out _ _ trivial (fun hHeld=>?_);clear hK K;refine norm_ (a':=?_) ?_ ?_;rotate_left
                    ·show Act.put _ (some 85) _=_
                     simp only[sP];rfl
                    refine one_ (i:=13) (N:=some 87) #[tr,tr,tr,tr,tr,tr,tr,tr,tr,tr,tr,tr,tr,tr,fa] rfl rfl (one_of HT_.out (by kernel_rfl)) (by decide) (fun K hK=>?_);refine goes_ Try.func14 (by kernel_rfl) rfl #[.slice Ao50 y358.length co50,.slice Ao51 t341.length co51] (by rfl) rfl rfl gS ?_;with_reducible refine (spoorref13_Same.calls kj22 _ _ y358 _ _ t341 t361 _ ?side1 ?side2 ?side3 ?side4 A40.out).mono ?_
                    (case side1=>repeat (first|exact (Kd.R_reads' HO360.out).2.2|(with_reducible refine Kd.C_alloc ?_ _)|(with_reducible refine Kd.C_drewN ?_ _)|(with_reducible refine Kd.C_drew ?_)))
                    (case side2=>exact (Kd.R_reads' HO360.out).2.1)
                    (case side3=>repeat (first|exact (Kd.R_reads' HO343.out).2.2|(with_reducible refine Kd.C_alloc ?_ _)|(with_reducible refine Kd.C_drewN ?_ _)|(with_reducible refine Kd.C_drew ?_)))
                    (case side4=>exact (Kd.R_reads' HO343.out).2.1)
                    rintro e w' ⟨rfl,⟨nd,rfl⟩⟩
                    refine⟨_,rfl,?_⟩;refine hK.out _ _ trivial (fun hHeld=>?_);clear hK K;refine norm_ (a':=?_) ?_ ?_;rotate_left
                    ·show Act.put _ (some 87) _=_
                     simp only[sP];rfl
                    refine pz 14 6 #[tr,tr,tr,tr,tr,tr,tr,tr,tr,tr,tr,tr,tr,tr,tr] HT_.out ?_
                    refine done_ (done_of HT_.out (by kernel_rfl)) ?_;try go_wp2
                    go_ret;exact⟨by first|rfl|(simp [errW_none,errW_some] <;> rfl)|(simp only[← hji36];first|rfl|(simp [errW_none,errW_some] <;> rfl))|(simp [*,errW_none,errW_some] <;> rfl),bw0 HB.out⟩
                   ·rw [if_neg c39]at H;exact absurd H (by simp)
                  ·rw [if_neg c38]at H;exact absurd H (by simp)
                 ·rw [if_neg c37]at H;exact absurd H (by simp)
                ·rw [if_neg c35]at H;exact absurd H (by simp)
               ·rw [if_neg c34]at H;exact absurd H (by simp)
              ·rw [if_neg c33]at H;exact absurd H (by simp)
             ·rw [if_neg c31]at H;exact absurd H (by simp)
         ·rw [if_neg c21]at H;exact absurd H (by simp)
        ·rw [if_neg c20]at H;exact absurd H (by simp)
 ·replace c5:=Bool.eq_false_iff.mpr c5;subst c5;have H1:(none)=some r:=by rw [if_neg (show ¬ (false=true) by decide)]at H;exact H
  clear H;have H:=H1;clear H1;exact absurd H (by simp)
def cutter_long.f (a0:ByteArray):Option (Int):=if 1<(a0.size:Int) then (if 2<(a0.size:Int) then (some (Go.bits .or .i64 (wrap64 ((wrap64 (bt a0 1)) * 256)) (wrap64 (bt a0 2)))) else (none)) else (none)
set_option maxHeartbeats 8000000 in
set_option maxRecDepth 100000 in
theorem cutter_long.calls (a0:ByteArray) (r:Int) (w:World) (h:cutter_long.f a0=some r):
  Calls Try.prog 56 #[.string a0] w fun e w'=>e= .returned (.int .i64 r)∧Drawn0 w w':=by
 have H:(if 1<(a0.size:Int) then (if 2<(a0.size:Int) then (some (Go.bits .or .i64 (wrap64 ((wrap64 (bt a0 1)) * 256)) (wrap64 (bt a0 2)))) else (none)) else (none))=some r:=h;clear h;by_cases c2:1<(a0.size:Int)
 ·rw [if_pos c2]at H;have c2b0:decide (1<(a0.size:Int))=true:=decide_eq_true c2;have c2b1:decide (1<a0.size)=true:=decide_eq_true (by omega);clear c2;by_cases c4:2<(a0.size:Int)
  ·rw [if_pos c4]at H;have c4b0:decide (2<(a0.size:Int))=true:=decide_eq_true c4;have c4b1:decide (2<a0.size)=true:=decide_eq_true (by omega);clear c4;obtain rfl:=Option.some.inj H;have p3:0≤(1:Int):=(by omega);have q3:1<a0.size:=(by have:(1:Int)<(a0.size:Int):=of_decide_eq_true (by first|(with_reducible assumption)|assumption);first|omega|(simp only[ByteArray.size_append];omega));have hx3: ∀ h:1<a0.size,((a0[1]'h).toNat:Int)=bt a0 1:=bt_at a0 1;clear p3;have qi3:(1<(a0.size:Int))=True:=eq_true (of_decide_eq_true (by first|(with_reducible assumption)|assumption));replace q3:=eq_true q3;have p5:0≤(2:Int):=(by omega);have q5:2<a0.size:=(by have:(2:Int)<(a0.size:Int):=of_decide_eq_true (by first|(with_reducible assumption)|assumption);first|omega|(simp only[ByteArray.size_append];omega));have hx5: ∀ h:2<a0.size,((a0[2]'h).toNat:Int)=bt a0 2:=bt_at a0 2;clear p5;have qi5:(2<(a0.size:Int))=True:=eq_true (of_decide_eq_true (by first|(with_reducible assumption)|assumption));replace q5:=eq_true q5;go_enter Try.func56,Try.ntmps56;go_wp2
   repeat (go_quiet (fail);try go_wp2)
   go_ret;exact⟨by first|rfl|(simp;done)|(simp [*];done),by repeat (first|exact Drawn0.refl _|apply Drawn0.step)⟩
  ·rw [if_neg c4]at H;exact absurd H (by simp)
 ·rw [if_neg c2]at H;exact absurd H (by simp)
def cutter_begins.f (a0:ByteArray):Option (Bool):=if 0<(a0.size:Int) then (if (bt a0 0)=245 then (if (a0.size:Int)<3 then (some true) else ((cutter_long.f a0).bind fun t362=>((cutter_fit.f t362).bind fun t363=>(if t363=true then (some (decide ((wrap64 ((a0.size:Int) - 3))<t362))) else (some false))))) else (some false)) else (none)
set_option maxHeartbeats 8000000 in
set_option maxRecDepth 100000 in
theorem cutter_begins.calls (a0:ByteArray) (r:Bool) (w:World) (h:cutter_begins.f a0=some r):
  Calls Try.prog 54 #[.string a0] w fun e w'=>e= .returned (.bool r)∧Drawn0 w w':=by
 have H:(if 0<(a0.size:Int) then (if (bt a0 0)=245 then (if (a0.size:Int)<3 then (some true) else ((cutter_long.f a0).bind fun t362=>((cutter_fit.f t362).bind fun t363=>(if t363=true then (some (decide ((wrap64 ((a0.size:Int) - 3))<t362))) else (some false))))) else (some false)) else (none))=some r:=h;clear h;by_cases c2:0<(a0.size:Int)
 ·rw [if_pos c2]at H;have c2b0:decide (0<(a0.size:Int))=true:=decide_eq_true c2;have c2b1:decide (0<a0.size)=true:=decide_eq_true (by omega);clear c2;by_cases c4:(bt a0 0)=245
  ·rw [if_pos c4]at H;have c4b0:((bt a0 0)==245)=true:=beq_iff_eq.mpr c4;have c4b1:((bt a0 0) !=245)=false:=bne_eq_false_iff_eq.mpr c4;clear c4;by_cases c5:(a0.size:Int)<3;·rw [if_pos c5]at H;have c5b0:decide ((a0.size:Int)<3)=true:=decide_eq_true c5;have c5b1:decide (a0.size<3)=true:=decide_eq_true (by omega);clear c5;obtain rfl:=Option.some.inj H;have p3:0≤(0:Int):=(by omega);have q3:0<a0.size:=(by have:(0:Int)<(a0.size:Int):=of_decide_eq_true (by first|(with_reducible assumption)|assumption);first|omega|(simp only[ByteArray.size_append];omega));have hx3: ∀ h:0<a0.size,((a0[0]'h).toNat:Int)=bt a0 0:=bt_at a0 0;clear p3;have qi3:(0<(a0.size:Int))=True:=eq_true (of_decide_eq_true (by first|(with_reducible assumption)|assumption));replace q3:=eq_true q3;go_enter Try.func54,Try.ntmps54;go_wp2;go_ret;exact⟨by first|rfl|(simp;done)|(simp [*];done),by repeat (first|exact Drawn0.refl _|apply Drawn0.step)⟩
   ·rw [if_neg c5]at H;have c5b0:decide ((a0.size:Int)<3)=false:=decide_eq_false c5;have c5b1:decide (a0.size<3)=false:=decide_eq_false (by omega);clear c5;replace H:=Option.bind_eq_some_iff.mp H;obtain⟨t362,A60,H⟩:=H;replace H:((cutter_fit.f t362).bind fun t363=>(if t363=true then (some (decide ((wrap64 ((a0.size:Int) - 3))<t362))) else (some false)))=some r:=H;have A6:=Ax A60;clear A60;replace H:=Option.bind_eq_some_iff.mp H;obtain⟨t363,A70,H⟩:=H;replace H:(if t363=true then (some (decide ((wrap64 ((a0.size:Int) - 3))<t362))) else (some false))=some r:=H;have A7:=Ax A70;clear A70;by_cases c8:t363=true
    ·subst c8;have H1:(some (decide ((wrap64 ((a0.size:Int) - 3))<t362)))=some r:=by rw [if_pos rfl]at H;exact H
     clear H;have H:=H1;clear H1;obtain rfl:=Option.some.inj H;have p3:0≤(0:Int):=(by omega);have q3:0<a0.size:=(by have:(0:Int)<(a0.size:Int):=of_decide_eq_true (by first|(with_reducible assumption)|assumption);first|omega|(simp only[ByteArray.size_append];omega));have hx3: ∀ h:0<a0.size,((a0[0]'h).toNat:Int)=bt a0 0:=bt_at a0 0;clear p3;have qi3:(0<(a0.size:Int))=True:=eq_true (of_decide_eq_true (by first|(with_reducible assumption)|assumption));replace q3:=eq_true q3;go_enter Try.func54,Try.ntmps54;go_wp2_with (first|((with_reducible refine gate_callee (f:=56) rfl ?_);refine goesL_ (some 13) rfl rfl Try.func56 (by kernel_rfl) rfl #[.string a0] rfl gS ?_;(with_reducible refine (cutter_long.calls a0 t362 _ A6.out).mono ?_);rintro e w' ⟨rfl,⟨nd,rfl⟩⟩;refine⟨_,rfl,?_⟩)|((with_reducible refine gate_callee (f:=48) rfl ?_);refine goesL_ (some 15) rfl rfl Try.func48 (by kernel_rfl) rfl #[.int .i64 t362] rfl gS ?_;(with_reducible refine (cutter_fit.calls t362 true _ A7.out).mono ?_);rintro e w' ⟨rfl,⟨nd,rfl⟩⟩;refine⟨_,rfl,?_⟩));go_ret;exact⟨by first|rfl|(simp;done)|(simp [*];done),by repeat (first|exact Drawn0.refl _|apply Drawn0.step)⟩
    ·replace c8:=Bool.eq_false_iff.mpr c8;subst c8;have H1:(some false)=some r:=by rw [if_neg (show ¬ (false=true) by decide)]at H;exact H
     clear H;have H:=H1;clear H1;obtain rfl:=Option.some.inj H;have p3:0≤(0:Int):=(by omega);have q3:0<a0.size:=(by have:(0:Int)<(a0.size:Int):=of_decide_eq_true (by first|(with_reducible assumption)|assumption);first|omega|(simp only[ByteArray.size_append];omega));have hx3: ∀ h:0<a0.size,((a0[0]'h).toNat:Int)=bt a0 0:=bt_at a0 0;clear p3;have qi3:(0<(a0.size:Int))=True:=eq_true (of_decide_eq_true (by first|(with_reducible assumption)|assumption));replace q3:=eq_true q3;go_enter Try.func54,Try.ntmps54;go_wp2_with (first|((with_reducible refine gate_callee (f:=56) rfl ?_);refine goesL_ (some 13) rfl rfl Try.func56 (by kernel_rfl) rfl #[.string a0] rfl gS ?_;(with_reducible refine (cutter_long.calls a0 t362 _ A6.out).mono ?_);rintro e w' ⟨rfl,⟨nd,rfl⟩⟩;refine⟨_,rfl,?_⟩)|((with_reducible refine gate_callee (f:=48) rfl ?_);refine goesL_ (some 15) rfl rfl Try.func48 (by kernel_rfl) rfl #[.int .i64 t362] rfl gS ?_;(with_reducible refine (cutter_fit.calls t362 false _ A7.out).mono ?_);rintro e w' ⟨rfl,⟨nd,rfl⟩⟩;refine⟨_,rfl,?_⟩));go_ret;exact⟨by first|rfl|(simp;done)|(simp [*];done),by repeat (first|exact Drawn0.refl _|apply Drawn0.step)⟩
  ·rw [if_neg c4]at H;have c4b0:((bt a0 0)==245)=false:=beq_eq_false_iff_ne.mpr c4;have c4b1:((bt a0 0) !=245)=true:=bne_iff_ne.mpr c4;obtain rfl:=Option.some.inj H;have p3:0≤(0:Int):=(by omega);have q3:0<a0.size:=(by have:(0:Int)<(a0.size:Int):=of_decide_eq_true (by first|(with_reducible assumption)|assumption);first|omega|(simp only[ByteArray.size_append];omega));have hx3: ∀ h:0<a0.size,((a0[0]'h).toNat:Int)=bt a0 0:=bt_at a0 0;clear p3;have qi3:(0<(a0.size:Int))=True:=eq_true (of_decide_eq_true (by first|(with_reducible assumption)|assumption));replace q3:=eq_true q3;go_enter Try.func54,Try.ntmps54;go_wp2;go_ret;exact⟨by first|rfl|(simp;done)|(simp [*];done),by repeat (first|exact Drawn0.refl _|apply Drawn0.step)⟩
 ·rw [if_neg c2]at H;exact absurd H (by simp)
def cutter_Check.f (a0_0:ByteArray) (a0_1:Bool) (a0_2:Int):Option (Int):=if a0_2<0 then (some 2) else (if a0_2 > 65535 then (some 2) else (if a0_0.toList=([]:List UInt8) then (if a0_2 > 0 then (if a0_1=true then (some 2) else (some 0)) else (some 0)) else (if a0_2 > 0 then (some 2) else (if a0_1=true then (some 2) else ((cutter_begins.f a0_0).bind fun t365=>(if t365=true then (some 0) else (some 2)))))))
set_option maxHeartbeats 8000000 in
set_option maxRecDepth 100000 in
theorem cutter_Check.calls (a0_0:ByteArray) (a0_1:Bool) (a0_2:Int) (r:Int) (w:World) (h:cutter_Check.f a0_0 a0_1 a0_2=some r):
  Calls Try.prog 29 #[.agg #[.string a0_0,.bool a0_1,.int .i64 a0_2]] w fun e w'=>e= .returned (.int .i64 r)∧Below w.heap.size w w':=by
 have hu57:=Try.underlying57;have HB:=Ax (Below.refl w.heap.size w);have H:(if a0_2<0 then (some 2) else (if a0_2 > 65535 then (some 2) else (if a0_0.toList=([]:List UInt8) then (if a0_2 > 0 then (if a0_1=true then (some 2) else (some 0)) else (some 0)) else (if a0_2 > 0 then (some 2) else (if a0_1=true then (some 2) else ((cutter_begins.f a0_0).bind fun t365=>(if t365=true then (some 0) else (some 2))))))))=some r:=h;clear h;by_cases c2:a0_2<0
 ·rw [if_pos c2]at H;have c2b0:decide (a0_2<0)=true:=decide_eq_true c2;clear c2;obtain rfl:=Option.some.inj H;go_enter Try.func29,Try.ntmps29;go_wp2_with (first|((with_reducible refine gate_dst (N:=1) rfl ?_);refine box_event ?hg (N:=1) ?hd (cs:= #[.string a0_0,.bool a0_1,.int .i64 a0_2]) (t:=57) ?hr ?_;(case hd=>rfl);(case hg=>rfl);(case hr=>first|(go_simp;done)|(go_simp;rfl));intro gb364 hg w3 hbox hb;have n0_:=Bs0 HB hb;have n1_:=Ax (hbox);have n2_:=Gw0 HB hg;have n3_:=Gw0 HB hg;clear HB;have HB:=n0_;have BK364:=n1_;have GW364:=n2_;have GE364:=n3_;clear n0_ n1_ n2_ n3_;clear hb hbox hg;obtain⟨hcz4_0,hcz4_1,hcz4_2,hfz4_0,hfz4_1,hfz4_2⟩:=cl3 BK364))
  repeat (go_quiet (first|((with_reducible refine gate_dst (N:=1) rfl ?_);refine box_event ?hg (N:=1) ?hd (cs:= #[.string a0_0,.bool a0_1,.int .i64 a0_2]) (t:=57) ?hr ?_;(case hd=>rfl);(case hg=>rfl);(case hr=>first|(go_simp;done)|(go_simp;rfl));intro gb364 hg w3 hbox hb;have n0_:=Bs0 HB hb;have n1_:=Ax (hbox);have n2_:=Gw0 HB hg;have n3_:=Gw0 HB hg;clear HB;have HB:=n0_;have BK364:=n1_;have GW364:=n2_;have GE364:=n3_;clear n0_ n1_ n2_ n3_;clear hb hbox hg;obtain⟨hcz4_0,hcz4_1,hcz4_2,hfz4_0,hfz4_1,hfz4_2⟩:=cl3 BK364));try go_wp2_with (first|((with_reducible refine gate_dst (N:=1) rfl ?_);refine box_event ?hg (N:=1) ?hd (cs:= #[.string a0_0,.bool a0_1,.int .i64 a0_2]) (t:=57) ?hr ?_;(case hd=>rfl);(case hg=>rfl);(case hr=>first|(go_simp;done)|(go_simp;rfl));intro gb364 hg w3 hbox hb;have n0_:=Bs0 HB hb;have n1_:=Ax (hbox);have n2_:=Gw0 HB hg;have n3_:=Gw0 HB hg;clear HB;have HB:=n0_;have BK364:=n1_;have GW364:=n2_;have GE364:=n3_;clear n0_ n1_ n2_ n3_;clear hb hbox hg;obtain⟨hcz4_0,hcz4_1,hcz4_2,hfz4_0,hfz4_1,hfz4_2⟩:=cl3 BK364)))
  go_ret;exact⟨eS,bw1 HB.out GE364.out⟩
 ·rw [if_neg c2]at H;have c2b0:decide (a0_2<0)=false:=decide_eq_false c2;clear c2;by_cases c5:a0_2 > 65535
  ·rw [if_pos c5]at H;have c5b0:decide (65535<a0_2)=true:=decide_eq_true c5;clear c5;obtain rfl:=Option.some.inj H;go_enter Try.func29,Try.ntmps29;go_wp2_with (first|((with_reducible refine gate_dst (N:=1) rfl ?_);refine box_event ?hg (N:=1) ?hd (cs:= #[.string a0_0,.bool a0_1,.int .i64 a0_2]) (t:=57) ?hr ?_;(case hd=>rfl);(case hg=>rfl);(case hr=>first|(go_simp;done)|(go_simp;rfl));intro gb364 hg w6 hbox hb;have n0_:=Bs0 HB hb;have n1_:=Ax (hbox);have n2_:=Gw0 HB hg;have n3_:=Gw0 HB hg;clear HB;have HB:=n0_;have BK364:=n1_;have GW364:=n2_;have GE364:=n3_;clear n0_ n1_ n2_ n3_;clear hb hbox hg;obtain⟨hcz7_0,hcz7_1,hcz7_2,hfz7_0,hfz7_1,hfz7_2⟩:=cl3 BK364))
   repeat (go_quiet (first|((with_reducible refine gate_dst (N:=1) rfl ?_);refine box_event ?hg (N:=1) ?hd (cs:= #[.string a0_0,.bool a0_1,.int .i64 a0_2]) (t:=57) ?hr ?_;(case hd=>rfl);(case hg=>rfl);(case hr=>first|(go_simp;done)|(go_simp;rfl));intro gb364 hg w6 hbox hb;have n0_:=Bs0 HB hb;have n1_:=Ax (hbox);have n2_:=Gw0 HB hg;have n3_:=Gw0 HB hg;clear HB;have HB:=n0_;have BK364:=n1_;have GW364:=n2_;have GE364:=n3_;clear n0_ n1_ n2_ n3_;clear hb hbox hg;obtain⟨hcz7_0,hcz7_1,hcz7_2,hfz7_0,hfz7_1,hfz7_2⟩:=cl3 BK364));try go_wp2_with (first|((with_reducible refine gate_dst (N:=1) rfl ?_);refine box_event ?hg (N:=1) ?hd (cs:= #[.string a0_0,.bool a0_1,.int .i64 a0_2]) (t:=57) ?hr ?_;(case hd=>rfl);(case hg=>rfl);(case hr=>first|(go_simp;done)|(go_simp;rfl));intro gb364 hg w6 hbox hb;have n0_:=Bs0 HB hb;have n1_:=Ax (hbox);have n2_:=Gw0 HB hg;have n3_:=Gw0 HB hg;clear HB;have HB:=n0_;have BK364:=n1_;have GW364:=n2_;have GE364:=n3_;clear n0_ n1_ n2_ n3_;clear hb hbox hg;obtain⟨hcz7_0,hcz7_1,hcz7_2,hfz7_0,hfz7_1,hfz7_2⟩:=cl3 BK364)))
   go_ret;exact⟨eS,bw1 HB.out GE364.out⟩
  ·rw [if_neg c5]at H;have c5b0:decide (65535<a0_2)=false:=decide_eq_false c5;clear c5;by_cases c8:a0_0.toList=([]:List UInt8)
   ·rw [if_pos c8]at H;have c8b0:(a0_0.toList==([]:List UInt8))=true:=beq_iff_eq.mpr c8;have c8b1:(a0_0.toList !=([]:List UInt8))=false:=bne_eq_false_iff_eq.mpr c8;clear c8;by_cases c9:a0_2 > 0
    ·rw [if_pos c9]at H;have c9b0:decide (0<a0_2)=true:=decide_eq_true c9;clear c9;by_cases c10:a0_1=true
     ·subst c10;have H1:(some 2)=some r:=by rw [if_pos rfl]at H;exact H
      clear H;have H:=H1;clear H1;obtain rfl:=Option.some.inj H;go_enter Try.func29,Try.ntmps29;go_wp2_with (first|((with_reducible refine gate_dst (N:=1) rfl ?_);refine box_event ?hg (N:=1) ?hd (cs:= #[.string a0_0,.bool true,.int .i64 a0_2]) (t:=57) ?hr ?_;(case hd=>rfl);(case hg=>rfl);(case hr=>first|(go_simp;done)|(go_simp;rfl));intro gb364 hg w11 hbox hb;have n0_:=Bs0 HB hb;have n1_:=Ax (hbox);have n2_:=Gw0 HB hg;have n3_:=Gw0 HB hg;clear HB;have HB:=n0_;have BK364:=n1_;have GW364:=n2_;have GE364:=n3_;clear n0_ n1_ n2_ n3_;clear hb hbox hg;obtain⟨hcz12_0,hcz12_1,hcz12_2,hfz12_0,hfz12_1,hfz12_2⟩:=cl3 BK364))
      repeat (go_quiet (first|((with_reducible refine gate_dst (N:=1) rfl ?_);refine box_event ?hg (N:=1) ?hd (cs:= #[.string a0_0,.bool true,.int .i64 a0_2]) (t:=57) ?hr ?_;(case hd=>rfl);(case hg=>rfl);(case hr=>first|(go_simp;done)|(go_simp;rfl));intro gb364 hg w11 hbox hb;have n0_:=Bs0 HB hb;have n1_:=Ax (hbox);have n2_:=Gw0 HB hg;have n3_:=Gw0 HB hg;clear HB;have HB:=n0_;have BK364:=n1_;have GW364:=n2_;have GE364:=n3_;clear n0_ n1_ n2_ n3_;clear hb hbox hg;obtain⟨hcz12_0,hcz12_1,hcz12_2,hfz12_0,hfz12_1,hfz12_2⟩:=cl3 BK364));try go_wp2_with (first|((with_reducible refine gate_dst (N:=1) rfl ?_);refine box_event ?hg (N:=1) ?hd (cs:= #[.string a0_0,.bool true,.int .i64 a0_2]) (t:=57) ?hr ?_;(case hd=>rfl);(case hg=>rfl);(case hr=>first|(go_simp;done)|(go_simp;rfl));intro gb364 hg w11 hbox hb;have n0_:=Bs0 HB hb;have n1_:=Ax (hbox);have n2_:=Gw0 HB hg;have n3_:=Gw0 HB hg;clear HB;have HB:=n0_;have BK364:=n1_;have GW364:=n2_;have GE364:=n3_;clear n0_ n1_ n2_ n3_;clear hb hbox hg;obtain⟨hcz12_0,hcz12_1,hcz12_2,hfz12_0,hfz12_1,hfz12_2⟩:=cl3 BK364)))
      go_ret;exact⟨eS,bw1 HB.out GE364.out⟩
     ·replace c10:=Bool.eq_false_iff.mpr c10;subst c10;have H1:(some 0)=some r:=by rw [if_neg (show ¬ (false=true) by decide)]at H;exact H
      clear H;have H:=H1;clear H1;obtain rfl:=Option.some.inj H;go_enter Try.func29,Try.ntmps29;go_wp2_with (first|((with_reducible refine gate_dst (N:=1) rfl ?_);refine box_event ?hg (N:=1) ?hd (cs:= #[.string a0_0,.bool false,.int .i64 a0_2]) (t:=57) ?hr ?_;(case hd=>rfl);(case hg=>rfl);(case hr=>first|(go_simp;done)|(go_simp;rfl));intro gb364 hg w13 hbox hb;have n0_:=Bs0 HB hb;have n1_:=Ax (hbox);have n2_:=Gw0 HB hg;have n3_:=Gw0 HB hg;clear HB;have HB:=n0_;have BK364:=n1_;have GW364:=n2_;have GE364:=n3_;clear n0_ n1_ n2_ n3_;clear hb hbox hg;obtain⟨hcz14_0,hcz14_1,hcz14_2,hfz14_0,hfz14_1,hfz14_2⟩:=cl3 BK364))
      repeat (go_quiet (first|((with_reducible refine gate_dst (N:=1) rfl ?_);refine box_event ?hg (N:=1) ?hd (cs:= #[.string a0_0,.bool false,.int .i64 a0_2]) (t:=57) ?hr ?_;(case hd=>rfl);(case hg=>rfl);(case hr=>first|(go_simp;done)|(go_simp;rfl));intro gb364 hg w13 hbox hb;have n0_:=Bs0 HB hb;have n1_:=Ax (hbox);have n2_:=Gw0 HB hg;have n3_:=Gw0 HB hg;clear HB;have HB:=n0_;have BK364:=n1_;have GW364:=n2_;have GE364:=n3_;clear n0_ n1_ n2_ n3_;clear hb hbox hg;obtain⟨hcz14_0,hcz14_1,hcz14_2,hfz14_0,hfz14_1,hfz14_2⟩:=cl3 BK364));try go_wp2_with (first|((with_reducible refine gate_dst (N:=1) rfl ?_);refine box_event ?hg (N:=1) ?hd (cs:= #[.string a0_0,.bool false,.int .i64 a0_2]) (t:=57) ?hr ?_;(case hd=>rfl);(case hg=>rfl);(case hr=>first|(go_simp;done)|(go_simp;rfl));intro gb364 hg w13 hbox hb;have n0_:=Bs0 HB hb;have n1_:=Ax (hbox);have n2_:=Gw0 HB hg;have n3_:=Gw0 HB hg;clear HB;have HB:=n0_;have BK364:=n1_;have GW364:=n2_;have GE364:=n3_;clear n0_ n1_ n2_ n3_;clear hb hbox hg;obtain⟨hcz14_0,hcz14_1,hcz14_2,hfz14_0,hfz14_1,hfz14_2⟩:=cl3 BK364)))
      go_ret;exact⟨eS,bw1 HB.out GE364.out⟩
    ·rw [if_neg c9]at H;have c9b0:decide (0<a0_2)=false:=decide_eq_false c9;clear c9;obtain rfl:=Option.some.inj H;go_enter Try.func29,Try.ntmps29;go_wp2_with (first|((with_reducible refine gate_dst (N:=1) rfl ?_);refine box_event ?hg (N:=1) ?hd (cs:= #[.string a0_0,.bool a0_1,.int .i64 a0_2]) (t:=57) ?hr ?_;(case hd=>rfl);(case hg=>rfl);(case hr=>first|(go_simp;done)|(go_simp;rfl));intro gb364 hg w15 hbox hb;have n0_:=Bs0 HB hb;have n1_:=Ax (hbox);have n2_:=Gw0 HB hg;have n3_:=Gw0 HB hg;clear HB;have HB:=n0_;have BK364:=n1_;have GW364:=n2_;have GE364:=n3_;clear n0_ n1_ n2_ n3_;clear hb hbox hg;obtain⟨hcz16_0,hcz16_1,hcz16_2,hfz16_0,hfz16_1,hfz16_2⟩:=cl3 BK364))
     repeat (go_quiet (first|((with_reducible refine gate_dst (N:=1) rfl ?_);refine box_event ?hg (N:=1) ?hd (cs:= #[.string a0_0,.bool a0_1,.int .i64 a0_2]) (t:=57) ?hr ?_;(case hd=>rfl);(case hg=>rfl);(case hr=>first|(go_simp;done)|(go_simp;rfl));intro gb364 hg w15 hbox hb;have n0_:=Bs0 HB hb;have n1_:=Ax (hbox);have n2_:=Gw0 HB hg;have n3_:=Gw0 HB hg;clear HB;have HB:=n0_;have BK364:=n1_;have GW364:=n2_;have GE364:=n3_;clear n0_ n1_ n2_ n3_;clear hb hbox hg;obtain⟨hcz16_0,hcz16_1,hcz16_2,hfz16_0,hfz16_1,hfz16_2⟩:=cl3 BK364));try go_wp2_with (first|((with_reducible refine gate_dst (N:=1) rfl ?_);refine box_event ?hg (N:=1) ?hd (cs:= #[.string a0_0,.bool a0_1,.int .i64 a0_2]) (t:=57) ?hr ?_;(case hd=>rfl);(case hg=>rfl);(case hr=>first|(go_simp;done)|(go_simp;rfl));intro gb364 hg w15 hbox hb;have n0_:=Bs0 HB hb;have n1_:=Ax (hbox);have n2_:=Gw0 HB hg;have n3_:=Gw0 HB hg;clear HB;have HB:=n0_;have BK364:=n1_;have GW364:=n2_;have GE364:=n3_;clear n0_ n1_ n2_ n3_;clear hb hbox hg;obtain⟨hcz16_0,hcz16_1,hcz16_2,hfz16_0,hfz16_1,hfz16_2⟩:=cl3 BK364)))
     go_ret;exact⟨eS,bw1 HB.out GE364.out⟩
   ·rw [if_neg c8]at H;have c8b0:(a0_0.toList==([]:List UInt8))=false:=beq_eq_false_iff_ne.mpr c8;have c8b1:(a0_0.toList !=([]:List UInt8))=true:=bne_iff_ne.mpr c8;by_cases c17:a0_2 > 0
    ·rw [if_pos c17]at H;have c17b0:decide (0<a0_2)=true:=decide_eq_true c17;clear c17;obtain rfl:=Option.some.inj H;go_enter Try.func29,Try.ntmps29;go_wp2_with (first|((with_reducible refine gate_dst (N:=1) rfl ?_);refine box_event ?hg (N:=1) ?hd (cs:= #[.string a0_0,.bool a0_1,.int .i64 a0_2]) (t:=57) ?hr ?_;(case hd=>rfl);(case hg=>rfl);(case hr=>first|(go_simp;done)|(go_simp;rfl));intro gb364 hg w18 hbox hb;have n0_:=Bs0 HB hb;have n1_:=Ax (hbox);have n2_:=Gw0 HB hg;have n3_:=Gw0 HB hg;clear HB;have HB:=n0_;have BK364:=n1_;have GW364:=n2_;have GE364:=n3_;clear n0_ n1_ n2_ n3_;clear hb hbox hg;obtain⟨hcz19_0,hcz19_1,hcz19_2,hfz19_0,hfz19_1,hfz19_2⟩:=cl3 BK364))
     repeat (go_quiet (first|((with_reducible refine gate_dst (N:=1) rfl ?_);refine box_event ?hg (N:=1) ?hd (cs:= #[.string a0_0,.bool a0_1,.int .i64 a0_2]) (t:=57) ?hr ?_;(case hd=>rfl);(case hg=>rfl);(case hr=>first|(go_simp;done)|(go_simp;rfl));intro gb364 hg w18 hbox hb;have n0_:=Bs0 HB hb;have n1_:=Ax (hbox);have n2_:=Gw0 HB hg;have n3_:=Gw0 HB hg;clear HB;have HB:=n0_;have BK364:=n1_;have GW364:=n2_;have GE364:=n3_;clear n0_ n1_ n2_ n3_;clear hb hbox hg;obtain⟨hcz19_0,hcz19_1,hcz19_2,hfz19_0,hfz19_1,hfz19_2⟩:=cl3 BK364));try go_wp2_with (first|((with_reducible refine gate_dst (N:=1) rfl ?_);refine box_event ?hg (N:=1) ?hd (cs:= #[.string a0_0,.bool a0_1,.int .i64 a0_2]) (t:=57) ?hr ?_;(case hd=>rfl);(case hg=>rfl);(case hr=>first|(go_simp;done)|(go_simp;rfl));intro gb364 hg w18 hbox hb;have n0_:=Bs0 HB hb;have n1_:=Ax (hbox);have n2_:=Gw0 HB hg;have n3_:=Gw0 HB hg;clear HB;have HB:=n0_;have BK364:=n1_;have GW364:=n2_;have GE364:=n3_;clear n0_ n1_ n2_ n3_;clear hb hbox hg;obtain⟨hcz19_0,hcz19_1,hcz19_2,hfz19_0,hfz19_1,hfz19_2⟩:=cl3 BK364)))
     go_ret;exact⟨eS,bw1 HB.out GE364.out⟩
    ·rw [if_neg c17]at H;have c17b0:decide (0<a0_2)=false:=decide_eq_false c17;clear c17;by_cases c20:a0_1=true
     ·subst c20;have H1:(some 2)=some r:=by rw [if_pos rfl]at H;exact H
      clear H;have H:=H1;clear H1;obtain rfl:=Option.some.inj H;go_enter Try.func29,Try.ntmps29;go_wp2_with (first|((with_reducible refine gate_dst (N:=1) rfl ?_);refine box_event ?hg (N:=1) ?hd (cs:= #[.string a0_0,.bool true,.int .i64 a0_2]) (t:=57) ?hr ?_;(case hd=>rfl);(case hg=>rfl);(case hr=>first|(go_simp;done)|(go_simp;rfl));intro gb364 hg w21 hbox hb;have n0_:=Bs0 HB hb;have n1_:=Ax (hbox);have n2_:=Gw0 HB hg;have n3_:=Gw0 HB hg;clear HB;have HB:=n0_;have BK364:=n1_;have GW364:=n2_;have GE364:=n3_;clear n0_ n1_ n2_ n3_;clear hb hbox hg;obtain⟨hcz22_0,hcz22_1,hcz22_2,hfz22_0,hfz22_1,hfz22_2⟩:=cl3 BK364))
      repeat (go_quiet (first|((with_reducible refine gate_dst (N:=1) rfl ?_);refine box_event ?hg (N:=1) ?hd (cs:= #[.string a0_0,.bool true,.int .i64 a0_2]) (t:=57) ?hr ?_;(case hd=>rfl);(case hg=>rfl);(case hr=>first|(go_simp;done)|(go_simp;rfl));intro gb364 hg w21 hbox hb;have n0_:=Bs0 HB hb;have n1_:=Ax (hbox);have n2_:=Gw0 HB hg;have n3_:=Gw0 HB hg;clear HB;have HB:=n0_;have BK364:=n1_;have GW364:=n2_;have GE364:=n3_;clear n0_ n1_ n2_ n3_;clear hb hbox hg;obtain⟨hcz22_0,hcz22_1,hcz22_2,hfz22_0,hfz22_1,hfz22_2⟩:=cl3 BK364));try go_wp2_with (first|((with_reducible refine gate_dst (N:=1) rfl ?_);refine box_event ?hg (N:=1) ?hd (cs:= #[.string a0_0,.bool true,.int .i64 a0_2]) (t:=57) ?hr ?_;(case hd=>rfl);(case hg=>rfl);(case hr=>first|(go_simp;done)|(go_simp;rfl));intro gb364 hg w21 hbox hb;have n0_:=Bs0 HB hb;have n1_:=Ax (hbox);have n2_:=Gw0 HB hg;have n3_:=Gw0 HB hg;clear HB;have HB:=n0_;have BK364:=n1_;have GW364:=n2_;have GE364:=n3_;clear n0_ n1_ n2_ n3_;clear hb hbox hg;obtain⟨hcz22_0,hcz22_1,hcz22_2,hfz22_0,hfz22_1,hfz22_2⟩:=cl3 BK364)))
      go_ret;exact⟨eS,bw1 HB.out GE364.out⟩
     ·replace c20:=Bool.eq_false_iff.mpr c20;subst c20;have H1:((cutter_begins.f a0_0).bind fun t365=>(if t365=true then (some 0) else (some 2)))=some r:=by rw [if_neg (show ¬ (false=true) by decide)]at H;exact H
      clear H;have H:=H1;clear H1;replace H:=Option.bind_eq_some_iff.mp H;obtain⟨t365,A230,H⟩:=H;replace H:(if t365=true then (some 0) else (some 2))=some r:=H;have A23:=Ax A230;clear A230;by_cases c24:t365=true
      ·subst c24;have H1:(some 0)=some r:=by rw [if_pos rfl]at H;exact H
       clear H;have H:=H1;clear H1;obtain rfl:=Option.some.inj H;go_enter Try.func29,Try.ntmps29;go_wp2_with (first|((with_reducible refine gate_dst (N:=1) rfl ?_);refine box_event ?hg (N:=1) ?hd (cs:= #[.string a0_0,.bool false,.int .i64 a0_2]) (t:=57) ?hr ?_;(case hd=>rfl);(case hg=>rfl);(case hr=>first|(go_simp;done)|(go_simp;rfl));intro gb364 hg w25 hbox hb;have n0_:=Bs0 HB hb;have n1_:=Ax (hbox);have n2_:=Gw0 HB hg;have n3_:=Gw0 HB hg;clear HB;have HB:=n0_;have BK364:=n1_;have GW364:=n2_;have GE364:=n3_;clear n0_ n1_ n2_ n3_;clear hb hbox hg;obtain⟨hcz26_0,hcz26_1,hcz26_2,hfz26_0,hfz26_1,hfz26_2⟩:=cl3 BK364)|(go_at_call 54;(with_reducible refine (cutter_begins.calls a0_0 true _ A23.out).mono ?_);rintro e w' ⟨rfl,⟨nd,rfl⟩⟩;(try first|exact⟨rfl,_,World.drewN_drewN _ _ _⟩|exact⟨rfl,_,Eq.trans (World.drewN_drewN _ _ _) (congrArg (World.drewN _) (Nat.add_assoc _ _ _))⟩)))
       repeat (go_quiet (first|((with_reducible refine gate_dst (N:=1) rfl ?_);refine box_event ?hg (N:=1) ?hd (cs:= #[.string a0_0,.bool false,.int .i64 a0_2]) (t:=57) ?hr ?_;(case hd=>rfl);(case hg=>rfl);(case hr=>first|(go_simp;done)|(go_simp;rfl));intro gb364 hg w25 hbox hb;have n0_:=Bs0 HB hb;have n1_:=Ax (hbox);have n2_:=Gw0 HB hg;have n3_:=Gw0 HB hg;clear HB;have HB:=n0_;have BK364:=n1_;have GW364:=n2_;have GE364:=n3_;clear n0_ n1_ n2_ n3_;clear hb hbox hg;obtain⟨hcz26_0,hcz26_1,hcz26_2,hfz26_0,hfz26_1,hfz26_2⟩:=cl3 BK364)|(go_at_call 54;(with_reducible refine (cutter_begins.calls a0_0 true _ A23.out).mono ?_);rintro e w' ⟨rfl,⟨nd,rfl⟩⟩;(try first|exact⟨rfl,_,World.drewN_drewN _ _ _⟩|exact⟨rfl,_,Eq.trans (World.drewN_drewN _ _ _) (congrArg (World.drewN _) (Nat.add_assoc _ _ _))⟩)));try go_wp2_with (first|((with_reducible refine gate_dst (N:=1) rfl ?_);refine box_event ?hg (N:=1) ?hd (cs:= #[.string a0_0,.bool false,.int .i64 a0_2]) (t:=57) ?hr ?_;(case hd=>rfl);(case hg=>rfl);(case hr=>first|(go_simp;done)|(go_simp;rfl));intro gb364 hg w25 hbox hb;have n0_:=Bs0 HB hb;have n1_:=Ax (hbox);have n2_:=Gw0 HB hg;have n3_:=Gw0 HB hg;clear HB;have HB:=n0_;have BK364:=n1_;have GW364:=n2_;have GE364:=n3_;clear n0_ n1_ n2_ n3_;clear hb hbox hg;obtain⟨hcz26_0,hcz26_1,hcz26_2,hfz26_0,hfz26_1,hfz26_2⟩:=cl3 BK364)|(go_at_call 54;(with_reducible refine (cutter_begins.calls a0_0 true _ A23.out).mono ?_);rintro e w' ⟨rfl,⟨nd,rfl⟩⟩;(try first|exact⟨rfl,_,World.drewN_drewN _ _ _⟩|exact⟨rfl,_,Eq.trans (World.drewN_drewN _ _ _) (congrArg (World.drewN _) (Nat.add_assoc _ _ _))⟩))))
       go_ret;exact⟨eS,bw1 HB.out GE364.out⟩
      ·replace c24:=Bool.eq_false_iff.mpr c24;subst c24;have H1:(some 2)=some r:=by rw [if_neg (show ¬ (false=true) by decide)]at H;exact H
       clear H;have H:=H1;clear H1;obtain rfl:=Option.some.inj H;go_enter Try.func29,Try.ntmps29;go_wp2_with (first|((with_reducible refine gate_dst (N:=1) rfl ?_);refine box_event ?hg (N:=1) ?hd (cs:= #[.string a0_0,.bool false,.int .i64 a0_2]) (t:=57) ?hr ?_;(case hd=>rfl);(case hg=>rfl);(case hr=>first|(go_simp;done)|(go_simp;rfl));intro gb364 hg w27 hbox hb;have n0_:=Bs0 HB hb;have n1_:=Ax (hbox);have n2_:=Gw0 HB hg;have n3_:=Gw0 HB hg;clear HB;have HB:=n0_;have BK364:=n1_;have GW364:=n2_;have GE364:=n3_;clear n0_ n1_ n2_ n3_;clear hb hbox hg;obtain⟨hcz28_0,hcz28_1,hcz28_2,hfz28_0,hfz28_1,hfz28_2⟩:=cl3 BK364)|(go_at_call 54;(with_reducible refine (cutter_begins.calls a0_0 false _ A23.out).mono ?_);rintro e w' ⟨rfl,⟨nd,rfl⟩⟩;(try first|exact⟨rfl,_,World.drewN_drewN _ _ _⟩|exact⟨rfl,_,Eq.trans (World.drewN_drewN _ _ _) (congrArg (World.drewN _) (Nat.add_assoc _ _ _))⟩)))
       repeat (go_quiet (first|((with_reducible refine gate_dst (N:=1) rfl ?_);refine box_event ?hg (N:=1) ?hd (cs:= #[.string a0_0,.bool false,.int .i64 a0_2]) (t:=57) ?hr ?_;(case hd=>rfl);(case hg=>rfl);(case hr=>first|(go_simp;done)|(go_simp;rfl));intro gb364 hg w27 hbox hb;have n0_:=Bs0 HB hb;have n1_:=Ax (hbox);have n2_:=Gw0 HB hg;have n3_:=Gw0 HB hg;clear HB;have HB:=n0_;have BK364:=n1_;have GW364:=n2_;have GE364:=n3_;clear n0_ n1_ n2_ n3_;clear hb hbox hg;obtain⟨hcz28_0,hcz28_1,hcz28_2,hfz28_0,hfz28_1,hfz28_2⟩:=cl3 BK364)|(go_at_call 54;(with_reducible refine (cutter_begins.calls a0_0 false _ A23.out).mono ?_);rintro e w' ⟨rfl,⟨nd,rfl⟩⟩;(try first|exact⟨rfl,_,World.drewN_drewN _ _ _⟩|exact⟨rfl,_,Eq.trans (World.drewN_drewN _ _ _) (congrArg (World.drewN _) (Nat.add_assoc _ _ _))⟩)));try go_wp2_with (first|((with_reducible refine gate_dst (N:=1) rfl ?_);refine box_event ?hg (N:=1) ?hd (cs:= #[.string a0_0,.bool false,.int .i64 a0_2]) (t:=57) ?hr ?_;(case hd=>rfl);(case hg=>rfl);(case hr=>first|(go_simp;done)|(go_simp;rfl));intro gb364 hg w27 hbox hb;have n0_:=Bs0 HB hb;have n1_:=Ax (hbox);have n2_:=Gw0 HB hg;have n3_:=Gw0 HB hg;clear HB;have HB:=n0_;have BK364:=n1_;have GW364:=n2_;have GE364:=n3_;clear n0_ n1_ n2_ n3_;clear hb hbox hg;obtain⟨hcz28_0,hcz28_1,hcz28_2,hfz28_0,hfz28_1,hfz28_2⟩:=cl3 BK364)|(go_at_call 54;(with_reducible refine (cutter_begins.calls a0_0 false _ A23.out).mono ?_);rintro e w' ⟨rfl,⟨nd,rfl⟩⟩;(try first|exact⟨rfl,_,World.drewN_drewN _ _ _⟩|exact⟨rfl,_,Eq.trans (World.drewN_drewN _ _ _) (congrArg (World.drewN _) (Nat.add_assoc _ _ _))⟩))))
       go_ret;exact⟨eS,bw1 HB.out GE364.out⟩
def IsS80 (w0 W:World) (g:Nat) (f0:ByteArray) (f1:Bool) (f2:Int) (f3:ByteArray) (f4:List (S24)):Prop:= ∃ A4 c4,W.heap[g]? =some (.cells #[.string f0,.bool f1,.int .i64 f2,.string f3,.slice A4 f4.length c4] 80 (0,0))∧w0.heap.size≤g∧Kd.C k24 w0 A4 f4.length f4
theorem IsS80.grown {w0 W:World}{g:Nat}{f0:ByteArray}{f1:Bool}{f2:Int}{f3:ByteArray}{f4:List (S24)}{W1:World}{row:Option Nat} (h:IsS80 w0 W g f0 f1 f2 f3 f4) (hw:W.grownBy W1 row) (hne:some g≠row):IsS80 w0 W1 g f0 f1 f2 f3 f4:=by
 obtain⟨A4,c4,hb,hg,hr4⟩:=h;exact⟨A4,c4,blk_grown hb hw hne,hg,hr4⟩
theorem IsS80.fresh {w0 W:World}{g:Nat}{f0:ByteArray}{f1:Bool}{f2:Int}{f3:ByteArray}{f4:List (S24)} (h:IsS80 w0 W g f0 f1 f2 f3 f4): ∀ k,W.heap.size≤k→k≠g:=by
 obtain⟨A4,c4,hb,hg,hr4⟩:=h;exact Kd.freshB hb
theorem IsS80.kept {w0 W:World}{g:Nat}{f0:ByteArray}{f1:Bool}{f2:Int}{f3:ByteArray}{f4:List (S24)}{W1:World}{S:Nat→Prop} (h:IsS80 w0 W g f0 f1 f2 f3 f4) (hk:Kept W W1 S) (hne: ¬ S g):IsS80 w0 W1 g f0 f1 f2 f3 f4:=by
 obtain⟨A4,c4,hb,hg,hr4⟩:=h;exact⟨A4,c4,blk_kept hb hk hne,hg,hr4⟩
theorem IsS80.below {w0 W:World}{g:Nat}{f0:ByteArray}{f1:Bool}{f2:Int}{f3:ByteArray}{f4:List (S24)}{W1:World} (h:IsS80 w0 W g f0 f1 f2 f3 f4) (hw:Below W.heap.size W W1):IsS80 w0 W1 g f0 f1 f2 f3 f4:=h.grown (grown_of_below hw none) (by simp)
theorem IsS80.alloc {w0 W:World}{g:Nat}{f0:ByteArray}{f1:Bool}{f2:Int}{f3:ByteArray}{f4:List (S24)} (h:IsS80 w0 W g f0 f1 f2 f3 f4) (o:Obj):IsS80 w0 (W.alloc o) g f0 f1 f2 f3 f4:=h.below (below_alloc (Below.refl _ _) o)
theorem IsS80.drewN {w0 W:World}{g:Nat}{f0:ByteArray}{f1:Bool}{f2:Int}{f3:ByteArray}{f4:List (S24)} (h:IsS80 w0 W g f0 f1 f2 f3 f4) (m:Nat):IsS80 w0 (W.drewN m) g f0 f1 f2 f3 f4:=h
theorem IsS80.drew {w0 W:World}{g:Nat}{f0:ByteArray}{f1:Bool}{f2:Int}{f3:ByteArray}{f4:List (S24)} (h:IsS80 w0 W g f0 f1 f2 f3 f4):IsS80 w0 W.drew g f0 f1 f2 f3 f4:=h
theorem IsS80.at_ {w0 W:World}{g:Nat}{f0:ByteArray}{f1:Bool}{f2:Int}{f3:ByteArray}{f4:List (S24)}{w':World}{m:Nat} (hq:W.drewN m=w') (h:IsS80 w0 W g f0 f1 f2 f3 f4):IsS80 w0 w' g f0 f1 f2 f3 f4:=by subst hq;exact IsS80.drewN h m
theorem IsS80.apart {w0 W:World}{g:Nat}{f0:ByteArray}{f1:Bool}{f2:Int}{f3:ByteArray}{f4:List (S24)}{α:Type}{d:Kd α}{e:Nat}{base:Nat}{ok:Nat→Prop}{v:Value}{xs:List α} (h:IsS80 w0 W g f0 f1 f2 f3 f4) (ho:d.R e W base ok v xs) (ht: ∀ q,q∈e :: d.E→q≠80):d.R e W base (fun k=>ok k∧k≠g) v xs:=by
 obtain⟨A4,c4,hb,hg,hr4⟩:=h;exact Kd.R_types ho hb ht
theorem IsS80.own_ne {w0 W:World}{g:Nat}{f0:ByteArray}{f1:Bool}{f2:Int}{f3:ByteArray}{f4:List (S24)}{α:Type}{d:Kd α}{e:Nat}{base:Nat}{ok:Nat→Prop}{v:Value}{xs:List α} (h:IsS80 w0 W g f0 f1 f2 f3 f4) (ho:d.R e W base ok v xs) (ht:e≠80):some g≠v.ownBlock:=by
 obtain⟨A4,c4,hb,hg,hr4⟩:=h;exact Kd.R_ne ho hb ht
theorem IsS80.lt {w0 W:World}{g:Nat}{f0:ByteArray}{f1:Bool}{f2:Int}{f3:ByteArray}{f4:List (S24)} (h:IsS80 w0 W g f0 f1 f2 f3 f4):g<W.heap.size:=by
 obtain⟨A4,c4,hb,hg,hr4⟩:=h;exact blk_lt hb
theorem IsS80.ge {w0 W:World}{g:Nat}{f0:ByteArray}{f1:Bool}{f2:Int}{f3:ByteArray}{f4:List (S24)} (h:IsS80 w0 W g f0 f1 f2 f3 f4):w0.heap.size≤g:=by
 obtain⟨A4,c4,hb,hg,hr4⟩:=h;exact hg
theorem IsS80.far {w0 W:World}{g:Nat}{f0:ByteArray}{f1:Bool}{f2:Int}{f3:ByteArray}{f4:List (S24)}{p:Addr} (h:IsS80 w0 W g f0 f1 f2 f3 f4) (hne:g≠p.block) (u:Value):IsS80 w0 (W.setCell p u) g f0 f1 f2 f3 f4:=by
 obtain⟨A4,c4,hb,hg,hr4⟩:=h;exact⟨A4,c4,blk_far hb hne u,hg,hr4⟩
theorem IsS80.set_0 {w0 W:World}{g:Nat}{f0:ByteArray}{f1:Bool}{f2:Int}{f3:ByteArray}{f4:List (S24)} (h:IsS80 w0 W g f0 f1 f2 f3 f4) (x:ByteArray):IsS80 w0 (W.setCell ⟨g,0,none⟩ (.string x)) g x f1 f2 f3 f4:=by
 obtain⟨A4,c4,hb,hg,hr4⟩:=h;exact⟨A4,c4,by simpa using blk_set hb 0 (.string x),hg,hr4⟩
theorem IsS80.set_1 {w0 W:World}{g:Nat}{f0:ByteArray}{f1:Bool}{f2:Int}{f3:ByteArray}{f4:List (S24)} (h:IsS80 w0 W g f0 f1 f2 f3 f4) (x:Bool):IsS80 w0 (W.setCell ⟨g,1,none⟩ (.bool x)) g f0 x f2 f3 f4:=by
 obtain⟨A4,c4,hb,hg,hr4⟩:=h;exact⟨A4,c4,by simpa using blk_set hb 1 (.bool x),hg,hr4⟩
theorem IsS80.new (w0 W:World) (A4:Option Addr) (c4:Nat) (f0:ByteArray) (f1:Bool) (f2:Int) (f3:ByteArray) (f4:List (S24)) (hB:Below w0.heap.size w0 W) (hr4:Kd.C k24 w0 A4 f4.length f4):IsS80 w0 (W.alloc (.cells #[.string f0,.bool f1,.int .i64 f2,.string f3,.slice A4 f4.length c4] 80)) W.heap.size f0 f1 f2 f3 f4:=⟨A4,c4,by simpa using heap_alloc_new W _,hB.size,hr4⟩
end Go.Proofs.Ythkdfojmhloofaa.Q
end
section
namespace Go.Proofs.Ythkdfojmhloofaa.Q
open Go.RowKit Go.Proofs.YthkdfojmhloofaaW.PrintWords Go.Proofs.YthkdfojmhloofaaW.PrintLast Go.Proofs.YthkdfojmhloofaaW.PrintMore
attribute [local go_sem] max2_int min2_int max_two min_two max_three min_three max_four min_four   -- for this text's walks alone
set_option linter.unusedVariables false
set_option linter.unusedSimpArgs false
def CutI (w0 W : World) (g : Nat) (cs : Array Value) (v : Value) (out : List S24) : Prop :=
  W.heap[g]? = some (.cells cs 80 (0, 0)) ∧ w0.heap.size ≤ g ∧ Kd.R k24 24 W w0.heap.size (fun k => k ≠ g) v out ∧ Below w0.heap.size w0 W
theorem CutI.set {w0 W:World}{g:Nat}{cs:Array Value}{v:Value}{out:List S24} (h:CutI w0 W g cs v out) (j:Nat) (u:Value) {cs':Array Value} (e:cs.setIfInBounds j u=cs'):CutI w0 (W.setCell ⟨g,j,none⟩ u) g cs' v out:=by
  obtain⟨hb,hg,ho,hl⟩:=h;refine⟨e▸blk_set hb j u,hg,Kd.R_step ho (fun k hk _=>Below.heap_setCell W ⟨g,j,none⟩ u k hk),hl.setCell (p:=⟨g,j,none⟩) hg u⟩
theorem CutI.drewN {w0 W : World} {g : Nat} {cs : Array Value} {v : Value} {out : List S24} (h : CutI w0 W g cs v out) (n : Nat) : CutI w0 (W.drewN n) g cs v out :=
  ⟨h.1, h.2.1, Kd.R_drewN h.2.2.1 n, pw_below_drewN h.2.2.2 n⟩
theorem CutI.drew {w0 W:World}{g:Nat}{cs:Array Value}{v:Value}{out:List S24} (h:CutI w0 W g cs v out):CutI w0 W.drew g cs v out:=⟨h.1,h.2.1,Kd.R_drew h.2.2.1,below_drew1 h.2.2.2⟩
theorem CutI.drawn {w0 W W':World}{g:Nat}{cs:Array Value}{v:Value}{out:List S24} (h:CutI w0 W g cs v out) (hd:Drawn0 W W'):CutI w0 W' g cs v out:=by
  obtain⟨n,rfl⟩:=hd.out;exact h.drewN n
theorem CutI.app {w0 W W1:World}{g:Nat}{cs:Array Value}{v v1:Value}{out out1:List S24} (h:CutI w0 W g cs v out) (hg:W.grownBy W1 v.ownBlock) (ho:Kd.R k24 24 W1 w0.heap.size (fun k=>k≠g) v1 out1) (hb:Below w0.heap.size w0 W1):CutI w0 W1 g cs v1 out1:=by
  obtain⟨h1,h2,h3,h4⟩:=h;exact⟨blk_grown h1 hg (fun e=>(h3.1 g e.symm) rfl),h2,ho,hb⟩
theorem CutI.lt {w0 W:World}{g:Nat}{cs:Array Value}{v:Value}{out:List S24} (h:CutI w0 W g cs v out):g<W.heap.size:=blk_lt h.1
set_option maxHeartbeats 1000000 in
theorem skip_is (g:Nat) (f0:ByteArray) (f1:Bool) (f2:Int) (f3:ByteArray) (v:Value) (out:List S24) (w0 w:World) (n:Nat) (hn:n≤f3.size) (hs:f3.size≤4611686018427387904) (hf:0≤f2) (hf2:f2≤4611686018427387904) (hm:(if (f3.size:Int)<f2 then (f3.size:Int) else f2)=(n:Int)) (hI:CutI w0 w g #[.string f0,.bool f1,.int .i64 f2,.string f3,v] v out):
    Calls Try.prog 30 #[.pointer (some ⟨g,0,none⟩)] w fun e w'=>e= .returned (.tuple #[])∧CutI w0 w' g #[.string f0,.bool f1,.int .i64 (f2 - n),.string (f3.extract n f3.size),v] v out:=by
  have HI:=Aside0.mk hI;have HM:=Aside0.mk hm;have hc0:=(blk_cell hI.1 1).trans rfl;have hc2:=(blk_cell hI.1 2).trans rfl;have hc3:=(blk_cell hI.1 3).trans rfl;have hf0_:=blk_frozen hI.1 2;have hf3:=blk_frozen hI.1 3;clear hI hm;go_enter Try.func30,Try.ntmps30;go_wp2
  repeat (go_quiet (fail);try go_wp2)
  · go_end0;have e1:f2 - (n:Int)=f2 - f3.size:=by have:=HM.out;rw [if_pos h]at this;omega
    have e2:f3.extract n f3.size=ByteArray.empty:=by have:=HM.out;rw [if_pos h]at this;apply ByteArray.ext;simp;omega
    rw [e1,e2];exact⟨rfl,((HI.out.drewN nq).set 2 _ rfl).set 3 _ rfl⟩
  · go_end0;have e1:f2 - (n:Int)=0:=by have:=HM.out;rw [if_neg (by omega)]at this;omega
    have e2:f2.toNat=n:=by have:=HM.out;rw [if_neg (by omega)]at this;omega
    rw [e1, ← e2];exact⟨rfl,((HI.out.drewN nq).set 2 _ rfl).set 3 _ rfl⟩
theorem CutI.cells {w0 W:World}{g:Nat}{cs:Array Value}{v:Value}{out:List S24} (h:CutI w0 W g cs v out) (j:Nat):W.cell? ⟨g,j,none⟩=cs[j]? :=blk_cell h.1 j
set_option maxHeartbeats 1000000 in
theorem seek_is (g:Nat) (f0:ByteArray) (f1:Bool) (f2:Int) (f3:ByteArray) (v:Value) (out:List S24) (w0 w:World) (n:Int) (hn:idxByte f3 245=n) (h0:n≠0) (hnl:n≤f3.size) (hs:f3.size≤4611686018427387904) (hL:(out.length+1) * 24≤140737488355328) (hI:CutI w0 w g #[.string f0,.bool f1,.int .i64 f2,.string f3,v] v out):
    Calls Try.prog 31 #[.pointer (some ⟨g,0,none⟩)] w fun e w'=>e= .returned (.tuple #[])∧ ∃ v',CutI w0 w' g #[.string f0,.bool (decide (n<0)),.int .i64 f2,.string (if n<0 then ⟨#[]⟩ else f3.extract n.toNat f3.size),v'] v' (if f1 then out else out++ [⟨2,⟨#[]⟩⟩]):=by
  have HI:=Aside0.mk hI;have HN:=Aside0.mk hn;have HL:=Aside0.mk hL;have hc1:=(blk_cell hI.1 1).trans rfl;have hc3:=(blk_cell hI.1 3).trans rfl;have hf1:=blk_frozen hI.1 1;have hf3:=blk_frozen hI.1 3;clear hI hn hL;have A3:Aside0 (strings_IndexByte.f f3 245=some n):=⟨by rw [← HN.out];rfl⟩;have hc4:=(HI.out.cells 4).trans rfl;have hf4:=blk_frozen HI.out.1 4;have hf1':w.frozen? ⟨g,1,none⟩=false:=hf1;cases f1
  · by_cases hneg:n<0
    · have hd:decide (n<0)=true:=decide_eq_true hneg;rw [if_pos hneg,hd];go_enter Try.func31,Try.ntmps31;go_wp2_with (first|((with_reducible refine gate_callee (f:=55) rfl ?_);refine goesL_ (some 7) rfl rfl Try.func55 (by kernel_rfl) rfl #[.string f3,.int .u8 245] rfl (by (try simp only[List.map_toArray,List.map_cons,List.map_nil]);first|done|rfl|(simp only[List.length_drop,List.length_take];rfl)) ?_;(with_reducible refine (strings_IndexByte.calls f3 245 n _ A3.out).mono ?_);rintro e w' ⟨rfl,⟨nd,rfl⟩⟩;refine⟨_,rfl,?_⟩)|((with_reducible refine gate_builtin (b:=.append) (xs:= #[.tmp 26,.tmp 28]) rfl ?_);at_builtin;refine Kd.R_append k24 (w0:=w0) w0.heap.size rfl (.tmp 26) (.tmp 28) 43 24 (.agg #[(.int .u8 0),(.string ⟨#[]⟩)]) 24 rfl Try.underlying43 info24 rfl (by decide) (by omega) v out (⟨2,⟨#[]⟩⟩:S24) [.int .u8 2,.string ⟨#[]⟩] (fun k_=>k_≠g) (fun _=>False) rfl ?aX ?aP (fun _ hk=>hk.elim) ?aF ?aO ?aB ?aS ?aL ?_;(case aX=>first|rfl|(go_simp;done)|(go_simp;rfl));(case aP=>exact k24_mkM _ _ _ _);(case aF=>intro k_ hk_ he_;subst he_;exact absurd (CutI.lt ((HI.out.drewN nd).set 1 (.bool true) rfl)) (Nat.not_lt.2 hk_));(case aO=>exact ((HI.out.drewN nd).set 1 (.bool true) rfl).2.2.1);(case aB=>exact ((HI.out.drewN nd).set 1 (.bool true) rfl).2.2.2);(case aS=>exact ((HI.out.drewN nd).set 1 (.bool true) rfl).2.2.2.size);(case aL=>exact HL.out);intro v1 w6 ho hb hg hat;obtain⟨A1,c1,rfl⟩:=Kd.R_slice ho;rw [List.length_append,List.length_singleton]at ho hat;have HI6:=Aside0.mk (((HI.out.drewN nd).set 1 (.bool true) rfl).app hg ho hb);have hc64:=(HI6.out.cells 4).trans rfl;have hc63:=(HI6.out.cells 3).trans rfl;have hc62:=(HI6.out.cells 2).trans rfl;have hc61:=(HI6.out.cells 1).trans rfl;have hc60:=(HI6.out.cells 0).trans rfl;have hf64:=blk_frozen HI6.out.1 4;have hf63:=blk_frozen HI6.out.1 3;have hf62:=blk_frozen HI6.out.1 2;have hf61:=blk_frozen HI6.out.1 1;clear ho hb hg hat));first|go_end0|((try simp only[Exit.inBlock,Exit.then]);refine bodyPost_ret (results_none rfl _ _ _) rfl ?_)
      refine⟨rfl,.slice A1 (out.length+1) c1,?_⟩;exact (HI6.out.set 4 (.slice A1 (out.length+1) c1) rfl).set 3 _ rfl
    · have hd:decide (n<0)=false:=decide_eq_false hneg;have p0:0≤n:=by omega
      have pi0:=eq_true p0;have pl0:=eq_true hnl;rw [if_neg hneg,hd];go_enter Try.func31,Try.ntmps31;go_wp2_with (first|((with_reducible refine gate_callee (f:=55) rfl ?_);refine goesL_ (some 7) rfl rfl Try.func55 (by kernel_rfl) rfl #[.string f3,.int .u8 245] rfl (by (try simp only[List.map_toArray,List.map_cons,List.map_nil]);first|done|rfl|(simp only[List.length_drop,List.length_take];rfl)) ?_;(with_reducible refine (strings_IndexByte.calls f3 245 n _ A3.out).mono ?_);rintro e w' ⟨rfl,⟨nd,rfl⟩⟩;refine⟨_,rfl,?_⟩)|((with_reducible refine gate_builtin (b:=.append) (xs:= #[.tmp 26,.tmp 28]) rfl ?_);at_builtin;refine Kd.R_append k24 (w0:=w0) w0.heap.size rfl (.tmp 26) (.tmp 28) 43 24 (.agg #[(.int .u8 0),(.string ⟨#[]⟩)]) 24 rfl Try.underlying43 info24 rfl (by decide) (by omega) v out (⟨2,⟨#[]⟩⟩:S24) [.int .u8 2,.string ⟨#[]⟩] (fun k_=>k_≠g) (fun _=>False) rfl ?aX ?aP (fun _ hk=>hk.elim) ?aF ?aO ?aB ?aS ?aL ?_;(case aX=>first|rfl|(go_simp;done)|(go_simp;rfl));(case aP=>exact k24_mkM _ _ _ _);(case aF=>intro k_ hk_ he_;subst he_;exact absurd (CutI.lt ((HI.out.drewN nd).set 1 (.bool true) rfl)) (Nat.not_lt.2 hk_));(case aO=>exact ((HI.out.drewN nd).set 1 (.bool true) rfl).2.2.1);(case aB=>exact ((HI.out.drewN nd).set 1 (.bool true) rfl).2.2.2);(case aS=>exact ((HI.out.drewN nd).set 1 (.bool true) rfl).2.2.2.size);(case aL=>exact HL.out);intro v1 w6 ho hb hg hat;obtain⟨A1,c1,rfl⟩:=Kd.R_slice ho;rw [List.length_append,List.length_singleton]at ho hat;have HI6:=Aside0.mk (((HI.out.drewN nd).set 1 (.bool true) rfl).app hg ho hb);have hc64:=(HI6.out.cells 4).trans rfl;have hc63:=(HI6.out.cells 3).trans rfl;have hc62:=(HI6.out.cells 2).trans rfl;have hc61:=(HI6.out.cells 1).trans rfl;have hc60:=(HI6.out.cells 0).trans rfl;have hf64:=blk_frozen HI6.out.1 4;have hf63:=blk_frozen HI6.out.1 3;have hf62:=blk_frozen HI6.out.1 2;have hf61:=blk_frozen HI6.out.1 1;clear ho hb hg hat));first|go_end0|((try simp only[Exit.inBlock,Exit.then]);refine bodyPost_ret (results_none rfl _ _ _) rfl ?_)
      refine⟨rfl,.slice A1 (out.length+1) c1,?_⟩;exact ((HI6.out.set 4 (.slice A1 (out.length+1) c1) rfl).set 1 (.bool false) rfl).set 3 _ rfl
  · by_cases hneg:n<0
    · have hd:decide (n<0)=true:=decide_eq_true hneg;rw [if_pos hneg,hd];go_enter Try.func31,Try.ntmps31;go_wp2_with (first|((with_reducible refine gate_callee (f:=55) rfl ?_);refine goesL_ (some 7) rfl rfl Try.func55 (by kernel_rfl) rfl #[.string f3,.int .u8 245] rfl (by (try simp only[List.map_toArray,List.map_cons,List.map_nil]);first|done|rfl|(simp only[List.length_drop,List.length_take];rfl)) ?_;(with_reducible refine (strings_IndexByte.calls f3 245 n _ A3.out).mono ?_);rintro e w' ⟨rfl,⟨nd,rfl⟩⟩;refine⟨_,rfl,?_⟩));first|go_end0|((try simp only[Exit.inBlock,Exit.then]);refine bodyPost_ret (results_none rfl _ _ _) rfl ?_)
      exact⟨rfl,v,(HI.out.drewN nd).set 3 _ rfl⟩
    · have hd:decide (n<0)=false:=decide_eq_false hneg;have p0:0≤n:=by omega
      have pi0:=eq_true p0;have pl0:=eq_true hnl;rw [if_neg hneg,hd];go_enter Try.func31,Try.ntmps31;go_wp2_with (first|((with_reducible refine gate_callee (f:=55) rfl ?_);refine goesL_ (some 7) rfl rfl Try.func55 (by kernel_rfl) rfl #[.string f3,.int .u8 245] rfl (by (try simp only[List.map_toArray,List.map_cons,List.map_nil]);first|done|rfl|(simp only[List.length_drop,List.length_take];rfl)) ?_;(with_reducible refine (strings_IndexByte.calls f3 245 n _ A3.out).mono ?_);rintro e w' ⟨rfl,⟨nd,rfl⟩⟩;refine⟨_,rfl,?_⟩));first|go_end0|((try simp only[Exit.inBlock,Exit.then]);refine bodyPost_ret (results_none rfl _ _ _) rfl ?_)
      exact⟨rfl,v,((HI.out.drewN nd).set 1 (.bool false) rfl).set 3 _ rfl⟩
set_option maxHeartbeats 1000000 in
theorem take_few (g:Nat) (f0:ByteArray) (f1:Bool) (f2:Int) (f3:ByteArray) (v:Value) (out:List S24) (w0 w:World) (hs:(f3.size:Int)<3) (hI:CutI w0 w g #[.string f0,.bool f1,.int .i64 f2,.string f3,v] v out):
    Calls Try.prog 32 #[.pointer (some ⟨g,0,none⟩)] w fun e w'=>e= .returned (.tuple #[])∧ ∃ v',CutI w0 w' g #[.string f3,.bool f1,.int .i64 f2,.string ⟨#[]⟩,v'] v' (out):=by
  have HI:=Aside0.mk hI;have hc0:=(blk_cell hI.1 0).trans rfl;have hf0:=blk_frozen hI.1 0;have hc1:=(blk_cell hI.1 1).trans rfl;have hf1:=blk_frozen hI.1 1;have hc2:=(blk_cell hI.1 2).trans rfl;have hf2:=blk_frozen hI.1 2;have hc3:=(blk_cell hI.1 3).trans rfl;have hf3:=blk_frozen hI.1 3;have hc4:=(blk_cell hI.1 4).trans rfl;have hf4:=blk_frozen hI.1 4;clear hI;have hd:=decide_eq_true hs;go_enter Try.func32,Try.ntmps32;go_wp2;first|go_end0|((try simp only[Exit.inBlock,Exit.then]);refine bodyPost_ret (results_none rfl _ _ _) rfl ?_)
  exact⟨rfl,v,(HI.out.set 0 _ rfl).set 3 _ rfl⟩
set_option maxHeartbeats 1000000 in
theorem take_long (g:Nat) (f0:ByteArray) (f1:Bool) (f2:Int) (f3:ByteArray) (v:Value) (out:List S24) (w0 w:World) (n:Int) (hn:cutter_long.f f3=some n) (hs:3≤(f3.size:Int)) (hf:cutter_fit.f n=some false) (hL:(out.length+1) * 24≤140737488355328) (hI:CutI w0 w g #[.string f0,.bool f1,.int .i64 f2,.string f3,v] v out):
    Calls Try.prog 32 #[.pointer (some ⟨g,0,none⟩)] w fun e w'=>e= .returned (.tuple #[])∧ ∃ v',CutI w0 w' g #[.string f0,.bool f1,.int .i64 n,.string (f3.extract 3 f3.size),v'] v' (out++ [⟨3,⟨#[]⟩⟩]):=by
  have HI:=Aside0.mk hI;have hc0:=(blk_cell hI.1 0).trans rfl;have hf0:=blk_frozen hI.1 0;have hc1:=(blk_cell hI.1 1).trans rfl;have hf1:=blk_frozen hI.1 1;have hc2:=(blk_cell hI.1 2).trans rfl;have hf2:=blk_frozen hI.1 2;have hc3:=(blk_cell hI.1 3).trans rfl;have hf3:=blk_frozen hI.1 3;have hc4:=(blk_cell hI.1 4).trans rfl;have hf4:=blk_frozen hI.1 4;clear hI;have hd:decide ((f3.size:Int)<3)=false:=decide_eq_false (by omega);have HL:=Aside0.mk hL;have AL:=Aside0.mk hn;have AF:=Aside0.mk hf;have hs1:=eq_true hs;clear hL hn hf;go_enter Try.func32,Try.ntmps32;go_wp2_with (first|((with_reducible refine gate_callee (f:=56) rfl ?_);refine goesL_ (some 20) rfl rfl Try.func56 (by kernel_rfl) rfl #[.string f3] rfl (by (try simp only[List.map_toArray,List.map_cons,List.map_nil]);first|done|rfl|(simp only[List.length_drop,List.length_take];rfl)) ?_;(with_reducible refine (cutter_long.calls f3 n _ AL.out).mono ?_);rintro e w' ⟨rfl,⟨nd22,rfl⟩⟩;refine⟨_,rfl,?_⟩)|((with_reducible refine gate_callee (f:=48) rfl ?_);refine goesL_ (some 44) rfl rfl Try.func48 (by kernel_rfl) rfl #[.int .i64 n] rfl (by (try simp only[List.map_toArray,List.map_cons,List.map_nil]);first|done|rfl|(simp only[List.length_drop,List.length_take];rfl)) ?_;(with_reducible refine (cutter_fit.calls n false _ AF.out).mono ?_);rintro e w' ⟨rfl,⟨nd19,rfl⟩⟩;refine⟨_,rfl,?_⟩)|((with_reducible refine gate_builtin (b:=.append) (xs:= #[.tmp 50,.tmp 52]) rfl ?_);at_builtin;refine Kd.R_append k24 (w0:=w0) w0.heap.size rfl (.tmp 50) (.tmp 52) 43 24 (.agg #[(.int .u8 0),(.string ⟨#[]⟩)]) 24 rfl Try.underlying43 info24 rfl (by decide) (by omega) v out (⟨3,⟨#[]⟩⟩:S24) [.int .u8 3,.string ⟨#[]⟩] (fun k_=>k_≠g) (fun _=>False) rfl ?aX ?aP (fun _ hk=>hk.elim) ?aF ?aO ?aB ?aS ?aL ?_;(case aX=>first|rfl|(go_simp;done)|(go_simp;rfl));(case aP=>exact k24_mkM _ _ _ _);(case aF=>intro k_ hk_ he_;subst he_;exact absurd (CutI.lt ((HI.out.drewN (nd22+nd19)))) (Nat.not_lt.2 hk_));(case aO=>exact ((HI.out.drewN (nd22+nd19))).2.2.1);(case aB=>exact ((HI.out.drewN (nd22+nd19))).2.2.2);(case aS=>exact ((HI.out.drewN (nd22+nd19))).2.2.2.size);(case aL=>exact HL.out);intro v1 w6 ho hb hg hat;obtain⟨A1,c1,rfl⟩:=Kd.R_slice ho;rw [List.length_append,List.length_singleton]at ho hat;have HI6:=Aside0.mk (((HI.out.drewN (nd22+nd19))).app hg ho hb);have hc64:=(HI6.out.cells 4).trans rfl;have hc63:=(HI6.out.cells 3).trans rfl;have hc62:=(HI6.out.cells 2).trans rfl;have hc61:=(HI6.out.cells 1).trans rfl;have hc60:=(HI6.out.cells 0).trans rfl;have hf64:=blk_frozen HI6.out.1 4;have hf63:=blk_frozen HI6.out.1 3;have hf62:=blk_frozen HI6.out.1 2;have hf61:=blk_frozen HI6.out.1 1;clear ho hb hg hat));have HI7:=Aside0.mk (HI6.out.set 4 (.slice A1 (out.length+1) c1) rfl);clear hc60 hc61 hc62 hc63 hc64 hf61 hf62 hf63 hf64 HI6 HI hc0 hc1 hc2 hc3 hc4 hf0 hf1 hf2 hf3 hf4;generalize w6.setCell ⟨g,4,none⟩ (.slice A1 (out.length+1) c1)=w7 at HI7 ⊢;have hc0:=(HI7.out.cells 0).trans rfl;have hc2:=(HI7.out.cells 2).trans rfl;have hc3:=(HI7.out.cells 3).trans rfl;have hf0:=blk_frozen HI7.out.1 0;have hf2:=blk_frozen HI7.out.1 2;have hf3:=blk_frozen HI7.out.1 3;go_region;first|go_end0|((try simp only[Exit.inBlock,Exit.then]);refine bodyPost_ret (results_none rfl _ _ _) rfl ?_)
  exact⟨rfl,.slice A1 (out.length+1) c1,((HI7.out.set 2 _ rfl).set 3 _ rfl).drew⟩
set_option maxHeartbeats 1000000 in
theorem take_short (g:Nat) (f0:ByteArray) (f1:Bool) (f2:Int) (f3:ByteArray) (v:Value) (out:List S24) (w0 w:World) (n:Int) (hn:cutter_long.f f3=some n) (hs:3≤(f3.size:Int)) (hsz:f3.size≤4611686018427387904) (hf:cutter_fit.f n=some true) (hlt:(f3.size:Int) - 3<n) (hI:CutI w0 w g #[.string f0,.bool f1,.int .i64 f2,.string f3,v] v out):
    Calls Try.prog 32 #[.pointer (some ⟨g,0,none⟩)] w fun e w'=>e= .returned (.tuple #[])∧ ∃ v',CutI w0 w' g #[.string f3,.bool f1,.int .i64 f2,.string ⟨#[]⟩,v'] v' (out):=by
  have HI:=Aside0.mk hI;have hc0:=(blk_cell hI.1 0).trans rfl;have hf0:=blk_frozen hI.1 0;have hc1:=(blk_cell hI.1 1).trans rfl;have hf1:=blk_frozen hI.1 1;have hc2:=(blk_cell hI.1 2).trans rfl;have hf2:=blk_frozen hI.1 2;have hc3:=(blk_cell hI.1 3).trans rfl;have hf3:=blk_frozen hI.1 3;have hc4:=(blk_cell hI.1 4).trans rfl;have hf4:=blk_frozen hI.1 4;clear hI;have hd:decide ((f3.size:Int)<3)=false:=decide_eq_false (by omega);have AL:=Aside0.mk hn;have AF:=Aside0.mk hf;have hd2:=decide_eq_true hlt;clear hn hf;go_enter Try.func32,Try.ntmps32;go_wp2_with (first|((with_reducible refine gate_callee (f:=56) rfl ?_);refine goesL_ (some 20) rfl rfl Try.func56 (by kernel_rfl) rfl #[.string f3] rfl (by (try simp only[List.map_toArray,List.map_cons,List.map_nil]);first|done|rfl|(simp only[List.length_drop,List.length_take];rfl)) ?_;(with_reducible refine (cutter_long.calls f3 n _ AL.out).mono ?_);rintro e w' ⟨rfl,⟨nd22,rfl⟩⟩;refine⟨_,rfl,?_⟩)|((with_reducible refine gate_callee (f:=48) rfl ?_);refine goesL_ (some 44) rfl rfl Try.func48 (by kernel_rfl) rfl #[.int .i64 n] rfl (by (try simp only[List.map_toArray,List.map_cons,List.map_nil]);first|done|rfl|(simp only[List.length_drop,List.length_take];rfl)) ?_;(with_reducible refine (cutter_fit.calls n true _ AF.out).mono ?_);rintro e w' ⟨rfl,⟨nd19,rfl⟩⟩;refine⟨_,rfl,?_⟩));first|go_end0|((try simp only[Exit.inBlock,Exit.then]);refine bodyPost_ret (results_none rfl _ _ _) rfl ?_)
  exact⟨rfl,v,((HI.out.drewN _).set 0 _ rfl).set 3 _ rfl⟩
set_option maxHeartbeats 1000000 in
theorem take_body (g:Nat) (f0:ByteArray) (f1:Bool) (f2:Int) (f3:ByteArray) (v:Value) (out:List S24) (w0 w:World) (n:Int) (hn:cutter_long.f f3=some n) (hs:3≤(f3.size:Int)) (hsz:f3.size≤4611686018427387904) (hf:cutter_fit.f n=some true) (hn0:0≤n) (hlt:3+n≤(f3.size:Int)) (hL:(out.length+1) * 24≤140737488355328) (hI:CutI w0 w g #[.string f0,.bool f1,.int .i64 f2,.string f3,v] v out):
    Calls Try.prog 32 #[.pointer (some ⟨g,0,none⟩)] w fun e w'=>e= .returned (.tuple #[])∧ ∃ v',CutI w0 w' g #[.string f0,.bool f1,.int .i64 f2,.string (f3.extract (3+n).toNat f3.size),v'] v' (out++ [⟨1,f3.extract 3 (3+n).toNat⟩]):=by
  have HI:=Aside0.mk hI;have hc0:=(blk_cell hI.1 0).trans rfl;have hf0:=blk_frozen hI.1 0;have hc1:=(blk_cell hI.1 1).trans rfl;have hf1:=blk_frozen hI.1 1;have hc2:=(blk_cell hI.1 2).trans rfl;have hf2:=blk_frozen hI.1 2;have hc3:=(blk_cell hI.1 3).trans rfl;have hf3:=blk_frozen hI.1 3;have hc4:=(blk_cell hI.1 4).trans rfl;have hf4:=blk_frozen hI.1 4;clear hI;have hd:decide ((f3.size:Int)<3)=false:=decide_eq_false (by omega);have HL:=Aside0.mk hL;have AL:=Aside0.mk hn;have AF:=Aside0.mk hf;have hd2:decide ((f3.size:Int) - 3<n)=false:=decide_eq_false (by omega);clear hL hn hf;go_enter Try.func32,Try.ntmps32;go_wp2_with (first|((with_reducible refine gate_callee (f:=56) rfl ?_);refine goesL_ (some 20) rfl rfl Try.func56 (by kernel_rfl) rfl #[.string f3] rfl (by (try simp only[List.map_toArray,List.map_cons,List.map_nil]);first|done|rfl|(simp only[List.length_drop,List.length_take];rfl)) ?_;(with_reducible refine (cutter_long.calls f3 n _ AL.out).mono ?_);rintro e w' ⟨rfl,⟨nd22,rfl⟩⟩;refine⟨_,rfl,?_⟩)|((with_reducible refine gate_callee (f:=48) rfl ?_);refine goesL_ (some 44) rfl rfl Try.func48 (by kernel_rfl) rfl #[.int .i64 n] rfl (by (try simp only[List.map_toArray,List.map_cons,List.map_nil]);first|done|rfl|(simp only[List.length_drop,List.length_take];rfl)) ?_;(with_reducible refine (cutter_fit.calls n true _ AF.out).mono ?_);rintro e w' ⟨rfl,⟨nd19,rfl⟩⟩;refine⟨_,rfl,?_⟩));have HI7:=Aside0.mk (HI.out.drewN (nd22+nd19));clear HI hc0 hc1 hc2 hc3 hc4 hf0 hf1 hf2 hf3 hf4;generalize w.drewN (nd22+nd19)=w7 at HI7 ⊢;have HI8:=Aside0.mk HI7.out.drew;have hc3:=(HI7.out.cells 3).trans rfl;have hc4:=(HI7.out.cells 4).trans rfl;have hf3:=blk_frozen HI7.out.1 3;have hf4:=blk_frozen HI7.out.1 4;have hca:(w7.alloc (.cells #[.int .u8 1,.string (f3.extract 3 (3+n).toNat)] 24)).cell? ⟨g,4,none⟩=some v:=(blk_cell (blk_alloc HI7.out.1 _) 4).trans rfl;have hw3:Go.IntKind.i64.wrap (3+n)=3+n:=by rw [i64_w];unfold wrap64;omega
  have q1:(3:Int)≤3+n:=by omega
  have q1_:=eq_true q1;have q2_:=eq_true hlt;go_region_law (refine Kd.R_append_step k24 (w0:=w0) w0.heap.size rfl (.tmp 25) (.tmp 31) 43 24 (.agg #[(.int .u8 0),(.string ⟨#[]⟩)]) 24 rfl Try.underlying43 info24 rfl (by decide) (by omega) v out (⟨1,f3.extract 3 (3+n).toNat⟩:S24) [.int .u8 1,.string (f3.extract 3 (3+n).toNat)] (fun k_=>k_≠g) (fun _=>False) rfl rfl (k24_mkM _ _ _ _) (fun _ hk=>hk.elim) ?aF HI8.out.2.2.1 HI8.out.2.2.2 HI8.out.2.2.2.size HL.out ?_;(case aF=>intro k_ hk_ he_;subst he_;exact absurd (CutI.lt HI8.out) (Nat.not_lt.2 hk_));intro v1 w6 ho hb hg hat;obtain⟨A1,c1,rfl⟩:=Kd.R_slice ho;rw [List.length_append,List.length_singleton]at ho hat;have HI6:=Aside0.mk (HI8.out.app hg ho hb);have hc64:=(HI6.out.cells 4).trans rfl;have hf64:=blk_frozen HI6.out.1 4;clear ho hb hg hat)
  all_goals
    have HI9 := Aside0.mk (HI6.out.set 4 (.slice A1 (out.length + 1) c1) rfl)
    clear hc64 hf64 HI6 HI7 HI8 hc3 hc4 hf3 hf4 hca
    generalize w6.setCell ⟨g, 4, none⟩ (.slice A1 (out.length + 1) c1) = w9 at HI9 ⊢
    have hc3 := (HI9.out.cells 3).trans rfl
    have hf3 := blk_frozen HI9.out.1 3
    have q3_ : (0 ≤ 3 + n) = True := eq_true (by omega)
    go_wp2
    first | go_end0 | ((try simp only [Exit.inBlock, Exit.then]); refine bodyPost_ret (results_none rfl _ _ _) rfl ?_)
    exact ⟨rfl, .slice A1 (out.length + 1) c1, HI9.out.set 3 _ rfl⟩
theorem cut_away {W:World}{base b:Nat}{ok:Nat→Prop}{v:Value}{out:List S24} (h:Kd.R k24 24 W base ok v out) (hok: ∀ k,ok k→k≠b) (j:Nat) (u:Value):Kd.R k24 24 (W.setCell ⟨b,j,none⟩ u) base ok v out:=Kd.R_step h (fun k hk _=>Below.heap_setCell W ⟨b,j,none⟩ u k (hok k hk))
theorem toList_nil_iff (s:ByteArray):s.toList= []↔s.size=0:=by
  rw [ByteArray.toList_eq, ← List.length_eq_zero_iff,Array.length_toList];rfl
def cutter_Feed.l0 : Nat → ByteArray → Bool → Int → ByteArray → List S24 → Option (ByteArray × Bool × Int × List S24 × Int)
  | 0, _, _, _, _, _ => none
  | k + 1, x0, x1, x2, x3, xo =>
    if ¬ (x3.size ≤ 4611686018427387904 ∧ 0 ≤ x2 ∧ x2 ≤ 4611686018427387904 ∧ (xo.length + 1) * 24 ≤ 140737488355328) then none
    else if x3.size = 0 then some (x0, x1, x2, xo, 0)
    else if x2 > 0 then cutter_Feed.l0 k x0 x1 (x2 - (min x3.size x2.toNat : Nat)) (x3.extract (min x3.size x2.toNat) x3.size) xo
    else if bt x3 0 ≠ 245 then
      (if idxByte x3 245 ≠ 0 ∧ idxByte x3 245 ≤ x3.size then cutter_Feed.l0 k x0 (decide (idxByte x3 245 < 0)) x2 (if idxByte x3 245 < 0 then ⟨#[]⟩ else x3.extract (idxByte x3 245).toNat x3.size) (if x1 then xo else xo ++ [⟨2, ⟨#[]⟩⟩]) else none)
    else if (x3.size : Int) < 3 then cutter_Feed.l0 k x3 false x2 ⟨#[]⟩ xo
    else (cutter_long.f x3).bind fun n => (cutter_fit.f n).bind fun t =>
      if t = false then cutter_Feed.l0 k x0 false n (x3.extract 3 x3.size) (xo ++ [⟨3, ⟨#[]⟩⟩])
      else if (x3.size : Int) - 3 < n then cutter_Feed.l0 k x3 false x2 ⟨#[]⟩ xo
      else if 0 ≤ n then cutter_Feed.l0 k x0 false x2 (x3.extract (3 + n).toNat x3.size) (xo ++ [⟨1, x3.extract 3 (3 + n).toNat⟩])
      else none
def cutter_Feed.f (k : Nat) (a0_0 : ByteArray) (a0_1 : Bool) (a0_2 : Int) (a1 : ByteArray) : Option (ByteArray × Bool × Int × List S24 × Int) :=
  (cutter_Check.f a0_0 a0_1 a0_2).bind fun t => if t = 0 then (if a1.size = 0 then some (a0_0, a0_1, a0_2, [], 0) else if a0_0.size + a1.size ≤ 9223372036854775807 then cutter_Feed.l0 k ⟨#[]⟩ a0_1 a0_2 (a0_0 ++ a1) [] else none) else some (⟨#[]⟩, false, 0, [], t)
set_option maxHeartbeats 8000000 in
set_option maxRecDepth 100000 in
theorem cutter_Feed.calls (k:Nat) (a0_0:ByteArray) (a0_1:Bool) (a0_2:Int) (a1:ByteArray) (r1:ByteArray) (r2:Bool) (r3:Int) (r4:List (S24)) (r5:Int) (w:World) (h:cutter_Feed.f k a0_0 a0_1 a0_2 a1=some (r1,r2,r3,r4,r5)):
    Calls Try.prog 19 #[.agg #[.string a0_0,.bool a0_1,.int .i64 a0_2],.string a1] w fun e w'=> ∃ v3_:Value,e= .returned (.tuple #[.agg #[.string r1,.bool r2,.int .i64 r3],v3_,.int .i64 r5])∧Kd.R k24 24 w' w.heap.size (fun _=>True) v3_ r4∧Below w.heap.size w w':=by
  have hu23:=Try.underlying57;have hu43:=Try.underlying80;have HB:=Aside0.mk (Below.refl w.heap.size w);obtain⟨t,A0,H⟩:=Option.bind_eq_some_iff.mp h;have A:=Aside0.mk A0;clear h A0;by_cases c:t=0
  · rw [if_pos c]at H;subst c;by_cases c1:a1.size=0
    · rw [if_pos c1]at H;simp only[Option.some.injEq,Prod.mk.injEq]at H;obtain⟨rfl,rfl,rfl,rfl,rfl⟩:=H;have c2:(a1.toList==([]:List UInt8))=true:=by rw [(toList_nil_iff a1).2 c1];rfl
      go_enter Try.func19,Try.ntmps19;go_wp2_with (first|((with_reducible refine gate_callee (f:=29) rfl ?_);refine goesL_ (some 10) rfl rfl Try.func29 (by kernel_rfl) rfl #[.agg #[.string a0_0,.bool a0_1,.int .i64 a0_2]] rfl (by (try simp only[List.map_toArray,List.map_cons,List.map_nil]);first|done|rfl|(simp only[List.length_drop,List.length_take];rfl)) ?_;(with_reducible refine (cutter_Check.calls a0_0 a0_1 a0_2 0 _ A.out).mono ?_);rintro e w5 ⟨rfl,hb⟩;refine⟨_,rfl,?_⟩;have BK2:=Aside0.mk (blk_below (g:=w.heap.size) (o:=.cells #[.string a0_0,.bool a0_1,.int .i64 a0_2] 57 (0,0)) (blk_alloc (heap_alloc_new w _) _) hb);have BK4:=Aside0.mk (blk_below (g:=w.heap.size+1) (o:=.cells #[.string ⟨#[]⟩,.bool false,.int .i64 0] 57 (0,0)) (by simpa using heap_alloc_new (w.alloc (.cells #[.string a0_0,.bool a0_1,.int .i64 a0_2] 57)) (.cells #[.string ⟨#[]⟩,.bool false,.int .i64 0] 57)) hb);have HB5:=Aside0.mk (below_then (below_alloc (below_alloc (Below.refl w.heap.size w) _) _) (by simp;omega) hb);have HS5:=Aside0.mk hb.size;clear hb;have hc20:=(blk_cell BK2.out 0).trans rfl;have hc21:=(blk_cell BK2.out 1).trans rfl;have hc22:=(blk_cell BK2.out 2).trans rfl;have hc40:=(blk_cell BK4.out 0).trans rfl;have hc41:=(blk_cell BK4.out 1).trans rfl;have hc42:=(blk_cell BK4.out 2).trans rfl;have hf40:=blk_frozen BK4.out 0;have hf41:=blk_frozen BK4.out 1;have hf42:=blk_frozen BK4.out 2));refine bodyPost_ret (results_ctt rfl _ _ (w.heap.size+1) 57 #[.string a0_0,.bool a0_1,.int .i64 a0_2] (0,0) _ rfl (blk_put (blk_put (blk_put BK4.out 0 _ rfl) 1 _ rfl) 2 _ rfl) Try.underlying57 rfl (by kernel_rfl)) rfl ?_;exact⟨_,rfl,Kd.R_nil _ _ _ _ _,(((HB5.out).setCell (p:=⟨w.heap.size+1,0,none⟩) (Nat.le_succ _) _).setCell (p:=⟨w.heap.size+1,1,none⟩) (Nat.le_succ _) _).setCell (p:=⟨w.heap.size+1,2,none⟩) (Nat.le_succ _) _⟩
    · rw [if_neg c1]at H;by_cases c3:a0_0.size+a1.size≤9223372036854775807
      · rw [if_pos c3]at H;have H':=Aside0.mk H;clear H;have c4b0:=eq_true c3;have c4b1:decide (a0_0.size+a1.size≤9223372036854775807)=true:=decide_eq_true c3;have c2:(a1.toList==([]:List UInt8))=false:=beq_eq_false_iff_ne.mpr (fun e=>c1 ((toList_nil_iff a1).1 e));go_enter Try.func19,Try.ntmps19;go_wp2_with (first|((with_reducible refine gate_callee (f:=29) rfl ?_);refine goesL_ (some 10) rfl rfl Try.func29 (by kernel_rfl) rfl #[.agg #[.string a0_0,.bool a0_1,.int .i64 a0_2]] rfl (by (try simp only[List.map_toArray,List.map_cons,List.map_nil]);first|done|rfl|(simp only[List.length_drop,List.length_take];rfl)) ?_;(with_reducible refine (cutter_Check.calls a0_0 a0_1 a0_2 0 _ A.out).mono ?_);rintro e w5 ⟨rfl,hb⟩;refine⟨_,rfl,?_⟩;have BK2:=Aside0.mk (blk_below (g:=w.heap.size) (o:=.cells #[.string a0_0,.bool a0_1,.int .i64 a0_2] 57 (0,0)) (blk_alloc (heap_alloc_new w _) _) hb);have BK4:=Aside0.mk (blk_below (g:=w.heap.size+1) (o:=.cells #[.string ⟨#[]⟩,.bool false,.int .i64 0] 57 (0,0)) (by simpa using heap_alloc_new (w.alloc (.cells #[.string a0_0,.bool a0_1,.int .i64 a0_2] 57)) (.cells #[.string ⟨#[]⟩,.bool false,.int .i64 0] 57)) hb);have HB5:=Aside0.mk (below_then (below_alloc (below_alloc (Below.refl w.heap.size w) _) _) (by simp;omega) hb);have HS5:=Aside0.mk hb.size;clear hb;have hc20:=(blk_cell BK2.out 0).trans rfl;have hc21:=(blk_cell BK2.out 1).trans rfl;have hc22:=(blk_cell BK2.out 2).trans rfl;have hc40:=(blk_cell BK4.out 0).trans rfl;have hc41:=(blk_cell BK4.out 1).trans rfl;have hc42:=(blk_cell BK4.out 2).trans rfl;have hf40:=blk_frozen BK4.out 0;have hf41:=blk_frozen BK4.out 1;have hf42:=blk_frozen BK4.out 2))

        have HI0:Aside0 (CutI w5 (w5.alloc (.cells #[.string ⟨#[]⟩,.bool a0_1,.int .i64 a0_2,.string (a0_0++a1),.slice none 0 0] 80)) w5.heap.size #[.string ⟨#[]⟩,.bool a0_1,.int .i64 a0_2,.string (a0_0++a1),.slice none 0 0] (.slice none 0 0) []):=⟨heap_alloc_new _ _,Nat.le_refl _,Kd.R_nil _ _ _ _ _,below_alloc (Below.refl _ _) _⟩;clear hc20 hc21 hc22 hc40 hc41 hc42 hf40 hf41 hf42 c2 c3 c4b0 c4b1 c1;generalize w5.alloc (.cells #[.string ⟨#[]⟩,.bool a0_1,.int .i64 a0_2,.string (a0_0++a1),.slice none 0 0] 80)=w7 at HI0 ⊢;go_loopg [] k (fun kq w'=> ∃ (x0:ByteArray) (x1:Bool) (x2:Int) (x3:ByteArray) (v:Value) (xo:List S24),Aside0 (cutter_Feed.l0 kq x0 x1 x2 x3 xo=some (r1,r2,r3,r4,r5))∧Aside0 (kq≤k)∧Aside0 (CutI w5 w' w5.heap.size #[.string x0,.bool x1,.int .i64 x2,.string x3,v] v xo))
        case atStart=>exact⟨⟨#[]⟩,a0_1,a0_2,a0_0++a1,.slice none 0 0, [],H',⟨Nat.le_refl _⟩,HI0⟩
        case round=>
          clear H' HI0;obtain⟨x0,x1,x2,x3,v,xo,HA,HK1,HI⟩:=hrel;cases gk with
          |zero=>exact absurd HA.out (by simp [cutter_Feed.l0])
          |succ k1=>
            have H:=HA.out;clear HA;unfold cutter_Feed.l0 at H;have hc0:=(HI.out.cells 0).trans rfl;have hc1:=(HI.out.cells 1).trans rfl;have hc2:=(HI.out.cells 2).trans rfl;have hc3:=(HI.out.cells 3).trans rfl;have hc4:=(HI.out.cells 4).trans rfl;have hf1:=blk_frozen HI.out.1 1;by_cases c5:x3.size≤4611686018427387904∧0≤x2∧x2≤4611686018427387904∧(xo.length+1) * 24≤140737488355328
            · rw [if_neg (not_not_intro c5)]at H;obtain⟨c5a,c5b,c5c,c5d⟩:=c5;by_cases c6:x3.size=0
              · rw [if_pos c6]at H;simp only[Option.some.injEq,Prod.mk.injEq]at H;obtain⟨rfl,rfl,rfl,rfl,rfl⟩:=H;have c7:(x3.toList !=([]:List UInt8))=false:=by rw [(toList_nil_iff x3).2 c6];rfl
                have c7i:x3.toList.isEmpty=true:=List.isEmpty_iff.mpr ((toList_nil_iff x3).2 c6);have BK6:=Aside0.mk (blk_below BK4.out HI.out.2.2.2);have hc40:=(blk_cell BK6.out 0).trans rfl;have hc41:=(blk_cell BK6.out 1).trans rfl;have hc42:=(blk_cell BK6.out 2).trans rfl;have hf40:=blk_frozen BK6.out 0;have hf41:=blk_frozen BK6.out 1;have hf42:=blk_frozen BK6.out 2;have hlt:=HS5.out;go_wp2;have hne:w.heap.size+1≠w5.heap.size:=by have:=BK4.out;have:=blk_lt this;omega
                go_region;go_wp2;refine bodyPost_ret (results_ctt rfl _ _ (w.heap.size+1) 57 #[.string x0,.bool x1,.int .i64 x2] (0,0) _ rfl (blk_drew (blk_put (blk_put (blk_put BK6.out 0 _ rfl) 1 _ rfl) 2 _ rfl)) Try.underlying57 rfl (by kernel_rfl)) rfl ?_;have hR:=Kd.R_bound HI.out.2.2.1;have hsz:=blk_lt BK4.out;refine⟨v,rfl,?_,?_⟩
                · exact Kd.R_mono (Kd.R_drew (cut_away (cut_away (cut_away (Kd.R_lower hR HB5.out.size) (b:=w.heap.size+1) (fun k_ hk_=>by have:=hk_.2.1;omega) 0 _) (b:=w.heap.size+1) (fun k_ hk_=>by have:=hk_.2.1;omega) 1 _) (b:=w.heap.size+1) (fun k_ hk_=>by have:=hk_.2.1;omega) 2 _)) (fun _ _=>trivial)
                · exact below_drew1 ((((below_step HB5.out HI.out.2.2.2).setCell (p:=⟨w.heap.size+1,0,none⟩) (Nat.le_succ _) _).setCell (p:=⟨w.heap.size+1,1,none⟩) (Nat.le_succ _) _).setCell (p:=⟨w.heap.size+1,2,none⟩) (Nat.le_succ _) _)
              · rw [if_neg c6]at H;have c7:(x3.toList !=([]:List UInt8))=true:=bne_iff_ne.mpr (fun e=>c6 ((toList_nil_iff x3).1 e));have c7i:x3.toList.isEmpty=false:=Bool.eq_false_iff.mpr (fun e=>c6 ((toList_nil_iff x3).1 (List.isEmpty_iff.mp e)));by_cases c8:x2 > 0
                · rw [if_pos c8]at H;have H':=Aside0.mk H;clear H;have c8b:decide (0<x2)=true:=decide_eq_true c8;have hmn:(if (x3.size:Int)<x2 then (x3.size:Int) else x2)=((min x3.size x2.toNat:Nat):Int):=by split <;> omega
                  go_wp2_with (first|((with_reducible refine gate_callee (f:=30) rfl ?_);refine goesL_ (some 48) rfl rfl Try.func30 (by kernel_rfl) rfl #[.pointer (some ⟨w5.heap.size,0,none⟩)] rfl (by (try simp only[List.map_toArray,List.map_cons,List.map_nil]);first|done|rfl|(simp only[List.length_drop,List.length_take];rfl)) ?_;(with_reducible refine (skip_is w5.heap.size x0 x1 x2 x3 v xo w5 _ (min x3.size x2.toNat) (Nat.min_le_left _ _) c5a c5b c5c hmn HI.out).mono ?_);rintro e w6 ⟨rfl,hI⟩;refine⟨_,rfl,?_⟩;have HI6:=Aside0.mk hI;clear hI));go_roundg k1
                  case measure=>have:=HK1.out;omega
                  case rel=>exact⟨x0,x1,_,_,v,xo,H',⟨by have:=HK1.out;omega⟩,HI6⟩
                · rw [if_neg c8]at H;have c8b:decide (0<x2)=false:=decide_eq_false c8;have q0:(0<(x3.size:Int))=True:=eq_true (by omega);have q1:(0<x3.size)=True:=eq_true (by omega);have hx: ∀ h:0<x3.size,((x3[0]'h).toNat:Int)=bt x3 0:=bt_at x3 0;by_cases c9:bt x3 0≠245
                  · rw [if_pos c9]at H;have c9b:(bt x3 0 !=245)=true:=bne_iff_ne.mpr c9;by_cases c10:idxByte x3 245≠0∧idxByte x3 245≤x3.size
                    · rw [if_pos c10]at H;have H':=Aside0.mk H;clear H;go_wp2_with (first|((with_reducible refine gate_callee (f:=31) rfl ?_);refine goesL_ (some 57) rfl rfl Try.func31 (by kernel_rfl) rfl #[.pointer (some ⟨w5.heap.size,0,none⟩)] rfl (by (try simp only[List.map_toArray,List.map_cons,List.map_nil]);first|done|rfl|(simp only[List.length_drop,List.length_take];rfl)) ?_;(with_reducible refine (seek_is w5.heap.size x0 x1 x2 x3 v xo w5 _ _ rfl c10.1 c10.2 c5a c5d HI.out).mono ?_);rintro e w6 ⟨rfl,v6,hI⟩;refine⟨_,rfl,?_⟩;have HI6:=Aside0.mk hI;clear hI));go_roundg k1
                      case measure=>have:=HK1.out;omega
                      case rel=>exact⟨x0,_,_,_,v6,_,H',⟨by have:=HK1.out;omega⟩,HI6⟩
                    ·rw [if_neg c10]at H;cases H
                  · rw [if_neg c9]at H;have c9b:(bt x3 0 !=245)=false:=bne_eq_false_iff_eq.mpr (Classical.not_not.mp c9);have HI1:=Aside0.mk (HI.out.set 1 (.bool false) (cs':= #[.string x0,.bool false,.int .i64 x2,.string x3,v]) rfl);by_cases c11:(x3.size:Int)<3
                    · rw [if_pos c11]at H;have H':=Aside0.mk H;clear H;go_wp2_with (first|((with_reducible refine gate_callee (f:=32) rfl ?_);refine goesL_ (some 39) rfl rfl Try.func32 (by kernel_rfl) rfl #[.pointer (some ⟨w5.heap.size,0,none⟩)] rfl (by (try simp only[List.map_toArray,List.map_cons,List.map_nil]);first|done|rfl|(simp only[List.length_drop,List.length_take];rfl)) ?_;(with_reducible refine (take_few w5.heap.size x0 false x2 x3 v xo w5 _ c11 HI1.out).mono ?_);rintro e w6 ⟨rfl,v6,hI⟩;refine⟨_,rfl,?_⟩;have HI6:=Aside0.mk hI;clear hI));go_roundg k1
                      case measure=>have:=HK1.out;omega
                      case rel=>exact⟨x3,false,x2,_,v6,xo,H',⟨by have:=HK1.out;omega⟩,HI6⟩
                    · rw [if_neg c11]at H;obtain⟨n,hn,H⟩:=Option.bind_eq_some_iff.mp H;obtain⟨t,ht,H⟩:=Option.bind_eq_some_iff.mp H;have AL:=Aside0.mk hn;have AF:=Aside0.mk ht;clear hn ht;have c11b:3≤(x3.size:Int):=by omega
                      by_cases c12:t=false
                      · subst c12;rw [if_pos rfl]at H;have H':=Aside0.mk H;clear H;go_wp2_with (first|((with_reducible refine gate_callee (f:=32) rfl ?_);refine goesL_ (some 39) rfl rfl Try.func32 (by kernel_rfl) rfl #[.pointer (some ⟨w5.heap.size,0,none⟩)] rfl (by (try simp only[List.map_toArray,List.map_cons,List.map_nil]);first|done|rfl|(simp only[List.length_drop,List.length_take];rfl)) ?_;(with_reducible refine (take_long w5.heap.size x0 false x2 x3 v xo w5 _ n AL.out c11b AF.out c5d HI1.out).mono ?_);rintro e w6 ⟨rfl,v6,hI⟩;refine⟨_,rfl,?_⟩;have HI6:=Aside0.mk hI;clear hI));go_roundg k1
                        case measure=>have:=HK1.out;omega
                        case rel=>exact⟨x0,false,n,_,v6,_,H',⟨by have:=HK1.out;omega⟩,HI6⟩
                      · rw [if_neg c12]at H;have c12':t=true:=by simpa using c12
                        subst c12';by_cases c13:(x3.size:Int) - 3<n
                        · rw [if_pos c13]at H;have H':=Aside0.mk H;clear H;go_wp2_with (first|((with_reducible refine gate_callee (f:=32) rfl ?_);refine goesL_ (some 39) rfl rfl Try.func32 (by kernel_rfl) rfl #[.pointer (some ⟨w5.heap.size,0,none⟩)] rfl (by (try simp only[List.map_toArray,List.map_cons,List.map_nil]);first|done|rfl|(simp only[List.length_drop,List.length_take];rfl)) ?_;(with_reducible refine (take_short w5.heap.size x0 false x2 x3 v xo w5 _ n AL.out c11b c5a AF.out c13 HI1.out).mono ?_);rintro e w6 ⟨rfl,v6,hI⟩;refine⟨_,rfl,?_⟩;have HI6:=Aside0.mk hI;clear hI));go_roundg k1
                          case measure=>have:=HK1.out;omega
                          case rel=>exact⟨x3,false,x2,_,v6,xo,H',⟨by have:=HK1.out;omega⟩,HI6⟩
                        · rw [if_neg c13]at H;by_cases c14:0≤n
                          · rw [if_pos c14]at H;have H':=Aside0.mk H;clear H;go_wp2_with (first|((with_reducible refine gate_callee (f:=32) rfl ?_);refine goesL_ (some 39) rfl rfl Try.func32 (by kernel_rfl) rfl #[.pointer (some ⟨w5.heap.size,0,none⟩)] rfl (by (try simp only[List.map_toArray,List.map_cons,List.map_nil]);first|done|rfl|(simp only[List.length_drop,List.length_take];rfl)) ?_;(with_reducible refine (take_body w5.heap.size x0 false x2 x3 v xo w5 _ n AL.out c11b c5a AF.out c14 (by omega) c5d HI1.out).mono ?_);rintro e w6 ⟨rfl,v6,hI⟩;refine⟨_,rfl,?_⟩;have HI6:=Aside0.mk hI;clear hI));go_roundg k1
                            case measure=>have:=HK1.out;omega
                            case rel=>exact⟨x0,false,x2,_,v6,_,H',⟨by have:=HK1.out;omega⟩,HI6⟩
                          ·rw [if_neg c14]at H;cases H
            ·rw [if_pos c5]at H;cases H

      ·rw [if_neg c3]at H;cases H
  · rw [if_neg c]at H;simp only[Option.some.injEq,Prod.mk.injEq]at H;obtain⟨rfl,rfl,rfl,rfl,rfl⟩:=H;have c2:(t !=0)=true:=by simpa using c
    go_enter Try.func19,Try.ntmps19;go_wp2_with (first|((with_reducible refine gate_callee (f:=29) rfl ?_);refine goesL_ (some 10) rfl rfl Try.func29 (by kernel_rfl) rfl #[.agg #[.string a0_0,.bool a0_1,.int .i64 a0_2]] rfl (by (try simp only[List.map_toArray,List.map_cons,List.map_nil]);first|done|rfl|(simp only[List.length_drop,List.length_take];rfl)) ?_;(with_reducible refine (cutter_Check.calls a0_0 a0_1 a0_2 t _ A.out).mono ?_);rintro e w5 ⟨rfl,hb⟩;refine⟨_,rfl,?_⟩;have BK2:=Aside0.mk (blk_below (g:=w.heap.size) (o:=.cells #[.string a0_0,.bool a0_1,.int .i64 a0_2] 57 (0,0)) (blk_alloc (heap_alloc_new w _) _) hb);have BK4:=Aside0.mk (blk_below (g:=w.heap.size+1) (o:=.cells #[.string ⟨#[]⟩,.bool false,.int .i64 0] 57 (0,0)) (by simpa using heap_alloc_new (w.alloc (.cells #[.string a0_0,.bool a0_1,.int .i64 a0_2] 57)) (.cells #[.string ⟨#[]⟩,.bool false,.int .i64 0] 57)) hb);have HB5:=Aside0.mk (below_then (below_alloc (below_alloc (Below.refl w.heap.size w) _) _) (by simp;omega) hb);have HS5:=Aside0.mk hb.size;clear hb;have hc20:=(blk_cell BK2.out 0).trans rfl;have hc21:=(blk_cell BK2.out 1).trans rfl;have hc22:=(blk_cell BK2.out 2).trans rfl;have hc40:=(blk_cell BK4.out 0).trans rfl;have hc41:=(blk_cell BK4.out 1).trans rfl;have hc42:=(blk_cell BK4.out 2).trans rfl;have hf40:=blk_frozen BK4.out 0;have hf41:=blk_frozen BK4.out 1;have hf42:=blk_frozen BK4.out 2));refine bodyPost_ret (results_ctt rfl _ _ (w.heap.size+1) 57 #[.string (⟨#[]⟩:ByteArray),.bool false,.int .i64 0] (0,0) _ rfl (blk_put (blk_put (blk_put BK4.out 0 _ rfl) 1 _ rfl) 2 _ rfl) Try.underlying57 rfl (by kernel_rfl)) rfl ?_;exact⟨_,rfl,Kd.R_nil _ _ _ _ _,(((HB5.out).setCell (p:=⟨w.heap.size+1,0,none⟩) (Nat.le_succ _) _).setCell (p:=⟨w.heap.size+1,1,none⟩) (Nat.le_succ _) _).setCell (p:=⟨w.heap.size+1,2,none⟩) (Nat.le_succ _) _⟩
def spoorlaw13_GramCut.l0 : Nat → List (S24) → ByteArray → List ByteArray → Int → Int → ByteArray → Bool → Int → Option (Bool)
 | 0, _, _, _, _, _, _, _, _ => none
 | k + 1, x4, x5, x13, x14, x15, x371000, x371001, x371002 => if x15 < x14 then (if 0 ≤ x15 then (if x15 < (x13.length : Int) then ((cutter_Feed.f k x371000 x371001 x371002 (rdOf ByteArray.empty x13 x15)).bind fun bt372 => (if bt372.2.2.2.2 = 0 then (if x4.length + bt372.2.2.2.1.length < 5864062014805 then (if x5.size + (rdOf ByteArray.empty x13 x15).size ≤ 9223372036854775807 then (spoorlaw13_GramCut.l0 k (x4 ++ bt372.2.2.2.1) (x5 ++ (rdOf ByteArray.empty x13 x15)) x13 x14 (wrap64 (x15 + 1)) bt372.1 bt372.2.1 bt372.2.2.1) else (none)) else (none)) else (none))) else (none)) else (none)) else ((gram_Pieces.f k x5).bind fun t383 => ((spoorref12_Same.f k x4 t383).bind fun t386 => (some t386)))
def spoorlaw13_GramCut.f (k:Nat) (l0:List ByteArray):Option (Bool):=(spoorlaw13_lives.f k).bind fun t369=>(if t369=true then (spoorlaw13_GramCut.l0 k ([]:List (S24)) (⟨#[]⟩:ByteArray) l0 (l0.length:Int) 0 (⟨#[]⟩:ByteArray) false 0) else (none))
def spoorlaw13_GramCut.T12:Bool × List (List Nat × List Nat):=(true, [([], []),([], []),([], []),([1,2], [1,2]),([], []),([], []),([4,5], [4,5]),([0,3,0], [0]),([3,7,0,1,2,3,7], [1,3]),([6,8,0,1,2,3,4,5,6,7,8], [4,6])])
def spoorlaw13_GramCut.B12:List Nat:= [0,0,0,6,0,0,48,15,143,511]
theorem spoorlaw13_GramCut.tab12:rtab .any (opsOf Try.f7 12)=spoorlaw13_GramCut.T12:=by kernel_rfl
theorem spoorlaw13_GramCut.bits12:waitsOk spoorlaw13_GramCut.T12.2 spoorlaw13_GramCut.B12=true:=by kernel_rfl
set_option maxHeartbeats 8000000 in
set_option maxRecDepth 100000 in
theorem spoorlaw13_GramCut.calls (k:Nat) (A0:Option Addr) (c0:Nat) (l0:List ByteArray) (r:Bool) (w:World) (hr0:Kd.C Kd.string w A0 l0.length l0) (hc0:l0.length≤c0) (h:spoorlaw13_GramCut.f k l0=some r):
  Calls Try.prog 7 #[.slice A0 l0.length c0] w fun e w'=>e= .returned (.bool r)∧Below w.heap.size w w':=by
 have hu57:=Try.underlying57;have HR0:=Ax hr0;have HC0:=Ax hc0;clear hr0 hc0;have HB:=Ax (Below.refl w.heap.size w);have H:((spoorlaw13_lives.f k).bind fun t369=>(if t369=true then (spoorlaw13_GramCut.l0 k ([]:List (S24)) (⟨#[]⟩:ByteArray) l0 (l0.length:Int) 0 (⟨#[]⟩:ByteArray) false 0) else (none)))=some r:=h;clear h;replace H:=Option.bind_eq_some_iff.mp H;obtain⟨t369,A20,H⟩:=H;replace H:(if t369=true then (spoorlaw13_GramCut.l0 k ([]:List (S24)) (⟨#[]⟩:ByteArray) l0 (l0.length:Int) 0 (⟨#[]⟩:ByteArray) false 0) else (none))=some r:=H;have A2:=Ax A20;clear A20;by_cases c3:t369=true
 ·subst c3;have H1:(spoorlaw13_GramCut.l0 k ([]:List (S24)) (⟨#[]⟩:ByteArray) l0 (l0.length:Int) 0 (⟨#[]⟩:ByteArray) false 0)=some r:=by rw [if_pos rfl]at H;exact H
  clear H;have H:=H1;clear H1;have H':=Ax H;clear H;go_enter Try.func7,Try.ntmps7;go_wp2_with (first|((with_reducible refine gate_callee (f:=10) rfl ?_);refine goesL_ (some 11) rfl rfl Try.func10 (by kernel_rfl) rfl #[] rfl gS ?_;(with_reducible refine (spoorlaw13_lives.calls k  true _ A2.out).mono ?_);rintro e w4 ⟨rfl,hb⟩;refine⟨_,rfl,?_⟩;replace HB:=Bs0 HB hb;(try clear hb);(try clear hb2);(try clear hk);(try clear hi))|((with_reducible refine gate_dst (N:=3) rfl ?_);refine box_event ?hg (N:=3) ?hd (cs:= #[.string (⟨#[]⟩:ByteArray),.bool false,.int .i64 0]) (t:=57) ?hr ?_;(case hd=>rfl);(case hg=>rfl);(case hr=>first|(go_simp;done)|(go_simp;rfl));intro gb370 hg w5 hbox hb;have n0_:=Bs0 HB hb;have n1_:=Ax (hbox);have n2_:=Gw0 HB hg;have n3_:=Gw0 HB hg;clear HB;have HB:=n0_;have BK370:=n1_;have GW370:=n2_;have GE370:=n3_;clear n0_ n1_ n2_ n3_;clear hb hbox hg));go_loopg [4,5,15] k (fun kq v4 v5 v15 w'=> ∃ (x4_1:List (S24)) (x5_1:ByteArray) (x15_1:Int) (x371000_1:ByteArray) (x371001_1:Bool) (x371002_1:Int),v5= .string x5_1∧v15= .int .i64 x15_1∧Aside0 (spoorlaw13_GramCut.l0 kq x4_1 x5_1 l0 (l0.length:Int) x15_1 x371000_1 x371001_1 x371002_1=some r)∧Aside0 (kq≤k)∧Aside0 (Kd.R k24 24 w' w.heap.size (fun _=>True) v4 x4_1)∧Aside0 (w'.heap[gb370]? =some (.cells #[.string x371000_1,.bool x371001_1,.int .i64 x371002_1] 57 (0,0)))∧Aside0 (Below w.heap.size w w'))
  case atStart=>exact⟨(([]:List (S24))),((⟨#[]⟩:ByteArray)),(0),((⟨#[]⟩:ByteArray)),(false),(0),rS,rS,H',⟨Nat.le_refl _⟩,⟨by first|exact Kd.R_nil _ _ _ _ _|exact Kd.N_nil _ _ _ _ _|exact Kd.V_nil _ _ _ _ _|exact Kd.Q_nil _ _ _ _ _|exact Kd.S_nil _ _ _ _ _⟩,⟨bf0 BK370.out⟩,⟨bw1 HB.out GE370.out⟩⟩
  case round=>
   clear H';(try clear c1);(try clear p2);(try clear c3);obtain⟨x4_1,x5_1,x15_1,x371000_1,x371001_1,x371002_1,rfl,rfl,HA,HK1,HO_4,BK370,HB⟩:=hrel;cases gk with
   |zero=>exact absurd HA.out (by simp [spoorlaw13_GramCut.l0])
   |succ k1=>
    have H:=HA.out;clear HA;simp only[spoorlaw13_GramCut.l0]at H;by_cases c6:x15_1<(l0.length:Int)
    ·rw [if_pos c6]at H;have c6b0:decide (x15_1<(l0.length:Int))=true:=decide_eq_true c6;clear c6;by_cases c7:0≤x15_1
     ·rw [if_pos c7]at H;have c7b0:decide (0≤x15_1)=true:=decide_eq_true c7;clear c7;by_cases c8:x15_1<(l0.length:Int)
      ·rw [if_pos c8]at H;have c8b0:decide (x15_1<(l0.length:Int))=true:=decide_eq_true c8;clear c8;replace H:=Option.bind_eq_some_iff.mp H;obtain⟨⟨t372,t373,t374,t375,t378⟩,A90,H⟩:=H;replace H:(if t378=0 then (if x4_1.length+t375.length<5864062014805 then (if x5_1.size+(rdOf ByteArray.empty l0 x15_1).size≤9223372036854775807 then (spoorlaw13_GramCut.l0 k1 (x4_1++t375) (x5_1++(rdOf ByteArray.empty l0 x15_1)) l0 (l0.length:Int) (wrap64 (x15_1+1)) t372 t373 t374) else (none)) else (none)) else (none))=some r:=H;have A9:=Ax A90;clear A90;by_cases c10:t378=0
       ·rw [if_pos c10]at H;have c10b0:(t378==0)=true:=beq_iff_eq.mpr c10;have c10b1:(t378 !=0)=false:=bne_eq_false_iff_eq.mpr c10;clear c10;by_cases c11:x4_1.length+t375.length<5864062014805
        ·rw [if_pos c11]at H;have LMc11:=Ax c11;clear c11;obtain⟨y380,hy380⟩: ∃ y_:List (S24),y_=(x4_1++t375):=⟨_,rfl⟩;replace H:(if x5_1.size+(rdOf ByteArray.empty l0 x15_1).size≤9223372036854775807 then (spoorlaw13_GramCut.l0 k1 y380 (x5_1++(rdOf ByteArray.empty l0 x15_1)) l0 (l0.length:Int) (wrap64 (x15_1+1)) t372 t373 t374) else (none))=some r:=by first|(rw [hy380];with_reducible exact H)|(have H2_:=(Option.bind_some _ _).symm.trans H;rw [hy380];with_reducible exact H2_)|(have H2_:=(Option.bind_some _ _).symm.trans H;with_reducible exact H2_)|with_reducible exact H|(rw [hy380];exact H)|exact H
         have Ny380:=Ax hy380;clear hy380;by_cases c12:x5_1.size+(rdOf ByteArray.empty l0 x15_1).size≤9223372036854775807
         ·rw [if_pos c12]at H;have c12b0:=eq_true c12;have c12b1:decide (x5_1.size+(rdOf ByteArray.empty l0 x15_1).size≤9223372036854775807)=true:=decide_eq_true c12;try have c12b2:(9223372036854775807<x5_1.size+(rdOf ByteArray.empty l0 x15_1).size)=False:=eq_false (Nat.not_lt.2 c12)
          have H':=Ax H;clear H;have p371:0≤(x15_1:Int):=of_decide_eq_true (by first|(with_reducible assumption)|assumption);have q371:x15_1<(l0.length:Int):=of_decide_eq_true (by first|(with_reducible assumption)|assumption);obtain⟨ad371,e371,hx371_0⟩:=Kd.at_string HR0.out x15_1 p371 q371;cases e371;replace hx371_0:=(HB.out.cell (World.block_lt_of_cell? w _ hx371_0)).trans hx371_0;replace p371:=eq_true p371;replace q371:=eq_true q371;obtain⟨hcz13_0,hcz13_1,hcz13_2,hfz13_0,hfz13_1,hfz13_2⟩:=cl3 BK370;try go_wp2_with (first|((with_reducible refine gate_callee (f:=19) rfl ?_);refine goesL_ (some 22) rfl rfl Try.func19 (by kernel_rfl) rfl #[.agg #[.string x371000_1,.bool x371001_1,.int .i64 x371002_1],.string (rdOf ByteArray.empty l0 x15_1)] rfl gS ?_;(with_reducible refine (cutter_Feed.calls k1 x371000_1 x371001_1 x371002_1 (rdOf ByteArray.empty l0 x15_1) t372 t373 t374 t375 t378 _ A9.out).mono ?_);rintro e w14 ⟨v376,rfl,ho0,hb⟩;refine⟨_,rfl,?_⟩;have n0_:=Ax (Kd.R_elder' (by (with_reducible repeat (first|apply Kd.R_alloc|apply Kd.R_drewN|apply Kd.R_drew));exact HO_4.out) (Kd.R_base ho0) hb);have n1_:=Ax (Kd.R_lower (Kd.R_new' ho0 (Kd.R_lt (by (with_reducible repeat (first|apply Kd.R_alloc|apply Kd.R_drewN|apply Kd.R_drew));exact HO_4.out))) (below_size (bw1 HB.out GE370.out)));have n2_:=Bx0 BK370 hb;have n3_:=Bs1 HB hb GE370.out;clear HO_4;clear BK370;clear HB;have HO_4:=n0_;have HO377:=n1_;have BK370:=n2_;have HB:=n3_;clear n0_ n1_ n2_ n3_;(try clear hb);(try clear hb2);(try clear hk);(try clear hi);(try clear ho0))|((with_reducible refine gate_dst (N:=8) rfl ?_);refine box_event ?hg (N:=8) ?hd (cs:= #[.string (⟨#[]⟩:ByteArray),.bool false,.int .i64 0]) (t:=57) ?hr ?_;(case hd=>rfl);(case hg=>rfl);(case hr=>first|(go_simp;done)|(go_simp;rfl));intro gb379 hg w15 hbox hb;have n0_:=Ax (Kd.R_below (by (with_reducible repeat (first|apply Kd.R_alloc|apply Kd.R_drewN|apply Kd.R_drew));exact HO_4.out) hb);have n1_:=Ax (Kd.R_below (by (with_reducible repeat (first|apply Kd.R_alloc|apply Kd.R_drewN|apply Kd.R_drew));exact HO377.out) hb);have n2_:=Bx0 BK370 hb;have n3_:=Bs1 HB hb GE370.out;have n4_:=Ax (hbox);have n5_:=Gw1 HB hg GE370.out;have n6_:=Gw1 HB hg GE370.out;have n7_:=Nl0 BK370 hg;have n8_:=Nr0 BK370 hg;clear HO_4;clear HO377;clear BK370;clear HB;have HO_4:=n0_;have HO377:=n1_;have BK370:=n2_;have HB:=n3_;have BK379:=n4_;have GW379:=n5_;have GE379:=n6_;have NB370_379:=n7_;have NB379_370:=n8_;clear n0_ n1_ n2_ n3_ n4_ n5_ n6_ n7_ n8_;clear hb hbox hg;have hnb16:=NB379_370.out;have hnc16:=NB370_379.out;obtain⟨hcz17_0,hcz17_1,hcz17_2,hfz17_0,hfz17_1,hfz17_2⟩:=cl3 BK379))
          have n0_:Aside0 (Kd.R k24 24 (((w15.setCell ⟨gb379,0,none⟩ (.string t372)).setCell ⟨gb379,1,none⟩ (.bool t373)).setCell ⟨gb379,2,none⟩ (.int .i64 t374)) w.heap.size (fun k_=>some k_≠(v376:Value).ownBlock) u4 x4_1):=⟨by (with_reducible repeat (first|apply Kd.R_alloc|apply Kd.R_drewN|apply Kd.R_drew));exact Kd.R_mono (Kd.R_far (p:=⟨gb379,2,none⟩) (Kd.R_far (p:=⟨gb379,1,none⟩) (Kd.R_far (p:=⟨gb379,0,none⟩) (Kd.R_types HO_4.out BK379.out (by decide)) (fun _ hk=>hk.2) (.string t372)) (fun _ hk=>hk.2) (.bool t373)) (fun _ hk=>hk.2) (.int .i64 t374)) (fun _ hk=>hk.1.2)⟩;have n1_:Aside0 (Kd.R k24 24 (((w15.setCell ⟨gb379,0,none⟩ (.string t372)).setCell ⟨gb379,1,none⟩ (.bool t373)).setCell ⟨gb379,2,none⟩ (.int .i64 t374)) w.heap.size (fun k_=>some k_≠(u4:Value).ownBlock) v376 t375):=⟨by (with_reducible repeat (first|apply Kd.R_alloc|apply Kd.R_drewN|apply Kd.R_drew));exact Kd.R_mono (Kd.R_far (p:=⟨gb379,2,none⟩) (Kd.R_far (p:=⟨gb379,1,none⟩) (Kd.R_far (p:=⟨gb379,0,none⟩) (Kd.R_types HO377.out BK379.out (by decide)) (fun _ hk=>hk.2) (.string t372)) (fun _ hk=>hk.2) (.bool t373)) (fun _ hk=>hk.2) (.int .i64 t374)) (fun _ hk=>hk.1.2)⟩;have n2_:Aside0 ((((w15.setCell ⟨gb379,0,none⟩ (.string t372)).setCell ⟨gb379,1,none⟩ (.bool t373)).setCell ⟨gb379,2,none⟩ (.int .i64 t374)).heap[gb370]? =some (.cells #[.string x371000_1,.bool x371001_1,.int .i64 x371002_1] 57 (0,0))):=⟨bf3 BK370.out NB370_379.out NB370_379.out NB370_379.out⟩;have n3_:Aside0 ((((w15.setCell ⟨gb379,0,none⟩ (.string t372)).setCell ⟨gb379,1,none⟩ (.bool t373)).setCell ⟨gb379,2,none⟩ (.int .i64 t374)).heap[gb379]? =some (.cells #[.string t372,.bool t373,.int .i64 t374] 57 (0,0))):=⟨by (with_reducible repeat (first|refine blk_drewN ?_ _|refine blk_drew ?_|refine blk_alloc ?_ _));refine blk_put (cs:= #[.string t372,.bool t373,.int .i64 0]) ?_ 2 _ rfl;(with_reducible repeat (first|refine blk_drewN ?_ _|refine blk_drew ?_|refine blk_alloc ?_ _));refine blk_put (cs:= #[.string t372,.bool false,.int .i64 0]) ?_ 1 _ rfl;(with_reducible repeat (first|refine blk_drewN ?_ _|refine blk_drew ?_|refine blk_alloc ?_ _));refine blk_put (cs:= #[.string (⟨#[]⟩:ByteArray),.bool false,.int .i64 0]) ?_ 0 _ rfl;(with_reducible repeat (first|refine blk_drewN ?_ _|refine blk_drew ?_|refine blk_alloc ?_ _));exact BK379.out⟩;have n4_:Aside0 (Below w.heap.size w (((w15.setCell ⟨gb379,0,none⟩ (.string t372)).setCell ⟨gb379,1,none⟩ (.bool t373)).setCell ⟨gb379,2,none⟩ (.int .i64 t374))):=⟨bw2 HB.out GE370.out GE379.out⟩
          (try clear HO_4)
          (try clear HO377)
          (try clear BK370)
          (try clear BK379)
          (try clear HB)
          generalize (((w15.setCell ⟨gb379,0,none⟩ (.string t372)).setCell ⟨gb379,1,none⟩ (.bool t373)).setCell ⟨gb379,2,none⟩ (.int .i64 t374))=w18 at n0_ n1_ n2_ n3_ n4_ ⊢;have HO_4:=n0_;have HO377:=n1_;have BK370:=n2_;have BK379:=n3_;have HB:=n4_;clear n0_ n1_ n2_ n3_ n4_;replace HO_4:=Ax (Kd.R_drew HO_4.out);replace HO377:=Ax (Kd.R_drew HO377.out);replace BK370:=Ax (blk_drew BK370.out);replace BK379:=Ax (blk_drew BK379.out);replace HB:=Ax (below_drew1 HB.out);obtain⟨Ao21,co21,eo21⟩:=Kd.R_slice HO377.out
          (first|subst eo21|(injection eo21 with f1_ f2_ f3_;have f4_:=f1_.symm;have f5_:=f3_.symm;clear f1_ f2_ f3_;subst f4_;subst f5_))
          refine start_ (n:=10) (S:=fun w'=>w'.cell? ⟨gb379,0,none⟩=some (.string t372)∧w'.cell? ⟨gb379,1,none⟩=some (.bool t373)∧w'.cell? ⟨gb379,2,none⟩=some (.int .i64 t374)) (ds:= []) #[fa,fa,fa,fa,fa,fa,fa,fa,fa,fa] (by kernel_rfl) rfl rfl ⟨(blk_cell BK379.out 0).trans rfl,(blk_cell BK379.out 1).trans rfl,(blk_cell BK379.out 2).trans rfl⟩ (fun hHeld=>?_);refine with_tabW spoorlaw13_GramCut.tab12 spoorlaw13_GramCut.bits12 (fun HT_ HW_=>?_);generalize w18.drew=w19 at HO_4 HO377 BK370 BK379 HB hHeld ⊢;refine pz 1 29 #[fa,tr,fa,fa,fa,fa,fa,fa,fa,fa] HT_.out ?_
          refine pz 2 30 #[fa,tr,tr,fa,fa,fa,fa,fa,fa,fa] HT_.out ?_
          refine pz 4 32 #[fa,tr,tr,fa,tr,fa,fa,fa,fa,fa] HT_.out ?_
          refine pz 5 33 #[fa,tr,tr,fa,tr,tr,fa,fa,fa,fa] HT_.out ?_
          refine pz 6 34 #[fa,tr,tr,fa,tr,tr,tr,fa,fa,fa] HT_.out ?_
          refine take_ (i:=0) (N:=some 28) (v:=?_) (a':=?_) #[tr,tr,tr,fa,tr,tr,tr,fa,fa,fa] rfl rfl (take_ofW HT_.out HW_.out (by kernel_rfl)) (fun _ _ _ h=>h) (Or.inl ⟨by rfl,?_⟩) hHeld ?_ ?_;rotate_left
          ·rintro w' ⟨s0,s1,s2⟩
           go_simp;with_reducible rfl
          rotate_left;·simp only[sP];rfl
          refine one_ (i:=3) (N:=some 31) #[tr,tr,tr,tr,tr,tr,tr,fa,fa,fa] rfl rfl (one_of HT_.out (by kernel_rfl)) (by decide) (fun K hK=>?_);refine Kd.R_append_rows_step k24 (w0:=w) w.heap.size (by rfl) (.tmp 29) (.tmp 30) 43 24 (.agg #[(.int .u8 0),(.string ⟨#[]⟩)]) 24 rfl Try.underlying43 info24 rfl (by decide) (by omega) u4 x4_1 t375 _ _ _ (fun k_=>some k_≠(.slice Ao21 t375.length co21:Value).ownBlock) (fun _=>False) rfl rfl ?aO ?aR (fun _ _ h=>h) (fun _ h=>h.elim) ?aF ?aB ?aS ?aL ?_
          (case aR=>repeat (first|exact (Kd.R_reads' HO377.out).2.2|(with_reducible refine Kd.C_alloc ?_ _)|(with_reducible refine Kd.C_drewN ?_ _)|(with_reducible refine Kd.C_drew ?_)))
          (case aB=>exact (bw2 HB.out GE370.out GE379.out))
          (case aF=>exact (fun k_ hk=>Kd.fresh' (Kd.R_lt (by (with_reducible repeat (first|apply Kd.R_alloc|apply Kd.R_drewN|apply Kd.R_drew));exact HO377.out)) k_ hk))
          (case aO=>exact (by (with_reducible repeat (first|apply Kd.R_alloc|apply Kd.R_drewN|apply Kd.R_drew));exact HO_4.out))
          (case aS=>exact (below_size (bw2 HB.out GE370.out GE379.out)))
          (case aL=>have:=LMc11.out;omega)
          intro v381 w20 ho hb hg hat;rw [← Ny380.out]at ho;have n0_:=Ax (blk_grown (g:=gb370) (o:=.cells #[.string x371000_1,.bool x371001_1,.int .i64 x371002_1] 57 (0,0)) (bf0 BK370.out) hg (Kd.R_ne HO_4.out BK370.out (by decide)));have n1_:=Ax (Kd.R_after (ok:=(fun _=>True)) (by (with_reducible repeat (first|apply Kd.R_alloc|apply Kd.R_drewN|apply Kd.R_drew));exact Kd.R_mono HO377.out (fun _ hk=>⟨trivial,hk⟩)) hg hat);have n2_:=Ax (blk_grown (g:=gb379) (o:=.cells #[.string t372,.bool t373,.int .i64 t374] 57 (0,0)) (bf0 BK379.out) hg (Kd.R_ne HO_4.out BK379.out (by decide)));have n3_:=Ax (hb);have n4_:=Ax (ho);clear BK370;clear HO377;clear BK379;clear HB;clear HO_4;have BK370:=n0_;have HO377:=n1_;have BK379:=n2_;have HB:=n3_;have HO382:=n4_;clear n0_ n1_ n2_ n3_ n4_;clear ho hb hg hat;refine hK.out _ _ ⟨(blk_cell BK379.out 0).trans rfl,(blk_cell BK379.out 1).trans rfl,(blk_cell BK379.out 2).trans rfl⟩ (fun hHeld=>?_);clear hK K;refine norm_ (a':=?_) ?_ ?_;rotate_left
          ·show Act.put _ (some 31) _=_
           simp only[sP];rfl
          refine one_ (i:=7) (N:=none) #[tr,tr,tr,tr,tr,tr,tr,tr,fa,fa] rfl rfl (one_of HT_.out (by kernel_rfl)) (by decide) (fun K hK=>?_);have hs22:w20.cell? ⟨gb370,0,none⟩=some (.string x371000_1):=(blk_cell BK370.out 0).trans rfl;have hfs22:=blk_frozen BK370.out 0;have hns22_1:=NB379_370.out;have hms22_1:=NB370_379.out;have hs23:w20.cell? ⟨gb370,1,none⟩=some (.bool x371001_1):=(blk_cell BK370.out 1).trans rfl;have hfs23:=blk_frozen BK370.out 1;have hns23_1:=NB379_370.out;have hms23_1:=NB370_379.out;have hs24:w20.cell? ⟨gb370,2,none⟩=some (.int .i64 x371002_1):=(blk_cell BK370.out 2).trans rfl;have hfs24:=blk_frozen BK370.out 2;have hns24_1:=NB379_370.out;have hms24_1:=NB370_379.out;refine skip_ (w1:=?_) (by rfl) rfl ?_ ?_;rotate_left;·go_simp;rfl
          refine hK.out _ _ ⟨((cell_far (p:=⟨gb370,_,none⟩) NB379_370.out _).trans (((cell_far (p:=⟨gb370,_,none⟩) NB379_370.out _).trans (((cell_far (p:=⟨gb370,_,none⟩) NB379_370.out _).trans (hHeld.1)))))),((cell_far (p:=⟨gb370,_,none⟩) NB379_370.out _).trans (((cell_far (p:=⟨gb370,_,none⟩) NB379_370.out _).trans (((cell_far (p:=⟨gb370,_,none⟩) NB379_370.out _).trans (hHeld.2.1)))))),((cell_far (p:=⟨gb370,_,none⟩) NB379_370.out _).trans (((cell_far (p:=⟨gb370,_,none⟩) NB379_370.out _).trans (((cell_far (p:=⟨gb370,_,none⟩) NB379_370.out _).trans (hHeld.2.2))))))⟩ (fun hHeld=>?_);clear hK K;refine pz 8 4 #[tr,tr,tr,tr,tr,tr,tr,tr,tr,fa] HT_.out ?_
          refine pz 9 5 #[tr,tr,tr,tr,tr,tr,tr,tr,tr,tr] HT_.out ?_
          refine done_ (done_of HT_.out (by kernel_rfl)) ?_;try go_wp2
          go_roundg k1
          case measure=>have:=HK1.out;omega
          case rel=>exact⟨(y380),(x5_1++(rdOf ByteArray.empty l0 x15_1)),(wrap64 (x15_1+1)),(t372),(t373),(t374),rS,rS,H',⟨by have:=HK1.out;omega⟩,⟨by (with_reducible repeat (first|apply Kd.R_alloc|apply Kd.R_drewN|apply Kd.R_drew));exact Kd.R_mono (Kd.R_far (p:=⟨gb370,2,none⟩) (Kd.R_far (p:=⟨gb370,1,none⟩) (Kd.R_far (p:=⟨gb370,0,none⟩) (Kd.R_types HO382.out BK370.out (by decide)) (fun _ hk=>hk.2) (.string t372)) (fun _ hk=>hk.2) (.bool t373)) (fun _ hk=>hk.2) (.int .i64 t374)) (fun _ hk=>trivial)⟩,⟨gB BK370.out⟩,⟨bw2 HB.out GE370.out GE379.out⟩⟩
         ·rw [if_neg c12]at H;exact absurd H (by simp)
        ·rw [if_neg c11]at H;exact absurd H (by simp)
       ·rw [if_neg c10]at H;exact absurd H (by simp)
      ·rw [if_neg c8]at H;exact absurd H (by simp)
     ·rw [if_neg c7]at H;exact absurd H (by simp)
    ·rw [if_neg c6]at H;have c6b0:decide (x15_1<(l0.length:Int))=false:=decide_eq_false c6;clear c6;replace H:=Option.bind_eq_some_iff.mp H;obtain⟨t383,A250,H⟩:=H;replace H:((spoorref12_Same.f k1 x4_1 t383).bind fun t386=>(some t386))=some r:=H;have A25:=Ax A250;clear A250;replace H:=Option.bind_eq_some_iff.mp H;obtain⟨t386,A260,H⟩:=H;replace H:(some t386)=some r:=H;have A26:=Ax A260;clear A260;obtain rfl:=Option.some.inj H;go_wp2_with (first|((with_reducible refine gate_callee (f:=12) rfl ?_);refine goesL_ (some 38) rfl rfl Try.func12 (by kernel_rfl) rfl #[.string x5_1] rfl gS ?_;(with_reducible refine (gram_Pieces.calls k1 x5_1 t383 _ A25.out).mono ?_);rintro e w27 ⟨v384,rfl,ho0,hb⟩;refine⟨_,rfl,?_⟩;have n0_:=Ax (Kd.R_elder' (by (with_reducible repeat (first|apply Kd.R_alloc|apply Kd.R_drewN|apply Kd.R_drew));exact HO_4.out) (Kd.R_base ho0) hb);have n1_:=Ax (Kd.R_lower (Kd.R_new' ho0 (Kd.R_lt (by (with_reducible repeat (first|apply Kd.R_alloc|apply Kd.R_drewN|apply Kd.R_drew));exact HO_4.out))) (below_size (bw1 HB.out GE370.out)));have n2_:=Bx0 BK370 hb;have n3_:=Bs1 HB hb GE370.out;clear HO_4;clear BK370;clear HB;have HO_4:=n0_;have HO385:=n1_;have BK370:=n2_;have HB:=n3_;clear n0_ n1_ n2_ n3_;(try clear hb);(try clear hb2);(try clear hk);(try clear hi);(try clear ho0);obtain⟨Ao28,co28,eo28⟩:=Kd.R_slice HO_4.out;subst eo28;obtain⟨Ao29,co29,eo29⟩:=Kd.R_slice HO385.out;subst eo29)|((with_reducible refine gate_callee (f:=11) rfl ?_);refine goesL_ (some 39) rfl rfl Try.func11 (by kernel_rfl) rfl #[.slice Ao28 x4_1.length co28,.slice Ao29 t383.length co29] rfl gS ?_;(with_reducible refine (spoorref12_Same.calls k1 _ _ x4_1 _ _ t383 t386 _ ?side1 ?side2 ?side3 ?side4 A26.out).mono ?_);(case side1=>repeat (first|exact (Kd.R_reads' HO_4.out).2.2|(with_reducible refine Kd.C_alloc ?_ _)|(with_reducible refine Kd.C_drewN ?_ _)|(with_reducible refine Kd.C_drew ?_)));(case side2=>exact (Kd.R_reads' HO_4.out).2.1);(case side3=>repeat (first|exact (Kd.R_reads' HO385.out).2.2|(with_reducible refine Kd.C_alloc ?_ _)|(with_reducible refine Kd.C_drewN ?_ _)|(with_reducible refine Kd.C_drew ?_)));(case side4=>exact (Kd.R_reads' HO385.out).2.1);rintro e w' ⟨rfl,⟨nd,rfl⟩⟩;refine⟨_,rfl,?_⟩));go_ret;exact⟨eS,bw1 HB.out GE370.out⟩
 ·replace c3:=Bool.eq_false_iff.mpr c3;subst c3;have H1:(none)=some r:=by rw [if_neg (show ¬ (false=true) by decide)]at H;exact H
  clear H;have H:=H1;clear H1;exact absurd H (by simp)
end Go.Proofs.Ythkdfojmhloofaa.Q
end
section
namespace Go.Proofs.Ythkdfojmhloofaa.Cut
set_option linter.unusedVariables false
open Go.RowKit Go.Proofs.Ythkdfojmhloofaa.Q Go.Proofs.YthkdfojmhloofaaW.PrintWords Go.Proofs.YthkdfojmhloofaaW.PrintLast Go.Proofs.Ythkdfojmhloofaa.Base
def lenL (q:List Int):Int:=256 * rd q 1+rd q 2
def comesL (r : List Int) (b : Bool) (s x : Int) : (List Int × Bool × Int) × List S24 :=
  if 0 < s then ((r, b, s - 1), [])
  else if r = [] ∧ x ≠ 245 then ((r, true, s), if b then [] else [⟨2, ⟨#[]⟩⟩])
  else if (r ++ [x]).length < 3 then ((r ++ [x], false, s), [])
  else if lenL (r ++ [x]) < 1 ∨ 64 < lenL (r ++ [x]) then (([], false, lenL (r ++ [x])), [⟨3, ⟨#[]⟩⟩])
  else if ((r ++ [x]).length : Int) = 3 + lenL (r ++ [x]) then (([], false, 0), [⟨1, strOfNums ((r ++ [x]).drop 3)⟩])
  else ((r ++ [x], false, s), [])
def feedL : List Int → Bool → Int → List Int → (List Int × Bool × Int) × List S24
  | r, b, s, [] => ((r, b, s), [])
  | r, b, s, x :: l => ((feedL (comesL r b s x).1.1 (comesL r b s x).1.2.1 (comesL r b s x).1.2.2 l).1, (comesL r b s x).2 ++ (feedL (comesL r b s x).1.1 (comesL r b s x).1.2.1 (comesL r b s x).1.2.2 l).2)
theorem feed_app (m:List Int): ∀ (l r:List Int) (b:Bool) (s:Int),feedL r b s (l++m)=((feedL (feedL r b s l).1.1 (feedL r b s l).1.2.1 (feedL r b s l).1.2.2 m).1,(feedL r b s l).2++(feedL (feedL r b s l).1.1 (feedL r b s l).1.2.1 (feedL r b s l).1.2.2 m).2)
  | [],r,b,s=>by simp [feedL]
  |x :: l,r,b,s=>by
    simp only[List.cons_append,feedL];rw [feed_app m l];simp [List.append_assoc]
theorem feed_skip (r:List Int) (b:Bool): ∀ (p m:List Int) (s:Int),(p.length:Int)≤s→feedL r b s (p++m)=feedL r b (s - p.length) m
  | [],m,s,h=>by simp
  |x :: p,m,s,h=>by
    simp only[List.length_cons]at h;have hc:comesL r b s x=((r,b,s - 1), []):=by unfold comesL;rw [if_pos (by omega)]
    simp only[List.cons_append,feedL,hc];rw [feed_skip r b p m (s - 1) (by omega)];simp only[List.length_cons,List.nil_append];rw [show s - 1 - (p.length:Int)=s - ((p.length+1:Nat):Int) by omega]
theorem feed_bad: ∀ (p m:List Int) (b:Bool),p≠ []→(∀ x∈p,x≠245)→feedL [] b 0 (p++m)=((feedL [] true 0 m).1,(if b then [] else [⟨2,⟨#[]⟩⟩])++(feedL [] true 0 m).2)
  | [],_,_,h,_=>absurd rfl h
  |x :: p,m,b,_,h=>by
    have hx:x≠245:=h x (by simp);have hc:comesL [] b 0 x=(([],true,0),if b then [] else [⟨2,⟨#[]⟩⟩]):=by unfold comesL;rw [if_neg (by omega),if_pos ⟨rfl,hx⟩]
    simp only[List.cons_append,feedL,hc];by_cases hp:p= [];·subst hp;rfl
    ·rw [feed_bad p m true hp (fun y hy=>h y (by simp [hy]))];simp
theorem comes_begin (b:Bool):comesL [] b 0 245=(([245],false,0), []):=by
  unfold comesL;rw [if_neg (by omega),if_neg (by simp),if_pos (by simp)];rfl
theorem feed_begin (b b':Bool) (m:List Int):feedL [] b 0 (245 :: m)=feedL [] b' 0 (245 :: m):=by
  simp only[feedL,comes_begin]
theorem comes_second (y:Int):comesL [245] false 0 y=(([245,y],false,0), []):=by
  unfold comesL;rw [if_neg (by omega),if_neg (by simp),if_pos (by simp)];rfl
theorem lenL_three (x y z:Int) (m:List Int):lenL (x :: y :: z :: m)=256 * y+z:=by
  simp [lenL,rd]
theorem comes_third_long (y z:Int) (h:256 * y+z<1∨64<256 * y+z):comesL [245,y] false 0 z=(([],false,256 * y+z), [⟨3,⟨#[]⟩⟩]):=by
  unfold comesL;have e:([245,y]++ [z]:List Int)= [245,y,z]:=rfl;rw [if_neg (by omega),if_neg (by simp),e,lenL_three,if_neg (by simp),if_pos h]
theorem comes_more (q:List Int) (x n:Int) (hq:q≠ []) (h3:3≤(q++ [x]).length) (hn:lenL (q++ [x])=n) (h1:1≤n) (h2:n≤64) (hl:((q++ [x]).length:Int)<3+n):comesL q false 0 x=((q++ [x],false,0), []):=by
  unfold comesL;rw [if_neg (by omega),if_neg (fun h=>hq h.1),if_neg (by omega),hn,if_neg (by omega),if_neg (by omega)]
theorem comes_last (q:List Int) (x n:Int) (hq:q≠ []) (h3:3≤(q++ [x]).length) (hn:lenL (q++ [x])=n) (h1:1≤n) (h2:n≤64) (hl:((q++ [x]).length:Int)=3+n):comesL q false 0 x=(([],false,0), [⟨1,strOfNums ((q++ [x]).drop 3)⟩]):=by
  unfold comesL;rw [if_neg (by omega),if_neg (fun h=>hq h.1),if_neg (by omega),hn,if_neg (by omega),if_pos hl]
theorem feed_more (y z:Int) (h1:1≤256 * y+z) (h2:256 * y+z≤64): ∀ (m q:List Int),(((245 :: y :: z :: q)++m).length:Int)<3+(256 * y+z)→feedL (245 :: y :: z :: q) false 0 m=(((245 :: y :: z :: q)++m,false,0), [])
  | [],q,_=>by simp [feedL]
  |x :: m,q,h=>by
    have hc:=comes_more (245 :: y :: z :: q) x (256 * y+z) (by simp) (by simp) (by simp only[List.cons_append];exact lenL_three _ _ _ _) h1 h2 (by simp at h ⊢;omega);simp only[feedL,hc];have:=feed_more y z h1 h2 m (q++ [x]) (by simp at h ⊢;omega);simp only[List.cons_append,List.append_assoc,List.nil_append]at this ⊢;rw [this]
theorem feed_body (y z:Int) (h1:1≤256 * y+z) (h2:256 * y+z≤64): ∀ (m q r:List Int),m≠ []→(((245 :: y :: z :: q)++m).length:Int)=3+(256 * y+z)→feedL (245 :: y :: z :: q) false 0 (m++r)=((feedL [] false 0 r).1,⟨1,strOfNums (q++m)⟩ :: (feedL [] false 0 r).2)
  | [],_,_,h,_=>absurd rfl h
  |x :: m,q,r,_,h=>by
    by_cases hm:m= [];·subst hm;have hc:=comes_last (245 :: y :: z :: q) x (256 * y+z) (by simp) (by simp) (by simp only[List.cons_append];exact lenL_three _ _ _ _) h1 h2 (by simp at h ⊢;omega);simp only[List.cons_append,List.nil_append,feedL,hc];simp
    ·have hl:0<m.length:=List.length_pos_iff.mpr hm;have hc:=comes_more (245 :: y :: z :: q) x (256 * y+z) (by simp) (by simp) (by simp only[List.cons_append];exact lenL_three _ _ _ _) h1 h2 (by simp at h ⊢;omega);simp only[List.cons_append,feedL,hc];have:=feed_body y z h1 h2 m (q++ [x]) r hm (by simp at h ⊢;omega);simp only[List.cons_append,List.append_assoc,List.nil_append]at this ⊢;rw [this]
theorem feed_message (b:Bool) (y z:Int) (h1:1≤256 * y+z) (h2:256 * y+z≤64) (m r:List Int) (h:(m.length:Int)=256 * y+z):feedL [] b 0 (245 :: y :: z :: (m++r))=((feedL [] false 0 r).1,⟨1,strOfNums m⟩ :: (feedL [] false 0 r).2):=by
  have h3:comesL [245,y] false 0 z=(([245,y,z],false,0), []):=comes_more [245,y] z (256 * y+z) (by simp) (by simp) (lenL_three _ _ _ _) h1 h2 (by simp;omega);simp only[feedL,comes_begin,comes_second,h3,List.nil_append];have hm:m≠ []:=fun e=>by subst e;simp at h;omega
  have:=feed_body y z h1 h2 m [] r hm (by simp;omega);rw [this];rfl
theorem feed_short (b:Bool) (y z:Int) (h1:1≤256 * y+z) (h2:256 * y+z≤64) (m:List Int) (h:(m.length:Int)<256 * y+z):feedL [] b 0 (245 :: y :: z :: m)=((245 :: y :: z :: m,false,0), []):=by
  have h3:comesL [245,y] false 0 z=(([245,y,z],false,0), []):=comes_more [245,y] z (256 * y+z) (by simp) (by simp) (lenL_three _ _ _ _) h1 h2 (by simp;omega);simp only[feedL,comes_begin,comes_second,h3,List.nil_append];have:=feed_more y z h1 h2 m [] (by simp;omega);rw [this];rfl
theorem feed_long (b:Bool) (y z:Int) (h:256 * y+z<1∨64<256 * y+z) (m:List Int):feedL [] b 0 (245 :: y :: z :: m)=((feedL [] false (256 * y+z) m).1,⟨3,⟨#[]⟩⟩ :: (feedL [] false (256 * y+z) m).2):=by
  simp only[feedL,comes_begin,comes_second,comes_third_long y z h,List.nil_append];rfl
end Go.Proofs.Ythkdfojmhloofaa.Cut
end
section
namespace Go.Proofs.Ythkdfojmhloofaa.Cut
set_option linter.unusedVariables false
open Go.RowKit Go.Proofs.Ythkdfojmhloofaa.Q Go.Proofs.YthkdfojmhloofaaW.PrintWords Go.Proofs.YthkdfojmhloofaaW.PrintLast Go.Proofs.Ythkdfojmhloofaa.Base
theorem str_nil_iff (r:List Int):(strOfNums r).toList= []↔r= []:=by rw [toList_nil_iff,strOfNums_size,List.length_eq_zero_iff]
theorem bt_str {r:List Int} (h:Bytes r) (i:Int):bt (strOfNums r) i=rd r i:=bt_of (bytes_str h) i
theorem rd_range {r:List Int} (h:Bytes r) (i:Int):0≤rd r i∧rd r i<256:=by
  rw [← bt_str h];have:=bt_range (strOfNums r) i;omega
def Keeps (r:List Int) (b:Bool) (s:Int):Prop:=Bytes r∧0≤s∧s≤65535∧(b=true→s=0∧r= [])∧(r≠ []→s=0∧rd r 0=245∧(3≤r.length→1≤lenL r∧lenL r≤64∧(r.length:Int)<3+lenL r))
theorem Keeps.short {r:List Int}{b:Bool}{s:Int} (h:Keeps r b s):r.length≤66:=by
  by_cases h3:3≤r.length;·have:=h.2.2.2.2 (fun e=>by subst e;simp at h3);have:=this.2.2 h3;omega
  · omega
theorem Keeps.none:Keeps [] false 0:=⟨Bytes.nil,by omega,by omega,by simp,by simp⟩
theorem rd_zero_app {r:List Int} (x:Int) (h:r≠ []):rd (r++ [x]) 0=rd r 0:=by
  cases r with
  |nil=>exact absurd rfl h
  |cons y t=>simp [rd]
theorem Keeps.comes {r:List Int}{b:Bool}{s:Int} (h:Keeps r b s) {x:Int} (hx0:0≤x) (hx1:x<256):Keeps (comesL r b s x).1.1 (comesL r b s x).1.2.1 (comesL r b s x).1.2.2:=by
  have hq:Bytes (r++ [x]):=h.1.append (Bytes.cons hx0 hx1 Bytes.nil);obtain⟨hr,hs0,hs1,hb,hrest⟩:=h;unfold comesL;by_cases h0:0<s;·rw [if_pos h0];exact⟨hr,by show 0≤s - 1;omega,by show s - 1≤65535;omega,fun e=>by have:=hb e;omega,fun e=>by have:=hrest e;omega⟩
  · rw [if_neg h0];obtain rfl:s=0:=by omega
    by_cases h1:r= []∧x≠245;·rw [if_pos h1];exact⟨hr,by simp,by simp,fun _=>⟨rfl,h1.1⟩,fun e=>absurd h1.1 e⟩
    · rw [if_neg h1]
      have hb0:rd (r++ [x]) 0=245:=by
        by_cases he:r= [];·subst he;have:x=245:=Classical.not_not.mp (fun e=>h1 ⟨rfl,e⟩);subst this;rfl
        ·rw [rd_zero_app x he];exact (hrest he).2.1
      by_cases h3:(r++ [x]).length<3;·rw [if_pos h3];exact⟨hq,by simp,by simp,by simp,fun _=>⟨rfl,hb0,fun h=>by simp only[]at h;omega⟩⟩
      · rw [if_neg h3];have hy:=rd_range hq 1;have hz:=rd_range hq 2;by_cases h4:lenL (r++ [x])<1∨64<lenL (r++ [x]);·rw [if_pos h4];exact⟨Bytes.nil,by show 0≤lenL _;unfold lenL;omega,by show lenL _≤65535;unfold lenL;omega,by simp,by simp⟩
        · rw [if_neg h4];by_cases h5:((r++ [x]).length:Int)=3+lenL (r++ [x]);·rw [if_pos h5];exact Keeps.none
          · rw [if_neg h5];refine⟨hq,by simp,by simp,by simp,fun _=>⟨rfl,hb0,fun h=>⟨show 1≤lenL (r++ [x]) by omega,show lenL (r++ [x])≤64 by omega,?_⟩⟩⟩
            show ((r++ [x]).length:Int)<3+lenL (r++ [x])
            by_cases hl:3≤r.length
            · have h6:=(hrest (fun e=>by subst e;simp at hl)).2.2 hl;have e1:lenL (r++ [x])=lenL r:=by unfold lenL rd;simp only[List.getD_eq_getElem?_getD];rw [List.getElem?_append_left (by simp;omega),List.getElem?_append_left (by simp;omega)]
              rw [e1]at h5 ⊢;simp at h5 ⊢;omega
            ·simp at h3 h5 ⊢;omega
def Begun (r:List Int):Prop:=rd r 0=245∧(3≤r.length→1≤lenL r∧lenL r≤64∧(r.length:Int)<3+lenL r)
instance (r:List Int):Decidable (Begun r):=by unfold Begun;infer_instance
def Right (r:List Int) (b:Bool) (s:Int):Prop:=0≤s∧s≤65535∧(b=true→s=0∧r= [])∧(r≠ []→s=0∧Begun r)
instance (r:List Int) (b:Bool) (s:Int):Decidable (Right r b s):=by unfold Right;infer_instance
theorem keeps_right {r:List Int}{b:Bool}{s:Int} (k:Keeps r b s):Right r b s:=⟨k.2.1,k.2.2.1,k.2.2.2.1,fun e=>⟨(k.2.2.2.2 e).1,(k.2.2.2.2 e).2.1,(k.2.2.2.2 e).2.2⟩⟩
def chk (r:List Int) (b:Bool) (s:Int):Int:=if Right r b s then 0 else 2
theorem wraps_i64 (n:Int) (h₀:0≤n) (h₁:n<2 ^ 63):IntKind.i64.wrap n=n:=by rw [i64_w,w64 (by omega) (by omega)]
theorem or_len {y z:Int} (hy0:0≤y) (hy1:y<256) (hz0:0≤z) (hz1:z<256):Go.bits .or .i64 (y * 256) z=256 * y+z:=by
  rw [bits_join .i64 63 (by decide) wraps_i64 8 (y * 256) z (by omega) (by omega) (by omega) hz0 (by omega) (by omega)];omega
theorem lenL_range {r:List Int} (hr:Bytes r):0≤lenL r∧lenL r≤65535:=by
  have hy:=rd_range hr 1;have hz:=rd_range hr 2;unfold lenL;omega
theorem long_eq {r:List Int} (hr:Bytes r) (h3:3≤r.length):cutter_long.f (strOfNums r)=some (lenL r):=by
  unfold cutter_long.f;have hy:=rd_range hr 1;have hz:=rd_range hr 2;rw [strOfNums_size,if_pos (by omega),if_pos (by omega),bt_str hr,bt_str hr];rw [w64 (n:=rd r 1) (by omega) (by omega),w64 (n:=rd r 2) (by omega) (by omega),w64 (by omega) (by omega),or_len hy.1 hy.2 hz.1 hz.2];rfl
theorem fit_eq (n:Int):cutter_fit.f n=some (decide (1≤n∧n≤64)):=by
  unfold cutter_fit.f;by_cases h:n ≥ 1;·rw [if_pos h];simp [h]
  ·rw [if_neg h];simp [h]
theorem begins_eq {r:List Int} (hr:Bytes r) (hn:r≠ []) (hl:r.length≤4194304):cutter_begins.f (strOfNums r)=some (decide (Begun r)):=by
  have hp:0<r.length:=List.length_pos_iff.mpr hn;unfold cutter_begins.f;rw [strOfNums_size,if_pos (by omega),bt_str hr];by_cases h0:rd r 0=245
  · rw [if_pos h0];by_cases h3:(r.length:Int)<3;·rw [if_pos h3];have:Begun r:=⟨h0,fun h=>by omega⟩;simp [this]
    · rw [if_neg h3,long_eq hr (by omega),Option.bind_some,fit_eq,Option.bind_some,w64 (by omega) (by omega)];by_cases hf:1≤lenL r∧lenL r≤64
      · rw [if_pos (by simpa using hf)]
        congr 1
        apply decide_eq_decide.mpr;unfold Begun;constructor;·intro h;exact⟨h0,fun _=>⟨hf.1,hf.2,by omega⟩⟩
        ·intro h;have:=(h.2 (by omega)).2.2;omega
      · rw [if_neg (by simpa using hf)];have: ¬ Begun r:=fun h=>hf ⟨(h.2 (by omega)).1,(h.2 (by omega)).2.1⟩
        simp [this]
  · rw [if_neg h0];have: ¬ Begun r:=fun h=>h0 h.1
    simp [this]
theorem check_eq {r:List Int} (hr:Bytes r) (hl:r.length≤4194304) (b:Bool) (s:Int):cutter_Check.f (strOfNums r) b s=some (chk r b s):=by
  unfold cutter_Check.f chk;have bad: ∀ {p:Prop} [Decidable p], ¬ p→some (2:Int)=some (if p then 0 else 2):=fun h=>by rw [if_neg h]
  have good: ∀ {p:Prop} [Decidable p],p→some (0:Int)=some (if p then 0 else 2):=fun h=>by rw [if_pos h]
  by_cases h0:s<0;·rw [if_pos h0];exact bad (fun h=>by have:=h.1;omega)
  · rw [if_neg h0];by_cases h1:s > 65535;·rw [if_pos h1];exact bad (fun h=>by have:=h.2.1;omega)
    · rw [if_neg h1];by_cases hn:r= []
      · rw [if_pos ((str_nil_iff r).2 hn)];by_cases h2:s > 0
        · rw [if_pos h2];cases b
          · exact good ⟨by omega,by omega,by simp,fun e=>absurd hn e⟩
          · exact bad (fun h=>by have:=(h.2.2.1 rfl).1;omega)
        ·rw [if_neg h2];exact good ⟨by omega,by omega,fun _=>⟨by omega,hn⟩,fun e=>absurd hn e⟩
      · rw [if_neg (fun e=>hn ((str_nil_iff r).1 e))];by_cases h2:s > 0;·rw [if_pos h2];exact bad (fun h=>by have:=(h.2.2.2 hn).1;omega)
        · rw [if_neg h2];cases b
          · rw [if_neg (by decide),begins_eq hr hn hl,Option.bind_some];by_cases hb:Begun r;·rw [if_pos (by simpa using hb)];exact good ⟨by omega,by omega,by simp,fun _=>⟨by omega,hb⟩⟩
            ·rw [if_neg (by simpa using hb)];exact bad (fun h=>hb (h.2.2.2 hn).2)
          ·rw [if_pos rfl];exact bad (fun h=>hn (h.2.2.1 rfl).2)
def told5 (d:(List Int × Bool × Int) × List S24) (o:List S24):ByteArray × Bool × Int × List S24 × Int:=(strOfNums d.1.1,d.1.2.1,d.1.2.2,o++d.2,0)
def fed (r:List Int) (b:Bool) (s:Int) (l:List Int):ByteArray × Bool × Int × List S24 × Int:=if Right r b s then told5 (feedL r b s l) [] else (⟨#[]⟩,false,0, [],2)
theorem idx_spec {l:List Int} (hl:Bytes l):(idxByte (strOfNums l) 245= -1∧ ∀ x∈l,x≠245)∨ ∃ p m,l=p++245 :: m∧(∀ x∈p,x≠245)∧idxByte (strOfNums l) 245=(p.length:Int):=by
  have hp: ∀ i,i<l.length→(((strOfNums l)[i]! ==(245:Int).toNat.toUInt8)=true↔rd l (i:Int)=245):=by
    intro i hi;have hs:i<(strOfNums l).size:=by rw [strOfNums_size];exact hi
    rw [getElem!_pos (strOfNums l) i hs, ← bt_str hl];have h:=bt_at (strOfNums l) (i:Int) (by simpa using hs);rw [← h];simp only[Int.toNat_natCast];constructor;·intro e;rw [eq_of_beq e];rfl
    · intro e;apply beq_iff_eq.mpr;apply UInt8.toNat_inj.mp;have:((strOfNums l)[i]'hs).toNat=245:=by omega
      rw [this];rfl
  have hrd: ∀ i (hi:i<l.length),rd l (i:Int)=l[i]:=fun i hi=>by simp [rd,List.getD_eq_getElem?_getD,List.getElem?_eq_getElem hi]
  unfold idxByte firstIdx
  cases hf:(List.range (strOfNums l).size).find? (fun i=>(strOfNums l)[i]! ==(245:Int).toNat.toUInt8) with
  |none=>
    refine Or.inl ⟨rfl,?_⟩;intro x hx e;obtain⟨i,hi,rfl⟩:=List.getElem_of_mem hx;have:=List.find?_eq_none.1 hf i (by rw [strOfNums_size];exact List.mem_range.2 hi);exact this ((hp i hi).2 (by rw [hrd i hi];exact e))
  |some i=>
    obtain⟨h1,h2,h3⟩:=List.find?_range_eq_some.1 hf;rw [strOfNums_size]at h2;have hi:=List.mem_range.1 h2;refine Or.inr ⟨l.take i,l.drop (i+1),?_,?_,?_⟩;·have e:=(hp i hi).1 h1;rw [hrd i hi]at e;rw [← e, ← List.drop_eq_getElem_cons hi,List.take_append_drop]
    · intro x hx e;obtain⟨j,hj,rfl⟩:=List.getElem_of_mem hx;have hj':j<i:=by simp at hj;omega
      have:=h3 j hj';rw [List.getElem_take]at e;rw [(hp j (by omega)).2 (by rw [hrd j (by omega)];exact e)]at this;cases this
    · show ((i:Nat):Int)=_
      simp;omega
theorem feed_two (b:Bool) (t:List Int) (h:t.length<2):feedL [] b 0 (245 :: t)=((245 :: t,false,0), []):=by
  match t,h with
  | [],_=>simp only[feedL,comes_begin];rfl
  | [y],_=>simp only[feedL,comes_begin,comes_second];rfl
theorem exit_ev (x0:ByteArray) (b:Bool) (k:Int) (o:List S24) (h0:0≤k) (h1:k≤65535) (ho:(o.length+1) * 24≤140737488355328):Ev (fun n=>cutter_Feed.l0 n x0 b k ⟨#[]⟩ o) (x0,b,k,o,0):=by
  refine Ev.succ ?_;simp only[cutter_Feed.l0];have hz:(⟨#[]⟩:ByteArray).size=0:=rfl;exact Ev.neg (fun h=>h ⟨by omega,h0,by omega,ho⟩) (Ev.pos hz (Ev.const rfl))
theorem begun_feed {r:List Int} (hn:r≠ []) (h:Begun r) (b:Bool):feedL [] b 0 r=((r,false,0), []):=by
  obtain⟨x,t,rfl⟩: ∃ x t,r=x :: t:=by cases r with|nil=>exact absurd rfl hn|cons x t=>exact⟨x,t,rfl⟩
  obtain rfl:x=245:=by simpa [rd] using h.1
  match t,h with
  | [],_=>exact feed_two b [] (by simp)
  | [y],_=>exact feed_two b [y] (by simp)
  |y :: z :: m,h=>
    have h3:=h.2 (by simp);rw [lenL_three]at h3;exact feed_short b y z h3.1 h3.2.1 m (by have:=h3.2.2;simp at this;omega)
theorem right_feed {r:List Int}{b:Bool}{s:Int} (h:Right r b s) (l:List Int):feedL [] b s (r++l)=feedL r b s l:=by
  by_cases hn:r= [];·subst hn;rfl
  · obtain⟨rfl,hB⟩:=h.2.2.2 hn
    have hb:b=false:=by
      cases b
      · rfl
      · exact absurd (h.2.2.1 rfl).2 hn
    subst hb;rw [feed_app,begun_feed hn hB];simp
def wrapL (a:ByteArray):ByteArray × Int:=if 1≤a.size∧a.size≤64 then (strOfNums ([245,0,(a.size:Int)]++bytesOf a),0) else (⟨#[]⟩,11)
theorem wrap_eq (a:ByteArray):cutter_Wrap.f a=some (wrapL a):=by
  unfold cutter_Wrap.f wrapL;rw [fit_eq,Option.bind_some];by_cases h:1≤a.size∧a.size≤64
  · rw [if_pos (by simp;omega),if_pos h,Option.bind_some,strOfNums_size,if_pos (by simp;omega),str_append,str_bytes,show ((a.size:Int) % 256)=a.size by omega]
  · rw [if_neg (by simp;omega),if_neg h]
def Good (p:S24):Prop:=(p.f0=1∧1≤p.f1.size∧p.f1.size≤64)∨((p.f0=2∨p.f0=3)∧p.f1=⟨#[]⟩)
theorem comes_good {r:List Int}{b:Bool}{s:Int} (x:Int): ∀ p∈(comesL r b s x).2,Good p:=by
  intro p hp;unfold comesL at hp;by_cases h0:0<s;·rw [if_pos h0]at hp;cases hp
  · rw [if_neg h0]at hp;by_cases h1:r= []∧x≠245
    · rw [if_pos h1]at hp;cases b
      · have:p=⟨2,⟨#[]⟩⟩:=by simpa using hp
        subst this;exact Or.inr ⟨Or.inl rfl,rfl⟩
      · simp at hp
    · rw [if_neg h1]at hp;by_cases h2:(r++ [x]).length<3;·rw [if_pos h2]at hp;cases hp
      · rw [if_neg h2]at hp;by_cases h3:lenL (r++ [x])<1∨64<lenL (r++ [x])
        · rw [if_pos h3]at hp;have:p=⟨3,⟨#[]⟩⟩:=by simpa using hp
          subst this;exact Or.inr ⟨Or.inr rfl,rfl⟩
        · rw [if_neg h3]at hp;by_cases h4:((r++ [x]).length:Int)=3+lenL (r++ [x])
          · rw [if_pos h4]at hp;have:p=⟨1,strOfNums ((r++ [x]).drop 3)⟩:=by simpa using hp
            subst this;refine Or.inl ⟨rfl,?_,?_⟩
            · show 1≤(strOfNums ((r++ [x]).drop 3)).size
              rw [strOfNums_size,List.length_drop];omega
            · show (strOfNums ((r++ [x]).drop 3)).size≤64
              rw [strOfNums_size,List.length_drop];omega
          ·rw [if_neg h4]at hp;cases hp
theorem feed_keeps: ∀ (l r:List Int) (b:Bool) (s:Int),Bytes l→Keeps r b s→Keeps (feedL r b s l).1.1 (feedL r b s l).1.2.1 (feedL r b s l).1.2.2∧ ∀ p∈(feedL r b s l).2,Good p
  | [],r,b,s,_,hk=>⟨hk,fun p hp=>by simp [feedL]at hp⟩
  |x :: l,r,b,s,hl,hk=>by
    have h:=feed_keeps l _ _ _ hl.tail (hk.comes hl.head.1 hl.head.2);simp only[feedL];refine⟨h.1,fun p hp=>?_⟩;rcases List.mem_append.1 hp with hp|hp
    · exact comes_good x p hp
    · exact h.2 p hp
theorem clw_ev: ∀ (N:Nat) (l:List Int) (o:List S24) (b:Bool) (k:Int),l.length≤N→Bytes l→0≤k→k≤65535→o.length+(feedL [] b k l).2.length≤5864062014000→l.length≤4611686018427387904→
    Ev (fun n=>cutter_Feed.l0 n ⟨#[]⟩ b k (strOfNums l) o) (told5 (feedL [] b k l) o)
  |0,l,o,b,k,hN,hb,h0,h1,ho,hl=>by
    obtain rfl:l= []:=List.length_eq_zero_iff.1 (by omega);refine Ev.to (exit_ev _ b k o h0 h1 (by omega)) ?_;simp [told5,feedL,str_nil]
  |N+1,l,o,b,k,hN,hb,h0,h1,ho,hl=>by
    by_cases hn:l= [];·subst hn;refine Ev.to (exit_ev _ b k o h0 h1 (by omega)) ?_;simp [told5,feedL,str_nil]
    have hp:0<l.length:=List.length_pos_iff.mpr hn;refine Ev.succ ?_;simp only[cutter_Feed.l0,strOfNums_size,bt_str hb];refine Ev.neg (fun h=>h ⟨by omega,h0,by omega,by omega⟩) (Ev.neg (by omega) ?_);have dr: ∀ m,(strOfNums l).extract m l.length=strOfNums (l.drop m):=fun m=>by have:=str_from (strOfNums l) m;rw [strOfNums_size,bytes_str hb]at this;exact this
    by_cases hk:k > 0
    · refine Ev.pos hk ?_;simp only[dr];have hm:min l.length k.toNat≤l.length:=Nat.min_le_left _ _;have hm1:1≤min l.length k.toNat:=by omega
      have hmk:((min l.length k.toNat:Nat):Int)≤k:=by omega
      generalize min l.length k.toNat=m at hm hm1 hmk;have e:=feed_skip [] b (l.take m) (l.drop m) k (by simp;omega);rw [List.take_append_drop,List.length_take,Nat.min_eq_left hm]at e;rw [e]at ho;refine Ev.to (clw_ev N (l.drop m) o b (k - m) (by simp;omega) (hb.drop m) (by omega) (by omega) ho (by simp;omega)) ?_;rw [e]
    · obtain rfl:k=0:=by omega
      refine Ev.neg hk ?_;by_cases h245:rd l 0≠245
      · refine Ev.pos h245 ?_;rcases idx_spec hb with ⟨hi,hall⟩|⟨p,m,he,hall,hi⟩
        ·simp only[hi,if_pos (show (-1:Int)<0 by decide),show decide ((-1:Int)<0)=true from rfl];refine Ev.pos ⟨by decide,by omega⟩ ?_;have e:=feed_bad l [] b hn hall;rw [List.append_nil]at e;rw [e]at ho;refine Ev.to (exit_ev _ true 0 (if b=true then o else o++ [⟨2,⟨#[]⟩⟩]) (by decide) (by decide) (by cases b <;> simp at ho ⊢ <;> omega)) ?_;rw [e];cases b <;> simp [told5,feedL,str_nil]
        · have hpn:p≠ []:=by
            rintro rfl
            subst he;exact h245 rfl
          have hpl:0<p.length:=List.length_pos_iff.mpr hpn;have hll:l.length=p.length+(m.length+1):=by rw [he];simp
          simp only[hi];refine Ev.pos ⟨by omega,by omega⟩ ?_;have hneg: ¬ (p.length:Int)<0:=by omega
          have hdrop:l.drop p.length=245 :: m:=by rw [he];simp
          simp only[if_neg hneg,Int.toNat_natCast,dr,hdrop,decide_eq_false hneg];rw [he,feed_bad p (245 :: m) b hpn hall,feed_begin true false]at ho;refine Ev.to (clw_ev N (245 :: m) (if b=true then o else o++ [⟨2,⟨#[]⟩⟩]) false 0 (by simp;omega) (by rw [← hdrop];exact hb.drop _) (by decide) (by decide) (by cases b <;> simp [List.length_append]at ho ⊢ <;> omega) (by simp;omega)) ?_;rw [he,feed_bad p (245 :: m) b hpn hall,feed_begin true false];cases b <;> simp [told5]
      · have h245':rd l 0=245:=Classical.not_not.mp h245;refine Ev.neg h245 ?_;obtain⟨x,t,rfl⟩: ∃ x t,l=x :: t:=by cases l with|nil=>exact absurd rfl hn|cons x t=>exact⟨x,t,rfl⟩
        obtain rfl:x=245:=by simpa [rd] using h245'
        by_cases h3:((245 :: t:List Int).length:Int)<3;·refine Ev.pos h3 ?_;refine Ev.to (exit_ev _ false 0 o (by decide) (by decide) (by omega)) ?_;rw [feed_two b t (by simp at h3;omega)];simp [told5]
        · refine Ev.neg h3 ?_
          obtain⟨y,z,m,rfl⟩: ∃ y z m,t=y :: z :: m:=by
            match t,h3 with
            | [],h=>simp at h
            | [y],h=>simp at h
            |y :: z :: m,_=>exact⟨y,z,m,rfl⟩
          have hL:=lenL_range hb;rw [long_eq hb (by simp),lenL_three];rw [lenL_three]at hL;simp only[Option.bind_some,fit_eq];by_cases hf:1≤256 * y+z∧256 * y+z≤64
          · refine Ev.neg (by simpa using hf) ?_;by_cases hs:((245 :: y :: z :: m:List Int).length:Int) - 3<256 * y+z;·refine Ev.pos hs ?_;refine Ev.to (exit_ev _ false 0 o (by decide) (by decide) (by omega)) ?_;rw [feed_short b y z hf.1 hf.2 m (by simp at hs;omega)];simp [told5]
            · refine Ev.neg hs (Ev.pos (by omega) ?_);obtain⟨n,hn'⟩: ∃ n:Nat,256 * y+z=(n:Int):=⟨(256 * y+z).toNat,by omega⟩;have hnm:n≤m.length:=by simp at hs;omega
              have ex:(strOfNums (245 :: y :: z :: m)).extract 3 (3+(256 * y+z)).toNat=strOfNums (m.take n):=by rw [str_part,bytes_str hb,show (3+(256 * y+z)).toNat=n+3 by omega];rfl
              have dx:(245 :: y :: z :: m:List Int).drop (3+(256 * y+z)).toNat=m.drop n:=by rw [show (3+(256 * y+z)).toNat=n+3 by omega];rfl
              simp only[dr,ex,dx];have e:=feed_message b y z hf.1 hf.2 (m.take n) (m.drop n) (by rw [List.length_take,Nat.min_eq_left hnm];omega);rw [List.take_append_drop]at e;rw [e]at ho;refine Ev.to (clw_ev N (m.drop n) (o++ [⟨1,strOfNums (m.take n)⟩]) false 0 (by simp at hN ⊢;omega) (by rw [← dx];exact hb.drop _) (by decide) (by decide) (by simp only[List.length_append,List.length_cons,List.length_nil]at ho ⊢;omega) (by simp at hl ⊢;omega)) ?_;rw [e];simp [told5]
          ·refine Ev.pos (by simpa using hf) ?_;simp only[dr];have d3:(245 :: y :: z :: m:List Int).drop 3=m:=rfl;rw [d3];rw [feed_long b y z (by omega) m]at ho;refine Ev.to (clw_ev N m (o++ [⟨3,⟨#[]⟩⟩]) false (256 * y+z) (by simp at hN ⊢;omega) (by rw [← d3];exact hb.drop _) (by omega) (by omega) (by simp only[List.length_append,List.length_cons,List.length_nil]at ho ⊢;omega) (by simp at hl ⊢;omega)) ?_;rw [feed_long b y z (by omega) m];simp [told5]
theorem feedw_ev (r:List Int) (b:Bool) (s:Int) (c:ByteArray) (hr:Bytes r) (hl:r.length≤4194304) (hc:c.size≤4611686018420000000) (hp:(feedL r b s (bytesOf c)).2.length≤5864062014000):Ev (fun k=>cutter_Feed.f k (strOfNums r) b s c) (fed r b s (bytesOf c)):=by
  simp only[cutter_Feed.f];refine Ev.bind (Ev.const (check_eq hr hl b s)) ?_;unfold chk fed;by_cases h:Right r b s
  · simp only[if_pos h];refine Ev.pos trivial ?_;by_cases h0:c.size=0;·refine Ev.pos h0 (Ev.const ?_);have:bytesOf c= []:=List.length_eq_zero_iff.1 (by rw [bytesOf_length];exact h0);rw [this];simp [told5,feedL]
    · refine Ev.neg h0 ?_;rw [strOfNums_size];refine Ev.pos (by omega) ?_;have e:strOfNums r++c=strOfNums (r++bytesOf c):=by rw [str_append,str_bytes]
      rw [e];refine Ev.to (clw_ev (r++bytesOf c).length (r++bytesOf c) [] b s (Nat.le_refl _) (hr.append (bytesOf_bytes c)) h.1 h.2.1 (by rw [right_feed h];simpa using hp) (by rw [List.length_append,bytesOf_length];omega)) ?_;rw [right_feed h]
  ·simp only[if_neg h];first|exact Ev.neg (by decide) (Ev.const rfl)|exact Ev.const rfl
end Go.Proofs.Ythkdfojmhloofaa.Cut
end
section
namespace Go.Proofs.Ythkdfojmhloofaa.Stream
set_option linter.unusedVariables false
open Go.RowKit Go.Proofs.Ythkdfojmhloofaa.Q Go.Proofs.YthkdfojmhloofaaW.PrintWords Go.Proofs.YthkdfojmhloofaaW.PrintLast Go.Proofs.Ythkdfojmhloofaa.Base Go.Proofs.Ythkdfojmhloofaa.Num Go.Proofs.Ythkdfojmhloofaa.Addr Go.Proofs.Ythkdfojmhloofaa.Msg Go.Proofs.Ythkdfojmhloofaa.Cut
def msgL (e:E11):List Int:=245 :: 0 :: ((bodyL e).length:Int) :: bodyL e
def streamL : List E11 → List Int
  | [] => []
  | e :: l => msgL e ++ streamL l
theorem msgL_bytes {e:E11} (h:okE e):Bytes (msgL e):=by
  have:=bodyL_len h;exact Bytes.cons (by decide) (by decide) (Bytes.cons (by decide) (by decide) (Bytes.cons (by omega) (by omega) (bodyL_bytes h)))
theorem streamL_bytes : ∀ {l : List E11}, (∀ e ∈ l, okE e) → Bytes (streamL l)
  | [], _ => Bytes.nil
  | e :: l, h => (msgL_bytes (h e (by simp))).append (streamL_bytes fun x hx => h x (by simp [hx]))
theorem streamL_len: ∀ {l:List E11},(∀ e∈l,okE e)→(streamL l).length≤67 * l.length
  | [],_=>by simp [streamL]
  |e :: l,h=>by
    have h1:=bodyL_len (h e (by simp));have h2:=streamL_len (l:=l) fun x hx=>h x (by simp [hx])
    simp only[streamL,msgL,List.length_append,List.length_cons];omega
def pieceOf (e:E11):S24:=⟨1,strOfNums (bodyL e)⟩
theorem feed_stream: ∀ {l:List E11} (b:Bool),(∀ e∈l,okE e)→ ∃ b',feedL [] b 0 (streamL l)=(([],b',0),l.map pieceOf)
  | [],b,_=>⟨b,rfl⟩
  |e :: l,b,h=>by
    obtain⟨b',hb⟩:=feed_stream (l:=l) false fun x hx=>h x (by simp [hx])
    have h1:=bodyL_len (h e (by simp));have e1:=feed_message b 0 ((bodyL e).length:Int) (by omega) (by omega) (bodyL e) (streamL l) (by omega);refine⟨b',?_⟩
    show feedL [] b 0 (245 :: 0 :: ((bodyL e).length:Int) :: (bodyL e++streamL l))=_
    rw [e1,hb];rfl
theorem fed_right {r:List Int}{b:Bool}{s:Int} (h:Keeps r b s) (l:List Int):fed r b s l=told5 (feedL r b s l) []:=if_pos (keeps_right h)
end Go.Proofs.Ythkdfojmhloofaa.Stream
end
section
namespace Go.Proofs.Ythkdfojmhloofaa.Gram
set_option linter.unusedVariables false
open Go.RowKit Go.Proofs.Ythkdfojmhloofaa.Q Go.Proofs.YthkdfojmhloofaaW.PrintWords Go.Proofs.YthkdfojmhloofaaW.PrintLast Go.Proofs.Ythkdfojmhloofaa.Base Go.Proofs.Ythkdfojmhloofaa.Num Go.Proofs.Ythkdfojmhloofaa.Addr Go.Proofs.Ythkdfojmhloofaa.Msg Go.Proofs.Ythkdfojmhloofaa.Cut Go.Proofs.Ythkdfojmhloofaa.Stream Go.Proofs.Ythkdfojmhloofaa.Open
def nOf (x:S35):Nat:=x.f4.f1.f0.toNat * 18446744073709551616+x.f4.f1.f1.toNat
def E (x:S35):E11:=⟨x.f0,x.f1,x.f2,x.f3,x.f4.f0,nOf x,x.f4.f2,x.f5.f0,x.f5.f1,x.f6,x.f7⟩
theorem nOf_is {x:S35} (h:wf35 x):hi (nOf x)=x.f4.f1.f0∧lo (nOf x)=x.f4.f1.f1∧nOf x<340282366920938463463374607431768211456∧0≤x.f2:=by
  obtain⟨_,_,w2,_,⟨_,⟨h1,h2⟩,_⟩,_⟩:=h;have a:=wf_u64 h1;have b:=wf_u64 h2;have c:=wf_u64 w2;unfold nOf hi lo;omega
theorem rdE {l:List (S35)}{i:Nat}{x:S35}{r:List (S35)} (h:l.drop i=x :: r):rd_T35 l (i:Int)=x:=by
  have e:l[i]? =some x:=by rw [← List.head?_drop,h];rfl
  simp [rd_T35,List.getD_eq_getElem?_getD,e]
theorem rdG {l:List (S38)}{i:Nat}{x:S38}{r:List (S38)} (h:l.drop i=x :: r):rd_T38 l (i:Int)=x:=by
  have e:l[i]? =some x:=by rw [← List.head?_drop,h];rfl
  simp [rd_T38,List.getD_eq_getElem?_getD,e]
theorem dlt {α:Type}{l:List α}{i:Nat}{c:α}{m:List α} (h:l.drop i=c :: m):i<l.length:=by
  have:=congrArg List.length h;simp at this;omega
theorem dnext {α:Type}{l:List α}{i:Nat}{x:α}{r:List α} (h:l.drop i=x :: r):l.drop (i+1)=r:=by rw [← List.drop_drop,h];rfl
theorem gm_eq {y z:Int}{r:List Int} (h:Bytes (245 :: y :: z :: r)):gm (strOfNums (245 :: y :: z :: r))=256 * y+z:=by
  have hy:=h.tail.head;have hz:=h.tail.tail.head;unfold gm;rw [bt_str h,bt_str h]
  show Go.bits .or .i64 (wrap64 (wrap64 y * 256)) (wrap64 z)=_
  rw [w64 (n:=y) (by omega) (by omega),w64 (by omega) (by omega),w64 (by omega) (by omega),or_len hy.1 hy.2 hz.1 hz.2]
def pcs (l:List Int):List S24:=(feedL [] false 0 l).2
theorem pcs_any (b:Bool) (m:List Int):(feedL [] b 0 (245 :: m)).2=pcs (245 :: m):=by rw [pcs,feed_begin b false]
theorem each_t_ev {N:Nat} (ih: ∀ l:List Int,l.length≤N→Bytes l→l.length≤4611686018427387904→Ev (fun k=>gram_each.l k (strOfNums l)) (pcs l)) (m:List Int) (hm:m.length≤N) (hb:Bytes (245 :: m)) (hl:m.length≤4611686018427387904):
    Ev (fun k=>each_t (gram_each.l k) (strOfNums (245 :: m))) (pcs (245 :: m)):=by
  unfold each_t
  match m,hm,hb,hl with
  | [],_,_,_=>exact Ev.pos (by rw [strOfNums_size];decide) (Ev.const (by rw [pcs,feed_two false [] (by simp)]))
  | [y],_,_,_=>exact Ev.pos (by rw [strOfNums_size];simp) (Ev.const (by rw [pcs,feed_two false [y] (by simp)]))
  |y :: z :: r,hm,hb,hl=>
    have hy:=hb.tail.head;have hz:=hb.tail.tail.head;have hr:=hb.tail.tail.tail;simp only[List.length_cons]at hm hl;refine Ev.neg (by rw [strOfNums_size];simp only[List.length_cons];omega) ?_;have e3:(strOfNums (245 :: y :: z :: r)).extract 3 (strOfNums (245 :: y :: z :: r)).size=strOfNums r:=by rw [str_from,bytes_str hb];rfl
    rw [gm_eq hb,e3];unfold each_u;obtain⟨n,hn⟩: ∃ n:Nat,256 * y+z=(n:Int):=⟨(256 * y+z).toNat,by omega⟩;refine Ev.neg (by omega) ?_;have cut: ∀ j:Nat,(strOfNums r).extract j (strOfNums r).size=strOfNums (r.drop j):=fun j=>by rw [str_from,bytes_str hr]
    have tk: ∀ j:Nat,(strOfNums r).extract 0 j=strOfNums (r.take j):=fun j=>by rw [str_part,bytes_str hr,List.drop_zero]
    rw [hn,Int.toNat_natCast,cut,tk];by_cases c:(n:Int)=0∨64<(n:Int)
    · refine Ev.pos c ?_;have hf:=feed_long false y z (by omega) r;have e:pcs (245 :: y :: z :: r)=⟨3,⟨#[]⟩⟩ :: (feedL [] false (256 * y+z) r).2:=by rw [pcs,hf]
      rw [e];by_cases c2:r.length<n;·refine Ev.pos (by rw [strOfNums_size];omega) (Ev.const ?_);have h:=feed_skip [] false r [] (256 * y+z) (by omega);rw [List.append_nil]at h;rw [h];rfl
      ·refine Ev.neg (by rw [strOfNums_size];omega) (Ev.bind (ih (r.drop n) (by rw [List.length_drop];omega) (hr.drop n) (by rw [List.length_drop];omega)) (Ev.const ?_));have h:=feed_skip [] false (r.take n) (r.drop n) (256 * y+z) (by rw [List.length_take];omega);rw [List.take_append_drop,List.length_take,show (256 * y+z - (min n r.length:Nat):Int)=0 by omega]at h;rw [h];rfl
    · refine Ev.neg c ?_;by_cases c2:n≤r.length;·refine Ev.pos (by rw [strOfNums_size];omega) (Ev.bind (ih (r.drop n) (by rw [List.length_drop];omega) (hr.drop n) (by rw [List.length_drop];omega)) (Ev.const ?_));have h:=feed_message false y z (by omega) (by omega) (r.take n) (r.drop n) (by rw [List.length_take];omega);rw [List.take_append_drop]at h;rw [pcs,pcs,h]
      ·refine Ev.neg (by rw [strOfNums_size];omega) (Ev.const ?_);rw [pcs,feed_short false y z (by omega) (by omega) r (by omega)]
theorem each_ev: ∀ (N:Nat) (l:List Int),l.length≤N→Bytes l→l.length≤4611686018427387904→Ev (fun k=>gram_each.l k (strOfNums l)) (pcs l):=by
  intro N
  induction N with
  |zero=>
    intro l h hb hl;obtain rfl:=List.length_eq_zero_iff.mp (Nat.le_zero.mp h);refine Ev.succ ?_;simp only[gram_each.l];have g:gbad (strOfNums [])=0:=by decide
    rw [g];exact Ev.neg (by rw [strOfNums_size];simp) (Ev.neg (by decide) (Ev.const rfl))
  |succ N ih=>
    intro l h hb hl;refine Ev.succ ?_;simp only[gram_each.l];have hsz:=strOfNums_size l;rcases idx_spec hb with ⟨hi,hno⟩|⟨p,m,rfl,hno,hi⟩
    · have g:gbad (strOfNums l)=(l.length:Int):=by unfold gbad;rw [hi,if_neg (by decide),hsz]
      rw [g];refine Ev.neg (by rw [hsz];omega) ?_;by_cases c:l= [];·subst c;exact Ev.neg (by decide) (Ev.const rfl)
      · have hp:0<l.length:=List.length_pos_iff.mpr c;have e:(strOfNums l).extract (l.length:Int).toNat (strOfNums l).size=strOfNums []:=by rw [Int.toNat_natCast,str_from,bytes_str hb,List.drop_length]
        rw [e];refine Ev.pos (by omega) (Ev.const ?_);have hf:=feed_bad l [] false c hno;rw [List.append_nil]at hf;rw [pcs,hf];rfl
    · have g:gbad (strOfNums (p++245 :: m))=(p.length:Int):=by unfold gbad;rw [hi,if_pos (by omega)]
      rw [g];simp only[List.length_append,List.length_cons]at h hl;refine Ev.neg (by rw [hsz];simp only[List.length_append,List.length_cons];omega) ?_;by_cases c:p= [];·subst c;exact Ev.neg (by decide) (each_t_ev ih m (by simp at h;omega) hb (by omega))
      · have hp:0<p.length:=List.length_pos_iff.mpr c;have e:(strOfNums (p++245 :: m)).extract (p.length:Int).toNat (strOfNums (p++245 :: m)).size=strOfNums (245 :: m):=by rw [Int.toNat_natCast,str_from,bytes_str hb,List.drop_left]
        rw [e];refine Ev.pos (by omega) (Ev.bind (each_t_ev ih m (by omega) hb.right (by omega)) (Ev.const ?_));have hf:=feed_bad p (245 :: m) false c hno
        show _=some (feedL [] false 0 (p++245 :: m)).2
        rw [hf,pcs_any];rfl
theorem pcs_good {l:List Int} (h:Bytes l): ∀ p∈pcs l,Cut.Good p:=(feed_keeps l [] false 0 h Keeps.none).2
theorem comes_one (r:List Int) (b:Bool) (s x:Int):(comesL r b s x).2.length≤1:=by
  unfold comesL
  repeat' split
  all_goals simp
theorem feed_few: ∀ (l r:List Int) (b:Bool) (s:Int),(feedL r b s l).2.length≤l.length
  | [],_,_,_=>by simp [feedL]
  |x :: l,r,b,s=>by
    have h1:=comes_one r b s x;have h2:=feed_few l (comesL r b s x).1.1 (comesL r b s x).1.2.1 (comesL r b s x).1.2.2;simp only[feedL,List.length_append,List.length_cons];omega
theorem pcs_few (l:List Int):(pcs l).length≤l.length:=feed_few l [] false 0
theorem pieces_ev (l:List Int) (hb:Bytes l) (hl:l.length≤1048576000):Ev (fun k=>gram_Pieces.f k (strOfNums l)) (pcs l):=by
  simp only[gram_Pieces.f];exact Ev.bind (each_ev _ l (Nat.le_refl _) hb (by omega)) (Ev.pos (by have:=pcs_few l;omega) (Ev.const rfl))
def gotOf (p : S24) : S38 :=
  if p.f0 = 1 then (match getE (bytesOf p.f1) with
    | some e => ⟨⟨e.kd, e.ro, e.sq, e.ti, ⟨e.six, ⟨hi e.n, lo e.n⟩, e.ln⟩, ⟨e.ak, e.ai⟩, e.ifc, e.pe⟩, 0⟩
    | none => ⟨z35, 2⟩)
  else if p.f0 = 2 then ⟨z35, 7⟩ else ⟨z35, 11⟩
def ofS (p : S24) : Int × Int × Int × Int × Bool × Int × Int × Int × Int × Int × Int × Int × Int × Int :=
  if p.f0 = 1 then (match getE (bytesOf p.f1) with
    | some e => (e.kd, e.ro, e.sq, e.ti, e.six, hi e.n, lo e.n, e.ln, e.ak, e.ai, e.ifc, e.pe, 0, 0)
    | none => (0, 0, 0, 0, false, 0, 0, 0, 0, 0, 0, 0, 2, 0))
  else if p.f0 = 2 then (0, 0, 0, 0, false, 0, 0, 0, 0, 0, 0, 0, 7, 0) else (0, 0, 0, 0, false, 0, 0, 0, 0, 0, 0, 0, 11, 0)
theorem of_ev {p:S24} (h:Cut.Good p):Ev (fun k=>gram_Of.f k p.f0 p.f1) (ofS p):=by
  simp only[gram_Of.f];unfold ofS;rcases h with ⟨h1,h2,h3⟩|⟨h1|h1,h2⟩
  · rw [if_pos h1];refine Ev.pos h1 (Ev.bind (get_evn p.f1 (by omega)) ?_)
    match getE (bytesOf p.f1) with
    |some e=>exact Ev.pos rfl (Ev.const rfl)
    |none=>exact Ev.neg (by decide) (Ev.const rfl)
  ·rw [if_neg (by omega),if_pos h1];refine Ev.neg (by omega) (Ev.pos h1 (Ev.succ ?_));simp only[gram_Of.j0];exact Ev.pos (by rw [h2];exact beq_iff_eq.mpr ((str_nil_iff []).2 rfl)) (Ev.const rfl)
  ·rw [if_neg (by omega),if_neg (by omega)];refine Ev.neg (by omega) (Ev.neg (by omega) (Ev.succ ?_));simp only[gram_Of.j0];exact Ev.neg (by decide) (Ev.pos h1 (Ev.pos (by rw [h2];exact (str_nil_iff []).2 rfl) (Ev.const rfl)))
theorem got_ev {p:S24} (h:Cut.Good p):Ev (fun k=>gram_got k p) [gotOf p]:=by
  unfold gram_got;refine Ev.bind (of_ev h) (Ev.const ?_);unfold ofS gotOf;by_cases h1:p.f0=1;·simp only[if_pos h1];cases getE (bytesOf p.f1) <;> rfl
  · simp only[if_neg h1];by_cases h2:p.f0=2;·simp only[if_pos h2];rfl
    ·simp only[if_neg h2];rfl
theorem gots_ev: ∀ (ps:List S24),(∀ p∈ps,Cut.Good p)→Ev (fun k=>gram_gots k ps) (ps.map gotOf)
  | [],_=>Ev.const rfl
  |p :: ps,h=>by
    simp only[gram_gots];exact Ev.bind (got_ev (h p (by simp))) (Ev.bind (gots_ev ps fun q hq=>h q (by simp [hq])) (Ev.const rfl))
theorem gotsS_ev (l:List Int) (hb:Bytes l) (hl:l.length≤1048576000):Ev (fun k=>gram_Gots.f k (strOfNums l)) ((pcs l).map gotOf):=by
  simp only[gram_Gots.f];exact Ev.bind (each_ev _ l (Nat.le_refl _) hb (by omega)) (Ev.pos (by have:=pcs_few l;omega) (gots_ev _ (pcs_good hb)))
theorem pcs_stream: ∀ (l:List E11) (m:List Int),(∀ e∈l,okE e)→pcs (streamL l++m)=l.map pieceOf++pcs m
  | [],m,_=>rfl
  |e :: l,m,h=>by
    have h1:=bodyL_len (h e (by simp));have e1:=feed_message false 0 ((bodyL e).length:Int) (by omega) (by omega) (bodyL e) (streamL l++m) (by omega);have e2:streamL (e :: l)++m=245 :: 0 :: ((bodyL e).length:Int) :: (bodyL e++(streamL l++m)):=by simp [streamL,msgL]
    rw [e2,pcs,e1]
    show pieceOf e :: pcs (streamL l++m)=_
    rw [pcs_stream l m fun x hx=>h x (by simp [hx])];rfl
theorem pcs_noise {p:List Int} (hp:p≠ []) (hno: ∀ x∈p,x≠245) (l:List E11) (h: ∀ e∈l,okE e):pcs (p++streamL l)=⟨2,⟨#[]⟩⟩ :: l.map pieceOf:=by
  rw [pcs,feed_bad p (streamL l) false hp hno];obtain⟨b',hf⟩:=feed_stream true h;rw [hf];rfl
theorem got_piece {x:S35} (hw:wf35 x) (h:okE (E x)):gotOf (pieceOf (E x))=⟨x,0⟩:=by
  obtain⟨n1,n2,_,_⟩:=nOf_is hw;unfold gotOf pieceOf;rw [if_pos rfl];simp only;rw [bytes_str (bodyL_bytes h),getE_body h];simp only[E,n1,n2]
theorem gots_stream (l:List (S35)) (hw: ∀ x∈l,wf35 x) (h: ∀ x∈l,okE (E x)):((l.map E).map pieceOf).map gotOf=l.map fun x=>(⟨x,0⟩:S38):=by
  rw [List.map_map,List.map_map];apply List.map_congr_left;intro x hx;exact got_piece (hw x hx) (h x hx)
theorem stream_l_ev: ∀ (r:List (S35)) (p:List Int),(∀ x∈r,wf35 x)→p.length+67 * r.length≤140737488355328→
    Ev (fun k=>gram_Stream.l k r (strOfNums p)) (if ∀ x∈r,okE (E x) then (strOfNums (p++streamL (r.map E)),0) else ((⟨#[]⟩:ByteArray),2))
  | [],p,_,_=>by
    rw [if_pos (by simp)];exact Ev.const (by simp [streamL])
  |x :: r,p,hw,hl=>by
    obtain⟨n1,n2,n3,n4⟩:=nOf_is (hw x (by simp));have hput:=put_ev (E x) n3 n4;have e5:hi (E x).n=x.f4.f1.f0:=n1;have e6:lo (E x).n=x.f4.f1.f1:=n2;rw [e5,e6]at hput;simp only[List.length_cons]at hl;simp only[gram_Stream.l];refine Ev.bind hput ?_;by_cases ok:okE (E x)
    · rw [if_pos ok];have hlen:=bodyL_len ok;have hz:(strOfNums (bodyL (E x))).size=(bodyL (E x)).length:=strOfNums_size _;have hwr:wrapL (strOfNums (bodyL (E x)))=(strOfNums (msgL (E x)),0):=by unfold wrapL;rw [if_pos (by omega),hz,bytes_str (bodyL_bytes ok)];rfl
      have hml:(msgL (E x)).length≤67:=by simp only[msgL,List.length_cons];omega
      refine Ev.neg (by simp) (Ev.bind (Ev.const (wrap_eq _)) ?_);rw [hwr];refine Ev.neg (by simp) (Ev.pos (by show (strOfNums _).size+(strOfNums _).size≤_;rw [strOfNums_size,strOfNums_size];omega) ?_)
      show Ev (fun k=>gram_Stream.l k r (strOfNums p++strOfNums (msgL (E x)))) _
      rw [← str_append];refine Ev.to (stream_l_ev r (p++msgL (E x)) (fun y hy=>hw y (by simp [hy])) (by rw [List.length_append];omega)) ?_;by_cases hr: ∀ y∈r,okE (E y);·rw [if_pos hr,if_pos (by intro y hy;rcases List.mem_cons.1 hy with rfl|hy;exact ok;exact hr y hy)];simp [streamL]
      · rw [if_neg hr,if_neg (fun h=>hr fun y hy=>h y (by simp [hy]))]
    ·rw [if_neg ok,if_neg (fun h=>ok (h x (by simp)))];exact Ev.pos (by decide) (Ev.const rfl)
theorem stream_ev (l:List (S35)) (hw: ∀ x∈l,wf35 x) (hl:l.length≤1048576):Ev (fun k=>gram_Stream.f k l) (if ∀ x∈l,okE (E x) then (strOfNums (streamL (l.map E)),0) else ((⟨#[]⟩:ByteArray),2)):=by
  have h:=stream_l_ev l [] hw (by simp;omega);exact h
theorem same13_l (l:List (S38)) (hl:l.length≤4611686018427387904): ∀ (r:List (S38)) (i:Nat),l.drop i=r→Ev (fun k=>spoorref13_Same.l0 k l l (l.length:Int) (i:Int)) true
  | [],i,hd=>by
    have:l.length≤i:=List.drop_eq_nil_iff.1 hd;refine Ev.succ ?_;simp only[spoorref13_Same.l0];exact Ev.neg (by omega) (Ev.const rfl)
  |x :: r,i,hd=>by
    have hlt:=dlt hd;refine Ev.succ ?_;simp only[spoorref13_Same.l0];refine Ev.pos (by omega) (Ev.pos (by omega) (Ev.pos (by omega) (Ev.pos (by omega) (Ev.neg (by simp) ?_))));rw [w64 (by omega) (by omega),show ((i:Int)+1)=((i+1:Nat):Int) by omega];exact same13_l l hl r (i+1) (dnext hd)
theorem same13_ev (l:List (S38)) (hl:l.length≤4611686018427387904):Ev (fun k=>spoorref13_Same.f k l l) true:=by
  simp only[spoorref13_Same.f];exact Ev.pos trivial (same13_l l hl l 0 rfl)
theorem same12_l (l:List (S24)) (hl:l.length≤4611686018427387904): ∀ (r:List (S24)) (i:Nat),l.drop i=r→Ev (fun k=>spoorref12_Same.l0 k l l (l.length:Int) (i:Int)) true
  | [],i,hd=>by
    have:l.length≤i:=List.drop_eq_nil_iff.1 hd;refine Ev.succ ?_;simp only[spoorref12_Same.l0];exact Ev.neg (by omega) (Ev.const rfl)
  |x :: r,i,hd=>by
    have hlt:=dlt hd;refine Ev.succ ?_;simp only[spoorref12_Same.l0];refine Ev.pos (by omega) (Ev.pos (by omega) (Ev.pos (by omega) (Ev.pos (by omega) (Ev.neg (by simp) ?_))));rw [w64 (by omega) (by omega),show ((i:Int)+1)=((i+1:Nat):Int) by omega];exact same12_l l hl r (i+1) (dnext hd)
theorem same12_ev (l:List (S24)) (hl:l.length≤4611686018427387904):Ev (fun k=>spoorref12_Same.f k l l) true:=by
  simp only[spoorref12_Same.f];exact Ev.pos trivial (same12_l l hl l 0 rfl)
end Go.Proofs.Ythkdfojmhloofaa.Gram
end
section
namespace Go.Proofs.Ythkdfojmhloofaa.Pure
set_option linter.unusedVariables false
open Go.RowKit Go.Proofs.Ythkdfojmhloofaa.Q Go.Proofs.YthkdfojmhloofaaW.PrintWords Go.Proofs.YthkdfojmhloofaaW.PrintLast Go.Proofs.Ythkdfojmhloofaa.Base Go.Proofs.Ythkdfojmhloofaa.Num Go.Proofs.Ythkdfojmhloofaa.Addr Go.Proofs.Ythkdfojmhloofaa.Msg Go.Proofs.Ythkdfojmhloofaa.Cut Go.Proofs.Ythkdfojmhloofaa.Stream Go.Proofs.Ythkdfojmhloofaa.Gram Go.Proofs.Ythkdfojmhloofaa.Open
theorem lives_ev:Ev spoorlaw13_lives.f true:=Ev.of spoorlaw13_lives.mono (k:=200) (by decide+kernel)
theorem back_l (l:List (S35)) (R:List (S38)) (hl:l.length≤1048576): ∀ (r:List (S35)) (i:Nat),l.drop i=r→Ev (fun k=>spoorlaw13_GramBack.l0 k ((l.map fun x=>(⟨x,0⟩:S38))++R) l (l.length:Int) (i:Int)) true
  | [],i,hd=>by
    have:l.length≤i:=List.drop_eq_nil_iff.1 hd;refine Ev.succ ?_;simp only[spoorlaw13_GramBack.l0];exact Ev.neg (by omega) (Ev.const rfl)
  |x :: r,i,hd=>by
    have hlt:=dlt hd;have hg:((l.map fun x=>(⟨x,0⟩:S38))++R).drop i=⟨x,0⟩ :: ((r.map fun x=>(⟨x,0⟩:S38))++R):=by rw [List.drop_append_of_le_length (by rw [List.length_map];omega), ← List.map_drop,hd];rfl
    refine Ev.succ ?_;simp only[spoorlaw13_GramBack.l0,rdE hd,rdG hg];refine Ev.pos (by omega) (Ev.pos (by omega) (Ev.pos (by omega) (Ev.pos (by simp;omega) (Ev.neg (by simp) (Ev.pos trivial ?_)))));rw [w64 (by omega) (by omega),show ((i:Int)+1)=((i+1:Nat):Int) by omega];exact back_l l R hl r (i+1) (dnext hd)
theorem wf_of {l:List (S35)} (h:wfAll wf35 l∧l.length≤maxLen): ∀ x∈l,wf35 x:=h.1
theorem GramBackUpto:spoorlaw13_GramBack.PureUpto:=by
  intro l0 a1 h0 h1 hB;have hlen:l0.length+1≤(muAll mu35) l0:=muAll_len (fun a=>by unfold mu35;omega) l0;have hs1:a1.size+1=muStr a1:=rfl;have hw:=wf_of h0;refine Ev.rounds (g:=fun k=>spoorlaw13_GramBack.f k l0 a1) (r:=true) ?_;simp only[spoorlaw13_GramBack.f];refine Ev.bind lives_ev (Ev.pos rfl (Ev.bind (stream_ev l0 hw (by omega)) ?_));by_cases ok: ∀ x∈l0,okE (E x)
  · rw [if_pos ok];have okm: ∀ e∈l0.map E,okE e:=fun e he=>by obtain⟨x,hx,rfl⟩:=List.mem_map.1 he;exact ok x hx
    have hsl:=streamL_len okm;have hsb:=streamL_bytes okm;rw [List.length_map]at hsl;have hab:=bytesOf_bytes a1;have hal:=bytesOf_length a1;have e1:strOfNums (streamL (l0.map E))++a1=strOfNums (streamL (l0.map E)++bytesOf a1):=by rw [str_append,str_bytes]
    have g1:=gotsS_ev _ (hsb.append hab) (by rw [List.length_append];omega);have g2:=gotsS_ev _ hsb (by omega);have g3:=gotsS_ev _ hab (by omega);rw [str_bytes]at g3;rw [pcs_stream _ _ okm,List.map_append,gots_stream l0 hw ok]at g1;have e2:pcs (streamL (l0.map E))=(l0.map E).map pieceOf:=by have h:=pcs_stream (l0.map E) [] okm;rw [List.append_nil]at h;rw [h];exact List.append_nil _
    rw [e2,gots_stream l0 hw ok]at g2;have hR:=pcs_few (bytesOf a1);have hRl:((pcs (bytesOf a1)).map gotOf).length≤a1.size:=by rw [List.length_map];omega
    generalize (pcs (bytesOf a1)).map gotOf=R at g1 g3 hRl;have hGl:((l0.map fun x=>(⟨x,0⟩:S38))++R).length=l0.length+R.length:=by rw [List.length_append,List.length_map]
    refine Ev.pos rfl (Ev.pos (by show (strOfNums _).size+_≤_;rw [strOfNums_size];omega) ?_)
    show Ev (fun k=>(gram_Gots.f k (strOfNums (streamL (l0.map E))++a1)).bind _) true
    rw [e1];refine Ev.bind g1 (Ev.neg (by omega) (Ev.bind g2 (Ev.pos (by rw [List.length_map]) (Ev.pos (by omega) (Ev.pos (by omega) (Ev.bind g3 ?_))))));have e3:((l0.map fun x=>(⟨x,0⟩:S38))++R).drop (l0.length:Int).toNat=R:=by rw [Int.toNat_natCast,List.drop_left' (by rw [List.length_map])]
    rw [e3];refine Ev.bind (same13_ev R (by omega)) (Ev.succ ?_);simp only[spoorlaw13_GramBack.j0];exact Ev.neg (by decide) (back_l l0 R (by omega) l0 0 rfl)
  ·rw [if_neg ok];exact Ev.neg (by decide) (Ev.pos ((str_nil_iff []).2 rfl) (Ev.const rfl))
end Go.Proofs.Ythkdfojmhloofaa.Pure
end
section
namespace Go.Proofs.Ythkdfojmhloofaa.gramBackUpto
open Go.ChangeShapes Go.WideShapes Go.ChangeAt Go.RowKit Go.Proofs.Ythkdfojmhloofaa.Open Go.Proofs.Ythkdfojmhloofaa.Q
open Go.ChangeMaps (open_string shut_string)
set_option linter.unusedVariables false
theorem own:ownKnob Try.prog.godebug=none:=by kernel_rfl
theorem laidOut:laidOutB Try.prog=true:=by kernel_rfl
set_option maxRecDepth 100000 in
theorem contract (H:Type) (enc:TypeId × Value→H) (W:World) (base:Nat) (args:Array Value) (ds gs:List (DataW H)) (before:List MemPlace)
    (hval: ∀ (j:Nat) t v,Try.f5.params[j]? =some t→args[j]? =some v→Value.okWide Try.prog W .any base t v)
    (hW:DataW.Whole enc Try.prog Try.f5.params.toList Rows.gramBackSpec.vars false W args.toList ds gs before) (hk:Rows.uptoSmall H (ds++gs)=true):
    Calls Try.prog 5 args W fun e W'=> ∃ v,e= .returned v∧Rows.gramBackSpec.post enc Try.prog Try.f5 false true false false W args v W':=by
  have hW':=hW;obtain⟨p,q,hA0,hV,rfl,hfz,hnd⟩:=hW;have hA:DataW.TrodAll enc Try.prog W 0 (fun _=>true) true Try.f5.params.toList args.toList ds p:=hA0;rw [Try.params5]at hA hval;obtain⟨v0,vs0,d0,ds0,p0,q0,hargs,rfl,rfl,h0,r0⟩:=trodAll_cons hA;obtain⟨v1,vs1,d1,ds1,p1,q1,rfl,rfl,rfl,h1,r1⟩:=trodAll_cons r0;obtain⟨rfl,rfl,rfl⟩:=trodAll_nil r1;obtain rfl:args= #[v0,v1]:=by cases args;simp_all
  obtain⟨rfl,rfl⟩:=trodVars_none hV;have k0:=h0;have lt0: ∀ x∈p0,x.block<W.heap.size:=by obtain⟨m,hm⟩:=k0;exact DataW.trod_lt m _ _ _ hm
  obtain⟨fu0,hf0⟩:=h0;obtain⟨b0,K0,o0,u0⟩:=(opens_slice opn35 Try.underlying49 (by kernel_rfl) 35) enc W _ _ _ _ _ hf0;obtain⟨A0,c0,z0,lc0,C0⟩:=K0;obtain rfl:v0= .slice A0 b0.length c0:=by obtain⟨x,y,z,rfl⟩:=okWide_slice Try.underlying49 (hval 0 49 v0 rfl rfl);exact (List.cons.inj (show [Value.slice x y z]= [Value.slice A0 b0.length c0] from z0)).1
  have k1:=h1;have lt1: ∀ x∈p1,x.block<W.heap.size:=by obtain⟨m,hm⟩:=k1;exact DataW.trod_lt m _ _ _ hm
  obtain⟨fu1,hf1⟩:=h1;obtain⟨b1,K1,o1,u1⟩:=(opens_string Try.underlying9) enc W _ _ _ _ _ hf1;obtain rfl:v1= .string b1:=by obtain⟨x,rfl⟩:=okWide_string Try.underlying9 (hval 1 9 v1 rfl rfl);exact (List.cons.inj (show [Value.string x]= [Value.string b1] from K1)).1
  have hB:(muAll mu35) b0+muStr b1≤1048576:=by have z:Rows.uptoBulkAll ([d0,d1]++ [])≤1048576:=of_decide_eq_true hk;simp only[List.append_nil,Rows.uptoBulkAll]at z;have m0:(muAll mu35) b0≤Rows.uptoBulk d0:=u0;have m1:muStr b1≤Rows.uptoBulk d1:=u1;omega
  obtain⟨k,h⟩:=Pure.GramBackUpto b0 b1 o0 o1 hB;refine (spoorlaw13_GramBack.calls k A0 c0 b0 b1 true W C0 lc0 h).mono fun e W' ⟨he,hd⟩=>?_
  have bel:=hd;subst he;exact⟨_,rfl,_,_,_, [],_, [],hW',trodAll_mk1 (shut_bool Try.underlying4 _),(trodAll_cons_mk (Below.trod laidOut (by kernel_rfl) (of_decide_eq_true (by kernel_rfl)) k0 bel lt0) (trodAll_cons_mk (Below.trod laidOut (by kernel_rfl) (of_decide_eq_true (by kernel_rfl)) k1 bel lt1) trodAll_mk0)),rfl,bel.frame _,fun h=>by cases h⟩
set_option maxRecDepth 100000 in
theorem lifted (os:Os) (started:os.Started) (H:Type) (enc:TypeId × Value→H) (F:Stop.Interp):
    ReturnsInHanded {} Try.checked os 5 .any ((Rows.OpenSpec.upto Rows.gramBackSpec).pre6 enc Try.prog Try.f5 Rows.gramBackUptoRow.domain false) (((Rows.OpenSpec.upto Rows.gramBackSpec).at F).post enc Try.prog Try.f5 false true false false):=by
  refine returnsInHanded_of_cond (C := Try.checked) (s := Rows.OpenSpec.upto Rows.gramBackSpec) (k := Rows.uptoSmall) rfl own started (by kernel_rfl) Try.func5
    (OpenSpec.witness (enc := enc) (C := Try.checked) (s := Rows.OpenSpec.upto Rows.gramBackSpec) (k := Rows.uptoSmall) rfl false ⟨#[], #[.slice none 0 0, .string ByteArray.empty], []⟩ 8 (by kernel_rfl) (by kernel_rfl) (by kernel_rfl)
      (x := ([.nil, .lit (.string [])], [], [])) (by kernel_rfl) rfl (by kernel_rfl)) ?_
  intro W base args ds gs before hval hW _ hk _;exact contract H enc W base args ds gs before hval hW hk
theorem over : Rows.gramBackUptoRow.holds Try.pinned (Rows.OpenSpec.upto Rows.gramBackSpec) :=
  OpenClaim.holds_of_cond 5 Try.f5 rfl rfl rfl rfl rfl rfl rfl ⟨rfl, rfl, rfl, rfl, rfl⟩ rfl rfl rfl rfl rfl (by kernel_rfl) Try.func5 (by kernel_rfl)
    (of_decide_eq_true (by kernel_rfl)) (by unfold Func.isWrapper; first | (rw [if_pos (by decide +kernel)]; kernel_rfl) | (rw [if_neg (by decide +kernel)]; exact ⟨rfl, rfl⟩))
    (fun os started H enc _ F => lifted os started H enc F)
theorem proved:Rows.GramBackUptoSaid:=over
#print axioms proved
end Go.Proofs.Ythkdfojmhloofaa.gramBackUpto
namespace Go.Proofs.Ythkdfojmhloofaa
theorem gramBackUpto_holds:Rows.GramBackUptoSaid:=gramBackUpto.proved
end Go.Proofs.Ythkdfojmhloofaa
end
section
namespace Go.Proofs.Ythkdfojmhloofaa.Q
set_option linter.unusedVariables false
open Go.RowKit Go.Proofs.YthkdfojmhloofaaW.PrintWords Go.Proofs.YthkdfojmhloofaaW.PrintLast Go.Proofs.YthkdfojmhloofaaW.PrintMore Go.Proofs.Ythkdfojmhloofaa.Open
def spoorlaw13_GramNoise.PureUpto:Prop:= ∀ (l0:List (S35)) (l1:List (S35)) (a2:ByteArray),(fun l=>wfAll wf35 l∧l.length≤maxLen) l0→(fun l=>wfAll wf35 l∧l.length≤maxLen) l1→wfStr a2→(muAll mu35) l0+(muAll mu35) l1+muStr a2≤1048576→ ∃ k,spoorlaw13_GramNoise.f k l0 l1 a2=some true
end Go.Proofs.Ythkdfojmhloofaa.Q
end
section
namespace Go.Proofs.Ythkdfojmhloofaa.Pure
set_option linter.unusedVariables false
open Go.RowKit Go.Proofs.Ythkdfojmhloofaa.Q Go.Proofs.YthkdfojmhloofaaW.PrintWords Go.Proofs.YthkdfojmhloofaaW.PrintLast Go.Proofs.Ythkdfojmhloofaa.Base Go.Proofs.Ythkdfojmhloofaa.Num Go.Proofs.Ythkdfojmhloofaa.Addr Go.Proofs.Ythkdfojmhloofaa.Msg Go.Proofs.Ythkdfojmhloofaa.Cut Go.Proofs.Ythkdfojmhloofaa.Stream Go.Proofs.Ythkdfojmhloofaa.Gram Go.Proofs.Ythkdfojmhloofaa.Open
theorem w2_ {a:Nat} (ha:a≤1048576):wrap64 ((a:Int)+1)=a+1:=w64 (by omega) (by omega)
theorem w1_ {a b:Nat} (ha:a≤1048576) (hb:b≤1048576):wrap64 (wrap64 ((a:Int)+1)+(b:Int))=a+1+b:=by rw [w2_ ha,w64 (by omega) (by omega)]
theorem j2_ev (l0:List (S35)) (a b:ByteArray) (G H:List (S38)) (g:S38) (lG:G.length=l0.length) (hl:l0.length≤1048576) (lH:H.length≤1048576) (hs:a.size+b.size≤1048576000) (h2:Ev (fun k=>gram_Gots.f k (a++b)) (G++H)):
    Ev (fun k=>spoorlaw13_GramNoise.j2 k l0 a b (G++g :: H) false) true:=by
  have lT:(G++g :: H).length=l0.length+1+H.length:=by rw [List.length_append,List.length_cons];omega
  have e6:(G++g :: H).take (l0.length:Int).toNat=G:=by rw [Int.toNat_natCast,List.take_left' lG]
  have e7:(G++g :: H).drop (wrap64 ((l0.length:Int)+1)).toNat=H:=by rw [w2_ hl,show ((l0.length:Int)+1).toNat=l0.length+1 by omega, ← List.drop_drop,List.drop_left' lG];rfl
  have t1:(0:Int)≤(l0.length:Int):=by omega
  have t2:(l0.length:Int)≤((G++g :: H).length:Int):=by omega
  have t3:([]:List (S38)).length+G.length<1353245080339:=by rw [List.length_nil];omega
  have t6:([]++G).length+H.length<1353245080339:=by rw [List.nil_append];omega
  have t8:(G++H).length≤4611686018427387904:=by rw [List.length_append];omega
  have t7:a.size+b.size≤9223372036854775807:=by omega
  have t4:0≤wrap64 ((l0.length:Int)+1):=by rw [w2_ hl];omega
  have t5:wrap64 ((l0.length:Int)+1)≤((G++g :: H).length:Int):=by rw [w2_ hl];omega
  refine Ev.succ ?_;simp only[spoorlaw13_GramNoise.j2];refine Ev.neg (by decide) (Ev.pos t7 (Ev.bind h2 (Ev.bind (Ev.const rfl) (Ev.pos t1 (Ev.pos t2 (Ev.bind (Ev.const (congrArg some e6)) (Ev.pos t3 (Ev.bind (Ev.const rfl) (Ev.pos t4 (Ev.pos t5 (Ev.bind (Ev.const (congrArg some e7)) (Ev.pos t6 ?_))))))))))));exact Ev.bind (same13_ev (G++H) t8) (Ev.const rfl)
theorem noise_end (l0 l1:List (S35)) (hw0: ∀ x∈l0,wf35 x) (hw1: ∀ x∈l1,wf35 x) (ok0: ∀ x∈l0,okE (E x)) (ok1: ∀ x∈l1,okE (E x)) (a2:ByteArray) (hne:bytesOf a2≠ []) (hl0:l0.length≤1048576) (hl1:l1.length≤1048576) (hl2:a2.size≤1048576) (hno: ∀ x∈bytesOf a2,x≠245):
    Ev (fun k=>spoorlaw13_GramNoise.l0 k l0 l1 a2 (strOfNums (streamL (l0.map E))) (strOfNums (streamL (l1.map E))) (a2.size:Int) (a2.size:Int)) true:=by
  have hal:=bytesOf_length a2;have okm0: ∀ e∈l0.map E,okE e:=fun e he=>by obtain⟨x,hx,rfl⟩:=List.mem_map.1 he;exact ok0 x hx
  have okm1: ∀ e∈l1.map E,okE e:=fun e he=>by obtain⟨x,hx,rfl⟩:=List.mem_map.1 he;exact ok1 x hx
  have s0:=streamL_len okm0;have s1:=streamL_len okm1;have b0:=streamL_bytes okm0;have b1:=streamL_bytes okm1;rw [List.length_map]at s0 s1;have hab:=bytesOf_bytes a2;have e1:strOfNums (streamL (l0.map E))++a2++strOfNums (streamL (l1.map E))=strOfNums (streamL (l0.map E)++(bytesOf a2++streamL (l1.map E))):=by rw [str_append,str_append,str_bytes,ByteArray.append_assoc]
  have e2:strOfNums (streamL (l0.map E))++strOfNums (streamL (l1.map E))=strOfNums (streamL (l0.map E)++streamL (l1.map E)):=by rw [str_append]
  have g1:=gotsS_ev _ (b0.append (hab.append b1)) (by rw [List.length_append,List.length_append];omega);have g2:=gotsS_ev _ (b0.append b1) (by rw [List.length_append];omega);have c0:=gots_stream l0 hw0 ok0;have c1:=gots_stream l1 hw1 ok1;have e3:pcs (streamL (l1.map E))=(l1.map E).map pieceOf:=by have h:=pcs_stream (l1.map E) [] okm1;rw [List.append_nil]at h;rw [h];exact List.append_nil _
  rw [pcs_stream _ _ okm0,pcs_noise hne hno _ okm1,List.map_append,List.map_cons,c0,c1]at g1;rw [pcs_stream _ _ okm0,e3,List.map_append,c0,c1]at g2;have e4:gotOf ⟨2,⟨#[]⟩⟩=(⟨z35,7⟩:S38):=rfl;rw [e4, ← e1]at g1;rw [← e2]at g2;have lG:(l0.map (fun x=>(⟨x,0⟩:S38))).length=l0.length:=by rw [List.length_map]
  have lH:(l1.map (fun x=>(⟨x,0⟩:S38))).length=l1.length:=by rw [List.length_map]
  have hsz0:=strOfNums_size (streamL (l0.map E));have hsz1:=strOfNums_size (streamL (l1.map E));have hsz2:(strOfNums (streamL (l0.map E))++a2).size=(strOfNums (streamL (l0.map E))).size+a2.size:=ByteArray.size_append;clear e1 e2 e3 e4 c0 c1 b0 b1;generalize l0.map (fun x=>(⟨x,0⟩:S38))=G at g1 g2 lG;generalize l1.map (fun x=>(⟨x,0⟩:S38))=H at g1 g2 lH;generalize strOfNums (streamL (l0.map E))=A at *;generalize strOfNums (streamL (l1.map E))=B at *;have t1: ¬ ((a2.size:Int)<(a2.size:Int)):=by omega
  have lT:(G++(⟨z35,7⟩:S38) :: H).length=l0.length+1+l1.length:=by rw [List.length_append,List.length_cons];omega
  have t5:(0:Int)≤(l0.length:Int):=by omega
  have t6:(l0.length:Int)<((G++(⟨z35,7⟩:S38) :: H).length:Int):=by rw [lT];omega
  have e5:((rd_T38 (G++(⟨z35,7⟩:S38) :: H) (l0.length:Int)).f1 !=7)=false:=by rw [rdG (r:=H) (by rw [List.drop_left' lG])];rfl
  have hj:=j2_ev l0 A B G H ⟨z35,7⟩ lG hl0 (by omega) (by omega) g2;rw [← e5]at hj;have t3:(A++a2).size+B.size≤9223372036854775807:=by omega
  have t2:A.size+a2.size≤9223372036854775807:=by omega
  have t4:((G++(⟨z35,7⟩:S38) :: H).length:Int)=wrap64 (wrap64 ((l0.length:Int)+1)+(l1.length:Int)):=by rw [w1_ hl0 hl1,lT];omega
  refine Ev.succ ?_;simp only[spoorlaw13_GramNoise.l0];exact Ev.neg t1 (Ev.pos t2 (Ev.pos t3 (Ev.bind g1 (Ev.pos t4 (Ev.pos t5 (Ev.pos t6 hj))))))
theorem noise_l (l0 l1:List (S35)) (hw0: ∀ x∈l0,wf35 x) (hw1: ∀ x∈l1,wf35 x) (ok0: ∀ x∈l0,okE (E x)) (ok1: ∀ x∈l1,okE (E x)) (a2:ByteArray) (hne:bytesOf a2≠ []) (hl0:l0.length≤1048576) (hl1:l1.length≤1048576) (hl2:a2.size≤1048576):
    ∀ (r:List Int) (i:Nat) (p:List Int),bytesOf a2=p++r→p.length=i→(∀ x∈p,x≠245)→Ev (fun k=>spoorlaw13_GramNoise.l0 k l0 l1 a2 (strOfNums (streamL (l0.map E))) (strOfNums (streamL (l1.map E))) (a2.size:Int) (i:Int)) true
  | [],i,p,hp,hi,hno=>by
    rw [List.append_nil]at hp;have hi2:i=a2.size:=by rw [← bytesOf_length a2,hp,hi]
    rw [hi2];exact noise_end l0 l1 hw0 hw1 ok0 ok1 a2 hne hl0 hl1 hl2 (by rw [hp];exact hno)
  |x :: r,i,p,hp,hi,hno=>by
    have hal:=bytesOf_length a2;have hlt:i<a2.size:=by rw [← hal,hp,List.length_append,List.length_cons];omega
    have hbt:bt a2 (i:Int)=x:=by rw [bt_of hp];exact rd_drop (r:=r) (by rw [List.drop_left' hi])
    refine Ev.succ ?_;simp only[spoorlaw13_GramNoise.l0];refine Ev.pos (by omega) (Ev.pos (by omega) (Ev.pos (by omega) ?_));rw [hbt];by_cases c:x=245
    · exact Ev.pos c (Ev.const rfl)
    · refine Ev.neg c ?_;rw [w64 (by omega) (by omega),show ((i:Int)+1)=((i+1:Nat):Int) by omega];refine noise_l l0 l1 hw0 hw1 ok0 ok1 a2 hne hl0 hl1 hl2 r (i+1) (p++ [x]) (by rw [hp,List.append_assoc];rfl) (by rw [List.length_append];simp;omega) (fun y hy=>?_);rcases List.mem_append.1 hy with h|h
      · exact hno y h
      · rw [List.mem_singleton.1 h];exact c
theorem j0_true (l0 l1:List (S35)) (a2 s t:ByteArray):Ev (fun k=>spoorlaw13_GramNoise.j0 k l0 l1 a2 s t true) true:=by
  refine Ev.succ ?_;simp only[spoorlaw13_GramNoise.j0];exact Ev.pos trivial (Ev.const rfl)
theorem GramNoiseUpto:spoorlaw13_GramNoise.PureUpto:=by
  intro l0 l1 a2 h0 h1 h2 hB;have hlen0:l0.length+1≤(muAll mu35) l0:=muAll_len (fun a=>by unfold mu35;omega) l0;have hlen1:l1.length+1≤(muAll mu35) l1:=muAll_len (fun a=>by unfold mu35;omega) l1;have hs1:a2.size+1=muStr a2:=rfl;refine Ev.rounds (g:=fun k=>spoorlaw13_GramNoise.f k l0 l1 a2) (r:=true) ?_;simp only[spoorlaw13_GramNoise.f];refine Ev.bind lives_ev (Ev.pos rfl (Ev.bind (stream_ev l0 h0.1 (by omega)) (Ev.bind (stream_ev l1 h1.1 (by omega)) ?_)));by_cases ok0: ∀ x∈l0,okE (E x)
  · rw [if_pos ok0];refine Ev.pos rfl ?_;by_cases ok1: ∀ x∈l1,okE (E x)
    · rw [if_pos ok1];refine Ev.pos rfl ?_;by_cases c:bytesOf a2= [];·have e:(a2.toList==([]:List UInt8))=true:=beq_iff_eq.mpr ((nil_iff a2).2 c);rw [e];exact j0_true _ _ _ _ _
      ·have e:(a2.toList==([]:List UInt8))=false:=beq_eq_false_iff_ne.mpr (fun h=>c ((nil_iff a2).1 h));rw [e];refine Ev.succ ?_;simp only[spoorlaw13_GramNoise.j0];exact Ev.neg (by decide) (noise_l l0 l1 h0.1 h1.1 ok0 ok1 a2 c (by omega) (by omega) (by omega) (bytesOf a2) 0 [] rfl rfl (by simp))
    ·rw [if_neg ok1];exact Ev.neg (by decide) (j0_true _ _ _ _ _)
  ·rw [if_neg ok0];exact Ev.neg (by decide) (j0_true _ _ _ _ _)
end Go.Proofs.Ythkdfojmhloofaa.Pure
end
section
namespace Go.Proofs.Ythkdfojmhloofaa.gramNoiseUpto
open Go.ChangeShapes Go.WideShapes Go.ChangeAt Go.RowKit Go.Proofs.Ythkdfojmhloofaa.Open Go.Proofs.Ythkdfojmhloofaa.Q
open Go.ChangeMaps (open_string shut_string)
set_option linter.unusedVariables false
theorem own:ownKnob Try.prog.godebug=none:=by kernel_rfl
theorem laidOut:laidOutB Try.prog=true:=by kernel_rfl
set_option maxRecDepth 100000 in
theorem contract (H:Type) (enc:TypeId × Value→H) (W:World) (base:Nat) (args:Array Value) (ds gs:List (DataW H)) (before:List MemPlace)
    (hval: ∀ (j:Nat) t v,Try.f6.params[j]? =some t→args[j]? =some v→Value.okWide Try.prog W .any base t v)
    (hW:DataW.Whole enc Try.prog Try.f6.params.toList Rows.gramNoiseSpec.vars false W args.toList ds gs before) (hk:Rows.uptoSmall H (ds++gs)=true):
    Calls Try.prog 6 args W fun e W'=> ∃ v,e= .returned v∧Rows.gramNoiseSpec.post enc Try.prog Try.f6 false true false false W args v W':=by
  have hW':=hW;obtain⟨p,q,hA0,hV,rfl,hfz,hnd⟩:=hW;have hA:DataW.TrodAll enc Try.prog W 0 (fun _=>true) true Try.f6.params.toList args.toList ds p:=hA0;rw [Try.params6]at hA hval;obtain⟨v0,vs0,d0,ds0,p0,q0,hargs,rfl,rfl,h0,r0⟩:=trodAll_cons hA;obtain⟨v1,vs1,d1,ds1,p1,q1,rfl,rfl,rfl,h1,r1⟩:=trodAll_cons r0;obtain⟨v2,vs2,d2,ds2,p2,q2,rfl,rfl,rfl,h2,r2⟩:=trodAll_cons r1;obtain⟨rfl,rfl,rfl⟩:=trodAll_nil r2;obtain rfl:args= #[v0,v1,v2]:=by cases args;simp_all
  obtain⟨rfl,rfl⟩:=trodVars_none hV;have k0:=h0;have lt0: ∀ x∈p0,x.block<W.heap.size:=by obtain⟨m,hm⟩:=k0;exact DataW.trod_lt m _ _ _ hm
  obtain⟨fu0,hf0⟩:=h0;obtain⟨b0,K0,o0,u0⟩:=(opens_slice opn35 Try.underlying49 (by kernel_rfl) 35) enc W _ _ _ _ _ hf0;obtain⟨A0,c0,z0,lc0,C0⟩:=K0;obtain rfl:v0= .slice A0 b0.length c0:=by obtain⟨x,y,z,rfl⟩:=okWide_slice Try.underlying49 (hval 0 49 v0 rfl rfl);exact (List.cons.inj (show [Value.slice x y z]= [Value.slice A0 b0.length c0] from z0)).1
  have k1:=h1;have lt1: ∀ x∈p1,x.block<W.heap.size:=by obtain⟨m,hm⟩:=k1;exact DataW.trod_lt m _ _ _ hm
  obtain⟨fu1,hf1⟩:=h1;obtain⟨b1,K1,o1,u1⟩:=(opens_slice opn35 Try.underlying49 (by kernel_rfl) 35) enc W _ _ _ _ _ hf1;obtain⟨A1,c1,z1,lc1,C1⟩:=K1;obtain rfl:v1= .slice A1 b1.length c1:=by obtain⟨x,y,z,rfl⟩:=okWide_slice Try.underlying49 (hval 1 49 v1 rfl rfl);exact (List.cons.inj (show [Value.slice x y z]= [Value.slice A1 b1.length c1] from z1)).1
  have k2:=h2;have lt2: ∀ x∈p2,x.block<W.heap.size:=by obtain⟨m,hm⟩:=k2;exact DataW.trod_lt m _ _ _ hm
  obtain⟨fu2,hf2⟩:=h2;obtain⟨b2,K2,o2,u2⟩:=(opens_string Try.underlying9) enc W _ _ _ _ _ hf2;obtain rfl:v2= .string b2:=by obtain⟨x,rfl⟩:=okWide_string Try.underlying9 (hval 2 9 v2 rfl rfl);exact (List.cons.inj (show [Value.string x]= [Value.string b2] from K2)).1
  have hB:(muAll mu35) b0+(muAll mu35) b1+muStr b2≤1048576:=by have z:Rows.uptoBulkAll ([d0,d1,d2]++ [])≤1048576:=of_decide_eq_true hk;simp only[List.append_nil,Rows.uptoBulkAll]at z;have m0:(muAll mu35) b0≤Rows.uptoBulk d0:=u0;have m1:(muAll mu35) b1≤Rows.uptoBulk d1:=u1;have m2:muStr b2≤Rows.uptoBulk d2:=u2;omega
  obtain⟨k,h⟩:=Pure.GramNoiseUpto b0 b1 b2 o0 o1 o2 hB;refine (spoorlaw13_GramNoise.calls k A0 c0 b0 A1 c1 b1 b2 true W C0 lc0 C1 lc1 h).mono fun e W' ⟨he,hd⟩=>?_
  have bel:=hd;subst he;exact⟨_,rfl,_,_,_, [],_, [],hW',trodAll_mk1 (shut_bool Try.underlying4 _),(trodAll_cons_mk (Below.trod laidOut (by kernel_rfl) (of_decide_eq_true (by kernel_rfl)) k0 bel lt0) (trodAll_cons_mk (Below.trod laidOut (by kernel_rfl) (of_decide_eq_true (by kernel_rfl)) k1 bel lt1) (trodAll_cons_mk (Below.trod laidOut (by kernel_rfl) (of_decide_eq_true (by kernel_rfl)) k2 bel lt2) trodAll_mk0))),rfl,bel.frame _,fun h=>by cases h⟩
set_option maxRecDepth 100000 in
theorem lifted (os:Os) (started:os.Started) (H:Type) (enc:TypeId × Value→H) (F:Stop.Interp):
    ReturnsInHanded {} Try.checked os 6 .any ((Rows.OpenSpec.upto Rows.gramNoiseSpec).pre6 enc Try.prog Try.f6 Rows.gramNoiseUptoRow.domain false) (((Rows.OpenSpec.upto Rows.gramNoiseSpec).at F).post enc Try.prog Try.f6 false true false false):=by
  refine returnsInHanded_of_cond (C := Try.checked) (s := Rows.OpenSpec.upto Rows.gramNoiseSpec) (k := Rows.uptoSmall) rfl own started (by kernel_rfl) Try.func6
    (OpenSpec.witness (enc := enc) (C := Try.checked) (s := Rows.OpenSpec.upto Rows.gramNoiseSpec) (k := Rows.uptoSmall) rfl false ⟨#[], #[.slice none 0 0, .slice none 0 0, .string ByteArray.empty], []⟩ 8 (by kernel_rfl) (by kernel_rfl) (by kernel_rfl)
      (x := ([.nil, .nil, .lit (.string [])], [], [])) (by kernel_rfl) rfl (by kernel_rfl)) ?_
  intro W base args ds gs before hval hW _ hk _;exact contract H enc W base args ds gs before hval hW hk
theorem over : Rows.gramNoiseUptoRow.holds Try.pinned (Rows.OpenSpec.upto Rows.gramNoiseSpec) :=
  OpenClaim.holds_of_cond 6 Try.f6 rfl rfl rfl rfl rfl rfl rfl ⟨rfl, rfl, rfl, rfl, rfl⟩ rfl rfl rfl rfl rfl (by kernel_rfl) Try.func6 (by kernel_rfl)
    (of_decide_eq_true (by kernel_rfl)) (by unfold Func.isWrapper; first | (rw [if_pos (by decide +kernel)]; kernel_rfl) | (rw [if_neg (by decide +kernel)]; exact ⟨rfl, rfl⟩))
    (fun os started H enc _ F => lifted os started H enc F)
theorem proved:Rows.GramNoiseUptoSaid:=over
#print axioms proved
end Go.Proofs.Ythkdfojmhloofaa.gramNoiseUpto
namespace Go.Proofs.Ythkdfojmhloofaa
theorem gramNoiseUpto_holds:Rows.GramNoiseUptoSaid:=gramNoiseUpto.proved
end Go.Proofs.Ythkdfojmhloofaa
end
section
namespace Go.Proofs.Ythkdfojmhloofaa.Q
set_option linter.unusedVariables false
open Go.RowKit Go.Proofs.YthkdfojmhloofaaW.PrintWords Go.Proofs.YthkdfojmhloofaaW.PrintLast Go.Proofs.YthkdfojmhloofaaW.PrintMore Go.Proofs.Ythkdfojmhloofaa.Open
def spoorlaw13_GramCut.PureUpto:Prop:= ∀ (l0:List ByteArray),(fun l=>wfAll wfStr l∧l.length≤maxLen) l0→(muAll muStr) l0≤1048576→ ∃ k,spoorlaw13_GramCut.f k l0=some true
end Go.Proofs.Ythkdfojmhloofaa.Q
end
section
namespace Go.Proofs.Ythkdfojmhloofaa.Pure
set_option linter.unusedVariables false
open Go.RowKit Go.Proofs.Ythkdfojmhloofaa.Q Go.Proofs.YthkdfojmhloofaaW.PrintWords Go.Proofs.YthkdfojmhloofaaW.PrintLast Go.Proofs.Ythkdfojmhloofaa.Base Go.Proofs.Ythkdfojmhloofaa.Num Go.Proofs.Ythkdfojmhloofaa.Addr Go.Proofs.Ythkdfojmhloofaa.Msg Go.Proofs.Ythkdfojmhloofaa.Cut Go.Proofs.Ythkdfojmhloofaa.Stream Go.Proofs.Ythkdfojmhloofaa.Gram Go.Proofs.Ythkdfojmhloofaa.Open
theorem rdS {l:List ByteArray}{i:Nat}{x:ByteArray}{r:List ByteArray} (h:l.drop i=x :: r):rdOf ByteArray.empty l (i:Int)=x:=by
  have e:l[i]? =some x:=by rw [← List.head?_drop,h];rfl
  simp [rdOf,List.getD_eq_getElem?_getD,e]
theorem sum_mem {l:List ByteArray}:muAll muStr l=(l.map fun s=>s.size+1).sum+1:=by
  induction l with
  |nil=>rfl
  |cons s l ih=>
    simp only[muAll,List.map_cons,List.sum_cons,muStr]at ih ⊢;omega
theorem cut_l (l0:List ByteArray) (hl0:l0.length≤1048576): ∀ (r:List ByteArray) (i:Nat) (d:List Int),l0.drop i=r→Bytes d→d.length+(r.map fun s=>s.size+1).sum≤1048576→
    Ev (fun k=>spoorlaw13_GramCut.l0 k (pcs d) (strOfNums d) l0 (l0.length:Int) (i:Int) (strOfNums (feedL [] false 0 d).1.1) (feedL [] false 0 d).1.2.1 (feedL [] false 0 d).1.2.2) true
  | [],i,d,hd,hb,hl=>by
    have:l0.length≤i:=List.drop_eq_nil_iff.1 hd;simp only[List.map_nil,List.sum_nil]at hl;have hp:=pcs_few d;have hv:=pieces_ev d hb (by omega);have hs:=same12_ev (pcs d) (by omega);refine Ev.succ ?_;simp only[spoorlaw13_GramCut.l0];exact Ev.neg (by omega) (Ev.bind hv (Ev.bind hs (Ev.const rfl)))
  |x :: r,i,d,hd,hb,hl=>by
    have hlt:=dlt hd;simp only[List.map_cons,List.sum_cons]at hl;have hk:=(feed_keeps d [] false 0 hb Keeps.none).1;have hks:=hk.short;have hx:=bytesOf_bytes x;have hxl:=bytesOf_length x;have happ:=feed_app (bytesOf x) d [] false 0;have hp:=pcs_few d;have hp2:=feed_few (bytesOf x) (feedL [] false 0 d).1.1 (feedL [] false 0 d).1.2.1 (feedL [] false 0 d).1.2.2;have f:=feedw_ev (feedL [] false 0 d).1.1 (feedL [] false 0 d).1.2.1 (feedL [] false 0 d).1.2.2 x hk.1 (by omega) (by omega) (by omega);rw [fed_right hk]at f;have e1:pcs d++(told5 (feedL (feedL [] false 0 d).1.1 (feedL [] false 0 d).1.2.1 (feedL [] false 0 d).1.2.2 (bytesOf x)) []).2.2.2.1=pcs (d++bytesOf x):=by simp only[told5,List.nil_append,pcs,happ]
    have e2:strOfNums d++x=strOfNums (d++bytesOf x):=by rw [str_append,str_bytes]
    have ih:=cut_l l0 hl0 r (i+1) (d++bytesOf x) (dnext hd) (hb.append hx) (by rw [List.length_append];omega);have e3:(told5 (feedL (feedL [] false 0 d).1.1 (feedL [] false 0 d).1.2.1 (feedL [] false 0 d).1.2.2 (bytesOf x)) []).1=strOfNums (feedL [] false 0 (d++bytesOf x)).1.1:=by simp only[told5,happ]
    have e4:(told5 (feedL (feedL [] false 0 d).1.1 (feedL [] false 0 d).1.2.1 (feedL [] false 0 d).1.2.2 (bytesOf x)) []).2.1=(feedL [] false 0 (d++bytesOf x)).1.2.1:=by simp only[told5,happ]
    have e5:(told5 (feedL (feedL [] false 0 d).1.1 (feedL [] false 0 d).1.2.1 (feedL [] false 0 d).1.2.2 (bytesOf x)) []).2.2.1=(feedL [] false 0 (d++bytesOf x)).1.2.2:=by simp only[told5,happ]
    rw [← e1, ← e2, ← e3, ← e4, ← e5]at ih;have t1:(i:Int)<(l0.length:Int):=by omega
    have t2:(0:Int)≤(i:Int):=by omega
    have t3:(pcs d).length+(told5 (feedL (feedL [] false 0 d).1.1 (feedL [] false 0 d).1.2.1 (feedL [] false 0 d).1.2.2 (bytesOf x)) []).2.2.2.1.length<5864062014805:=by simp only[told5,List.nil_append];omega
    have hz:=strOfNums_size d;have t4:(strOfNums d).size+x.size≤9223372036854775807:=by clear t3;omega
    have e6:((i+1:Nat):Int)=wrap64 ((i:Int)+1):=by rw [w64 (by omega) (by omega)];omega
    refine Ev.succ ?_;simp only[spoorlaw13_GramCut.l0,rdS hd];rw [e6]at ih;exact Ev.pos t1 (Ev.pos t2 (Ev.pos t1 (Ev.bind f (Ev.pos rfl (Ev.pos t3 (Ev.pos t4 ih))))))
theorem GramCutUpto:spoorlaw13_GramCut.PureUpto:=by
  intro l0 h0 hB;have hlen:l0.length+1≤muAll muStr l0:=muAll_len (fun a=>by unfold muStr;omega) l0;have hsum:=sum_mem (l:=l0);refine Ev.rounds (g:=fun k=>spoorlaw13_GramCut.f k l0) (r:=true) ?_;simp only[spoorlaw13_GramCut.f];exact Ev.bind lives_ev (Ev.pos rfl (cut_l l0 (by omega) l0 0 [] rfl Bytes.nil (by simp only[List.length_nil];omega)))
end Go.Proofs.Ythkdfojmhloofaa.Pure
end
section
namespace Go.Proofs.Ythkdfojmhloofaa.gramCutUpto
open Go.ChangeShapes Go.WideShapes Go.ChangeAt Go.RowKit Go.Proofs.Ythkdfojmhloofaa.Open Go.Proofs.Ythkdfojmhloofaa.Q
open Go.ChangeMaps (open_string shut_string)
set_option linter.unusedVariables false
theorem own:ownKnob Try.prog.godebug=none:=by kernel_rfl
theorem laidOut:laidOutB Try.prog=true:=by kernel_rfl
set_option maxRecDepth 100000 in
theorem contract (H:Type) (enc:TypeId × Value→H) (W:World) (base:Nat) (args:Array Value) (ds gs:List (DataW H)) (before:List MemPlace)
    (hval: ∀ (j:Nat) t v,Try.f7.params[j]? =some t→args[j]? =some v→Value.okWide Try.prog W .any base t v)
    (hW:DataW.Whole enc Try.prog Try.f7.params.toList Rows.gramCutSpec.vars false W args.toList ds gs before) (hk:Rows.uptoSmall H (ds++gs)=true):
    Calls Try.prog 7 args W fun e W'=> ∃ v,e= .returned v∧Rows.gramCutSpec.post enc Try.prog Try.f7 false true false false W args v W':=by
  have hW':=hW;obtain⟨p,q,hA0,hV,rfl,hfz,hnd⟩:=hW;have hA:DataW.TrodAll enc Try.prog W 0 (fun _=>true) true Try.f7.params.toList args.toList ds p:=hA0;rw [Try.params7]at hA hval;obtain⟨v0,vs0,d0,ds0,p0,q0,hargs,rfl,rfl,h0,r0⟩:=trodAll_cons hA;obtain⟨rfl,rfl,rfl⟩:=trodAll_nil r0;obtain rfl:args= #[v0]:=by cases args;simp_all
  obtain⟨rfl,rfl⟩:=trodVars_none hV;have k0:=h0;have lt0: ∀ x∈p0,x.block<W.heap.size:=by obtain⟨m,hm⟩:=k0;exact DataW.trod_lt m _ _ _ hm
  obtain⟨fu0,hf0⟩:=h0;obtain⟨b0,K0,o0,u0⟩:=(opens_slice (opens_string Try.underlying9) Try.underlying55 (by kernel_rfl) 9) enc W _ _ _ _ _ hf0;obtain⟨A0,c0,z0,lc0,C0⟩:=K0;obtain rfl:v0= .slice A0 b0.length c0:=by obtain⟨x,y,z,rfl⟩:=okWide_slice Try.underlying55 (hval 0 55 v0 rfl rfl);exact (List.cons.inj (show [Value.slice x y z]= [Value.slice A0 b0.length c0] from z0)).1
  have hB:(muAll muStr) b0≤1048576:=by have z:Rows.uptoBulkAll ([d0]++ [])≤1048576:=of_decide_eq_true hk;simp only[List.append_nil,Rows.uptoBulkAll]at z;have m0:(muAll muStr) b0≤Rows.uptoBulk d0:=u0;omega
  obtain⟨k,h⟩:=Pure.GramCutUpto b0 o0 hB;refine (spoorlaw13_GramCut.calls k A0 c0 b0 true W C0 lc0 h).mono fun e W' ⟨he,hd⟩=>?_
  have bel:=hd;subst he;exact⟨_,rfl,_,_,_, [],_, [],hW',trodAll_mk1 (shut_bool Try.underlying4 _),(trodAll_cons_mk (Below.trod laidOut (by kernel_rfl) (of_decide_eq_true (by kernel_rfl)) k0 bel lt0) trodAll_mk0),rfl,bel.frame _,fun h=>by cases h⟩
set_option maxRecDepth 100000 in
theorem lifted (os:Os) (started:os.Started) (H:Type) (enc:TypeId × Value→H) (F:Stop.Interp):
    ReturnsInHanded {} Try.checked os 7 .any ((Rows.OpenSpec.upto Rows.gramCutSpec).pre6 enc Try.prog Try.f7 Rows.gramCutUptoRow.domain false) (((Rows.OpenSpec.upto Rows.gramCutSpec).at F).post enc Try.prog Try.f7 false true false false):=by
  refine returnsInHanded_of_cond (C := Try.checked) (s := Rows.OpenSpec.upto Rows.gramCutSpec) (k := Rows.uptoSmall) rfl own started (by kernel_rfl) Try.func7
    (OpenSpec.witness (enc := enc) (C := Try.checked) (s := Rows.OpenSpec.upto Rows.gramCutSpec) (k := Rows.uptoSmall) rfl false ⟨#[], #[.slice none 0 0], []⟩ 8 (by kernel_rfl) (by kernel_rfl) (by kernel_rfl)
      (x := ([.nil], [], [])) (by kernel_rfl) rfl (by kernel_rfl)) ?_
  intro W base args ds gs before hval hW _ hk _;exact contract H enc W base args ds gs before hval hW hk
theorem over : Rows.gramCutUptoRow.holds Try.pinned (Rows.OpenSpec.upto Rows.gramCutSpec) :=
  OpenClaim.holds_of_cond 7 Try.f7 rfl rfl rfl rfl rfl rfl rfl ⟨rfl, rfl, rfl, rfl, rfl⟩ rfl rfl rfl rfl rfl (by kernel_rfl) Try.func7 (by kernel_rfl)
    (of_decide_eq_true (by kernel_rfl)) (by unfold Func.isWrapper; first | (rw [if_pos (by decide +kernel)]; kernel_rfl) | (rw [if_neg (by decide +kernel)]; exact ⟨rfl, rfl⟩))
    (fun os started H enc _ F => lifted os started H enc F)
theorem proved:Rows.GramCutUptoSaid:=over
#print axioms proved
end Go.Proofs.Ythkdfojmhloofaa.gramCutUpto
namespace Go.Proofs.Ythkdfojmhloofaa
theorem gramCutUpto_holds:Rows.GramCutUptoSaid:=gramCutUpto.proved
end Go.Proofs.Ythkdfojmhloofaa
end
section

end
