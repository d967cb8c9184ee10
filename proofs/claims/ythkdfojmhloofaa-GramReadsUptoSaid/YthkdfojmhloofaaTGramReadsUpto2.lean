-- Merged and trimmed by this session's program wip/tools/trim.py.
import Derived.Test.YthkdfojmhloofaaTGramReadsUpto1
section
namespace Go.Proofs.Ythkdfojmhloofaa.Q
open Go.RowKit Go.Proofs.YthkdfojmhloofaaW.PrintWords Go.Proofs.YthkdfojmhloofaaW.PrintLast Go.Proofs.YthkdfojmhloofaaW.PrintMore
attribute [local go_sem] max2_int min2_int max_two min_two max_three min_three max_four min_four   -- for this text's walks alone
set_option linter.unusedVariables false
set_option linter.unusedSimpArgs false
attribute [local go_sem high] eqA35
set_option maxHeartbeats 8000000 in
set_option maxRecDepth 100000 in
theorem num_Get.calls (k:Nat) (a0:ByteArray) (r1:Int) (r2:ByteArray) (r3:Int) (w:World) (h:num_Get.f k a0=some (r1,r2,r3)):
  Calls Try.prog 57 #[.string a0] w fun e w'=>e= .returned (.tuple #[.int .u64 r1,.string r2,.int .i64 r3])∧Below w.heap.size w w':=by
 have HB:=Ax (Below.refl w.heap.size w);have H:(num_Get.l0 k a0 0 (mn (a0.size:Int) 10) 0)=some (r1,r2,r3):=h;clear h;obtain⟨B,G⟩: ∃ j_:Int,(mn (a0.size:Int) 10)=j_:=⟨_,rfl⟩;replace H:(num_Get.l0 k a0 0 B 0)=some (r1,r2,r3):=by first|(rw [G]at H;exact H)|(simp only[G]at H ⊢;exact H)
 (try (have aC:B≤10:=by (rw [← G];unfold mn;(repeat' split) <;> omega)))
 (try (have aD:B≤64:=by omega))
 (try (have aE:0≤B:=by (rw [← G];unfold mn;(repeat' split) <;> omega)))
 (try (have aG:0≤B:=by omega))
 have aH:(if 10<(a0.size:Int) then 10 else (a0.size:Int))=B:=G;have H':=Ax H;clear H;go_enter Try.func57,Try.ntmps57;go_wp2
 repeat (go_quiet (fail);try go_wp2)
 go_loopg [5,11] k (fun kq v5 az w'=> ∃ (C:Int) (A:Int),v5= .int .u64 C∧az= .int .i64 A∧Aside0 (num_Get.l0 kq a0 C B A=some (r1,r2,r3))∧Aside0 (kq≤k)∧Aside0 (Below w.heap.size w w'))
 case atStart=>exact⟨(0),(0),rS,rS,H',⟨Nat.le_refl _⟩,⟨bw0 HB.out⟩⟩
 case round=>
  clear H';try clear p2
  obtain⟨C,A,rfl,rfl,HA,M,HB⟩:=hrel;cases gk with
  |zero=>exact absurd HA.out (by simp [num_Get.l0])
  |succ k1=>
   have H:=HA.out;clear HA;simp only[num_Get.l0]at H;by_cases c3:A<B
   ·rw [if_pos c3]at H;have ah:decide (A<B)=true:=dT c3;clear c3;by_cases c4:0≤A
    ·rw [if_pos c4]at H;have aq:decide (0≤A)=true:=dT c4;clear c4;by_cases c5:A<(a0.size:Int)
     ·rw [if_pos c5]at H;have ar:decide (A<(a0.size:Int))=true:=dT c5;clear c5;obtain⟨E,U⟩: ∃ j_:Int,(wrap64 (7 * A))=j_:=⟨_,rfl⟩;replace H:(if 0≤(E) then (if A=9 then (num_Get.j1 k1 a0 (Go.bits .or .u64 C (shl .u64 (IntKind.u64.wrap (Go.bits .andNot .u8 (bt a0 A) 128)) (E))) A (bt a0 A) B A (decide ((bt a0 A) > 1))) else (num_Get.j1 k1 a0 (Go.bits .or .u64 C (shl .u64 (IntKind.u64.wrap (Go.bits .andNot .u8 (bt a0 A) 128)) (E))) A (bt a0 A) B A false)) else (none))=some (r1,r2,r3):=by first|(rw [U]at H;exact H)|(simp only[U]at H ⊢;exact H)
      have aI:(IntKind.i64.wrap (7 * A))=E:=(i64_w _).trans U;by_cases c8:0≤(E)
      ·rw [if_pos c8]at H;have au:=eq_true c8;have av:decide (0≤(E))=true:=dT c8;clear c8;obtain⟨D,N⟩: ∃ j_:Int,(shl .u64 (IntKind.u64.wrap (Go.bits .andNot .u8 (bt a0 A) 128)) (E))=j_:=⟨_,rfl⟩;replace H:(if A=9 then (num_Get.j1 k1 a0 (Go.bits .or .u64 C (D)) A (bt a0 A) B A (decide ((bt a0 A) > 1))) else (num_Get.j1 k1 a0 (Go.bits .or .u64 C (D)) A (bt a0 A) B A false))=some (r1,r2,r3):=by first|(rw [N]at H;exact H)|(simp only[N]at H ⊢;exact H)
       have aJ:(IntKind.u64.wrap ((IntKind.u64.wrap (Go.bits .andNot .u8 (bt a0 A) 128)) * 2 ^ min (E).toNat 64))=D:=N;have aK:(E)≤64→(IntKind.u64.wrap ((IntKind.u64.wrap (Go.bits .andNot .u8 (bt a0 A) 128)) * 2 ^ (E).toNat))=D:=shl_small N;have aj:=Ax H;clear H;have p6:0≤(A:Int):=of_decide_eq_true (by first|(with_reducible assumption)|assumption);have q6:A<(a0.size:Int):=of_decide_eq_true (by first|(with_reducible assumption)|assumption);have aw:=bt_at a0 A;replace p6:=eq_true p6;replace q6:=eq_true q6;go_upto_region 7 with (fail)
       repeat (go_quiet (fail);go_upto_region 7 with (fail))
       go_cut [25] (fun al wc=> ∃ (kq:Nat) (ac:Bool),al= .bool ac∧Aside0 (num_Get.j1 kq a0 (Go.bits .or .u64 C (D)) A (bt a0 A) B A ac=some (r1,r2,r3))∧Aside0 (kq≤k1)∧Aside0 (Below w.heap.size w wc))
       case first=>
        have H:=aj.out;clear aj;by_cases F:A=9
        ·rw [if_pos F]at H;have O:(A==9)=true:=beq_iff_eq.mpr F;have am:(A !=9)=false:=bne_eq_false_iff_eq.mpr F;clear F
         (first|rw [O]|(simp only[i64_w,i32_w];rw [O])|skip)
         have H':=Ax H;clear H;go_wp2
         repeat (go_quiet (fail);try go_wp2)
         go_meet
         case rel=>exact⟨_,(decide ((bt a0 A) > 1)),rS,H',⟨by have:=M.out;first|omega|exact Nat.le_refl _⟩,⟨bw0 HB.out⟩⟩
        ·rw [if_neg F]at H;have O:(A==9)=false:=beq_eq_false_iff_ne.mpr F;have am:(A !=9)=true:=bne_iff_ne.mpr F
         (first|rw [O]|(simp only[i64_w,i32_w];rw [O])|skip)
         have H':=Ax H;clear H;go_wp2
         repeat (go_quiet (fail);try go_wp2)
         go_meet
         case rel=>exact⟨_,(false),rS,H',⟨by have:=M.out;first|omega|exact Nat.le_refl _⟩,⟨bw0 HB.out⟩⟩
       case rest=>
        clear aj;(try clear c1);(try clear p2 p2);(try clear c3);(try clear ah);(try clear c4);(try clear aq);(try clear c5);(try clear ar);(try clear p6 p6);(try clear q6 q6);(try clear aw);(try clear c8);(try clear au);(try clear av);(try clear F);(try clear O);(try clear am);obtain⟨kq,ac,rfl,HA,V,HB⟩:=hcut;cases kq with
        |zero=>exact absurd HA.out (by simp [num_Get.j1])
        |succ kj9=>
         have H:=HA.out;clear HA;simp only[num_Get.j1]at H;have ap:=Ax H;clear H;go_upto_if 25 with (fail)
         repeat (go_quiet (fail);go_upto_if 25 with (fail))
         go_cut [25] (fun al wc=> ∃ (kq:Nat) (ae:Bool),al= .bool ae∧Aside0 (num_Get.j2 kq a0 (Go.bits .or .u64 C (D)) A (bt a0 A) B A ae=some (r1,r2,r3))∧Aside0 (kq≤kj9)∧Aside0 (Below w.heap.size w wc))
         case first=>
          have H:=ap.out;clear ap;by_cases X:ac=true
          ·subst X;have H1:(num_Get.j2 kj9 a0 (Go.bits .or .u64 C (D)) A (bt a0 A) B A true)=some (r1,r2,r3):=by rw [if_pos rfl]at H;exact H
           clear H;have H:=H1;clear H1;have H':=Ax H;clear H;go_wp2
           repeat (go_quiet (fail);try go_wp2)
           go_meet
           case rel=>exact⟨_,(true),rS,H',⟨by have:=M.out;have:=V.out;first|omega|exact Nat.le_refl _⟩,⟨bw0 HB.out⟩⟩
          ·replace X:=Bool.eq_false_iff.mpr X;subst X;have H1:(if (bt a0 A)=0 then (num_Get.j2 kj9 a0 (Go.bits .or .u64 C (D)) A (bt a0 A) B A (decide (A > 0))) else (num_Get.j2 kj9 a0 (Go.bits .or .u64 C (D)) A (bt a0 A) B A false))=some (r1,r2,r3):=by rw [if_neg (show ¬ (false=true) by decide)]at H;exact H
           clear H;have H:=H1;clear H1;by_cases I:(bt a0 A)=0
           ·rw [if_pos I]at H;have R:((bt a0 A)==0)=true:=beq_iff_eq.mpr I;have ax:((bt a0 A) !=0)=false:=bne_eq_false_iff_eq.mpr I;clear I
            (first|rw [R]|(simp only[i64_w,i32_w];rw [R])|skip)
            have H':=Ax H;clear H;go_wp2
            repeat (go_quiet (fail);try go_wp2)
            go_meet
            case rel=>exact⟨_,(decide (A > 0)),rS,H',⟨by have:=M.out;have:=V.out;first|omega|exact Nat.le_refl _⟩,⟨bw0 HB.out⟩⟩
           ·rw [if_neg I]at H;have R:((bt a0 A)==0)=false:=beq_eq_false_iff_ne.mpr I;have ax:((bt a0 A) !=0)=true:=bne_iff_ne.mpr I
            (first|rw [R]|(simp only[i64_w,i32_w];rw [R])|skip)
            have H':=Ax H;clear H;go_wp2
            repeat (go_quiet (fail);try go_wp2)
            go_meet
            case rel=>exact⟨_,(false),rS,H',⟨by have:=M.out;have:=V.out;first|omega|exact Nat.le_refl _⟩,⟨bw0 HB.out⟩⟩
         case rest=>
          clear ap;(try clear c1);(try clear p2 p2);(try clear c3);(try clear ah);(try clear c4);(try clear aq);(try clear c5);(try clear ar);(try clear p6 p6);(try clear q6 q6);(try clear aw);(try clear c8);(try clear au);(try clear av);(try clear F);(try clear O);(try clear am);(try clear X);(try clear I);(try clear R);(try clear ax);obtain⟨kq,ae,rfl,HA,ay,HB⟩:=hcut;cases kq with
          |zero=>exact absurd HA.out (by simp [num_Get.j2])
          |succ kj11=>
           have H:=HA.out;clear HA;simp only[num_Get.j2]at H;by_cases af:ae=true
           ·subst af;have H1:(some (0,(⟨#[]⟩:ByteArray),7))=some (r1,r2,r3):=by rw [if_pos rfl]at H;exact H
            clear H;have H:=H1;clear H1;simp only[Option.some.injEq,Prod.mk.injEq]at H;obtain⟨rfl,rfl,rfl⟩:=H;go_wp2
            repeat (go_quiet (fail);try go_wp2)
            go_ret3;exact⟨by first|rfl|(simp [errW_none,errW_some] <;> rfl)|(simp only[← G, ← U, ← N];first|rfl|(simp [errW_none,errW_some] <;> rfl))|(simp [*,errW_none,errW_some] <;> rfl),bw0 HB.out⟩
           ·replace af:=Bool.eq_false_iff.mpr af;subst af;have H1:(if (bt a0 A)<128 then (if 0≤(wrap64 (A+1)) then (if (wrap64 (A+1))≤(a0.size:Int) then (some ((Go.bits .or .u64 C (D)),a0.extract ((wrap64 (A+1)):Int).toNat a0.size,0)) else (none)) else (none)) else (num_Get.l0 kj11 a0 (Go.bits .or .u64 C (D)) B (wrap64 (A+1))))=some (r1,r2,r3):=by rw [if_neg (show ¬ (false=true) by decide)]at H;exact H
            clear H;have H:=H1;clear H1;by_cases T:(bt a0 A)<128
            ·rw [if_pos T]at H;have aA:decide ((bt a0 A)<128)=true:=dT T;clear T;obtain⟨L,ag⟩: ∃ j_:Int,(wrap64 (A+1))=j_:=⟨_,rfl⟩;replace H:(if 0≤(L) then (if (L)≤(a0.size:Int) then (some ((Go.bits .or .u64 C (D)),a0.extract ((L):Int).toNat a0.size,0)) else (none)) else (none))=some (r1,r2,r3):=by first|(rw [ag]at H;exact H)|(simp only[ag]at H ⊢;exact H)
             have aM:(IntKind.i64.wrap (A+1))=L:=(i64_w _).trans ag;by_cases aa:0≤(L)
             ·rw [if_pos aa]at H;have aN:=eq_true aa;have aQ:decide (0≤(L))=true:=dT aa;clear aa;by_cases ab:(L)≤(a0.size:Int)
              ·rw [if_pos ab]at H;have aR:=eq_true ab;have aT:decide ((L)≤(a0.size:Int))=true:=dT ab;clear ab;simp only[Option.some.injEq,Prod.mk.injEq]at H;obtain⟨rfl,rfl,rfl⟩:=H;go_wp2
               repeat (go_quiet (fail);try go_wp2)
               go_ret3;exact⟨by first|rfl|(simp [errW_none,errW_some] <;> rfl)|(simp only[← G, ← U, ← N, ← ag];first|rfl|(simp [errW_none,errW_some] <;> rfl))|(simp [*,errW_none,errW_some] <;> rfl),bw0 HB.out⟩
              ·rw [if_neg ab]at H;exact absurd H (by simp)
             ·rw [if_neg aa]at H;exact absurd H (by simp)
            ·rw [if_neg T]at H;have aA:decide ((bt a0 A)<128)=false:=dF T;clear T;have H':=Ax H;clear H;go_wp2
             repeat (go_quiet (fail);try go_wp2)
             go_roundg kj11
             case measure=>have:=M.out;have:=V.out;have:=ay.out;omega
             case rel=>exact⟨((Go.bits .or .u64 C (D))),(wrap64 (A+1)),(by first|rfl|(simp;done)|(simp only[← N] <;> (first|rfl|simp))|(simp [*];done)),rS,H',⟨by have:=M.out;have:=V.out;have:=ay.out;omega⟩,⟨bw0 HB.out⟩⟩
      ·rw [if_neg c8]at H;exact absurd H (by simp)
     ·rw [if_neg c5]at H;exact absurd H (by simp)
    ·rw [if_neg c4]at H;exact absurd H (by simp)
   ·rw [if_neg c3]at H;have ah:decide (A<B)=false:=dF c3;clear c3;simp only[Option.some.injEq,Prod.mk.injEq]at H;obtain⟨rfl,rfl,rfl⟩:=H;go_wp2
    repeat (go_quiet (fail);try go_wp2)
    go_ret3;exact⟨by first|rfl|(simp [errW_none,errW_some] <;> rfl)|(simp only[← G];first|rfl|(simp [errW_none,errW_some] <;> rfl))|(simp [*,errW_none,errW_some] <;> rfl),bw0 HB.out⟩
def IsS83 (w0 W:World) (g:Nat) (f0:ByteArray) (f1:Int):Prop:=W.heap[g]? =some (.cells #[.string f0,.int .i64 f1] 83 (0,0))∧w0.heap.size≤g
theorem IsS83.grown {w0 W:World}{g:Nat}{f0:ByteArray}{f1:Int}{W1:World}{row:Option Nat} (h:IsS83 w0 W g f0 f1) (hw:W.grownBy W1 row) (aa:some g≠row):IsS83 w0 W1 g f0 f1:=by
 obtain⟨hb,hg⟩:=h;exact⟨blk_grown hb hw aa,hg⟩
theorem IsS83.kept {w0 W:World}{g:Nat}{f0:ByteArray}{f1:Int}{W1:World}{S:Nat→Prop} (h:IsS83 w0 W g f0 f1) (hk:Kept W W1 S) (aa: ¬ S g):IsS83 w0 W1 g f0 f1:=by
 obtain⟨hb,hg⟩:=h;exact⟨blk_kept hb hk aa,hg⟩
theorem IsS83.below {w0 W:World}{g:Nat}{f0:ByteArray}{f1:Int}{W1:World} (h:IsS83 w0 W g f0 f1) (hw:Below W.heap.size W W1):IsS83 w0 W1 g f0 f1:=h.grown (grown_of_below hw none) (by simp)
theorem IsS83.alloc {w0 W:World}{g:Nat}{f0:ByteArray}{f1:Int} (h:IsS83 w0 W g f0 f1) (o:Obj):IsS83 w0 (W.alloc o) g f0 f1:=h.below (below_alloc (Below.refl _ _) o)
theorem IsS83.drewN {w0 W:World}{g:Nat}{f0:ByteArray}{f1:Int} (h:IsS83 w0 W g f0 f1) (m:Nat):IsS83 w0 (W.drewN m) g f0 f1:=h
theorem IsS83.drew {w0 W:World}{g:Nat}{f0:ByteArray}{f1:Int} (h:IsS83 w0 W g f0 f1):IsS83 w0 W.drew g f0 f1:=h
theorem IsS83.at_ {w0 W:World}{g:Nat}{f0:ByteArray}{f1:Int}{w':World}{m:Nat} (hq:W.drewN m=w') (h:IsS83 w0 W g f0 f1):IsS83 w0 w' g f0 f1:=by subst hq;exact IsS83.drewN h m
theorem IsS83.apart {w0 W:World}{g:Nat}{f0:ByteArray}{f1:Int}{α:Type}{d:Kd α}{e:Nat}{base:Nat}{ok:Nat→Prop}{v:Value}{xs:List α} (h:IsS83 w0 W g f0 f1) (ho:d.R e W base ok v xs) (ht: ∀ q,q∈e :: d.E→q≠83):d.R e W base (fun k=>ok k∧k≠g) v xs:=by
 obtain⟨hb,hg⟩:=h;exact Kd.R_types ho hb ht
theorem IsS83.own_ne {w0 W:World}{g:Nat}{f0:ByteArray}{f1:Int}{α:Type}{d:Kd α}{e:Nat}{base:Nat}{ok:Nat→Prop}{v:Value}{xs:List α} (h:IsS83 w0 W g f0 f1) (ho:d.R e W base ok v xs) (ht:e≠83):some g≠v.ownBlock:=by
 obtain⟨hb,hg⟩:=h;exact Kd.R_ne ho hb ht
theorem IsS83.lt {w0 W:World}{g:Nat}{f0:ByteArray}{f1:Int} (h:IsS83 w0 W g f0 f1):g<W.heap.size:=by
 obtain⟨hb,hg⟩:=h;exact blk_lt hb
theorem IsS83.ge {w0 W:World}{g:Nat}{f0:ByteArray}{f1:Int} (h:IsS83 w0 W g f0 f1):w0.heap.size≤g:=by
 obtain⟨hb,hg⟩:=h;exact hg
theorem IsS83.far {w0 W:World}{g:Nat}{f0:ByteArray}{f1:Int}{p:Addr} (h:IsS83 w0 W g f0 f1) (aa:g≠p.block) (u:Value):IsS83 w0 (W.setCell p u) g f0 f1:=by
 obtain⟨hb,hg⟩:=h;exact⟨blk_far hb aa u,hg⟩
theorem cellS83_0 {W:World}{g:Nat}{f0:ByteArray}{f1:Int} (h:W.heap[g]? =some (.cells #[.string f0,.int .i64 f1] 83 (0,0))):W.cell? ⟨g,0,none⟩=some (.string f0):=(blk_cell h 0).trans rfl
theorem IsS83.set_0 {w0 W:World}{g:Nat}{f0:ByteArray}{f1:Int} (h:IsS83 w0 W g f0 f1) (x:ByteArray):IsS83 w0 (W.setCell ⟨g,0,none⟩ (.string x)) g x f1:=by
 obtain⟨hb,hg⟩:=h;exact⟨by simpa using blk_set hb 0 (.string x),hg⟩
theorem cellS83_1 {W:World}{g:Nat}{f0:ByteArray}{f1:Int} (h:W.heap[g]? =some (.cells #[.string f0,.int .i64 f1] 83 (0,0))):W.cell? ⟨g,1,none⟩=some (.int .i64 f1):=(blk_cell h 1).trans rfl
theorem IsS83.set_1 {w0 W:World}{g:Nat}{f0:ByteArray}{f1:Int} (h:IsS83 w0 W g f0 f1) (x:Int):IsS83 w0 (W.setCell ⟨g,1,none⟩ (.int .i64 x)) g f0 x:=by
 obtain⟨hb,hg⟩:=h;exact⟨by simpa using blk_set hb 1 (.int .i64 x),hg⟩
theorem IsS83.new (w0 W:World) (f0:ByteArray) (f1:Int) (hB:Below w0.heap.size w0 W):IsS83 w0 (W.alloc (.cells #[.string f0,.int .i64 f1] 83)) W.heap.size f0 f1:=⟨by simpa using heap_alloc_new W _,hB.size⟩
def num_Reader_Num.f (k:Nat) (B:ByteArray) (C:Int):Option (Int × ByteArray × Int):=if C=0 then ((num_Get.f k B).bind fun A=>(some (A.1,A.2.1,A.2.2))) else (some (0,B,C))
theorem num_Reader_Num.mono: ∀ a0 a1 k,LeO (num_Reader_Num.f k a0 a1) (num_Reader_Num.f (k+1) a0 a1):=by
 intro a0 a1 k;unfold num_Reader_Num.f
 repeat' first
   | (with_reducible exact num_Get.mono _ _)
   | (with_reducible exact LeO.refl _)
   | (with_reducible exact LeO.none _)
   | (with_reducible refine LeO.ite ?_ ?_)
   | (with_reducible refine LeO.bind ?_ (fun _ => ?_))
   | exact num_Get.mono _ _
   | exact LeO.none _
   | refine LeO.ite ?_ ?_
   | refine LeO.bind ?_ (fun _ => ?_)
set_option maxHeartbeats 8000000 in
set_option maxRecDepth 100000 in
theorem num_Reader_Num.calls (k:Nat) (g:Nat) (C:ByteArray) (B:Int) (r1:Int) (r2:ByteArray) (r3:Int) (w0 w:World) (hI:IsS83 w0 w g C B) (hB:Below w0.heap.size w0 w) (h:num_Reader_Num.f k C B=some (r1,r2,r3)):
  Calls Try.prog 34 #[.pointer (some ⟨g,0,none⟩)] w fun e w'=>e= .returned (.int .u64 r1)∧IsS83 w0 w' g r2 r3∧Below w0.heap.size w0 w'∧KeepBut w w' g none:=by
 have A:=Ax hI;have HK:=Ax (KeepBut.refl w g none);have HL:=Ax hB.size;clear hI;have al:=Ax hB.size;have HB:=Ax hB;clear hB;have H:(if B=0 then ((num_Get.f k C).bind fun G=>(some (G.1,G.2.1,G.2.2))) else (some (0,C,B)))=some (r1,r2,r3):=h;clear h;by_cases c2:B=0;·rw [if_pos c2]at H;have aa:(B==0)=true:=beq_iff_eq.mpr c2;have ab:(B !=0)=false:=bne_eq_false_iff_eq.mpr c2;clear c2;replace H:=bI H;obtain⟨⟨ac,ae,af⟩,I,H⟩:=H;dsimp only at H;have A3:=Ax I;clear I;simp only[Option.some.injEq,Prod.mk.injEq]at H;obtain⟨rfl,rfl,rfl⟩:=H;obtain⟨D,ag⟩:=A.out;have am:=cellS83_0 D;have ap:=cellS83_1 D;have aq:=blk_frozen D 0;have ar:=blk_frozen D 1;clear D ag;go_enter Try.func34,Try.ntmps34;go_wp2_with (first|((with_reducible refine gate_callee (f:=57) rfl ?_);refine goesL_ (some 16) rfl rfl Try.func57 (by kernel_rfl) rfl #[.string C] rfl gS ?_;(with_reducible refine (num_Get.calls k C ac ae af _ A3.out).mono ?_);rintro e w5 ⟨rfl,hb⟩;refine⟨_,rfl,?_⟩;replace HK:=Ax (KeepBut.trans (by repeat (first|(with_reducible first|exact HK.out|apply KeepBut.set_|apply keep_drewN|apply keep_drew|apply keep_alloc)|exact HK.out)) (KeepBut.of_below hb g none) (.inl rfl));replace HB:=Bs1 HB hb (IsS83.ge A.out);replace A:=Ax (IsS83.below (by repeat (first|(with_reducible first|exact A.out|apply IsS83.alloc|apply IsS83.drewN|apply IsS83.drew|apply IsS83.set_0|apply IsS83.set_1)|exact A.out)) hb);(try clear hb);obtain⟨E,ah⟩:=A.out;have au:=cellS83_0 E;have av:=cellS83_1 E;have aw:=blk_frozen E 0;have ax:=blk_frozen E 1;clear E ah));go_ret;exact⟨eS,by repeat (first|(with_reducible first|exact A.out|apply IsS83.alloc|apply IsS83.drewN|apply IsS83.drew|apply IsS83.set_0|apply IsS83.set_1)|exact A.out),bw1 HB.out (IsS83.ge A.out),by repeat (first|(with_reducible first|exact HK.out|apply KeepBut.set_|apply keep_drewN|apply keep_drew|apply keep_alloc)|exact HK.out)⟩
 ·rw [if_neg c2]at H;have aa:(B==0)=false:=beq_eq_false_iff_ne.mpr c2;have ab:(B !=0)=true:=bne_iff_ne.mpr c2;simp only[Option.some.injEq,Prod.mk.injEq]at H;obtain⟨rfl,rfl,rfl⟩:=H;obtain⟨F,aj⟩:=A.out;have ay:=cellS83_0 F;have az:=cellS83_1 F;have aA:=blk_frozen F 0;have aC:=blk_frozen F 1;clear F aj;go_enter Try.func34,Try.ntmps34;go_wp2;go_ret;exact⟨eS,by repeat (first|(with_reducible first|exact A.out|apply IsS83.alloc|apply IsS83.drewN|apply IsS83.drew|apply IsS83.set_0|apply IsS83.set_1)|exact A.out),bw1 HB.out (IsS83.ge A.out),by repeat (first|(with_reducible first|exact HK.out|apply KeepBut.set_|apply keep_drewN|apply keep_drew|apply keep_alloc)|exact HK.out)⟩
set_option maxHeartbeats 8000000 in
set_option maxRecDepth 100000 in
theorem num_Reader_Num.calls85 (k:Nat) (g:Nat) (C:ByteArray) (B:Int) (r1:Int) (r2:ByteArray) (r3:Int) (w0 w:World) (hI:IsS85 w0 w g C B) (hB:Below w0.heap.size w0 w) (h:num_Reader_Num.f k C B=some (r1,r2,r3)):
  Calls Try.prog 34 #[.pointer (some ⟨g,0,none⟩)] w fun e w'=>e= .returned (.int .u64 r1)∧IsS85 w0 w' g r2 r3∧Below w0.heap.size w0 w'∧KeepBut w w' g none:=by
 have A:=Ax hI;have HK:=Ax (KeepBut.refl w g none);have HL:=Ax hB.size;clear hI;have al:=Ax hB.size;have HB:=Ax hB;clear hB;have H:(if B=0 then ((num_Get.f k C).bind fun G=>(some (G.1,G.2.1,G.2.2))) else (some (0,C,B)))=some (r1,r2,r3):=h;clear h;by_cases c2:B=0;·rw [if_pos c2]at H;have aa:(B==0)=true:=beq_iff_eq.mpr c2;have ab:(B !=0)=false:=bne_eq_false_iff_eq.mpr c2;clear c2;replace H:=bI H;obtain⟨⟨ac,ae,af⟩,I,H⟩:=H;dsimp only at H;have A3:=Ax I;clear I;simp only[Option.some.injEq,Prod.mk.injEq]at H;obtain⟨rfl,rfl,rfl⟩:=H;obtain⟨D,ag⟩:=A.out;have am:=cellS85_0 D;have ap:=cellS85_1 D;have aq:=blk_frozen D 0;have ar:=blk_frozen D 1;clear D ag;go_enter Try.func34,Try.ntmps34;go_wp2_with (first|((with_reducible refine gate_callee (f:=57) rfl ?_);refine goesL_ (some 16) rfl rfl Try.func57 (by kernel_rfl) rfl #[.string C] rfl gS ?_;(with_reducible refine (num_Get.calls k C ac ae af _ A3.out).mono ?_);rintro e w5 ⟨rfl,hb⟩;refine⟨_,rfl,?_⟩;replace HK:=Ax (KeepBut.trans (by repeat (first|(with_reducible first|exact HK.out|apply KeepBut.set_|apply keep_drewN|apply keep_drew|apply keep_alloc)|exact HK.out)) (KeepBut.of_below hb g none) (.inl rfl));replace HB:=Bs1 HB hb (IsS85.ge A.out);replace A:=Ax (IsS85.below (by repeat (first|(with_reducible first|exact A.out|apply IsS85.alloc|apply IsS85.drewN|apply IsS85.drew|apply IsS85.set_0|apply IsS85.set_1)|exact A.out)) hb);(try clear hb);obtain⟨E,ah⟩:=A.out;have au:=cellS85_0 E;have av:=cellS85_1 E;have aw:=blk_frozen E 0;have ax:=blk_frozen E 1;clear E ah));go_ret;exact⟨eS,by repeat (first|(with_reducible first|exact A.out|apply IsS85.alloc|apply IsS85.drewN|apply IsS85.drew|apply IsS85.set_0|apply IsS85.set_1)|exact A.out),bw1 HB.out (IsS85.ge A.out),by repeat (first|(with_reducible first|exact HK.out|apply KeepBut.set_|apply keep_drewN|apply keep_drew|apply keep_alloc)|exact HK.out)⟩
 ·rw [if_neg c2]at H;have aa:(B==0)=false:=beq_eq_false_iff_ne.mpr c2;have ab:(B !=0)=true:=bne_iff_ne.mpr c2;simp only[Option.some.injEq,Prod.mk.injEq]at H;obtain⟨rfl,rfl,rfl⟩:=H;obtain⟨F,aj⟩:=A.out;have ay:=cellS85_0 F;have az:=cellS85_1 F;have aA:=blk_frozen F 0;have aC:=blk_frozen F 1;clear F aj;go_enter Try.func34,Try.ntmps34;go_wp2;go_ret;exact⟨eS,by repeat (first|(with_reducible first|exact A.out|apply IsS85.alloc|apply IsS85.drewN|apply IsS85.drew|apply IsS85.set_0|apply IsS85.set_1)|exact A.out),bw1 HB.out (IsS85.ge A.out),by repeat (first|(with_reducible first|exact HK.out|apply KeepBut.set_|apply keep_drewN|apply keep_drew|apply keep_alloc)|exact HK.out)⟩
def num_Reader_Many.f (k:Nat) (aa:ByteArray) (ab:Int) (a1:Int):Option (Int × ByteArray × Int):=(num_Reader_Num.f k aa ab).bind fun A=>(if A.1 > (IntKind.u64.wrap (a1)) then (some (0,A.2.1,7)) else (some (wrap64 (A.1),A.2.1,A.2.2)))
theorem num_Reader_Many.mono: ∀ a0 a1 a2 k,LeO (num_Reader_Many.f k a0 a1 a2) (num_Reader_Many.f (k+1) a0 a1 a2):=by
 intro a0 a1 a2 k;unfold num_Reader_Many.f
 repeat' first
   | (with_reducible exact num_Reader_Num.mono _ _ _)
   | (with_reducible exact LeO.refl _)
   | (with_reducible exact LeO.none _)
   | (with_reducible refine LeO.ite ?_ ?_)
   | (with_reducible refine LeO.bind ?_ (fun _ => ?_))
   | exact num_Reader_Num.mono _ _ _
   | exact LeO.none _
   | refine LeO.ite ?_ ?_
   | refine LeO.bind ?_ (fun _ => ?_)
set_option maxHeartbeats 8000000 in
set_option maxRecDepth 100000 in
theorem num_Reader_Many.calls (k:Nat) (g:Nat) (B:ByteArray) (C:Int) (a1:Int) (r1:Int) (r2:ByteArray) (r3:Int) (w0 w:World) (hI:IsS83 w0 w g B C) (hB:Below w0.heap.size w0 w) (h:num_Reader_Many.f k B C a1=some (r1,r2,r3)):
  Calls Try.prog 33 #[.pointer (some ⟨g,0,none⟩),.int .i64 a1] w fun e w'=>e= .returned (.int .i64 r1)∧IsS83 w0 w' g r2 r3∧Below w0.heap.size w0 w'∧KeepBut w w' g none:=by
 have A:=Ax hI;have HK:=Ax (KeepBut.refl w g none);have HL:=Ax hB.size;clear hI;have ac:=Ax hB.size;have HB:=Ax hB;clear hB;have H:((num_Reader_Num.f k B C).bind fun D=>(if D.1 > (IntKind.u64.wrap (a1)) then (some (0,D.2.1,7)) else (some (wrap64 (D.1),D.2.1,D.2.2))))=some (r1,r2,r3):=h;clear h;replace H:=bI H;obtain⟨⟨E,G,I⟩,L,H⟩:=H;dsimp only at H;have A3:=Ax L;clear L;by_cases c4:E > (IntKind.u64.wrap (a1));·rw [if_pos c4]at H;have aa:decide ((IntKind.u64.wrap (a1))<E)=true:=dT c4;clear c4;simp only[Option.some.injEq,Prod.mk.injEq]at H;obtain⟨rfl,rfl,rfl⟩:=H;go_enter Try.func33,Try.ntmps33;go_wp2_with (first|((with_reducible refine gate_callee (f:=34) rfl ?_);refine goesL_ (some 7) rfl rfl Try.func34 (by kernel_rfl) rfl #[.pointer (some ⟨g,0,none⟩)] rfl gS ?_;(with_reducible refine (num_Reader_Num.calls k g B C E G I w0 _ ?side1 ?side2 A3.out).mono ?_);(case side1=>repeat (first|(with_reducible first|exact A.out|apply IsS83.alloc|apply IsS83.drewN|apply IsS83.drew|apply IsS83.set_0|apply IsS83.set_1)|exact A.out));(case side2=>repeat (first|(with_reducible first|exact HB.out|apply below_alloc|apply pw_below_drewN|apply below_drew1|refine below_set ?_ (IsS83.ge A.out))|exact HB.out));rintro e w5 ⟨rfl,hi,hb,hk⟩;refine⟨_,rfl,?_⟩;replace HK:=Ax (KeepBut.trans (by repeat (first|(with_reducible first|exact HK.out|apply KeepBut.set_|apply keep_drewN|apply keep_drew|apply keep_alloc)|exact HK.out)) hk (.inl rfl));replace HB:=Ax (hb);replace A:=Ax (hi);(try clear hb);(try clear hb2);(try clear hk);(try clear hi);obtain⟨F,ab⟩:=A.out;have ae:=cellS83_0 F;have af:=cellS83_1 F;have ag:=blk_frozen F 0;have ah:=blk_frozen F 1;clear F ab));go_ret;exact⟨eS,by repeat (first|(with_reducible first|exact A.out|apply IsS83.alloc|apply IsS83.drewN|apply IsS83.drew|apply IsS83.set_0|apply IsS83.set_1)|exact A.out),bw1 HB.out (IsS83.ge A.out),by repeat (first|(with_reducible first|exact HK.out|apply KeepBut.set_|apply keep_drewN|apply keep_drew|apply keep_alloc)|exact HK.out)⟩
 ·rw [if_neg c4]at H;have aa:decide ((IntKind.u64.wrap (a1))<E)=false:=dF c4;clear c4;simp only[Option.some.injEq,Prod.mk.injEq]at H;obtain⟨rfl,rfl,rfl⟩:=H;go_enter Try.func33,Try.ntmps33;go_wp2_with (first|((with_reducible refine gate_callee (f:=34) rfl ?_);refine goesL_ (some 7) rfl rfl Try.func34 (by kernel_rfl) rfl #[.pointer (some ⟨g,0,none⟩)] rfl gS ?_;(with_reducible refine (num_Reader_Num.calls k g B C E G I w0 _ ?side1 ?side2 A3.out).mono ?_);(case side1=>repeat (first|(with_reducible first|exact A.out|apply IsS83.alloc|apply IsS83.drewN|apply IsS83.drew|apply IsS83.set_0|apply IsS83.set_1)|exact A.out));(case side2=>repeat (first|(with_reducible first|exact HB.out|apply below_alloc|apply pw_below_drewN|apply below_drew1|refine below_set ?_ (IsS83.ge A.out))|exact HB.out));rintro e w7 ⟨rfl,hi,hb,hk⟩;refine⟨_,rfl,?_⟩;replace HK:=Ax (KeepBut.trans (by repeat (first|(with_reducible first|exact HK.out|apply KeepBut.set_|apply keep_drewN|apply keep_drew|apply keep_alloc)|exact HK.out)) hk (.inl rfl));replace HB:=Ax (hb);replace A:=Ax (hi);(try clear hb);(try clear hb2);(try clear hk);(try clear hi)));go_ret;exact⟨eS,by repeat (first|(with_reducible first|exact A.out|apply IsS83.alloc|apply IsS83.drewN|apply IsS83.drew|apply IsS83.set_0|apply IsS83.set_1)|exact A.out),bw1 HB.out (IsS83.ge A.out),by repeat (first|(with_reducible first|exact HK.out|apply KeepBut.set_|apply keep_drewN|apply keep_drew|apply keep_alloc)|exact HK.out)⟩
set_option maxHeartbeats 8000000 in
set_option maxRecDepth 100000 in
theorem num_Reader_Many.calls85 (k:Nat) (g:Nat) (B:ByteArray) (C:Int) (a1:Int) (r1:Int) (r2:ByteArray) (r3:Int) (w0 w:World) (hI:IsS85 w0 w g B C) (hB:Below w0.heap.size w0 w) (h:num_Reader_Many.f k B C a1=some (r1,r2,r3)):
  Calls Try.prog 33 #[.pointer (some ⟨g,0,none⟩),.int .i64 a1] w fun e w'=>e= .returned (.int .i64 r1)∧IsS85 w0 w' g r2 r3∧Below w0.heap.size w0 w'∧KeepBut w w' g none:=by
 have A:=Ax hI;have HK:=Ax (KeepBut.refl w g none);have HL:=Ax hB.size;clear hI;have ac:=Ax hB.size;have HB:=Ax hB;clear hB;have H:((num_Reader_Num.f k B C).bind fun D=>(if D.1 > (IntKind.u64.wrap (a1)) then (some (0,D.2.1,7)) else (some (wrap64 (D.1),D.2.1,D.2.2))))=some (r1,r2,r3):=h;clear h;replace H:=bI H;obtain⟨⟨E,G,I⟩,L,H⟩:=H;dsimp only at H;have A3:=Ax L;clear L;by_cases c4:E > (IntKind.u64.wrap (a1));·rw [if_pos c4]at H;have aa:decide ((IntKind.u64.wrap (a1))<E)=true:=dT c4;clear c4;simp only[Option.some.injEq,Prod.mk.injEq]at H;obtain⟨rfl,rfl,rfl⟩:=H;go_enter Try.func33,Try.ntmps33;go_wp2_with (first|((with_reducible refine gate_callee (f:=34) rfl ?_);refine goesL_ (some 7) rfl rfl Try.func34 (by kernel_rfl) rfl #[.pointer (some ⟨g,0,none⟩)] rfl gS ?_;(with_reducible refine (num_Reader_Num.calls85 k g B C E G I w0 _ ?side1 ?side2 A3.out).mono ?_);(case side1=>repeat (first|(with_reducible first|exact A.out|apply IsS85.alloc|apply IsS85.drewN|apply IsS85.drew|apply IsS85.set_0|apply IsS85.set_1)|exact A.out));(case side2=>repeat (first|(with_reducible first|exact HB.out|apply below_alloc|apply pw_below_drewN|apply below_drew1|refine below_set ?_ (IsS85.ge A.out))|exact HB.out));rintro e w5 ⟨rfl,hi,hb,hk⟩;refine⟨_,rfl,?_⟩;replace HK:=Ax (KeepBut.trans (by repeat (first|(with_reducible first|exact HK.out|apply KeepBut.set_|apply keep_drewN|apply keep_drew|apply keep_alloc)|exact HK.out)) hk (.inl rfl));replace HB:=Ax (hb);replace A:=Ax (hi);(try clear hb);(try clear hb2);(try clear hk);(try clear hi);obtain⟨F,ab⟩:=A.out;have ae:=cellS85_0 F;have af:=cellS85_1 F;have ag:=blk_frozen F 0;have ah:=blk_frozen F 1;clear F ab));go_ret;exact⟨eS,by repeat (first|(with_reducible first|exact A.out|apply IsS85.alloc|apply IsS85.drewN|apply IsS85.drew|apply IsS85.set_0|apply IsS85.set_1)|exact A.out),bw1 HB.out (IsS85.ge A.out),by repeat (first|(with_reducible first|exact HK.out|apply KeepBut.set_|apply keep_drewN|apply keep_drew|apply keep_alloc)|exact HK.out)⟩
 ·rw [if_neg c4]at H;have aa:decide ((IntKind.u64.wrap (a1))<E)=false:=dF c4;clear c4;simp only[Option.some.injEq,Prod.mk.injEq]at H;obtain⟨rfl,rfl,rfl⟩:=H;go_enter Try.func33,Try.ntmps33;go_wp2_with (first|((with_reducible refine gate_callee (f:=34) rfl ?_);refine goesL_ (some 7) rfl rfl Try.func34 (by kernel_rfl) rfl #[.pointer (some ⟨g,0,none⟩)] rfl gS ?_;(with_reducible refine (num_Reader_Num.calls85 k g B C E G I w0 _ ?side1 ?side2 A3.out).mono ?_);(case side1=>repeat (first|(with_reducible first|exact A.out|apply IsS85.alloc|apply IsS85.drewN|apply IsS85.drew|apply IsS85.set_0|apply IsS85.set_1)|exact A.out));(case side2=>repeat (first|(with_reducible first|exact HB.out|apply below_alloc|apply pw_below_drewN|apply below_drew1|refine below_set ?_ (IsS85.ge A.out))|exact HB.out));rintro e w7 ⟨rfl,hi,hb,hk⟩;refine⟨_,rfl,?_⟩;replace HK:=Ax (KeepBut.trans (by repeat (first|(with_reducible first|exact HK.out|apply KeepBut.set_|apply keep_drewN|apply keep_drew|apply keep_alloc)|exact HK.out)) hk (.inl rfl));replace HB:=Ax (hb);replace A:=Ax (hi);(try clear hb);(try clear hb2);(try clear hk);(try clear hi)));go_ret;exact⟨eS,by repeat (first|(with_reducible first|exact A.out|apply IsS85.alloc|apply IsS85.drewN|apply IsS85.drew|apply IsS85.set_0|apply IsS85.set_1)|exact A.out),bw1 HB.out (IsS85.ge A.out),by repeat (first|(with_reducible first|exact HK.out|apply KeepBut.set_|apply keep_drewN|apply keep_drew|apply keep_alloc)|exact HK.out)⟩
def msg_iface.f (a0:Int):Option (Bool):=if a0 ≥ 0 then (some (decide (a0≤65536))) else (some false)
set_option maxHeartbeats 8000000 in
set_option maxRecDepth 100000 in
theorem msg_iface.calls (a0:Int) (r:Bool) (w:World) (h:msg_iface.f a0=some r):
  Calls Try.prog 62 #[.int .i64 a0] w fun e w'=>e= .returned (.bool r)∧Drawn0 w w':=by
 have H:(if a0 ≥ 0 then (some (decide (a0≤65536))) else (some false))=some r:=h;clear h;by_cases c2:a0 ≥ 0;·rw [if_pos c2]at H;have aa:decide (0≤a0)=true:=dT c2;clear c2;obtain rfl:=Option.some.inj H;go_enter Try.func62,Try.ntmps62;go_wp2;go_ret;exact⟨by first|rfl|(simp;done)|(simp [*];done),by repeat (first|exact Drawn0.refl _|apply Drawn0.step)⟩
 ·rw [if_neg c2]at H;have aa:decide (0≤a0)=false:=dF c2;clear c2;obtain rfl:=Option.some.inj H;go_enter Try.func62,Try.ntmps62;go_wp2;go_ret;exact⟨by first|rfl|(simp;done)|(simp [*];done),by repeat (first|exact Drawn0.refl _|apply Drawn0.step)⟩
def msg_acts.f (A:Int) (B:Int):Option (Bool):=if A=1 then ((msg_iface.f B).bind fun aa=>(some aa)) else (if A=2 then (some (B==0)) else (if A=3 then (some (B==0)) else (some false)))
set_option maxHeartbeats 8000000 in
set_option maxRecDepth 100000 in
theorem msg_acts.calls (A:Int) (B:Int) (r:Bool) (w:World) (h:msg_acts.f A B=some r):
  Calls Try.prog 60 #[.agg #[.int .u8 A,.int .i64 B]] w fun e w'=>e= .returned (.bool r)∧Below w.heap.size w w':=by
 have ah:=Try.underlying33;have HB:=Ax (Below.refl w.heap.size w);have H:(if A=1 then ((msg_iface.f B).bind fun F=>(some F)) else (if A=2 then (some (B==0)) else (if A=3 then (some (B==0)) else (some false))))=some r:=h;clear h;by_cases c2:A=1;·rw [if_pos c2]at H;have aa:(A==1)=true:=beq_iff_eq.mpr c2;have ab:(A !=1)=false:=bne_eq_false_iff_eq.mpr c2;clear c2;replace H:=bI H;obtain⟨F,L,H⟩:=H;(try dsimp only at H);have A3:=Ax L;clear L;obtain rfl:=Option.some.inj H;go_enter Try.func60,Try.ntmps60;go_wp2_with (first|((with_reducible refine gate_dst (N:=1) rfl ?_);refine bX (N:=1) (cs:= #[.int .u8 A,.int .i64 B]) (t:=33) ?_;intro G hg w4 C hb;have D:=Ax (C);have I:=Gw0 HB hg;have E:=Gw0 HB hg;replace HB:=Bs0 HB hb;clear hb C hg;obtain⟨aj,al,am,ap⟩:=cl2 D)|((with_reducible refine gate_callee (f:=62) rfl ?_);refine goesL_ (some 9) rfl rfl Try.func62 (by kernel_rfl) rfl #[.int .i64 B] rfl gS ?_;(with_reducible refine (msg_iface.calls B F _ A3.out).mono ?_);rintro e w' ⟨rfl,⟨nd,rfl⟩⟩;refine⟨_,rfl,?_⟩));go_ret;exact⟨eS,bw1 HB.out E.out⟩
 ·rw [if_neg c2]at H;have aa:(A==1)=false:=beq_eq_false_iff_ne.mpr c2;have ab:(A !=1)=true:=bne_iff_ne.mpr c2;by_cases c6:A=2;·rw [if_pos c6]at H;have ac:(A==2)=true:=beq_iff_eq.mpr c6;have ae:(A !=2)=false:=bne_eq_false_iff_eq.mpr c6;clear c6;obtain rfl:=Option.some.inj H;go_enter Try.func60,Try.ntmps60;go_wp2_with (first|((with_reducible refine gate_dst (N:=1) rfl ?_);refine bX (N:=1) (cs:= #[.int .u8 A,.int .i64 B]) (t:=33) ?_;intro G hg w7 C hb;have D:=Ax (C);have I:=Gw0 HB hg;have E:=Gw0 HB hg;replace HB:=Bs0 HB hb;clear hb C hg;obtain⟨aq,ar,au,av⟩:=cl2 D));go_ret;exact⟨eS,bw1 HB.out E.out⟩
  ·rw [if_neg c6]at H;have ac:(A==2)=false:=beq_eq_false_iff_ne.mpr c6;have ae:(A !=2)=true:=bne_iff_ne.mpr c6;by_cases c9:A=3;·rw [if_pos c9]at H;have af:(A==3)=true:=beq_iff_eq.mpr c9;have ag:(A !=3)=false:=bne_eq_false_iff_eq.mpr c9;clear c9;obtain rfl:=Option.some.inj H;go_enter Try.func60,Try.ntmps60;go_wp2_with (first|((with_reducible refine gate_dst (N:=1) rfl ?_);refine bX (N:=1) (cs:= #[.int .u8 A,.int .i64 B]) (t:=33) ?_;intro G hg aw C hb;have D:=Ax (C);have I:=Gw0 HB hg;have E:=Gw0 HB hg;replace HB:=Bs0 HB hb;clear hb C hg;obtain⟨ax,ay,az,aA⟩:=cl2 D));go_ret;exact⟨eS,bw1 HB.out E.out⟩
   ·rw [if_neg c9]at H;have af:(A==3)=false:=beq_eq_false_iff_ne.mpr c9;have ag:(A !=3)=true:=bne_iff_ne.mpr c9;obtain rfl:=Option.some.inj H;go_enter Try.func60,Try.ntmps60;go_wp2_with (first|((with_reducible refine gate_dst (N:=1) rfl ?_);refine bX (N:=1) (cs:= #[.int .u8 A,.int .i64 B]) (t:=33) ?_;intro G hg aC C hb;have D:=Ax (C);have I:=Gw0 HB hg;have E:=Gw0 HB hg;replace HB:=Bs0 HB hb;clear hb C hg;obtain⟨aD,aE,aG,aH⟩:=cl2 D));go_ret;exact⟨eS,bw1 HB.out E.out⟩
def msg_GetAction.f (k:Nat) (a0:ByteArray):Option (Int × Int × ByteArray × Int):=if a0.toList=([]:List UInt8) then (some (0,0,(⟨#[]⟩:ByteArray),7)) else (if 1≤(a0.size:Int) then (if 0<(a0.size:Int) then (if (bt a0 0)=1 then ((num_Reader_Many.f k (a0.extract 1 a0.size) 0 65536).bind fun A=>(if A.2.2=0 then ((msg_acts.f (bt a0 0) A.1).bind fun aa=>(if aa=true then (some (bt a0 0,A.1,A.2.1,0)) else (some (0,0,(⟨#[]⟩:ByteArray),7)))) else (some (0,0,(⟨#[]⟩:ByteArray),7)))) else ((msg_acts.f (bt a0 0) 0).bind fun ab=>(if ab=true then (some (bt a0 0,0,a0.extract 1 a0.size,0)) else (some (0,0,(⟨#[]⟩:ByteArray),7))))) else (none)) else (none))
theorem msg_GetAction.mono: ∀ a0 k,LeO (msg_GetAction.f k a0) (msg_GetAction.f (k+1) a0):=by
 intro a0 k;unfold msg_GetAction.f
 repeat' first
   | (with_reducible exact num_Reader_Many.mono _ _ _ _)
   | (with_reducible exact LeO.refl _)
   | (with_reducible exact LeO.none _)
   | (with_reducible refine LeO.ite ?_ ?_)
   | (with_reducible refine LeO.bind ?_ (fun _ => ?_))
   | exact num_Reader_Many.mono _ _ _ _
   | exact LeO.none _
   | refine LeO.ite ?_ ?_
   | refine LeO.bind ?_ (fun _ => ?_)
def msg_GetAction.T9:Bool × List (List Nat × List Nat):=(true, [([], []),([], []),([1], [1]),([2], [2]),([3], [3]),([0,0], [0]),([4,5,0,1,2,3,4,5], [4]),([6,0,1,2,3,4,5,6], [])])
def msg_GetAction.B9:List Nat:= [0,0,2,6,14,1,63,127]
theorem msg_GetAction.tab9:rtab .any (opsOf Try.f38 9)=msg_GetAction.T9:=by kernel_rfl
theorem msg_GetAction.bits9:waitsOk msg_GetAction.T9.2 msg_GetAction.B9=true:=by kernel_rfl
set_option maxHeartbeats 8000000 in
set_option maxRecDepth 100000 in
theorem msg_GetAction.calls (k:Nat) (a0:ByteArray) (r1:Int) (r2:Int) (r3:ByteArray) (r4:Int) (w:World) (h:msg_GetAction.f k a0=some (r1,r2,r3,r4)):
  Calls Try.prog 38 #[.string a0] w fun e w'=>e= .returned (.tuple #[.agg #[.int .u8 r1,.int .i64 r2],.string r3,.int .i64 r4])∧Below w.heap.size w w':=by
 have aU:=Try.underlying33;have aV:=Try.underlying83;have HB:=Ax (Below.refl w.heap.size w);have H:(if a0.toList=([]:List UInt8) then (some (0,0,(⟨#[]⟩:ByteArray),7)) else (if 1≤(a0.size:Int) then (if 0<(a0.size:Int) then (if (bt a0 0)=1 then ((num_Reader_Many.f k (a0.extract 1 a0.size) 0 65536).bind fun al=>(if al.2.2=0 then ((msg_acts.f (bt a0 0) al.1).bind fun aw=>(if aw=true then (some (bt a0 0,al.1,al.2.1,0)) else (some (0,0,(⟨#[]⟩:ByteArray),7)))) else (some (0,0,(⟨#[]⟩:ByteArray),7)))) else ((msg_acts.f (bt a0 0) 0).bind fun ax=>(if ax=true then (some (bt a0 0,0,a0.extract 1 a0.size,0)) else (some (0,0,(⟨#[]⟩:ByteArray),7))))) else (none)) else (none)))=some (r1,r2,r3,r4):=h;clear h;by_cases c2:a0.toList=([]:List UInt8);·rw [if_pos c2]at H;have aE:(a0.toList==([]:List UInt8))=true:=beq_iff_eq.mpr c2;have aG:(a0.toList !=([]:List UInt8))=false:=bne_eq_false_iff_eq.mpr c2;clear c2;simp only[Option.some.injEq,Prod.mk.injEq]at H;obtain⟨rfl,rfl,rfl,rfl⟩:=H;go_enter Try.func38,Try.ntmps38;go_wp2_with (first|((with_reducible refine gate_dst (N:=2) rfl ?_);refine bX (N:=2) (cs:= #[.int .u8 0,.int .i64 0]) (t:=33) ?_;intro O hg w3 D hb;have A:=Ax (D);have ag:=Gw0 HB hg;have C:=Gw0 HB hg;replace HB:=Bs0 HB hb;clear hb D hg;obtain⟨aW,aY,aZ,b2⟩:=cl2 A));refine bodyPost_ret (results_ctt rfl _ _ O 33 #[.int .u8 0,.int .i64 0] (0,0) _ rfl (gB A.out) Try.underlying33 rfl (by kernel_rfl)) rfl ?_;exact⟨eS,bw1 HB.out C.out⟩
 ·rw [if_neg c2]at H;have aE:(a0.toList==([]:List UInt8))=false:=beq_eq_false_iff_ne.mpr c2;have aG:(a0.toList !=([]:List UInt8))=true:=bne_iff_ne.mpr c2;by_cases c5:1≤(a0.size:Int)
  ·rw [if_pos c5]at H;have b3:=eq_true c5;have b4:decide (1≤(a0.size:Int))=true:=dT c5;clear c5;by_cases c6:0<(a0.size:Int)
   ·rw [if_pos c6]at H;have b5:decide (0<(a0.size:Int))=true:=dT c6;have b6:decide (0<a0.size)=true:=dT (by omega);clear c6;by_cases c8:(bt a0 0)=1
    ·rw [if_pos c8]at H;have aH:((bt a0 0)==1)=true:=beq_iff_eq.mpr c8;have aI:((bt a0 0) !=1)=false:=bne_eq_false_iff_eq.mpr c8;clear c8;replace H:=bI H;obtain⟨⟨ae,ah,af⟩,ay,H⟩:=H;dsimp only at H;have A9:=Ax ay;clear ay;by_cases c10:af=0
     ·rw [if_pos c10]at H;have aJ:(af==0)=true:=beq_iff_eq.mpr c10;have aK:(af !=0)=false:=bne_eq_false_iff_eq.mpr c10;clear c10;replace H:=bI H;obtain⟨aw,az,H⟩:=H;(try dsimp only at H);have aA:=Ax az;clear az;by_cases am:aw=true
      ·subst am;have H1:(some (bt a0 0,ae,ah,0))=some (r1,r2,r3,r4):=by rw [if_pos rfl]at H;exact H
       clear H;have H:=H1;clear H1;simp only[Option.some.injEq,Prod.mk.injEq]at H;obtain⟨rfl,rfl,rfl,rfl⟩:=H;go_enter Try.func38,Try.ntmps38;try go_wp2_with (first|((with_reducible refine gate_dst (N:=2) rfl ?_);refine bX (N:=2) (cs:= #[.int .u8 0,.int .i64 0]) (t:=33) ?_;intro O hg b7 D hb;have A:=Ax (D);have ag:=Gw0 HB hg;have C:=Gw0 HB hg;replace HB:=Bs0 HB hb;clear hb D hg)|((with_reducible refine gate_dst (N:=13) rfl ?_);refine bX (N:=13) (cs:= #[.string (a0.extract 1 a0.size),.int .i64 0]) (t:=83) ?_;intro T hg b8 D hb;have B:=Ax (D);have ap:=Gw1 HB hg C.out;have F:=Gw1 HB hg C.out;replace HB:=Bs1 HB hb C.out;have V:=Nl0 A hg;have I:=Nr0 A hg;replace A:=Bx0 A hb;clear hb D hg;have p7:0≤(0:Int):=(by omega);have q7:0<a0.size:=(by have:(0:Int)<(a0.size:Int):=of_decide_eq_true (by first|(with_reducible assumption)|assumption);first|omega|(simp only[ByteArray.size_append];omega));have aq: ∀ h:0<a0.size,((a0[0]'h).toNat:Int)=bt a0 0:=bt_at a0 0;clear p7;have ar:(0<(a0.size:Int))=True:=eq_true (of_decide_eq_true (by first|(with_reducible assumption)|assumption));replace q7:=eq_true q7)|((with_reducible refine gate_dst (N:=6) rfl ?_);refine bX (N:=6) (cs:= #[.int .u8 0,.int .i64 0]) (t:=33) ?_;intro aa hg aM D hb;have E:=Ax (D);have au:=Gw2 HB hg C.out F.out;have X:=Gw2 HB hg C.out F.out;replace HB:=Bs2 HB hb C.out F.out;have G:=Nl0 A hg;have L:=Nr0 A hg;replace A:=Bx0 A hb;have R:=Nl0 B hg;have ab:=Nr0 B hg;replace B:=Bx0 B hb;clear hb D hg;have b9:=L.out;have ba:=G.out;have bb:=ab.out;have bc:=R.out;obtain⟨bd,bf,bg,bh⟩:=cl2 E;have ac:=Ax (show IsS83 w aM T (a0.extract 1 a0.size) 0 from ⟨by first|exact B.out|simpa using B.out,F.out⟩);clear B)|((with_reducible refine gate_callee (f:=33) rfl ?_);refine goesL_ (some 21) rfl rfl Try.func33 (by kernel_rfl) rfl #[.pointer (some ⟨T,0,none⟩),.int .i64 65536] rfl gS ?_;(with_reducible refine (num_Reader_Many.calls k T (a0.extract 1 a0.size) 0 65536 ae ah af w _ ?side1 ?side2 A9.out).mono ?_);(case side1=>repeat (first|(with_reducible first|exact ac.out|apply IsS83.alloc|apply IsS83.drewN|apply IsS83.drew|apply IsS83.set_0|apply IsS83.set_1|refine IsS83.far ?_ I.out _|refine IsS83.far ?_ R.out _)|exact ac.out));(case side2=>repeat (first|(with_reducible first|exact HB.out|apply below_alloc|apply pw_below_drewN|apply below_drew1|refine below_set ?_ (IsS83.ge ac.out)|refine below_set ?_ C.out|refine below_set ?_ X.out)|exact HB.out));rintro e bi ⟨rfl,hi,hb,hk⟩;refine⟨_,rfl,?_⟩;replace A:=Ax (KeepBut.blk hk (g':=O) (o:=.cells #[.int .u8 0,.int .i64 0] 33 (0,0)) (bf2 A.out G.out G.out) V.out (by simp));replace E:=Ax (KeepBut.blk hk (g':=aa) (o:=.cells #[.int .u8 (bt a0 0),.int .i64 0] 33 (0,0)) (gB E.out) ab.out (by simp));replace HB:=Ax (hb);have B:=Ax (hi.1);(try clear hb);(try clear hb2);(try clear hk);(try clear hi);obtain⟨bj,bk,bl,bm⟩:=cl2 E;have bn:=I.out;have bo:=V.out;obtain⟨bq,br,bu,bv⟩:=cl2 B)|(go_at_call 60;(with_reducible refine (msg_acts.calls (bt a0 0) ae true _ aA.out).mono ?_);rintro e aN ⟨rfl,hb⟩;replace A:=Bx1 A hb G.out;replace B:=Bx1 B hb R.out;replace E:=Ax (blk_below (g:=aa) (o:=.cells #[.int .u8 (bt a0 0),.int .i64 ae] 33 (0,0)) (gB E.out) hb);replace HB:=Bs3 HB hb C.out F.out X.out;(try clear hb);(try clear hb2);(try clear hk);(try clear hi)))
       replace A:=Ax (blk_drew A.out);replace B:=Ax (blk_drew B.out);replace E:=Ax (blk_drew E.out);replace HB:=Ax (below_drew1 HB.out);refine start_ (n:=8) (S:=fun w'=>w'.cell? ⟨aa,0,none⟩=some (.int .u8 (bt a0 0))∧w'.cell? ⟨aa,1,none⟩=some (.int .i64 ae)∧w'.cell? ⟨T,0,none⟩=some (.string ah)∧w'.cell? ⟨T,1,none⟩=some (.int .i64 af)) (ds:= []) #[Y,Y,Y,Y,Y,Y,Y,Y] (by kernel_rfl) rfl rfl ⟨(blk_cell E.out 0).trans rfl,(blk_cell E.out 1).trans rfl,(blk_cell B.out 0).trans rfl,(blk_cell B.out 1).trans rfl⟩ (fun U=>?_);refine with_tabW msg_GetAction.tab9 msg_GetAction.bits9 (fun M aj=>?_);generalize aN.drew=w24 at A B E HB U ⊢;refine pz 1 35 #[Y,Z,Y,Y,Y,Y,Y,Y] M.out ?_
       refine pz 2 36 #[Y,Z,Z,Y,Y,Y,Y,Y] M.out ?_
       refine pz 3 37 #[Y,Z,Z,Z,Y,Y,Y,Y] M.out ?_
       refine take_ (i:=0) (N:=some 34) (v:=?_) (a':=?_) #[Z,Z,Z,Z,Y,Y,Y,Y] rfl rfl (take_ofW M.out aj.out (by kernel_rfl)) (fun _ _ _ h=>h) (Or.inl ⟨by rfl,?_⟩) U ?_ ?_;rotate_left
       ·rintro w' ⟨s0,s1,s2,s3⟩
        go_simp;with_reducible rfl
       rotate_left;·simp only[sP];rfl
       refine take_ (i:=4) (N:=some 38) (v:=?_) (a':=?_) #[Z,Z,Z,Z,Z,Y,Y,Y] rfl rfl (take_ofW M.out aj.out (by kernel_rfl)) (fun _ _ _ h=>h) (Or.inl ⟨by rfl,?_⟩) U ?_ ?_;rotate_left
       ·rintro w' ⟨s0,s1,s2,s3⟩
        go_simp;with_reducible rfl
       rotate_left;·simp only[sP];rfl
       refine one_ (i:=5) (N:=none) #[Z,Z,Z,Z,Z,Z,Y,Y] rfl rfl (one_of M.out (by kernel_rfl)) (by decide) (fun K hK=>?_);have bx:w24.cell? ⟨O,0,none⟩=some (.int .u8 0):=(blk_cell A.out 0).trans rfl;have bz:=blk_frozen A.out 0;have bA:=I.out;have bB:=L.out;have bC:=V.out;have bD:=G.out;have bE:w24.cell? ⟨O,1,none⟩=some (.int .i64 0):=(blk_cell A.out 1).trans rfl;have bF:=blk_frozen A.out 1;have bG:=I.out;have bH:=L.out;have bJ:=V.out;have bK:=G.out;refine skip_ (w1:=?_) (by rfl) rfl ?_ ?_;rotate_left;·go_simp;rfl
       refine hK.out _ _ ⟨(cqf L.out ((cqf L.out (U.1)))),(cqf L.out ((cqf L.out (U.2.1)))),(cqf I.out ((cqf I.out (U.2.2.1)))),(cqf I.out ((cqf I.out (U.2.2.2))))⟩ (fun U=>?_);clear hK K;refine pz 6 3 #[Z,Z,Z,Z,Z,Z,Z,Y] M.out ?_
       refine pz 7 4 #[Z,Z,Z,Z,Z,Z,Z,Z] M.out ?_
       refine done_ (done_of M.out (by kernel_rfl)) ?_;try go_wp2
       refine bodyPost_ret (results_ctt rfl _ _ O 33 #[.int .u8 (bt a0 0),.int .i64 ae] (0,0) _ rfl (gB A.out) Try.underlying33 rfl (by kernel_rfl)) rfl ?_;exact⟨eS,bw3 HB.out C.out F.out X.out⟩
      ·replace am:=Bool.eq_false_iff.mpr am;subst am;have H1:(some (0,0,(⟨#[]⟩:ByteArray),7))=some (r1,r2,r3,r4):=by rw [if_neg (show ¬ (false=true) by decide)]at H;exact H
       clear H;have H:=H1;clear H1;simp only[Option.some.injEq,Prod.mk.injEq]at H;obtain⟨rfl,rfl,rfl,rfl⟩:=H;go_enter Try.func38,Try.ntmps38;go_wp2_with (first|((with_reducible refine gate_dst (N:=2) rfl ?_);refine bX (N:=2) (cs:= #[.int .u8 0,.int .i64 0]) (t:=33) ?_;intro O hg bL D hb;have A:=Ax (D);have ag:=Gw0 HB hg;have C:=Gw0 HB hg;replace HB:=Bs0 HB hb;clear hb D hg)|((with_reducible refine gate_dst (N:=13) rfl ?_);refine bX (N:=13) (cs:= #[.string (a0.extract 1 a0.size),.int .i64 0]) (t:=83) ?_;intro T hg bM D hb;have B:=Ax (D);have ap:=Gw1 HB hg C.out;have F:=Gw1 HB hg C.out;replace HB:=Bs1 HB hb C.out;have V:=Nl0 A hg;have I:=Nr0 A hg;replace A:=Bx0 A hb;clear hb D hg;have p7:0≤(0:Int):=(by omega);have q7:0<a0.size:=(by have:(0:Int)<(a0.size:Int):=of_decide_eq_true (by first|(with_reducible assumption)|assumption);first|omega|(simp only[ByteArray.size_append];omega));have aq: ∀ h:0<a0.size,((a0[0]'h).toNat:Int)=bt a0 0:=bt_at a0 0;clear p7;have ar:(0<(a0.size:Int))=True:=eq_true (of_decide_eq_true (by first|(with_reducible assumption)|assumption));replace q7:=eq_true q7)|((with_reducible refine gate_dst (N:=6) rfl ?_);refine bX (N:=6) (cs:= #[.int .u8 0,.int .i64 0]) (t:=33) ?_;intro aa hg aQ D hb;have E:=Ax (D);have au:=Gw2 HB hg C.out F.out;have X:=Gw2 HB hg C.out F.out;replace HB:=Bs2 HB hb C.out F.out;have G:=Nl0 A hg;have L:=Nr0 A hg;replace A:=Bx0 A hb;have R:=Nl0 B hg;have ab:=Nr0 B hg;replace B:=Bx0 B hb;clear hb D hg;have bN:=L.out;have bO:=G.out;have bP:=ab.out;have bQ:=R.out;obtain⟨bR,bS,bT,bU⟩:=cl2 E;have ac:=Ax (show IsS83 w aQ T (a0.extract 1 a0.size) 0 from ⟨by first|exact B.out|simpa using B.out,F.out⟩);clear B)|((with_reducible refine gate_callee (f:=33) rfl ?_);refine goesL_ (some 21) rfl rfl Try.func33 (by kernel_rfl) rfl #[.pointer (some ⟨T,0,none⟩),.int .i64 65536] rfl gS ?_;(with_reducible refine (num_Reader_Many.calls k T (a0.extract 1 a0.size) 0 65536 ae ah af w _ ?side1 ?side2 A9.out).mono ?_);(case side1=>repeat (first|(with_reducible first|exact ac.out|apply IsS83.alloc|apply IsS83.drewN|apply IsS83.drew|apply IsS83.set_0|apply IsS83.set_1|refine IsS83.far ?_ I.out _|refine IsS83.far ?_ R.out _)|exact ac.out));(case side2=>repeat (first|(with_reducible first|exact HB.out|apply below_alloc|apply pw_below_drewN|apply below_drew1|refine below_set ?_ (IsS83.ge ac.out)|refine below_set ?_ C.out|refine below_set ?_ X.out)|exact HB.out));rintro e bV ⟨rfl,hi,hb,hk⟩;refine⟨_,rfl,?_⟩;replace A:=Ax (KeepBut.blk hk (g':=O) (o:=.cells #[.int .u8 0,.int .i64 0] 33 (0,0)) (bf2 A.out G.out G.out) V.out (by simp));replace E:=Ax (KeepBut.blk hk (g':=aa) (o:=.cells #[.int .u8 (bt a0 0),.int .i64 0] 33 (0,0)) (gB E.out) ab.out (by simp));replace HB:=Ax (hb);have B:=Ax (hi.1);(try clear hb);(try clear hb2);(try clear hk);(try clear hi);obtain⟨bW,bY,bZ,cd⟩:=cl2 E;have ce:=I.out;have cf:=V.out;obtain⟨cg,ch,ci,cj⟩:=cl2 B)|(go_at_call 60;(with_reducible refine (msg_acts.calls (bt a0 0) ae false _ aA.out).mono ?_);rintro e ck ⟨rfl,hb⟩;replace A:=Bx1 A hb G.out;replace B:=Bx1 B hb R.out;replace E:=Ax (blk_below (g:=aa) (o:=.cells #[.int .u8 (bt a0 0),.int .i64 ae] 33 (0,0)) (gB E.out) hb);replace HB:=Bs3 HB hb C.out F.out X.out;(try clear hb);(try clear hb2);(try clear hk);(try clear hi);obtain⟨cl,cm,cn,co⟩:=cl2 A));refine bodyPost_ret (results_ctt rfl _ _ O 33 #[.int .u8 0,.int .i64 0] (0,0) _ rfl (gB A.out) Try.underlying33 rfl (by kernel_rfl)) rfl ?_;exact⟨eS,bw3 HB.out C.out F.out X.out⟩
     ·rw [if_neg c10]at H;have aJ:(af==0)=false:=beq_eq_false_iff_ne.mpr c10;have aK:(af !=0)=true:=bne_iff_ne.mpr c10;simp only[Option.some.injEq,Prod.mk.injEq]at H;obtain⟨rfl,rfl,rfl,rfl⟩:=H;go_enter Try.func38,Try.ntmps38;go_wp2_with (first|((with_reducible refine gate_dst (N:=2) rfl ?_);refine bX (N:=2) (cs:= #[.int .u8 0,.int .i64 0]) (t:=33) ?_;intro O hg cq D hb;have A:=Ax (D);have ag:=Gw0 HB hg;have C:=Gw0 HB hg;replace HB:=Bs0 HB hb;clear hb D hg)|((with_reducible refine gate_dst (N:=13) rfl ?_);refine bX (N:=13) (cs:= #[.string (a0.extract 1 a0.size),.int .i64 0]) (t:=83) ?_;intro T hg cr D hb;have B:=Ax (D);have ap:=Gw1 HB hg C.out;have F:=Gw1 HB hg C.out;replace HB:=Bs1 HB hb C.out;have V:=Nl0 A hg;have I:=Nr0 A hg;replace A:=Bx0 A hb;clear hb D hg;have p7:0≤(0:Int):=(by omega);have q7:0<a0.size:=(by have:(0:Int)<(a0.size:Int):=of_decide_eq_true (by first|(with_reducible assumption)|assumption);first|omega|(simp only[ByteArray.size_append];omega));have aq: ∀ h:0<a0.size,((a0[0]'h).toNat:Int)=bt a0 0:=bt_at a0 0;clear p7;have ar:(0<(a0.size:Int))=True:=eq_true (of_decide_eq_true (by first|(with_reducible assumption)|assumption));replace q7:=eq_true q7)|((with_reducible refine gate_dst (N:=6) rfl ?_);refine bX (N:=6) (cs:= #[.int .u8 0,.int .i64 0]) (t:=33) ?_;intro aa hg aR D hb;have E:=Ax (D);have au:=Gw2 HB hg C.out F.out;have X:=Gw2 HB hg C.out F.out;replace HB:=Bs2 HB hb C.out F.out;have G:=Nl0 A hg;have L:=Nr0 A hg;replace A:=Bx0 A hb;have R:=Nl0 B hg;have ab:=Nr0 B hg;replace B:=Bx0 B hb;clear hb D hg;have ct:=L.out;have cu:=G.out;have cv:=ab.out;have cw:=R.out;obtain⟨cx,cy,cz,cA⟩:=cl2 E;have ac:=Ax (show IsS83 w aR T (a0.extract 1 a0.size) 0 from ⟨by first|exact B.out|simpa using B.out,F.out⟩);clear B)|((with_reducible refine gate_callee (f:=33) rfl ?_);refine goesL_ (some 21) rfl rfl Try.func33 (by kernel_rfl) rfl #[.pointer (some ⟨T,0,none⟩),.int .i64 65536] rfl gS ?_;(with_reducible refine (num_Reader_Many.calls k T (a0.extract 1 a0.size) 0 65536 ae ah af w _ ?side1 ?side2 A9.out).mono ?_);(case side1=>repeat (first|(with_reducible first|exact ac.out|apply IsS83.alloc|apply IsS83.drewN|apply IsS83.drew|apply IsS83.set_0|apply IsS83.set_1|refine IsS83.far ?_ I.out _|refine IsS83.far ?_ R.out _)|exact ac.out));(case side2=>repeat (first|(with_reducible first|exact HB.out|apply below_alloc|apply pw_below_drewN|apply below_drew1|refine below_set ?_ (IsS83.ge ac.out)|refine below_set ?_ C.out|refine below_set ?_ X.out)|exact HB.out));rintro e cB ⟨rfl,hi,hb,hk⟩;refine⟨_,rfl,?_⟩;replace A:=Ax (KeepBut.blk hk (g':=O) (o:=.cells #[.int .u8 0,.int .i64 0] 33 (0,0)) (bf2 A.out G.out G.out) V.out (by simp));replace E:=Ax (KeepBut.blk hk (g':=aa) (o:=.cells #[.int .u8 (bt a0 0),.int .i64 0] 33 (0,0)) (gB E.out) ab.out (by simp));replace HB:=Ax (hb);have B:=Ax (hi.1);(try clear hb);(try clear hb2);(try clear hk);(try clear hi);obtain⟨cC,cD,cE,cF⟩:=cl2 E;have cG:=I.out;have cH:=V.out;obtain⟨cI,cJ,cK,cL⟩:=cl2 B;obtain⟨cM,cN,cO,cP⟩:=cl2 A));refine bodyPost_ret (results_ctt rfl _ _ O 33 #[.int .u8 0,.int .i64 0] (0,0) _ rfl (by (with_reducible repeat (first|refine blk_drewN ?_ _|refine blk_drew ?_|refine blk_alloc ?_ _));refine blk_put (cs:= #[.int .u8 0,.int .i64 0]) ?_ 1 _ rfl;(with_reducible repeat (first|refine blk_drewN ?_ _|refine blk_drew ?_|refine blk_alloc ?_ _));refine blk_put (cs:= #[.int .u8 0,.int .i64 0]) ?_ 0 _ rfl;(repeat (first|(with_reducible first|refine blk_drewN ?_ _|refine blk_drew ?_|refine blk_alloc ?_ _)|refine blk_far ?_ G.out _));exact A.out) Try.underlying33 rfl (by kernel_rfl)) rfl ?_;exact⟨eS,bw3 HB.out C.out F.out X.out⟩
    ·rw [if_neg c8]at H;have aH:((bt a0 0)==1)=false:=beq_eq_false_iff_ne.mpr c8;have aI:((bt a0 0) !=1)=true:=bne_iff_ne.mpr c8;replace H:=bI H;obtain⟨ax,aC,H⟩:=H;(try dsimp only at H);have aD:=Ax aC;clear aC;by_cases av:ax=true
     ·subst av;have H1:(some (bt a0 0,0,a0.extract 1 a0.size,0))=some (r1,r2,r3,r4):=by rw [if_pos rfl]at H;exact H
      clear H;have H:=H1;clear H1;simp only[Option.some.injEq,Prod.mk.injEq]at H;obtain⟨rfl,rfl,rfl,rfl⟩:=H;go_enter Try.func38,Try.ntmps38;try go_wp2_with (first|((with_reducible refine gate_dst (N:=2) rfl ?_);refine bX (N:=2) (cs:= #[.int .u8 0,.int .i64 0]) (t:=33) ?_;intro O hg cQ D hb;have A:=Ax (D);have ag:=Gw0 HB hg;have C:=Gw0 HB hg;replace HB:=Bs0 HB hb;clear hb D hg)|((with_reducible refine gate_dst (N:=13) rfl ?_);refine bX (N:=13) (cs:= #[.string (a0.extract 1 a0.size),.int .i64 0]) (t:=83) ?_;intro T hg cR D hb;have B:=Ax (D);have ap:=Gw1 HB hg C.out;have F:=Gw1 HB hg C.out;replace HB:=Bs1 HB hb C.out;have V:=Nl0 A hg;have I:=Nr0 A hg;replace A:=Bx0 A hb;clear hb D hg;have p7:0≤(0:Int):=(by omega);have q7:0<a0.size:=(by have:(0:Int)<(a0.size:Int):=of_decide_eq_true (by first|(with_reducible assumption)|assumption);first|omega|(simp only[ByteArray.size_append];omega));have aq: ∀ h:0<a0.size,((a0[0]'h).toNat:Int)=bt a0 0:=bt_at a0 0;clear p7;have ar:(0<(a0.size:Int))=True:=eq_true (of_decide_eq_true (by first|(with_reducible assumption)|assumption));replace q7:=eq_true q7)|((with_reducible refine gate_dst (N:=6) rfl ?_);refine bX (N:=6) (cs:= #[.int .u8 0,.int .i64 0]) (t:=33) ?_;intro aa hg cS D hb;have E:=Ax (D);have au:=Gw2 HB hg C.out F.out;have X:=Gw2 HB hg C.out F.out;replace HB:=Bs2 HB hb C.out F.out;have G:=Nl0 A hg;have L:=Nr0 A hg;replace A:=Bx0 A hb;have R:=Nl0 B hg;have ab:=Nr0 B hg;replace B:=Bx0 B hb;clear hb D hg;have cT:=L.out;have cU:=G.out;have cV:=ab.out;have cW:=R.out;obtain⟨cX,cY,cZ,d2⟩:=cl2 E;have d3:=I.out;have d4:=V.out;obtain⟨d5,d6,d7,d8⟩:=cl2 B)|(go_at_call 60;(with_reducible refine (msg_acts.calls (bt a0 0) 0 true _ aD.out).mono ?_);rintro e aT ⟨rfl,hb⟩;replace A:=Bx2 A hb G.out G.out;replace B:=Bx2 B hb R.out R.out;replace E:=Ax (blk_below (g:=aa) (o:=.cells #[.int .u8 (bt a0 0),.int .i64 0] 33 (0,0)) (gB E.out) hb);replace HB:=Bs3 HB hb C.out F.out X.out;(try clear hb);(try clear hb2);(try clear hk);(try clear hi)))
      replace A:=Ax (blk_drew A.out);replace B:=Ax (blk_drew B.out);replace E:=Ax (blk_drew E.out);replace HB:=Ax (below_drew1 HB.out);refine start_ (n:=8) (S:=fun w'=>w'.cell? ⟨aa,0,none⟩=some (.int .u8 (bt a0 0))∧w'.cell? ⟨aa,1,none⟩=some (.int .i64 0)∧w'.cell? ⟨T,0,none⟩=some (.string (a0.extract 1 a0.size))∧w'.cell? ⟨T,1,none⟩=some (.int .i64 0)) (ds:= []) #[Y,Y,Y,Y,Y,Y,Y,Y] (by kernel_rfl) rfl rfl ⟨(blk_cell E.out 0).trans rfl,(blk_cell E.out 1).trans rfl,(blk_cell B.out 0).trans rfl,(blk_cell B.out 1).trans rfl⟩ (fun U=>?_);refine with_tabW msg_GetAction.tab9 msg_GetAction.bits9 (fun M aj=>?_);generalize aT.drew=w61 at A B E HB U ⊢;refine pz 1 35 #[Y,Z,Y,Y,Y,Y,Y,Y] M.out ?_
      refine pz 2 36 #[Y,Z,Z,Y,Y,Y,Y,Y] M.out ?_
      refine pz 3 37 #[Y,Z,Z,Z,Y,Y,Y,Y] M.out ?_
      refine take_ (i:=0) (N:=some 34) (v:=?_) (a':=?_) #[Z,Z,Z,Z,Y,Y,Y,Y] rfl rfl (take_ofW M.out aj.out (by kernel_rfl)) (fun _ _ _ h=>h) (Or.inl ⟨by rfl,?_⟩) U ?_ ?_;rotate_left
      ·rintro w' ⟨s0,s1,s2,s3⟩
       go_simp;with_reducible rfl
      rotate_left;·simp only[sP];rfl
      refine take_ (i:=4) (N:=some 38) (v:=?_) (a':=?_) #[Z,Z,Z,Z,Z,Y,Y,Y] rfl rfl (take_ofW M.out aj.out (by kernel_rfl)) (fun _ _ _ h=>h) (Or.inl ⟨by rfl,?_⟩) U ?_ ?_;rotate_left
      ·rintro w' ⟨s0,s1,s2,s3⟩
       go_simp;with_reducible rfl
      rotate_left;·simp only[sP];rfl
      refine one_ (i:=5) (N:=none) #[Z,Z,Z,Z,Z,Z,Y,Y] rfl rfl (one_of M.out (by kernel_rfl)) (by decide) (fun K hK=>?_);have d9:w61.cell? ⟨O,0,none⟩=some (.int .u8 0):=(blk_cell A.out 0).trans rfl;have da:=blk_frozen A.out 0;have db:=I.out;have dc:=L.out;have dd:=V.out;have de:=G.out;have df:w61.cell? ⟨O,1,none⟩=some (.int .i64 0):=(blk_cell A.out 1).trans rfl;have dg:=blk_frozen A.out 1;have dh:=I.out;have di:=L.out;have dj:=V.out;have dk:=G.out;refine skip_ (w1:=?_) (by rfl) rfl ?_ ?_;rotate_left;·go_simp;rfl
      refine hK.out _ _ ⟨(cqf L.out ((cqf L.out (U.1)))),(cqf L.out ((cqf L.out (U.2.1)))),(cqf I.out ((cqf I.out (U.2.2.1)))),(cqf I.out ((cqf I.out (U.2.2.2))))⟩ (fun U=>?_);clear hK K;refine pz 6 3 #[Z,Z,Z,Z,Z,Z,Z,Y] M.out ?_
      refine pz 7 4 #[Z,Z,Z,Z,Z,Z,Z,Z] M.out ?_
      refine done_ (done_of M.out (by kernel_rfl)) ?_;try go_wp2
      refine bodyPost_ret (results_ctt rfl _ _ O 33 #[.int .u8 (bt a0 0),.int .i64 0] (0,0) _ rfl (gB A.out) Try.underlying33 rfl (by kernel_rfl)) rfl ?_;exact⟨eS,bw3 HB.out C.out F.out X.out⟩
     ·replace av:=Bool.eq_false_iff.mpr av;subst av;have H1:(some (0,0,(⟨#[]⟩:ByteArray),7))=some (r1,r2,r3,r4):=by rw [if_neg (show ¬ (false=true) by decide)]at H;exact H
      clear H;have H:=H1;clear H1;simp only[Option.some.injEq,Prod.mk.injEq]at H;obtain⟨rfl,rfl,rfl,rfl⟩:=H;go_enter Try.func38,Try.ntmps38;go_wp2_with (first|((with_reducible refine gate_dst (N:=2) rfl ?_);refine bX (N:=2) (cs:= #[.int .u8 0,.int .i64 0]) (t:=33) ?_;intro O hg w64 D hb;have A:=Ax (D);have ag:=Gw0 HB hg;have C:=Gw0 HB hg;replace HB:=Bs0 HB hb;clear hb D hg)|((with_reducible refine gate_dst (N:=13) rfl ?_);refine bX (N:=13) (cs:= #[.string (a0.extract 1 a0.size),.int .i64 0]) (t:=83) ?_;intro T hg dl D hb;have B:=Ax (D);have ap:=Gw1 HB hg C.out;have F:=Gw1 HB hg C.out;replace HB:=Bs1 HB hb C.out;have V:=Nl0 A hg;have I:=Nr0 A hg;replace A:=Bx0 A hb;clear hb D hg;have p7:0≤(0:Int):=(by omega);have q7:0<a0.size:=(by have:(0:Int)<(a0.size:Int):=of_decide_eq_true (by first|(with_reducible assumption)|assumption);first|omega|(simp only[ByteArray.size_append];omega));have aq: ∀ h:0<a0.size,((a0[0]'h).toNat:Int)=bt a0 0:=bt_at a0 0;clear p7;have ar:(0<(a0.size:Int))=True:=eq_true (of_decide_eq_true (by first|(with_reducible assumption)|assumption));replace q7:=eq_true q7)|((with_reducible refine gate_dst (N:=6) rfl ?_);refine bX (N:=6) (cs:= #[.int .u8 0,.int .i64 0]) (t:=33) ?_;intro aa hg dm D hb;have E:=Ax (D);have au:=Gw2 HB hg C.out F.out;have X:=Gw2 HB hg C.out F.out;replace HB:=Bs2 HB hb C.out F.out;have G:=Nl0 A hg;have L:=Nr0 A hg;replace A:=Bx0 A hb;have R:=Nl0 B hg;have ab:=Nr0 B hg;replace B:=Bx0 B hb;clear hb D hg;have dn:=L.out;have dp:=G.out;have dq:=ab.out;have dr:=R.out;obtain⟨dt,du,dv,dw⟩:=cl2 E;have dx:=I.out;have dy:=V.out;obtain⟨dz,dA,dB,dC⟩:=cl2 B)|(go_at_call 60;(with_reducible refine (msg_acts.calls (bt a0 0) 0 false _ aD.out).mono ?_);rintro e dD ⟨rfl,hb⟩;replace A:=Bx2 A hb G.out G.out;replace B:=Bx2 B hb R.out R.out;replace E:=Ax (blk_below (g:=aa) (o:=.cells #[.int .u8 (bt a0 0),.int .i64 0] 33 (0,0)) (gB E.out) hb);replace HB:=Bs3 HB hb C.out F.out X.out;(try clear hb);(try clear hb2);(try clear hk);(try clear hi);obtain⟨dE,dG,dH,dI⟩:=cl2 A));refine bodyPost_ret (results_ctt rfl _ _ O 33 #[.int .u8 0,.int .i64 0] (0,0) _ rfl (gB A.out) Try.underlying33 rfl (by kernel_rfl)) rfl ?_;exact⟨eS,bw3 HB.out C.out F.out X.out⟩
   ·rw [if_neg c6]at H;exact absurd H (by simp)
  ·rw [if_neg c5]at H;exact absurd H (by simp)
def api_Action.f (k:Nat) (B:ByteArray) (A:Int):Option (Int × Int × ByteArray × Int):=(msg_GetAction.f k B).bind fun t=>some (t.1,t.2.1,(if A=0 then t.2.2.1 else B),(if A=0 then t.2.2.2 else A))
theorem api_Action.mono: ∀ a0 a1 k,LeO (api_Action.f k a0 a1) (api_Action.f (k+1) a0 a1):=by
  intro a0 a1 k;unfold api_Action.f
  repeat' first
      | (with_reducible exact msg_GetAction.mono _ _)
      | (with_reducible exact LeO.refl _)
      | (with_reducible exact LeO.none _)
      | (with_reducible refine LeO.ite ?_ ?_)
      | (with_reducible refine LeO.bind ?_ (fun _ => ?_))
      | exact msg_GetAction.mono _ _
      | exact LeO.none _
      | refine LeO.ite ?_ ?_
      | refine LeO.bind ?_ (fun _ => ?_)
set_option maxHeartbeats 8000000 in
set_option maxRecDepth 100000 in
theorem api_Action.calls0 (k g:Nat) (s:ByteArray) (y:Int) (r1:Int) (r2:Int) (r3:ByteArray) (r4:Int) (w0 w:World) (hI:IsS85 w0 w g s y) (hB:Below w0.heap.size w0 w) (h:msg_GetAction.f k s=some (r1,r2,r3,r4)):
    Calls Try.prog 37 #[.pointer (some ⟨g,0,none⟩),.func (.func 38) #[] #[]] w fun e w'=>e= .returned (.agg #[.int .u8 r1,.int .i64 r2])∧IsS85 w0 w' g (if y=0 then r3 else s) (if y=0 then r4 else y)∧Below w0.heap.size w0 w'∧KeepBut w w' g none:=by
  have E:=Aside0.mk hI;have M:=Aside0.mk hB;have H:=Aside0.mk h;have I:=hI.1;have af:=cellS85_0 I;have ag:(w.alloc (.cells #[.int .u8 0,.int .i64 0] 33)).cell? ⟨g,0,none⟩=some (.string s):=(blk_cell (blk_alloc I _) 0).trans rfl;have V:=Aside0.mk (blk_lt I);clear h hI hB I;go_enter Try.func37,Try.ntmps37;go_wp2_with (fail);refine (msg_GetAction.calls k s r1 r2 r3 r4 _ H.out).mono ?_
  rintro e w5 ⟨rfl,hb⟩
  have N:=Aside0.mk (blk_below (blk_alloc E.out.1 (.cells #[.int .u8 0,.int .i64 0] 33)) hb);have X:=Aside0.mk (blk_below (heap_alloc_new w (.cells #[.int .u8 0,.int .i64 0] 33)) hb);have ah:=Aside0.mk (below_step (below_alloc M.out (.cells #[.int .u8 0,.int .i64 0] 33)) hb);have aj:=Aside0.mk (KeepBut.of_below (below_step (below_alloc (Below.refl w.heap.size w) (.cells #[.int .u8 0,.int .i64 0] 33)) hb) g none);have aw:Aside0 (w.heap.size<w5.heap.size):=⟨Nat.lt_of_lt_of_le (blk_lt (heap_alloc_new w _)) hb.size⟩;clear hb af ag;obtain⟨gr,L⟩: ∃ gr,w.heap.size=gr:=⟨_,rfl⟩;have B:=Aside0.mk L;have BR5':=Aside0.mk (L▸X.out);rw [L];clear X L;have aa:=Aside0.mk (heap_alloc_new w5 (.cells #[.int .u8 r1,.int .i64 r2] 33));have ab:=Aside0.mk (blk_alloc BR5'.out (.cells #[.int .u8 r1,.int .i64 r2] 33));have C:=Aside0.mk (blk_alloc N.out (.cells #[.int .u8 r1,.int .i64 r2] 33));have ac:=Aside0.mk (below_alloc ah.out (.cells #[.int .u8 r1,.int .i64 r2] 33));have ae:=Aside0.mk (keep_alloc aj.out (.cells #[.int .u8 r1,.int .i64 r2] 33));by_cases hy:y=0
  · subst hy;have D:g≠gr:=by have:=V.out;have:=B.out;omega
    have O:g≠w5.heap.size:=fun e=>by have:=blk_lt N.out;omega
    have ax:=(blk_cell C.out 0).trans rfl;have al:=(blk_cell C.out 1).trans rfl;have ay:=blk_frozen C.out 0;have az:=blk_frozen C.out 1;have R:=Aside0.mk (blk_put (blk_put C.out 0 (.string r3) rfl) 1 (.int .i64 r4) rfl);have F:=Aside0.mk (blk_far (blk_far aa.out (p:=⟨g,0,none⟩) (by simpa using fun e=>O e.symm) (.string r3)) (p:=⟨g,1,none⟩) (by simpa using fun e=>O e.symm) (.int .i64 r4));have A:=Aside0.mk (blk_far (blk_far ab.out (p:=⟨g,0,none⟩) (by simpa using fun e=>D e.symm) (.string r3)) (p:=⟨g,1,none⟩) (by simpa using fun e=>D e.symm) (.int .i64 r4));have T:=Aside0.mk ((ac.out.setCell (p:=⟨g,0,none⟩) E.out.2 (.string r3)).setCell (p:=⟨g,1,none⟩) E.out.2 (.int .i64 r4));have U:=Aside0.mk ((ae.out.set_ 0 (.string r3)).set_ 1 (.int .i64 r4));have am:=(blk_cell F.out 0).trans (rfl:_=some (Value.int .u8 r1));have ap:=(blk_cell F.out 1).trans (rfl:_=some (Value.int .i64 r2));have aq:=(blk_cell A.out 0).trans (rfl:_=some (Value.int .u8 0));have ar:=(blk_cell A.out 1).trans (rfl:_=some (Value.int .i64 0));have au:=blk_frozen A.out 0;have av:=blk_frozen A.out 1;go_wp2_with (fail);refine bodyPost_ret (results_cell_row rfl _ _ gr 33 #[.int .u8 r1,.int .i64 r2] (0,0) _ rfl (blk_put (blk_put (A.out) 0 (.int .u8 r1) rfl) 1 (.int .i64 r2) rfl) Try.underlying33 rfl (by kernel_rfl)) rfl ?_;have G:w0.heap.size≤gr:=by have:=B.out;have:=M.out.size;omega
    refine⟨rfl,⟨?_,E.out.2⟩,?_,?_⟩
    · simpa using blk_far (blk_far (R.out) (p:=⟨gr,0,none⟩) (by simpa using D) _) (p:=⟨gr,1,none⟩) (by simpa using D) _
    · exact ((T.out).setCell (p:=⟨gr,0,none⟩) G _).setCell (p:=⟨gr,1,none⟩) G _
    · exact keep_far (keep_far (U.out) (p:=⟨gr,0,none⟩) (by have:=B.out;simp;omega) _) (p:=⟨gr,1,none⟩) (by have:=B.out;simp;omega) _
  · skip
    have D:g≠gr:=by have:=V.out;have:=B.out;omega
    have O:g≠w5.heap.size:=fun e=>by have:=blk_lt N.out;omega
    have R:=C;have F:=aa;have A:=ab;have T:=ac;have U:=ae;have al:=(blk_cell C.out 1).trans rfl;have aA:(y==0)=false:=beq_eq_false_iff_ne.mpr hy;have am:=(blk_cell F.out 0).trans (rfl:_=some (Value.int .u8 r1));have ap:=(blk_cell F.out 1).trans (rfl:_=some (Value.int .i64 r2));have aq:=(blk_cell A.out 0).trans (rfl:_=some (Value.int .u8 0));have ar:=(blk_cell A.out 1).trans (rfl:_=some (Value.int .i64 0));have au:=blk_frozen A.out 0;have av:=blk_frozen A.out 1;go_wp2_with (fail);refine bodyPost_ret (results_cell_row rfl _ _ gr 33 #[.int .u8 r1,.int .i64 r2] (0,0) _ rfl (blk_put (blk_put (A.out) 0 (.int .u8 r1) rfl) 1 (.int .i64 r2) rfl) Try.underlying33 rfl (by kernel_rfl)) rfl ?_;have G:w0.heap.size≤gr:=by have:=B.out;have:=M.out.size;omega
    refine⟨rfl,⟨?_,E.out.2⟩,?_,?_⟩
    · simpa [hy] using blk_far (blk_far (R.out) (p:=⟨gr,0,none⟩) (by simpa using D) _) (p:=⟨gr,1,none⟩) (by simpa using D) _
    · exact ((T.out).setCell (p:=⟨gr,0,none⟩) G _).setCell (p:=⟨gr,1,none⟩) G _
    · exact keep_far (keep_far (U.out) (p:=⟨gr,0,none⟩) (by have:=B.out;simp;omega) _) (p:=⟨gr,1,none⟩) (by have:=B.out;simp;omega) _
theorem api_Action.calls (k:Nat) (g:Nat) (A:ByteArray) (B:Int) (r1:Int) (r2:Int) (r3:ByteArray) (r4:Int) (w0 w:World) (hI:IsS85 w0 w g A B) (hB:Below w0.heap.size w0 w) (h:api_Action.f k A B=some (r1,r2,r3,r4)):
    Calls Try.prog 37 #[.pointer (some ⟨g,0,none⟩),.func (.func 38) #[] #[]] w fun e w'=>e= .returned (.agg #[.int .u8 r1,.int .i64 r2])∧IsS85 w0 w' g r3 r4∧Below w0.heap.size w0 w'∧KeepBut w w' g none:=by
  obtain⟨⟨t1,t2,t3,t4⟩,ht,h⟩:=Option.bind_eq_some_iff.mp h;simp only[Option.some.injEq,Prod.mk.injEq]at h;obtain⟨rfl,rfl,rfl,rfl⟩:=h;exact api_Action.calls0 k g A B t1 t2 t3 t4 w0 w hI hB ht
def msg_id.f (a0:Int):Option (Bool):=if a0 ≥ 0 then (some (decide (a0≤1048576))) else (some false)
set_option maxHeartbeats 8000000 in
set_option maxRecDepth 100000 in
theorem msg_id.calls (a0:Int) (r:Bool) (w:World) (h:msg_id.f a0=some r):
  Calls Try.prog 61 #[.int .i64 a0] w fun e w'=>e= .returned (.bool r)∧Drawn0 w w':=by
 have H:(if a0 ≥ 0 then (some (decide (a0≤1048576))) else (some false))=some r:=h;clear h;by_cases c2:a0 ≥ 0;·rw [if_pos c2]at H;have aa:decide (0≤a0)=true:=dT c2;clear c2;obtain rfl:=Option.some.inj H;go_enter Try.func61,Try.ntmps61;go_wp2;go_ret;exact⟨by first|rfl|(simp;done)|(simp [*];done),by repeat (first|exact Drawn0.refl _|apply Drawn0.step)⟩
 ·rw [if_neg c2]at H;have aa:decide (0≤a0)=false:=dF c2;clear c2;obtain rfl:=Option.some.inj H;go_enter Try.func61,Try.ntmps61;go_wp2;go_ret;exact⟨by first|rfl|(simp;done)|(simp [*];done),by repeat (first|exact Drawn0.refl _|apply Drawn0.step)⟩
mutual
def msg_Check.j0 : Nat → Bool → Int → Int → Int → Int → Bool → Int → Int → Int → Int → Int → Int → Int → Option (Int)
 | 0, _, _, _, _, _, _, _, _, _, _, _, _, _ => none
 | k + 1, x29, x131000, x131001, x131002, x131003, x131004, x131005, x131006, x131007, x131008, x131009, x131010, x131011 => if x29 = true then (some 2) else (if x131000 = 1 then (msg_Check.j1 k true x131000 (x131000 == 1) x131000 x131001 x131002 x131003 x131004 x131005 x131006 x131007 x131008 x131009 x131010 x131011 0 0 0 0 x131004 x131005 x131006 x131007 x131008 x131009 x131010 x131011) else (msg_Check.j1 k true x131000 (x131000 == 2) x131000 x131001 x131002 x131003 x131004 x131005 x131006 x131007 x131008 x131009 x131010 x131011 0 0 0 0 x131004 x131005 x131006 x131007 x131008 x131009 x131010 x131011))
def msg_Check.j1 : Nat → Bool → Int → Bool → Int → Int → Int → Int → Bool → Int → Int → Int → Int → Int → Int → Int → Int → Int → Int → Int → Bool → Int → Int → Int → Int → Int → Int → Int → Option (Int)
 | 0, _, _, _, _, _, _, _, _, _, _, _, _, _, _, _, _, _, _, _, _, _, _, _, _, _, _, _ => none
 | k + 1, x4, x36, x37, x131000, x131001, x131002, x131003, x131004, x131005, x131006, x131007, x131008, x131009, x131010, x131011, x133000, x133001, x133002, x133003, x133004, x133005, x133006, x133007, x133008, x133009, x133010, x133011 => if x37 = true then (if x4 = true then (if (!(x133000 == 0) || (!(x133001 == 0) || (!(x133002 == 0) || (!(x133003 == 0) || ((x133004 || ((!(x133005 == 0) || (!(x133006 == 0))) || (!(x133007 == 0)))) || ((!(x133008 == 0) || (!(x133009 == 0))) || (!(x133010 == 0) || (!(x133011 == 0))))))))) = true then (some 2) else (some 0)) else (some 2)) else (if x36 = 3 then ((msg_acts.f x131008 x131009).bind fun aa => (if aa = true then ((addr_Check.f k x131004 x131005 x131006 x131007).bind fun ab => (if ab = 0 then (if (!(x133000 == 0) || (!(x133001 == 0) || (!(x133002 == 0) || (!(x133003 == 0) || (!(x133010 == 0) || (!(x133011 == 0))))))) = true then (some 2) else (some 0)) else (some 2))) else (some 2))) else (if x36 = 4 then (if x4 = true then ((addr_Check.f k x131004 x131005 x131006 x131007).bind fun ac => (if ac = 0 then (if (!(x133000 == 0) || (!(x133001 == 0) || (!(x133002 == 0) || (!(x133003 == 0) || ((!(x133008 == 0) || (!(x133009 == 0))) || (!(x133010 == 0) || (!(x133011 == 0)))))))) = true then (some 2) else (some 0)) else (some 2))) else (some 2)) else (if x36 = 5 then ((msg_id.f x131011).bind fun ae => (if ae = true then ((msg_iface.f x131010).bind fun af => (if af = true then (if (!(x133000 == 0) || (!(x133001 == 0) || (!(x133002 == 0) || (!(x133003 == 0) || ((x133004 || ((!(x133005 == 0) || (!(x133006 == 0))) || (!(x133007 == 0)))) || ((!(x133008 == 0) || (!(x133009 == 0))))))))) = true then (some 2) else (some 0)) else (some 2))) else (some 2))) else (if x36 = 6 then (if x4 = true then ((msg_iface.f x131010).bind fun ag => (if ag = true then (if (!(x133000 == 0) || (!(x133001 == 0) || (!(x133002 == 0) || (!(x133003 == 0) || ((x133004 || ((!(x133005 == 0) || (!(x133006 == 0))) || (!(x133007 == 0)))) || ((!(x133008 == 0) || (!(x133009 == 0))) || (!(x133011 == 0)))))))) = true then (some 2) else (some 0)) else (some 2))) else (some 2)) else (some 2)))))
end
def msg_Check.f (k:Nat) (D:Int) (C:Int) (A:Int) (B:Int) (E:Bool) (F:Int) (G:Int) (H:Int) (I:Int) (L:Int) (M:Int) (N:Int):Option (Int):=(msg_id.f C).bind fun aa=>(if aa=true then (if A=0 then (msg_Check.j0 k true D C A B E F G H I L M N) else (if A > 1099511627776 then (msg_Check.j0 k true D C A B E F G H I L M N) else (if B<0 then (msg_Check.j0 k true D C A B E F G H I L M N) else (msg_Check.j0 k (decide (B > 1099511627776)) D C A B E F G H I L M N)))) else (msg_Check.j0 k true D C A B E F G H I L M N))
theorem msg_Check.mono_l: ∀ k,(∀ y0 y1 y2 y3 y4 y5 y6 y7 y8 y9 A B C,LeO (msg_Check.j0 k y0 y1 y2 y3 y4 y5 y6 y7 y8 y9 A B C) (msg_Check.j0 (k+1) y0 y1 y2 y3 y4 y5 y6 y7 y8 y9 A B C))∧(∀ y0 y1 y2 y3 y4 y5 y6 y7 y8 y9 A B C F G H I L M N O R T U V X aa,LeO (msg_Check.j1 k y0 y1 y2 y3 y4 y5 y6 y7 y8 y9 A B C F G H I L M N O R T U V X aa) (msg_Check.j1 (k+1) y0 y1 y2 y3 y4 y5 y6 y7 y8 y9 A B C F G H I L M N O R T U V X aa))
 |0=>⟨fun _ _ _ _ _ _ _ _ _ _ _ _ _ r h=>by simp [msg_Check.j0]at h,fun _ _ _ _ _ _ _ _ _ _ _ _ _ _ _ _ _ _ _ _ _ _ _ _ _ _ _ r h=>by simp [msg_Check.j1]at h⟩
 |k+1=>by
  obtain⟨D,E⟩:=msg_Check.mono_l k;refine⟨?_,?_⟩
  ·intro y0 y1 y2 y3 y4 y5 y6 y7 y8 y9 A B C;unfold msg_Check.j0
   repeat' first
   |(with_reducible exact D _ _ _ _ _ _ _ _ _ _ _ _ _)
   |(with_reducible exact E _ _ _ _ _ _ _ _ _ _ _ _ _ _ _ _ _ _ _ _ _ _ _ _ _ _ _)
   |(with_reducible exact addr_Check.mono _ _ _ _ _)
   |(with_reducible exact LeO.refl _)
   |(with_reducible exact LeO.none _)
   |(with_reducible refine LeO.ite ?_ ?_)
   |(with_reducible refine LeO.bind ?_ (fun _=>?_))
   |exact D _ _ _ _ _ _ _ _ _ _ _ _ _
   |exact E _ _ _ _ _ _ _ _ _ _ _ _ _ _ _ _ _ _ _ _ _ _ _ _ _ _ _
   |exact addr_Check.mono _ _ _ _ _
   |exact LeO.none _
   |refine LeO.ite ?_ ?_
   |refine LeO.bind ?_ (fun _=>?_)
  ·intro y0 y1 y2 y3 y4 y5 y6 y7 y8 y9 A B C F G H I L M N O R T U V X aa;unfold msg_Check.j1
   repeat' first
   |(with_reducible exact D _ _ _ _ _ _ _ _ _ _ _ _ _)
   |(with_reducible exact E _ _ _ _ _ _ _ _ _ _ _ _ _ _ _ _ _ _ _ _ _ _ _ _ _ _ _)
   |(with_reducible exact addr_Check.mono _ _ _ _ _)
   |(with_reducible exact LeO.refl _)
   |(with_reducible exact LeO.none _)
   |(with_reducible refine LeO.ite ?_ ?_)
   |(with_reducible refine LeO.bind ?_ (fun _=>?_))
   |exact D _ _ _ _ _ _ _ _ _ _ _ _ _
   |exact E _ _ _ _ _ _ _ _ _ _ _ _ _ _ _ _ _ _ _ _ _ _ _ _ _ _ _
   |exact addr_Check.mono _ _ _ _ _
   |exact LeO.none _
   |refine LeO.ite ?_ ?_
   |refine LeO.bind ?_ (fun _=>?_)
theorem msg_Check.mono: ∀ a0 a1 a2 a3 a4 a5 a6 a7 a8 a9 A B k,LeO (msg_Check.f k a0 a1 a2 a3 a4 a5 a6 a7 a8 a9 A B) (msg_Check.f (k+1) a0 a1 a2 a3 a4 a5 a6 a7 a8 a9 A B):=by
 intro a0 a1 a2 a3 a4 a5 a6 a7 a8 a9 A B k;obtain⟨C,D⟩:=msg_Check.mono_l k;unfold msg_Check.f
 repeat' first
   | (with_reducible exact C _ _ _ _ _ _ _ _ _ _ _ _ _)
   | (with_reducible exact D _ _ _ _ _ _ _ _ _ _ _ _ _ _ _ _ _ _ _ _ _ _ _ _ _ _ _)
   | (with_reducible exact addr_Check.mono _ _ _ _ _)
   | (with_reducible exact LeO.refl _)
   | (with_reducible exact LeO.none _)
   | (with_reducible refine LeO.ite ?_ ?_)
   | (with_reducible refine LeO.bind ?_ (fun _ => ?_))
   | exact C _ _ _ _ _ _ _ _ _ _ _ _ _
   | exact D _ _ _ _ _ _ _ _ _ _ _ _ _ _ _ _ _ _ _ _ _ _ _ _ _ _ _
   | exact addr_Check.mono _ _ _ _ _
   | exact LeO.none _
   | refine LeO.ite ?_ ?_
   | refine LeO.bind ?_ (fun _ => ?_)
end Go.Proofs.Ythkdfojmhloofaa.Q
end
section
namespace Go.Proofs.Ythkdfojmhloofaa.Q
open Go.RowKit Go.Proofs.YthkdfojmhloofaaW.PrintWords Go.Proofs.YthkdfojmhloofaaW.PrintLast Go.Proofs.YthkdfojmhloofaaW.PrintMore
attribute [local go_sem] max2_int min2_int max_two min_two max_three min_three max_four min_four   -- for this text's walks alone
set_option linter.unusedVariables false
set_option linter.unusedSimpArgs false
attribute [local go_sem high] eqA35
set_option maxHeartbeats 8000000 in
set_option maxRecDepth 100000 in
theorem msg_Check.calls (k:Nat) (U:Int) (ab:Int) (aa:Int) (ac:Int) (I:Bool) (L:Int) (M:Int) (O:Int) (D:Int) (E:Int) (T:Int) (G:Int) (r:Int) (w:World) (h:msg_Check.f k U ab aa ac I L M O D E T G=some r):
  Calls Try.prog 39 #[.agg #[.int .u8 U,.int .i64 ab,.int .u64 aa,.int .i64 ac,.bool I,.int .u64 L,.int .u64 M,.int .i64 O,.int .u8 D,.int .i64 E,.int .i64 T,.int .i64 G]] w fun e w'=>e= .returned (.int .i64 r)∧Below w.heap.size w w':=by
 have hO:=Try.underlying35;have hP:=Try.underlying33;have hU:=Try.underlying30;have HB:=Ax (Below.refl w.heap.size w);have H:((msg_id.f ab).bind fun bC=>(if bC=true then (if aa=0 then (msg_Check.j0 k true U ab aa ac I L M O D E T G) else (if aa > 1099511627776 then (msg_Check.j0 k true U ab aa ac I L M O D E T G) else (if ac<0 then (msg_Check.j0 k true U ab aa ac I L M O D E T G) else (msg_Check.j0 k (decide (ac > 1099511627776)) U ab aa ac I L M O D E T G)))) else (msg_Check.j0 k true U ab aa ac I L M O D E T G)))=some r:=h;clear h;have bD:=Ax H;clear H;go_enter Try.func39,Try.ntmps39;go_upto_region 1 with (first|((with_reducible refine gate_dst (N:=1) rfl ?_);refine bX (N:=1) (cs:= #[.int .u8 U,.int .i64 ab,.int .u64 aa,.int .i64 ac,.bool I,.int .u64 L,.int .u64 M,.int .i64 O,.int .u8 D,.int .i64 E,.int .i64 T,.int .i64 G]) (t:=35) ?_;intro bV hg w3 V hb;have A:=Ax (V);have hX:=Gw0 HB hg;have F:=Gw0 HB hg;replace HB:=Bs0 HB hb;clear hb V hg))
 (try simp only[Act.put,List.setIfInBounds_toArray,List.set_cons_zero,List.set_cons_succ])
 go_cut [29] (fun eE wc=> ∃ (kq:Nat) (bo:Bool),eE= .bool bo∧Aside0 (msg_Check.j0 kq bo U ab aa ac I L M O D E T G=some r)∧Aside0 (kq≤k)∧Aside0 (wc.heap[bV]? =some (.cells #[.int .u8 U,.int .i64 ab,.int .u64 aa,.int .i64 ac,.bool I,.int .u64 L,.int .u64 M,.int .i64 O,.int .u8 D,.int .i64 E,.int .i64 T,.int .i64 G] 35 (0,0)))∧Aside0 (Below w.heap.size w wc))
 case first=>
  have H:=bD.out;clear bD;replace H:=bI H;obtain⟨bC,bW,H⟩:=H;(try dsimp only at H);have A4:=Ax bW;clear bW;by_cases c5:bC=true
  ·subst c5;have H1:(if aa=0 then (msg_Check.j0 k true U ab aa ac I L M O D E T G) else (if aa > 1099511627776 then (msg_Check.j0 k true U ab aa ac I L M O D E T G) else (if ac<0 then (msg_Check.j0 k true U ab aa ac I L M O D E T G) else (msg_Check.j0 k (decide (ac > 1099511627776)) U ab aa ac I L M O D E T G))))=some r:=by rw [if_pos rfl]at H;exact H
   clear H;have H:=H1;clear H1;by_cases c6:aa=0
   ·rw [if_pos c6]at H;have aH:(aa==0)=true:=beq_iff_eq.mpr c6;have bE:(aa !=0)=false:=bne_eq_false_iff_eq.mpr c6;clear c6
    (first|rw [aH]|(simp only[i64_w,i32_w];rw [aH])|skip)
    have H':=Ax H;clear H;obtain⟨bY,bZ,cd,ce,cf,cg,ch,ci,cj,ck,cl,cm,cn,co,cq,cr,ct,cu,cv,cw,cx,cy,cz,cA⟩:=cl12 A;go_wp2_with (first|((with_reducible refine gate_callee (f:=61) rfl ?_);refine goesL_ (some 8) rfl rfl Try.func61 (by kernel_rfl) rfl #[.int .i64 ab] rfl gS ?_;(with_reducible refine (msg_id.calls ab true _ A4.out).mono ?_);rintro e w' ⟨rfl,⟨nd,rfl⟩⟩;refine⟨_,rfl,?_⟩));go_meet
    case rel=>exact⟨_,(true),rS,H',⟨by first|omega|exact Nat.le_refl _⟩,⟨bf0 A.out⟩,⟨bw1 HB.out F.out⟩⟩
   ·rw [if_neg c6]at H;have aH:(aa==0)=false:=beq_eq_false_iff_ne.mpr c6;have bE:(aa !=0)=true:=bne_iff_ne.mpr c6
    (first|rw [aH]|(simp only[i64_w,i32_w];rw [aH])|skip)
    by_cases c8:aa > 1099511627776
    ·rw [if_pos c8]at H;have bF:decide (1099511627776<aa)=true:=dT c8;clear c8;have H':=Ax H;clear H;obtain⟨cB,cC,cD,cE,cF,cG,cH,cI,cJ,cK,cL,cM,cN,cO,cP,cQ,cR,cS,cT,cU,cV,cW,cX,cY⟩:=cl12 A;go_wp2_with (first|((with_reducible refine gate_callee (f:=61) rfl ?_);refine goesL_ (some 8) rfl rfl Try.func61 (by kernel_rfl) rfl #[.int .i64 ab] rfl gS ?_;(with_reducible refine (msg_id.calls ab true _ A4.out).mono ?_);rintro e w' ⟨rfl,⟨nd,rfl⟩⟩;refine⟨_,rfl,?_⟩));go_meet
     case rel=>exact⟨_,(true),rS,H',⟨by first|omega|exact Nat.le_refl _⟩,⟨bf0 A.out⟩,⟨bw1 HB.out F.out⟩⟩
    ·rw [if_neg c8]at H;have bF:decide (1099511627776<aa)=false:=dF c8;clear c8;by_cases c10:ac<0
     ·rw [if_pos c10]at H;have bG:decide (ac<0)=true:=dT c10;clear c10;have H':=Ax H;clear H;obtain⟨cZ,d2,d3,d4,d5,d6,d7,d8,d9,da,db,dc,dd,de,df,dg,dh,di,dj,dk,dl,dm,dn,dp⟩:=cl12 A;go_wp2_with (first|((with_reducible refine gate_callee (f:=61) rfl ?_);refine goesL_ (some 8) rfl rfl Try.func61 (by kernel_rfl) rfl #[.int .i64 ab] rfl gS ?_;(with_reducible refine (msg_id.calls ab true _ A4.out).mono ?_);rintro e w' ⟨rfl,⟨nd,rfl⟩⟩;refine⟨_,rfl,?_⟩));go_meet
      case rel=>exact⟨_,(true),rS,H',⟨by first|omega|exact Nat.le_refl _⟩,⟨bf0 A.out⟩,⟨bw1 HB.out F.out⟩⟩
     ·rw [if_neg c10]at H;have bG:decide (ac<0)=false:=dF c10;clear c10;have H':=Ax H;clear H;obtain⟨dq,dr,dt,du,dv,dw,dx,dy,dz,dA,dB,dC,dD,dE,dG,dH,dI,dJ,dK,dL,dM,dN,dO,dP⟩:=cl12 A;go_wp2_with (first|((with_reducible refine gate_callee (f:=61) rfl ?_);refine goesL_ (some 8) rfl rfl Try.func61 (by kernel_rfl) rfl #[.int .i64 ab] rfl gS ?_;(with_reducible refine (msg_id.calls ab true _ A4.out).mono ?_);rintro e w' ⟨rfl,⟨nd,rfl⟩⟩;refine⟨_,rfl,?_⟩));go_meet
      case rel=>exact⟨_,(decide (ac > 1099511627776)),rS,H',⟨by first|omega|exact Nat.le_refl _⟩,⟨bf0 A.out⟩,⟨bw1 HB.out F.out⟩⟩
  ·replace c5:=Bool.eq_false_iff.mpr c5;subst c5;have H1:(msg_Check.j0 k true U ab aa ac I L M O D E T G)=some r:=by rw [if_neg (show ¬ (false=true) by decide)]at H;exact H
   clear H;have H:=H1;clear H1;have H':=Ax H;clear H;obtain⟨dQ,dR,dS,dU,dV,dW,dX,dY,dZ,e7,e8,e9,ea,eb,ec,ed,ee,ef,eg,eh,ei,ej,ek,el⟩:=cl12 A;go_wp2_with (first|((with_reducible refine gate_callee (f:=61) rfl ?_);refine goesL_ (some 8) rfl rfl Try.func61 (by kernel_rfl) rfl #[.int .i64 ab] rfl gS ?_;(with_reducible refine (msg_id.calls ab false _ A4.out).mono ?_);rintro e w' ⟨rfl,⟨nd,rfl⟩⟩;refine⟨_,rfl,?_⟩));go_meet
   case rel=>exact⟨_,(true),rS,H',⟨by first|omega|exact Nat.le_refl _⟩,⟨bf0 A.out⟩,⟨bw1 HB.out F.out⟩⟩
 case rest=>
  clear bD;try clear c1
  try clear p2
  try clear c3
  try clear c5
  try clear c6
  try clear aH
  try clear bE
  try clear c8
  try clear bF
  try clear c10
  try clear bG
  try clear cZ
  try clear d2
  try clear db
  try clear dc
  try clear d3
  try clear d4
  try clear d5
  try clear d6
  try clear d7
  try clear d8
  try clear d9
  try clear da
  try clear dq
  try clear dr
  try clear dB
  try clear dC
  try clear dt
  try clear du
  try clear dv
  try clear dw
  try clear dx
  try clear dy
  try clear dz
  try clear dA
  try clear dQ
  try clear dR
  try clear e8
  try clear e9
  try clear dS
  try clear dU
  try clear dV
  try clear dW
  try clear dX
  try clear dY
  try clear dZ
  try clear e7
  try clear bY
  try clear bZ
  try clear cl
  try clear cm
  try clear cd
  try clear ce
  try clear cf
  try clear cg
  try clear ch
  try clear ci
  try clear cj
  try clear ck
  try clear cB
  try clear cC
  try clear cL
  try clear cM
  try clear cD
  try clear cE
  try clear cF
  try clear cG
  try clear cH
  try clear cI
  try clear cJ
  try clear cK
  try clear dd
  try clear de
  try clear dn
  try clear dp
  try clear df
  try clear dg
  try clear dh
  try clear di
  try clear dj
  try clear dk
  try clear dl
  try clear dm
  try clear dD
  try clear dE
  try clear dO
  try clear dP
  try clear dG
  try clear dH
  try clear dI
  try clear dJ
  try clear dK
  try clear dL
  try clear dM
  try clear dN
  try clear ea
  try clear eb
  try clear ek
  try clear el
  try clear ec
  try clear ed
  try clear ee
  try clear ef
  try clear eg
  try clear eh
  try clear ei
  try clear ej
  try clear cn
  try clear co
  try clear cz
  try clear cA
  try clear cq
  try clear cr
  try clear ct
  try clear cu
  try clear cv
  try clear cw
  try clear cx
  try clear cy
  try clear cN
  try clear cO
  try clear cX
  try clear cY
  try clear cP
  try clear cQ
  try clear cR
  try clear cS
  try clear cT
  try clear cU
  try clear cV
  try clear cW
  obtain⟨kq,bo,rfl,HA,en,A,HB⟩:=hcut;cases kq with
  |zero=>exact absurd HA.out (by simp [msg_Check.j0])
  |succ kj1=>
   have H:=HA.out;clear HA;simp only[msg_Check.j0]at H;by_cases aT:bo=true
   ·subst aT;have H1:(some 2)=some r:=by rw [if_pos rfl]at H;exact H
    clear H;have H:=H1;clear H1;obtain rfl:=Option.some.inj H;go_wp2;go_ret;exact⟨eS,bw1 HB.out F.out⟩
   ·replace aT:=Bool.eq_false_iff.mpr aT;subst aT;have H1:(if U=1 then (msg_Check.j1 kj1 true U (U==1) U ab aa ac I L M O D E T G 0 0 0 0 I L M O D E T G) else (msg_Check.j1 kj1 true U (U==2) U ab aa ac I L M O D E T G 0 0 0 0 I L M O D E T G))=some r:=by rw [if_neg (show ¬ (false=true) by decide)]at H;exact H
    clear H;have H:=H1;clear H1;have bH:=Ax H;clear H;obtain⟨eF,eG,eH,eI,eJ,eK,eL,eM,eN,eO,eP,eQ,eR,eT,eU,eV,eW,eX,eY,eZ,fb,fc,fd,fe⟩:=cl12 A;go_upto_if 37 with (first|((with_reducible refine gate_dst (N:=3) rfl ?_);refine bX (N:=3) (cs:= #[.int .u8 0,.int .i64 0,.int .u64 0,.int .i64 0,.bool false,.int .u64 0,.int .u64 0,.int .i64 0,.int .u8 0,.int .i64 0,.int .i64 0,.int .i64 0]) (t:=35) ?_;intro X hg hZ V hb;have B:=Ax (V);have i1:=Gw1 HB hg F.out;have R:=Gw1 HB hg F.out;replace HB:=Bs1 HB hb F.out;have C:=Nl0 A hg;have au:=Nr0 A hg;replace A:=Bx0 A hb;clear hb V hg;have i2:=au.out;have i3:=C.out;obtain⟨fg,fh,fi,fj,fk,fl,fm,fo,fp,fq,ft,fu,fv,fw,fx,fy,fz,fA,fB,fC,fD,fE,fF,fG⟩:=cl12 B;obtain⟨fH,fI,fJ,fK,fL,fM,fN,fO,fP,fQ,fR,fS,fT,fU,fV,fW,fX,fY,fZ,g6,g7,g8,g9,ga⟩:=cl12 A))
    (try simp only[Act.put,List.setIfInBounds_toArray,List.set_cons_zero,List.set_cons_succ])
    go_cut [37] (fun gb wc=> ∃ (kq:Nat) (bq:Bool),gb= .bool bq∧Aside0 (msg_Check.j1 kq true U bq U ab aa ac I L M O D E T G 0 0 0 0 I L M O D E T G=some r)∧Aside0 (kq≤kj1)∧Aside0 (wc.heap[bV]? =some (.cells #[.int .u8 U,.int .i64 ab,.int .u64 aa,.int .i64 ac,.bool I,.int .u64 L,.int .u64 M,.int .i64 O,.int .u8 D,.int .i64 E,.int .i64 T,.int .i64 G] 35 (0,0)))∧Aside0 (wc.heap[X]? =some (.cells #[.int .u8 0,.int .i64 0,.int .u64 0,.int .i64 0,.bool I,.int .u64 L,.int .u64 M,.int .i64 O,.int .u8 D,.int .i64 E,.int .i64 T,.int .i64 G] 35 (0,0)))∧Aside0 (Below w.heap.size w wc))
    case first=>
     have H:=bH.out;clear bH;by_cases ax:U=1
     ·rw [if_pos ax]at H;have aR:(U==1)=true:=beq_iff_eq.mpr ax;have eo:(U !=1)=false:=bne_eq_false_iff_eq.mpr ax;clear ax
      (first|rw [aR]|(simp only[i64_w,i32_w];rw [aR])|skip)
      have H':=Ax H;clear H;go_wp2;go_meet
      case rel=>exact⟨_,((U==1)),rS,H',⟨by have:=en.out;first|omega|exact Nat.le_refl _⟩,⟨by (repeat (first|(with_reducible first|refine blk_drewN ?_ _|refine blk_drew ?_|refine blk_alloc ?_ _)|refine blk_far ?_ C.out _));exact A.out⟩,⟨gB B.out⟩,⟨bw2 HB.out F.out R.out⟩⟩
     ·rw [if_neg ax]at H;have aR:(U==1)=false:=beq_eq_false_iff_ne.mpr ax;have eo:(U !=1)=true:=bne_iff_ne.mpr ax
      (first|rw [aR]|(simp only[i64_w,i32_w];rw [aR])|skip)
      have H':=Ax H;clear H;go_wp2;go_meet
      case rel=>exact⟨_,((U==2)),rS,H',⟨by have:=en.out;first|omega|exact Nat.le_refl _⟩,⟨by (repeat (first|(with_reducible first|refine blk_drewN ?_ _|refine blk_drew ?_|refine blk_alloc ?_ _)|refine blk_far ?_ C.out _));exact A.out⟩,⟨gB B.out⟩,⟨bw2 HB.out F.out R.out⟩⟩
    case rest=>
     clear bH;(try clear c1);(try clear c2);(try clear p2 p2);(try clear c3);(try clear c5);(try clear c6);(try clear aH);(try clear bE);(try clear c8);(try clear bF);(try clear c10);(try clear bG);(try clear aT);(try clear c18);(try clear ax);(try clear aR);(try clear eo);(try clear cZ d2 db dc d3 d4 d5 d6 d7 d8 d9 da);(try clear dq dr dB dC dt du dv dw dx dy dz dA);(try clear dQ dR e8 e9 dS dU dV dW dX dY dZ e7);(try clear eF eG eP eQ eH eI eJ eK eL eM eN eO);(try clear fg fh ft fu fi fj fk fl fm fo fp fq);(try clear fH fI fR fS fJ fK fL fM fN fO fP fQ);(try clear bY bZ cl cm cd ce cf cg ch ci cj ck);(try clear cB cC cL cM cD cE cF cG cH cI cJ cK);(try clear dd de dn dp df dg dh di dj dk dl dm);(try clear dD dE dO dP dG dH dI dJ dK dL dM dN);(try clear ea eb ek el ec ed ee ef eg eh ei ej);(try clear eR eT fd fe eU eV eW eX eY eZ fb fc);(try clear fv fw fF fG fx fy fz fA fB fC fD fE);(try clear fT fU g9 ga fV fW fX fY fZ g6 g7 g8);(try clear cn co cz cA cq cr ct cu cv cw cx cy);(try clear cN cO cX cY cP cQ cR cS cT cU cV cW);obtain⟨kq,bq,rfl,HA,i4,A,B,HB⟩:=hcut;cases kq with
     |zero=>exact absurd HA.out (by simp [msg_Check.j1])
     |succ kj14=>
      have H:=HA.out;clear HA;simp only[msg_Check.j1]at H;by_cases br:bq=true
      ·subst br;have H1:(if true=true then (if (!(0==0)||(!(0==0)||(!(0==0)||(!(0==0)||((I||((!(L==0)||(!(M==0)))||(!(O==0))))||((!(D==0)||(!(E==0)))||(!(T==0)||(!(G==0)))))))))=true then (some 2) else (some 0)) else (some 2))=some r:=by rw [if_pos rfl]at H;exact H
       clear H;have H:=H1;clear H1;replace H:(if (!(0==0)||(!(0==0)||(!(0==0)||(!(0==0)||((I||((!(L==0)||(!(M==0)))||(!(O==0))))||((!(D==0)||(!(E==0)))||(!(T==0)||(!(G==0)))))))))=true then (some 2) else (some 0))=some r:=by rw [if_pos rfl]at H;exact H
       by_cases ay:(!(0==0)||(!(0==0)||(!(0==0)||(!(0==0)||((I||((!(L==0)||(!(M==0)))||(!(O==0))))||((!(D==0)||(!(E==0)))||(!(T==0)||(!(G==0)))))))))=true
       ·rw [if_pos ay]at H;have gc:(!(0==0)||(!(0==0)||(!(0==0)||(!(0==0)||((I||((!(L==0)||(!(M==0)))||(!(O==0))))||((!(D==0)||(!(E==0)))||(!(T==0)||(!(G==0)))))))))=true:=ay
        (try (have gh:((I||((!(L==0)||(!(M==0)))||(!(O==0))))||((!(D==0)||(!(E==0)))||(!(T==0)||(!(G==0)))))=true:=by simpa using ay))
        clear ay;obtain rfl:=Option.some.inj H;go_wp2_with (first|((with_reducible refine gate_dst (N:=5) rfl ?_);refine bX (N:=5) (cs:= #[.int .u8 0,.int .i64 0,.int .u64 0,.int .i64 0,.bool false,.int .u64 0,.int .u64 0,.int .i64 0,.int .u8 0,.int .i64 0,.int .i64 0,.int .i64 0]) (t:=35) ?_;intro gi hg i5 V hb;have bJ:=Ax (V);have gj:=Gw2 HB hg F.out R.out;have bK:=Gw2 HB hg F.out R.out;replace HB:=Bs2 HB hb F.out R.out;have bL:=Nl0 A hg;have bM:=Nr0 A hg;replace A:=Bx0 A hb;have bN:=Nl0 B hg;have bO:=Nr0 B hg;replace B:=Bx0 B hb;clear hb V hg;have i6:=bM.out;have i7:=bL.out;have i8:=bO.out;have i9:=bN.out;obtain⟨ia,ib,ic,ie,ig,ii,ij,ik,il,im,io,ip,iq,ir,iu,iv,iw,ix,iy,iz,iA,iB,iC,iD⟩:=cl12 bJ;have iE:=au.out;have iF:=C.out;obtain⟨iG,iH,iI,iJ,iK,iL,iM,iN,iO,iP,iQ,iR,iS,iT,iU,iV,iW,iX,iY,iZ,j7,j8,j9,ja⟩:=cl12 B));go_ret;exact⟨eS,bw3 HB.out F.out R.out bK.out⟩
       ·rw [if_neg ay]at H;have gc:(!(0==0)||(!(0==0)||(!(0==0)||(!(0==0)||((I||((!(L==0)||(!(M==0)))||(!(O==0))))||((!(D==0)||(!(E==0)))||(!(T==0)||(!(G==0)))))))))=false:=by simpa using ay
        (try (have gh:((I||((!(L==0)||(!(M==0)))||(!(O==0))))||((!(D==0)||(!(E==0)))||(!(T==0)||(!(G==0)))))=false:=by simpa using ay))
        clear ay;obtain rfl:=Option.some.inj H;go_wp2_with (first|((with_reducible refine gate_dst (N:=5) rfl ?_);refine bX (N:=5) (cs:= #[.int .u8 0,.int .i64 0,.int .u64 0,.int .i64 0,.bool false,.int .u64 0,.int .u64 0,.int .i64 0,.int .u8 0,.int .i64 0,.int .i64 0,.int .i64 0]) (t:=35) ?_;intro gi hg jb V hb;have bJ:=Ax (V);have gj:=Gw2 HB hg F.out R.out;have bK:=Gw2 HB hg F.out R.out;replace HB:=Bs2 HB hb F.out R.out;have bL:=Nl0 A hg;have bM:=Nr0 A hg;replace A:=Bx0 A hb;have bN:=Nl0 B hg;have bO:=Nr0 B hg;replace B:=Bx0 B hb;clear hb V hg;have jc:=bM.out;have jd:=bL.out;have je:=bO.out;have jf:=bN.out;obtain⟨jg,jh,ji,jj,jk,jl,jm,jn,jo,jp,jq,jr,js,jt,ju,jv,jw,jx,jy,jz,jA,jB,jC,jD⟩:=cl12 bJ;have jE:=au.out;have jF:=C.out;obtain⟨jG,jH,jI,jJ,jK,jL,jM,jN,jO,jP,jQ,jR,jS,jT,jU,jV,jW,jX,jY,jZ,k3,k4,k5,k6⟩:=cl12 B));go_ret;exact⟨eS,bw3 HB.out F.out R.out bK.out⟩
      ·replace br:=Bool.eq_false_iff.mpr br;subst br;have H1:(if U=3 then ((msg_acts.f D E).bind fun bP=>(if bP=true then ((addr_Check.f kj14 I L M O).bind fun av=>(if av=0 then (if (!(0==0)||(!(0==0)||(!(0==0)||(!(0==0)||(!(T==0)||(!(G==0)))))))=true then (some 2) else (some 0)) else (some 2))) else (some 2))) else (if U=4 then (if true=true then ((addr_Check.f kj14 I L M O).bind fun aw=>(if aw=0 then (if (!(0==0)||(!(0==0)||(!(0==0)||(!(0==0)||((!(D==0)||(!(E==0)))||(!(T==0)||(!(G==0))))))))=true then (some 2) else (some 0)) else (some 2))) else (some 2)) else (if U=5 then ((msg_id.f G).bind fun bQ=>(if bQ=true then ((msg_iface.f T).bind fun aU=>(if aU=true then (if (!(0==0)||(!(0==0)||(!(0==0)||(!(0==0)||((I||((!(L==0)||(!(M==0)))||(!(O==0))))||((!(D==0)||(!(E==0)))))))))=true then (some 2) else (some 0)) else (some 2))) else (some 2))) else (if U=6 then (if true=true then ((msg_iface.f T).bind fun aV=>(if aV=true then (if (!(0==0)||(!(0==0)||(!(0==0)||(!(0==0)||((I||((!(L==0)||(!(M==0)))||(!(O==0))))||((!(D==0)||(!(E==0)))||(!(G==0))))))))=true then (some 2) else (some 0)) else (some 2))) else (some 2)) else (some 2)))))=some r:=by rw [if_neg (show ¬ (false=true) by decide)]at H;exact H
       clear H;have H:=H1;clear H1;by_cases aI:U=3
       ·rw [if_pos aI]at H;have gl:(U==3)=true:=beq_iff_eq.mpr aI;have gn:(U !=3)=false:=bne_eq_false_iff_eq.mpr aI;clear aI;replace H:=bI H;obtain⟨bP,ep,H⟩:=H;(try dsimp only at H);have bu:=Ax ep;clear ep;by_cases bv:bP=true
        ·subst bv;have H1:((addr_Check.f kj14 I L M O).bind fun av=>(if av=0 then (if (!(0==0)||(!(0==0)||(!(0==0)||(!(0==0)||(!(T==0)||(!(G==0)))))))=true then (some 2) else (some 0)) else (some 2)))=some r:=by rw [if_pos rfl]at H;exact H
         clear H;have H:=H1;clear H1;replace H:=bI H;obtain⟨av,eq,H⟩:=H;(try dsimp only at H);have bR:=Ax eq;clear eq;by_cases aJ:av=0
         ·rw [if_pos aJ]at H;have gq:(av==0)=true:=beq_iff_eq.mpr aJ;have gt:(av !=0)=false:=bne_eq_false_iff_eq.mpr aJ;clear aJ;by_cases az:(!(0==0)||(!(0==0)||(!(0==0)||(!(0==0)||(!(T==0)||(!(G==0)))))))=true
          ·rw [if_pos az]at H;have gu:(!(0==0)||(!(0==0)||(!(0==0)||(!(0==0)||(!(T==0)||(!(G==0)))))))=true:=az
           (try (have gv:(!(T==0)||(!(G==0)))=true:=by simpa using az))
           clear az;obtain rfl:=Option.some.inj H;have k7:=au.out;have k8:=C.out;obtain⟨k9,ka,kb,kc,ke,kf,kg,kh,ki,kj,kk,kl,km,kn,ko,kp,kr,ks,kt,ku,kv,kw,kx,ky⟩:=cl12 B;obtain⟨kz,kA,kB,kC,kD,kE,kF,kG,kH,kI,kJ,kK,kL,kM,kN,kO,kP,kQ,kR,kS,kT,kU,kV,kW⟩:=cl12 A;go_wp2_with (first|((with_reducible refine gate_callee (f:=60) rfl ?_);refine goesL_ (some 52) rfl rfl Try.func60 (by kernel_rfl) rfl #[.agg #[.int .u8 D,.int .i64 E]] rfl gS ?_;(with_reducible refine (msg_acts.calls D E true _ bu.out).mono ?_);rintro e kX ⟨rfl,hb⟩;refine⟨_,rfl,?_⟩;replace A:=Bx2 A hb C.out C.out;replace B:=Ax (blk_below (g:=X) (o:=.cells #[.int .u8 0,.int .i64 0,.int .u64 0,.int .i64 0,.bool I,.int .u64 L,.int .u64 M,.int .i64 O,.int .u8 0,.int .i64 0,.int .i64 T,.int .i64 G] 35 (0,0)) (gB B.out) hb);replace HB:=Bs2 HB hb F.out R.out;(try clear hb);obtain⟨kY,kZ,l3,l4,l5,l6,l7,l8,l9,ld,le,lf,lg,lh,ll,lm,lp,lq,lr,ls,lu,lv,lw,ly⟩:=cl12 B;obtain⟨lz,lA,lB,lC,lD,lE,lF,lG,lH,lI,lJ,lK,lL,lM,lN,lO,lP,lQ,lR,lS,lT,lU,lV,lW⟩:=cl12 A)|(go_at_call 59;(with_reducible refine (addr_Check.calls kj14 I L M O av _ bR.out).mono ?_);rintro e lX ⟨rfl,hb⟩;replace A:=Bx4 A hb C.out C.out C.out C.out;replace B:=Ax (blk_below (g:=X) (o:=.cells #[.int .u8 0,.int .i64 0,.int .u64 0,.int .i64 0,.bool false,.int .u64 0,.int .u64 0,.int .i64 0,.int .u8 0,.int .i64 0,.int .i64 T,.int .i64 G] 35 (0,0)) (gB B.out) hb);replace HB:=Bs2 HB hb F.out R.out;(try clear hb))|((with_reducible refine gate_dst (N:=5) rfl ?_);refine bX (N:=5) (cs:= #[.int .u8 0,.int .i64 0,.int .u64 0,.int .i64 0,.bool false,.int .u64 0,.int .u64 0,.int .i64 0,.int .u8 0,.int .i64 0,.int .i64 0,.int .i64 0]) (t:=35) ?_;intro er hg lY V hb;have aW:=Ax (V);have es:=Gw2 HB hg F.out R.out;have aY:=Gw2 HB hg F.out R.out;replace HB:=Bs2 HB hb F.out R.out;have aZ:=Nl0 A hg;have b2:=Nr0 A hg;replace A:=Bx0 A hb;have b3:=Nl0 B hg;have b4:=Nr0 B hg;replace B:=Bx0 B hb;clear hb V hg;have lZ:=b2.out;have m2:=aZ.out;have m3:=b4.out;have m4:=b3.out;obtain⟨m5,m6,m7,m8,m9,ma,mb,mc,me,mf,mg,mh,mi,mj,ml,mm,mo,mq,mr,ms,mt,mv,mw,mx⟩:=cl12 aW;obtain⟨my,mz,mA,mB,mC,mD,mE,mF,mG,mH,mI,mJ,mK,mL,mM,mN,mO,mP,mQ,mR,mS,mT,mU,mV⟩:=cl12 B));go_ret;exact⟨eS,bw3 HB.out F.out R.out aY.out⟩
          ·rw [if_neg az]at H;have gu:(!(0==0)||(!(0==0)||(!(0==0)||(!(0==0)||(!(T==0)||(!(G==0)))))))=false:=by simpa using az
           (try (have gv:(!(T==0)||(!(G==0)))=false:=by simpa using az))
           clear az;obtain rfl:=Option.some.inj H;have mW:=au.out;have mX:=C.out;obtain⟨mY,mZ,n3,n4,n5,n6,n7,n8,n9,na,nc,ne,nf,ng,nh,ni,nj,nk,nl,nm,nn,np,nr,nt⟩:=cl12 B;obtain⟨nu,nv,nw,nx,ny,nz,nA,nB,nC,nD,nE,nF,nG,nH,nI,nJ,nK,nL,nM,nN,nO,nP,nQ,nR⟩:=cl12 A;go_wp2_with (first|((with_reducible refine gate_callee (f:=60) rfl ?_);refine goesL_ (some 52) rfl rfl Try.func60 (by kernel_rfl) rfl #[.agg #[.int .u8 D,.int .i64 E]] rfl gS ?_;(with_reducible refine (msg_acts.calls D E true _ bu.out).mono ?_);rintro e nS ⟨rfl,hb⟩;refine⟨_,rfl,?_⟩;replace A:=Bx2 A hb C.out C.out;replace B:=Ax (blk_below (g:=X) (o:=.cells #[.int .u8 0,.int .i64 0,.int .u64 0,.int .i64 0,.bool I,.int .u64 L,.int .u64 M,.int .i64 O,.int .u8 0,.int .i64 0,.int .i64 T,.int .i64 G] 35 (0,0)) (gB B.out) hb);replace HB:=Bs2 HB hb F.out R.out;(try clear hb);obtain⟨nT,nU,nV,nW,nX,nY,nZ,o4,o5,o6,o7,o8,o9,oa,ob,oc,od,oe,og,oh,ol,om,oo,oq⟩:=cl12 B;obtain⟨ot,ou,ov,ow,ox,oy,oz,oA,oC,oD,oE,oF,oG,oH,oI,oJ,oK,oL,oM,oN,oO,oP,oQ,oR⟩:=cl12 A)|(go_at_call 59;(with_reducible refine (addr_Check.calls kj14 I L M O av _ bR.out).mono ?_);rintro e oS ⟨rfl,hb⟩;replace A:=Bx4 A hb C.out C.out C.out C.out;replace B:=Ax (blk_below (g:=X) (o:=.cells #[.int .u8 0,.int .i64 0,.int .u64 0,.int .i64 0,.bool false,.int .u64 0,.int .u64 0,.int .i64 0,.int .u8 0,.int .i64 0,.int .i64 T,.int .i64 G] 35 (0,0)) (gB B.out) hb);replace HB:=Bs2 HB hb F.out R.out;(try clear hb))|((with_reducible refine gate_dst (N:=5) rfl ?_);refine bX (N:=5) (cs:= #[.int .u8 0,.int .i64 0,.int .u64 0,.int .i64 0,.bool false,.int .u64 0,.int .u64 0,.int .i64 0,.int .u8 0,.int .i64 0,.int .i64 0,.int .i64 0]) (t:=35) ?_;intro er hg oT V hb;have aW:=Ax (V);have es:=Gw2 HB hg F.out R.out;have aY:=Gw2 HB hg F.out R.out;replace HB:=Bs2 HB hb F.out R.out;have aZ:=Nl0 A hg;have b2:=Nr0 A hg;replace A:=Bx0 A hb;have b3:=Nl0 B hg;have b4:=Nr0 B hg;replace B:=Bx0 B hb;clear hb V hg;have oU:=b2.out;have oV:=aZ.out;have oW:=b4.out;have oX:=b3.out;obtain⟨oY,oZ,p9,pa,pb,pc,pd,pf,pg,ph,pi,pj,pk,pl,pm,pn,po,pp,pq,pr,pt,pv,pw,px⟩:=cl12 aW;obtain⟨pA,pB,pC,pD,pE,pF,pG,pH,pI,pJ,pK,pL,pM,pN,pO,pP,pQ,pR,pS,pT,pU,pV,pW,pX⟩:=cl12 B));go_ret;exact⟨eS,bw3 HB.out F.out R.out aY.out⟩
         ·rw [if_neg aJ]at H;have gq:(av==0)=false:=beq_eq_false_iff_ne.mpr aJ;have gt:(av !=0)=true:=bne_iff_ne.mpr aJ;obtain rfl:=Option.some.inj H;have pY:=au.out;have pZ:=C.out;obtain⟨q3,q5,q9,qa,qb,qc,qd,qe,qf,qg,qh,qi,qj,qk,ql,qm,qn,qo,qp,qq,qr,qs,qt,qu⟩:=cl12 B;obtain⟨qv,qw,qx,qy,qz,qA,qB,qC,qD,qE,qF,qG,qH,qI,qJ,qK,qL,qM,qN,qO,qP,qQ,qR,qS⟩:=cl12 A;go_wp2_with (first|((with_reducible refine gate_callee (f:=60) rfl ?_);refine goesL_ (some 52) rfl rfl Try.func60 (by kernel_rfl) rfl #[.agg #[.int .u8 D,.int .i64 E]] rfl gS ?_;(with_reducible refine (msg_acts.calls D E true _ bu.out).mono ?_);rintro e qT ⟨rfl,hb⟩;refine⟨_,rfl,?_⟩;replace A:=Bx2 A hb C.out C.out;replace B:=Ax (blk_below (g:=X) (o:=.cells #[.int .u8 0,.int .i64 0,.int .u64 0,.int .i64 0,.bool I,.int .u64 L,.int .u64 M,.int .i64 O,.int .u8 0,.int .i64 0,.int .i64 T,.int .i64 G] 35 (0,0)) (gB B.out) hb);replace HB:=Bs2 HB hb F.out R.out;(try clear hb);obtain⟨qU,qV,qW,qX,qY,qZ,ra,rb,rc,re,rf,rg,rh,ri,rj,rk,rl,rm,rn,rp,rq,rr,rt,ru⟩:=cl12 B;obtain⟨rv,rx,ry,rz,rA,rB,rC,rD,rE,rF,rG,rH,rI,rJ,rK,rL,rM,rN,rO,rP,rQ,rR,rT,rU⟩:=cl12 A)|(go_at_call 59;(with_reducible refine (addr_Check.calls kj14 I L M O av _ bR.out).mono ?_);rintro e rV ⟨rfl,hb⟩;replace A:=Bx4 A hb C.out C.out C.out C.out;replace B:=Ax (blk_below (g:=X) (o:=.cells #[.int .u8 0,.int .i64 0,.int .u64 0,.int .i64 0,.bool false,.int .u64 0,.int .u64 0,.int .i64 0,.int .u8 0,.int .i64 0,.int .i64 T,.int .i64 G] 35 (0,0)) (gB B.out) hb);replace HB:=Bs2 HB hb F.out R.out;(try clear hb))|((with_reducible refine gate_dst (N:=5) rfl ?_);refine bX (N:=5) (cs:= #[.int .u8 0,.int .i64 0,.int .u64 0,.int .i64 0,.bool false,.int .u64 0,.int .u64 0,.int .i64 0,.int .u8 0,.int .i64 0,.int .i64 0,.int .i64 0]) (t:=35) ?_;intro er hg rW V hb;have aW:=Ax (V);have es:=Gw2 HB hg F.out R.out;have aY:=Gw2 HB hg F.out R.out;replace HB:=Bs2 HB hb F.out R.out;have aZ:=Nl0 A hg;have b2:=Nr0 A hg;replace A:=Bx0 A hb;have b3:=Nl0 B hg;have b4:=Nr0 B hg;replace B:=Bx0 B hb;clear hb V hg;have rX:=b2.out;have rY:=aZ.out;have rZ:=b4.out;have sa:=b3.out;obtain⟨sb,sc,sd,se,sf,sg,sh,si,sj,sk,sl,sm,sn,sp,sr,ss,st,su,sv,sw,sx,sy,sA,sC⟩:=cl12 aW));go_ret;exact⟨eS,bw3 HB.out F.out R.out aY.out⟩
        ·replace bv:=Bool.eq_false_iff.mpr bv;subst bv;have H1:(some 2)=some r:=by rw [if_neg (show ¬ (false=true) by decide)]at H;exact H
         clear H;have H:=H1;clear H1;obtain rfl:=Option.some.inj H;have sD:=au.out;have sE:=C.out;obtain⟨sF,sG,sH,sI,sJ,sK,sL,sM,sN,sO,sQ,sR,sS,sT,sU,sV,sW,sX,sY,sZ,t0,t7,t8,t9⟩:=cl12 B;obtain⟨ta,tb,tc,td,te,tf,tg,th,tj,tl,tm,tn,tp,tq,tt,tu,tv,tw,tx,tz,tA,tB,tC,tD⟩:=cl12 A;go_wp2_with (first|((with_reducible refine gate_callee (f:=60) rfl ?_);refine goesL_ (some 52) rfl rfl Try.func60 (by kernel_rfl) rfl #[.agg #[.int .u8 D,.int .i64 E]] rfl gS ?_;(with_reducible refine (msg_acts.calls D E false _ bu.out).mono ?_);rintro e tE ⟨rfl,hb⟩;refine⟨_,rfl,?_⟩;replace A:=Bx2 A hb C.out C.out;replace B:=Ax (blk_below (g:=X) (o:=.cells #[.int .u8 0,.int .i64 0,.int .u64 0,.int .i64 0,.bool I,.int .u64 L,.int .u64 M,.int .i64 O,.int .u8 0,.int .i64 0,.int .i64 T,.int .i64 G] 35 (0,0)) (gB B.out) hb);replace HB:=Bs2 HB hb F.out R.out;(try clear hb);obtain⟨tF,tG,tH,tI,tJ,tK,tL,tM,tN,tO,tP,tQ,tR,tS,tT,tU,tV,tW,tX,tY,tZ,ua,ub,uc⟩:=cl12 B)|((with_reducible refine gate_dst (N:=5) rfl ?_);refine bX (N:=5) (cs:= #[.int .u8 0,.int .i64 0,.int .u64 0,.int .i64 0,.bool false,.int .u64 0,.int .u64 0,.int .i64 0,.int .u8 0,.int .i64 0,.int .i64 0,.int .i64 0]) (t:=35) ?_;intro et hg ud V hb;have ae:=Bx4 A hb C.out C.out C.out C.out;have af:=Ax (blk_below (g:=X) (o:=.cells #[.int .u8 0,.int .i64 0,.int .u64 0,.int .i64 0,.bool false,.int .u64 0,.int .u64 0,.int .i64 0,.int .u8 0,.int .i64 0,.int .i64 T,.int .i64 G] 35 (0,0)) (gB B.out) hb);have ag:=Bs2 HB hb F.out R.out;have ah:=Ax (V);have aj:=Gw2 HB hg F.out R.out;have al:=Gw2 HB hg F.out R.out;have am:=Nl4 A hg C.out C.out C.out C.out;have ap:=Nr4 A hg C.out C.out C.out C.out;have aq:=Ax ((by rw [hg];exact Nat.ne_of_lt (blk_lt (g:=X) (o:=.cells #[.int .u8 0,.int .i64 0,.int .u64 0,.int .i64 0,.bool false,.int .u64 0,.int .u64 0,.int .i64 0,.int .u8 0,.int .i64 0,.int .i64 T,.int .i64 G] 35 (0,0)) (gB B.out)):X≠et));have ar:=Ax ((by rw [hg];exact Nat.ne_of_gt (blk_lt (g:=X) (o:=.cells #[.int .u8 0,.int .i64 0,.int .u64 0,.int .i64 0,.bool false,.int .u64 0,.int .u64 0,.int .i64 0,.int .u8 0,.int .i64 0,.int .i64 T,.int .i64 G] 35 (0,0)) (gB B.out)):et≠X));clear A;clear B;clear HB;have A:=ae;have B:=af;have HB:=ag;have gx:=ah;have ue:=aj;have gy:=al;have gz:=am;have gA:=ap;have gC:=aq;have gD:=ar;clear ae af ag ah aj al am ap aq ar;clear hb V hg;have uf:=gA.out;have ug:=gz.out;have uh:=gD.out;have ui:=gC.out;obtain⟨uj,uk,ul,um,un,uo,up,uq,ur,us,ut,uu,uv,uw,ux,uy,uz,uA,uB,uC,uD,uE,uF,uG⟩:=cl12 gx));go_ret;exact⟨eS,bw3 HB.out F.out R.out gy.out⟩
       ·rw [if_neg aI]at H;have gl:(U==3)=false:=beq_eq_false_iff_ne.mpr aI;have gn:(U !=3)=true:=bne_iff_ne.mpr aI;by_cases aK:U=4
        ·rw [if_pos aK]at H;have gE:(U==4)=true:=beq_iff_eq.mpr aK;have gG:(U !=4)=false:=bne_eq_false_iff_eq.mpr aK;clear aK;replace H:((addr_Check.f kj14 I L M O).bind fun aw=>(if aw=0 then (if (!(0==0)||(!(0==0)||(!(0==0)||(!(0==0)||((!(D==0)||(!(E==0)))||(!(T==0)||(!(G==0))))))))=true then (some 2) else (some 0)) else (some 2)))=some r:=by rw [if_pos rfl]at H;exact H
         replace H:=bI H;obtain⟨aw,eu,H⟩:=H;(try dsimp only at H);have bS:=Ax eu;clear eu;by_cases aM:aw=0
         ·rw [if_pos aM]at H;have gH:(aw==0)=true:=beq_iff_eq.mpr aM;have gI:(aw !=0)=false:=bne_eq_false_iff_eq.mpr aM;clear aM;by_cases aA:(!(0==0)||(!(0==0)||(!(0==0)||(!(0==0)||((!(D==0)||(!(E==0)))||(!(T==0)||(!(G==0))))))))=true
          ·rw [if_pos aA]at H;have gJ:(!(0==0)||(!(0==0)||(!(0==0)||(!(0==0)||((!(D==0)||(!(E==0)))||(!(T==0)||(!(G==0))))))))=true:=aA
           (try (have gM:((!(D==0)||(!(E==0)))||(!(T==0)||(!(G==0))))=true:=by simpa using aA))
           clear aA;obtain rfl:=Option.some.inj H;have uH:=au.out;have uI:=C.out;obtain⟨uJ,uK,uL,uM,uN,uO,uP,uQ,uR,uS,uT,uU,uV,uW,uX,uY,uZ,vk,vl,vm,vn,vo,vp,vq⟩:=cl12 B;obtain⟨vr,vs,vt,vu,vv,vw,vx,vy,vz,vA,vB,vC,vD,vE,vF,vG,vH,vI,vJ,vK,vL,vM,vN,vO⟩:=cl12 A;go_wp2_with (first|(go_at_call 59;(with_reducible refine (addr_Check.calls kj14 I L M O aw _ bS.out).mono ?_);rintro e vP ⟨rfl,hb⟩;replace A:=Bx4 A hb C.out C.out C.out C.out;replace B:=Ax (blk_below (g:=X) (o:=.cells #[.int .u8 0,.int .i64 0,.int .u64 0,.int .i64 0,.bool false,.int .u64 0,.int .u64 0,.int .i64 0,.int .u8 D,.int .i64 E,.int .i64 T,.int .i64 G] 35 (0,0)) (gB B.out) hb);replace HB:=Bs2 HB hb F.out R.out;(try clear hb))|((with_reducible refine gate_dst (N:=5) rfl ?_);refine bX (N:=5) (cs:= #[.int .u8 0,.int .i64 0,.int .u64 0,.int .i64 0,.bool false,.int .u64 0,.int .u64 0,.int .i64 0,.int .u8 0,.int .i64 0,.int .i64 0,.int .i64 0]) (t:=35) ?_;intro ev hg vQ V hb;have b5:=Ax (V);have ex:=Gw2 HB hg F.out R.out;have b6:=Gw2 HB hg F.out R.out;replace HB:=Bs2 HB hb F.out R.out;have b7:=Nl0 A hg;have b8:=Nr0 A hg;replace A:=Bx0 A hb;have b9:=Nl0 B hg;have ba:=Nr0 B hg;replace B:=Bx0 B hb;clear hb V hg;have vR:=b8.out;have vS:=b7.out;have vT:=ba.out;have vU:=b9.out;obtain⟨vV,vW,vX,vY,vZ,wa,wb,we,wg,wh,wi,wj,wk,wl,wm,wn,wo,wq,ws,wt,wu,wv,ww,wx⟩:=cl12 b5;obtain⟨wy,wz,wA,wB,wC,wD,wE,wF,wG,wH,wI,wJ,wK,wL,wM,wN,wO,wP,wQ,wR,wS,wT,wU,wV⟩:=cl12 B));go_ret;exact⟨eS,bw3 HB.out F.out R.out b6.out⟩
          ·rw [if_neg aA]at H;have gJ:(!(0==0)||(!(0==0)||(!(0==0)||(!(0==0)||((!(D==0)||(!(E==0)))||(!(T==0)||(!(G==0))))))))=false:=by simpa using aA
           (try (have gM:((!(D==0)||(!(E==0)))||(!(T==0)||(!(G==0))))=false:=by simpa using aA))
           clear aA;obtain rfl:=Option.some.inj H;have wW:=au.out;have wX:=C.out;obtain⟨wY,wZ,xa,xb,xc,xd,xe,xf,xg,xh,xi,xj,xk,xl,xm,xn,xo,xp,xq,xr,xt,xu,xv,xw⟩:=cl12 B;obtain⟨xx,xy,xz,xA,xB,xC,xD,xE,xF,xG,xH,xI,xJ,xK,xL,xM,xN,xO,xP,xQ,xR,xS,xT,xU⟩:=cl12 A;go_wp2_with (first|(go_at_call 59;(with_reducible refine (addr_Check.calls kj14 I L M O aw _ bS.out).mono ?_);rintro e xV ⟨rfl,hb⟩;replace A:=Bx4 A hb C.out C.out C.out C.out;replace B:=Ax (blk_below (g:=X) (o:=.cells #[.int .u8 0,.int .i64 0,.int .u64 0,.int .i64 0,.bool false,.int .u64 0,.int .u64 0,.int .i64 0,.int .u8 D,.int .i64 E,.int .i64 T,.int .i64 G] 35 (0,0)) (gB B.out) hb);replace HB:=Bs2 HB hb F.out R.out;(try clear hb))|((with_reducible refine gate_dst (N:=5) rfl ?_);refine bX (N:=5) (cs:= #[.int .u8 0,.int .i64 0,.int .u64 0,.int .i64 0,.bool false,.int .u64 0,.int .u64 0,.int .i64 0,.int .u8 0,.int .i64 0,.int .i64 0,.int .i64 0]) (t:=35) ?_;intro ev hg xW V hb;have b5:=Ax (V);have ex:=Gw2 HB hg F.out R.out;have b6:=Gw2 HB hg F.out R.out;replace HB:=Bs2 HB hb F.out R.out;have b7:=Nl0 A hg;have b8:=Nr0 A hg;replace A:=Bx0 A hb;have b9:=Nl0 B hg;have ba:=Nr0 B hg;replace B:=Bx0 B hb;clear hb V hg;have xX:=b8.out;have xY:=b7.out;have xZ:=ba.out;have ya:=b9.out;obtain⟨yb,yc,yd,ye,yf,yg,yh,yi,yj,yk,yl,ym,yn,yo,yp,yq,yr,yt,yu,yv,yw,yx,yy,yz⟩:=cl12 b5;obtain⟨yA,yB,yC,yD,yE,yF,yG,yH,yI,yJ,yK,yL,yM,yN,yO,yP,yQ,yR,yS,yT,yU,yV,yW,yX⟩:=cl12 B));go_ret;exact⟨eS,bw3 HB.out F.out R.out b6.out⟩
         ·rw [if_neg aM]at H;have gH:(aw==0)=false:=beq_eq_false_iff_ne.mpr aM;have gI:(aw !=0)=true:=bne_iff_ne.mpr aM;obtain rfl:=Option.some.inj H;have yY:=au.out;have yZ:=C.out;obtain⟨z4,z5,z6,z7,z8,z9,za,zb,zc,zd,ze,zf,zg,zh,zi,zj,zk,zl,zm,zn,zo,zp,zq,zr⟩:=cl12 B;obtain⟨zs,zt,zu,zv,zw,zx,zy,zz,zA,zB,zC,zD,zF,zG,zH,zI,zJ,zK,zL,zM,zN,zO,zP,zQ⟩:=cl12 A;go_wp2_with (first|(go_at_call 59;(with_reducible refine (addr_Check.calls kj14 I L M O aw _ bS.out).mono ?_);rintro e zR ⟨rfl,hb⟩;replace A:=Bx4 A hb C.out C.out C.out C.out;replace B:=Ax (blk_below (g:=X) (o:=.cells #[.int .u8 0,.int .i64 0,.int .u64 0,.int .i64 0,.bool false,.int .u64 0,.int .u64 0,.int .i64 0,.int .u8 D,.int .i64 E,.int .i64 T,.int .i64 G] 35 (0,0)) (gB B.out) hb);replace HB:=Bs2 HB hb F.out R.out;(try clear hb))|((with_reducible refine gate_dst (N:=5) rfl ?_);refine bX (N:=5) (cs:= #[.int .u8 0,.int .i64 0,.int .u64 0,.int .i64 0,.bool false,.int .u64 0,.int .u64 0,.int .i64 0,.int .u8 0,.int .i64 0,.int .i64 0,.int .i64 0]) (t:=35) ?_;intro ev hg zS V hb;have b5:=Ax (V);have ex:=Gw2 HB hg F.out R.out;have b6:=Gw2 HB hg F.out R.out;replace HB:=Bs2 HB hb F.out R.out;have b7:=Nl0 A hg;have b8:=Nr0 A hg;replace A:=Bx0 A hb;have b9:=Nl0 B hg;have ba:=Nr0 B hg;replace B:=Bx0 B hb;clear hb V hg;have zT:=b8.out;have zU:=b7.out;have zV:=ba.out;have zW:=b9.out;obtain⟨zX,zY,zZ,Aa,Ab,Ac,Ad,Ae,Af,Ag,Ah,Ai,Aj,Ak,Al,Am,An,Ao,Ap,Aq,Ar,As,At,Au⟩:=cl12 b5));go_ret;exact⟨eS,bw3 HB.out F.out R.out b6.out⟩
        ·rw [if_neg aK]at H;have gE:(U==4)=false:=beq_eq_false_iff_ne.mpr aK;have gG:(U !=4)=true:=bne_iff_ne.mpr aK;by_cases aN:U=5
         ·rw [if_pos aN]at H;have gN:(U==5)=true:=beq_iff_eq.mpr aN;have gO:(U !=5)=false:=bne_eq_false_iff_eq.mpr aN;clear aN;replace H:=bI H;obtain⟨bQ,ey,H⟩:=H;(try dsimp only at H);have bx:=Ax ey;clear ey;by_cases bz:bQ=true
          ·subst bz;have H1:((msg_iface.f T).bind fun aU=>(if aU=true then (if (!(0==0)||(!(0==0)||(!(0==0)||(!(0==0)||((I||((!(L==0)||(!(M==0)))||(!(O==0))))||((!(D==0)||(!(E==0)))))))))=true then (some 2) else (some 0)) else (some 2)))=some r:=by rw [if_pos rfl]at H;exact H
           clear H;have H:=H1;clear H1;replace H:=bI H;obtain⟨aU,ez,H⟩:=H;(try dsimp only at H);have bT:=Ax ez;clear ez;by_cases bA:aU=true
           ·subst bA;have H1:(if (!(0==0)||(!(0==0)||(!(0==0)||(!(0==0)||((I||((!(L==0)||(!(M==0)))||(!(O==0))))||((!(D==0)||(!(E==0)))))))))=true then (some 2) else (some 0))=some r:=by rw [if_pos rfl]at H;exact H
            clear H;have H:=H1;clear H1;by_cases aC:(!(0==0)||(!(0==0)||(!(0==0)||(!(0==0)||((I||((!(L==0)||(!(M==0)))||(!(O==0))))||((!(D==0)||(!(E==0)))))))))=true
            ·rw [if_pos aC]at H;have gP:(!(0==0)||(!(0==0)||(!(0==0)||(!(0==0)||((I||((!(L==0)||(!(M==0)))||(!(O==0))))||((!(D==0)||(!(E==0)))))))))=true:=aC
             (try (have gQ:((I||((!(L==0)||(!(M==0)))||(!(O==0))))||((!(D==0)||(!(E==0)))))=true:=by simpa using aC))
             clear aC;obtain rfl:=Option.some.inj H;have Av:=au.out;have Aw:=C.out;obtain⟨Ay,Az,AA,AB,AC,AD,AE,AF,AG,AH,AJ,AK,AL,AM,AN,AO,AP,AQ,AR,AS,AT,AU,AV,AW⟩:=cl12 B;obtain⟨AX,AY,AZ,B0,B2,B8,Ba,Bb,Bc,Bd,Bf,Bg,Bh,Bi,Bj,Bk,Bl,Bm,Bo,Bp,Bq,Br,Bt,Bu⟩:=cl12 A;go_wp2_with (first|((with_reducible refine gate_callee (f:=61) rfl ?_);refine goesL_ (some 65) rfl rfl Try.func61 (by kernel_rfl) rfl #[.int .i64 G] rfl gS ?_;(with_reducible refine (msg_id.calls G true _ bx.out).mono ?_);rintro e w' ⟨rfl,⟨nd,rfl⟩⟩;refine⟨_,rfl,?_⟩)|(go_at_call 62;(with_reducible refine (msg_iface.calls T true _ bT.out).mono ?_);rintro e w' ⟨rfl,⟨nd,rfl⟩⟩)|((with_reducible refine gate_dst (N:=5) rfl ?_);refine bX (N:=5) (cs:= #[.int .u8 0,.int .i64 0,.int .u64 0,.int .i64 0,.bool false,.int .u64 0,.int .u64 0,.int .i64 0,.int .u8 0,.int .i64 0,.int .i64 0,.int .i64 0]) (t:=35) ?_;intro aD hg Bv V hb;have ae:=Bx2 A hb C.out C.out;have af:=Ax (blk_below (g:=X) (o:=.cells #[.int .u8 0,.int .i64 0,.int .u64 0,.int .i64 0,.bool I,.int .u64 L,.int .u64 M,.int .i64 O,.int .u8 D,.int .i64 E,.int .i64 0,.int .i64 0] 35 (0,0)) (gB B.out) hb);have ag:=Bs2 HB hb F.out R.out;have ah:=Ax (V);have aj:=Gw2 HB hg F.out R.out;have al:=Gw2 HB hg F.out R.out;have am:=Nl2 A hg C.out C.out;have ap:=Nr2 A hg C.out C.out;have aq:=Ax ((by rw [hg];exact Nat.ne_of_lt (blk_lt (g:=X) (o:=.cells #[.int .u8 0,.int .i64 0,.int .u64 0,.int .i64 0,.bool I,.int .u64 L,.int .u64 M,.int .i64 O,.int .u8 D,.int .i64 E,.int .i64 0,.int .i64 0] 35 (0,0)) (gB B.out)):X≠aD));have ar:=Ax ((by rw [hg];exact Nat.ne_of_gt (blk_lt (g:=X) (o:=.cells #[.int .u8 0,.int .i64 0,.int .u64 0,.int .i64 0,.bool I,.int .u64 L,.int .u64 M,.int .i64 O,.int .u8 D,.int .i64 E,.int .i64 0,.int .i64 0] 35 (0,0)) (gB B.out)):aD≠X));clear A;clear B;clear HB;have A:=ae;have B:=af;have HB:=ag;have bb:=ah;have eA:=aj;have bc:=al;have bd:=am;have bf:=ap;have bg:=aq;have bh:=ar;clear ae af ag ah aj al am ap aq ar;clear hb V hg;have Bw:=bf.out;have Bz:=bd.out;have BA:=bh.out;have BB:=bg.out;obtain⟨BC,BD,BE,BF,BG,BH,BI,BJ,BK,BL,BM,BN,BO,BQ,BR,BS,BT,BU,BV,BX,BZ,C0,C1,C2⟩:=cl12 bb;obtain⟨C3,C4,C5,C6,C7,C8,C9,Ca,Cb,Cc,Cd,Ce,Cf,Cg,Ch,Ci,Cj,Ck,Cl,Cm,Cn,Co,Cp,Cq⟩:=cl12 B));go_ret;exact⟨eS,bw3 HB.out F.out R.out bc.out⟩
            ·rw [if_neg aC]at H;have gP:(!(0==0)||(!(0==0)||(!(0==0)||(!(0==0)||((I||((!(L==0)||(!(M==0)))||(!(O==0))))||((!(D==0)||(!(E==0)))))))))=false:=by simpa using aC
             (try (have gQ:((I||((!(L==0)||(!(M==0)))||(!(O==0))))||((!(D==0)||(!(E==0)))))=false:=by simpa using aC))
             clear aC;obtain rfl:=Option.some.inj H;have Cr:=au.out;have Cs:=C.out;obtain⟨Ct,Cu,Cv,Cw,Cx,Cy,Cz,CA,CB,CC,CD,CE,CF,CG,CH,CI,CJ,CK,CL,CM,CN,CO,CP,CQ⟩:=cl12 B;obtain⟨CR,CS,CT,CU,CV,CW,CX,CY,CZ,D0,D1,D2,D3,D4,D5,D6,D7,D8,D9,Da,Db,Dc,Dd,De⟩:=cl12 A;go_wp2_with (first|((with_reducible refine gate_callee (f:=61) rfl ?_);refine goesL_ (some 65) rfl rfl Try.func61 (by kernel_rfl) rfl #[.int .i64 G] rfl gS ?_;(with_reducible refine (msg_id.calls G true _ bx.out).mono ?_);rintro e w' ⟨rfl,⟨nd,rfl⟩⟩;refine⟨_,rfl,?_⟩)|(go_at_call 62;(with_reducible refine (msg_iface.calls T true _ bT.out).mono ?_);rintro e w' ⟨rfl,⟨nd,rfl⟩⟩)|((with_reducible refine gate_dst (N:=5) rfl ?_);refine bX (N:=5) (cs:= #[.int .u8 0,.int .i64 0,.int .u64 0,.int .i64 0,.bool false,.int .u64 0,.int .u64 0,.int .i64 0,.int .u8 0,.int .i64 0,.int .i64 0,.int .i64 0]) (t:=35) ?_;intro aD hg Df V hb;have ae:=Bx2 A hb C.out C.out;have af:=Ax (blk_below (g:=X) (o:=.cells #[.int .u8 0,.int .i64 0,.int .u64 0,.int .i64 0,.bool I,.int .u64 L,.int .u64 M,.int .i64 O,.int .u8 D,.int .i64 E,.int .i64 0,.int .i64 0] 35 (0,0)) (gB B.out) hb);have ag:=Bs2 HB hb F.out R.out;have ah:=Ax (V);have aj:=Gw2 HB hg F.out R.out;have al:=Gw2 HB hg F.out R.out;have am:=Nl2 A hg C.out C.out;have ap:=Nr2 A hg C.out C.out;have aq:=Ax ((by rw [hg];exact Nat.ne_of_lt (blk_lt (g:=X) (o:=.cells #[.int .u8 0,.int .i64 0,.int .u64 0,.int .i64 0,.bool I,.int .u64 L,.int .u64 M,.int .i64 O,.int .u8 D,.int .i64 E,.int .i64 0,.int .i64 0] 35 (0,0)) (gB B.out)):X≠aD));have ar:=Ax ((by rw [hg];exact Nat.ne_of_gt (blk_lt (g:=X) (o:=.cells #[.int .u8 0,.int .i64 0,.int .u64 0,.int .i64 0,.bool I,.int .u64 L,.int .u64 M,.int .i64 O,.int .u8 D,.int .i64 E,.int .i64 0,.int .i64 0] 35 (0,0)) (gB B.out)):aD≠X));clear A;clear B;clear HB;have A:=ae;have B:=af;have HB:=ag;have bb:=ah;have eA:=aj;have bc:=al;have bd:=am;have bf:=ap;have bg:=aq;have bh:=ar;clear ae af ag ah aj al am ap aq ar;clear hb V hg;have Dg:=bf.out;have Dh:=bd.out;have Di:=bh.out;have Dj:=bg.out;obtain⟨Dk,Dl,Dm,Dn,Do,Dp,Dq,Dr,Ds,Dt,Du,Dv,Dw,Dx,Dy,Dz,DA,DB,DC,DD,DE,DF,DG,DH⟩:=cl12 bb;obtain⟨DI,DJ,DK,DL,DM,DN,DO,DP,DQ,DR,DS,DT,DU,DV,DW,DX,DY,DZ,E0,E1,E2,E3,E4,E5⟩:=cl12 B));go_ret;exact⟨eS,bw3 HB.out F.out R.out bc.out⟩
           ·replace bA:=Bool.eq_false_iff.mpr bA;subst bA;have H1:(some 2)=some r:=by rw [if_neg (show ¬ (false=true) by decide)]at H;exact H
            clear H;have H:=H1;clear H1;obtain rfl:=Option.some.inj H;have E6:=au.out;have E7:=C.out;obtain⟨E8,E9,Ea,Eb,Ec,Ed,Ee,Ef,Eg,Eh,Ei,Ej,Ek,El,Em,En,Eo,Ep,Er,Es,Et,Eu,Ew,Ex⟩:=cl12 B;obtain⟨Ey,Ez,EA,EB,EC,ED,EE,EF,EG,EH,EI,EJ,EK,EL,EM,EN,EO,EP,EQ,ER,ES,ET,EU,EV⟩:=cl12 A;go_wp2_with (first|((with_reducible refine gate_callee (f:=61) rfl ?_);refine goesL_ (some 65) rfl rfl Try.func61 (by kernel_rfl) rfl #[.int .i64 G] rfl gS ?_;(with_reducible refine (msg_id.calls G true _ bx.out).mono ?_);rintro e w' ⟨rfl,⟨nd,rfl⟩⟩;refine⟨_,rfl,?_⟩)|(go_at_call 62;(with_reducible refine (msg_iface.calls T false _ bT.out).mono ?_);rintro e w' ⟨rfl,⟨nd,rfl⟩⟩)|((with_reducible refine gate_dst (N:=5) rfl ?_);refine bX (N:=5) (cs:= #[.int .u8 0,.int .i64 0,.int .u64 0,.int .i64 0,.bool false,.int .u64 0,.int .u64 0,.int .i64 0,.int .u8 0,.int .i64 0,.int .i64 0,.int .i64 0]) (t:=35) ?_;intro aD hg EW V hb;have ae:=Bx2 A hb C.out C.out;have af:=Ax (blk_below (g:=X) (o:=.cells #[.int .u8 0,.int .i64 0,.int .u64 0,.int .i64 0,.bool I,.int .u64 L,.int .u64 M,.int .i64 O,.int .u8 D,.int .i64 E,.int .i64 0,.int .i64 0] 35 (0,0)) (gB B.out) hb);have ag:=Bs2 HB hb F.out R.out;have ah:=Ax (V);have aj:=Gw2 HB hg F.out R.out;have al:=Gw2 HB hg F.out R.out;have am:=Nl2 A hg C.out C.out;have ap:=Nr2 A hg C.out C.out;have aq:=Ax ((by rw [hg];exact Nat.ne_of_lt (blk_lt (g:=X) (o:=.cells #[.int .u8 0,.int .i64 0,.int .u64 0,.int .i64 0,.bool I,.int .u64 L,.int .u64 M,.int .i64 O,.int .u8 D,.int .i64 E,.int .i64 0,.int .i64 0] 35 (0,0)) (gB B.out)):X≠aD));have ar:=Ax ((by rw [hg];exact Nat.ne_of_gt (blk_lt (g:=X) (o:=.cells #[.int .u8 0,.int .i64 0,.int .u64 0,.int .i64 0,.bool I,.int .u64 L,.int .u64 M,.int .i64 O,.int .u8 D,.int .i64 E,.int .i64 0,.int .i64 0] 35 (0,0)) (gB B.out)):aD≠X));clear A;clear B;clear HB;have A:=ae;have B:=af;have HB:=ag;have bb:=ah;have eA:=aj;have bc:=al;have bd:=am;have bf:=ap;have bg:=aq;have bh:=ar;clear ae af ag ah aj al am ap aq ar;clear hb V hg;have EX:=bf.out;have EY:=bd.out;have EZ:=bh.out;have F0:=bg.out;obtain⟨F1,F2,F3,F4,F5,F6,F7,F8,F9,Fa,Fb,Fc,Fd,Fe,Ff,Fg,Fh,Fi,Fj,Fk,Fl,Fm,Fn,Fo⟩:=cl12 bb));go_ret;exact⟨eS,bw3 HB.out F.out R.out bc.out⟩
          ·replace bz:=Bool.eq_false_iff.mpr bz;subst bz;have H1:(some 2)=some r:=by rw [if_neg (show ¬ (false=true) by decide)]at H;exact H
           clear H;have H:=H1;clear H1;obtain rfl:=Option.some.inj H;have Fp:=au.out;have Fq:=C.out;obtain⟨Fr,Fs,Ft,Fu,Fv,Fw,Fx,Fy,Fz,FA,FB,FC,FD,FE,FF,FG,FH,FI,FJ,FL,FM,FN,FO,FP⟩:=cl12 B;obtain⟨FQ,FR,FS,FT,FU,FV,FW,FX,FY,FZ,G6,G7,G8,G9,Ga,Gb,Gc,Gd,Ge,Gf,Gg,Gh,Gi,Gj⟩:=cl12 A;go_wp2_with (first|((with_reducible refine gate_callee (f:=61) rfl ?_);refine goesL_ (some 65) rfl rfl Try.func61 (by kernel_rfl) rfl #[.int .i64 G] rfl gS ?_;(with_reducible refine (msg_id.calls G false _ bx.out).mono ?_);rintro e w' ⟨rfl,⟨nd,rfl⟩⟩;refine⟨_,rfl,?_⟩)|((with_reducible refine gate_dst (N:=5) rfl ?_);refine bX (N:=5) (cs:= #[.int .u8 0,.int .i64 0,.int .u64 0,.int .i64 0,.bool false,.int .u64 0,.int .u64 0,.int .i64 0,.int .u8 0,.int .i64 0,.int .i64 0,.int .i64 0]) (t:=35) ?_;intro eB hg Gk V hb;have ae:=Bx2 A hb C.out C.out;have af:=Ax (blk_below (g:=X) (o:=.cells #[.int .u8 0,.int .i64 0,.int .u64 0,.int .i64 0,.bool I,.int .u64 L,.int .u64 M,.int .i64 O,.int .u8 D,.int .i64 E,.int .i64 0,.int .i64 0] 35 (0,0)) (gB B.out) hb);have ag:=Bs2 HB hb F.out R.out;have ah:=Ax (V);have aj:=Gw2 HB hg F.out R.out;have al:=Gw2 HB hg F.out R.out;have am:=Nl2 A hg C.out C.out;have ap:=Nr2 A hg C.out C.out;have aq:=Ax ((by rw [hg];exact Nat.ne_of_lt (blk_lt (g:=X) (o:=.cells #[.int .u8 0,.int .i64 0,.int .u64 0,.int .i64 0,.bool I,.int .u64 L,.int .u64 M,.int .i64 O,.int .u8 D,.int .i64 E,.int .i64 0,.int .i64 0] 35 (0,0)) (gB B.out)):X≠eB));have ar:=Ax ((by rw [hg];exact Nat.ne_of_gt (blk_lt (g:=X) (o:=.cells #[.int .u8 0,.int .i64 0,.int .u64 0,.int .i64 0,.bool I,.int .u64 L,.int .u64 M,.int .i64 O,.int .u8 D,.int .i64 E,.int .i64 0,.int .i64 0] 35 (0,0)) (gB B.out)):eB≠X));clear A;clear B;clear HB;have A:=ae;have B:=af;have HB:=ag;have gR:=ah;have Gl:=aj;have gT:=al;have gU:=am;have gV:=ap;have gW:=aq;have gX:=ar;clear ae af ag ah aj al am ap aq ar;clear hb V hg;have Gm:=gV.out;have Gn:=gU.out;have Gp:=gX.out;have Gq:=gW.out;obtain⟨Gr,Gs,Gt,Gu,Gv,Gw,Gx,Gy,Gz,GA,GB,GC,GD,GE,GF,GG,GH,GI,GJ,GK,GL,GM,GN,GO⟩:=cl12 gR));go_ret;exact⟨eS,bw3 HB.out F.out R.out gT.out⟩
         ·rw [if_neg aN]at H;have gN:(U==5)=false:=beq_eq_false_iff_ne.mpr aN;have gO:(U !=5)=true:=bne_iff_ne.mpr aN;by_cases aQ:U=6
          ·rw [if_pos aQ]at H;have gY:(U==6)=true:=beq_iff_eq.mpr aQ;have gZ:(U !=6)=false:=bne_eq_false_iff_eq.mpr aQ;clear aQ;replace H:((msg_iface.f T).bind fun aV=>(if aV=true then (if (!(0==0)||(!(0==0)||(!(0==0)||(!(0==0)||((I||((!(L==0)||(!(M==0)))||(!(O==0))))||((!(D==0)||(!(E==0)))||(!(G==0))))))))=true then (some 2) else (some 0)) else (some 2)))=some r:=by rw [if_pos rfl]at H;exact H
           replace H:=bI H;obtain⟨aV,eC,H⟩:=H;(try dsimp only at H);have bU:=Ax eC;clear eC;by_cases bB:aV=true
           ·subst bB;have H1:(if (!(0==0)||(!(0==0)||(!(0==0)||(!(0==0)||((I||((!(L==0)||(!(M==0)))||(!(O==0))))||((!(D==0)||(!(E==0)))||(!(G==0))))))))=true then (some 2) else (some 0))=some r:=by rw [if_pos rfl]at H;exact H
            clear H;have H:=H1;clear H1;by_cases aE:(!(0==0)||(!(0==0)||(!(0==0)||(!(0==0)||((I||((!(L==0)||(!(M==0)))||(!(O==0))))||((!(D==0)||(!(E==0)))||(!(G==0))))))))=true
            ·rw [if_pos aE]at H;have hH:(!(0==0)||(!(0==0)||(!(0==0)||(!(0==0)||((I||((!(L==0)||(!(M==0)))||(!(O==0))))||((!(D==0)||(!(E==0)))||(!(G==0))))))))=true:=aE
             (try (have hL:((I||((!(L==0)||(!(M==0)))||(!(O==0))))||((!(D==0)||(!(E==0)))||(!(G==0))))=true:=by simpa using aE))
             clear aE;obtain rfl:=Option.some.inj H;have GP:=au.out;have GQ:=C.out;obtain⟨GR,GS,GT,GU,GV,GW,GX,GY,GZ,H2,H4,H6,H7,H8,H9,Ha,Hc,Hd,He,Hf,Hg,Hh,Hi,Hj⟩:=cl12 B;obtain⟨Hk,Hl,Hm,Hn,Ho,Hp,Hq,Hr,Hs,Ht,Hu,Hv,Hw,Hx,Hy,Hz,HC,HD,HF,HH,HJ,HQ,HS,HT⟩:=cl12 A;go_wp2_with (first|(go_at_call 62;(with_reducible refine (msg_iface.calls T true _ bU.out).mono ?_);rintro e w' ⟨rfl,⟨nd,rfl⟩⟩)|((with_reducible refine gate_dst (N:=5) rfl ?_);refine bX (N:=5) (cs:= #[.int .u8 0,.int .i64 0,.int .u64 0,.int .i64 0,.bool false,.int .u64 0,.int .u64 0,.int .i64 0,.int .u8 0,.int .i64 0,.int .i64 0,.int .i64 0]) (t:=35) ?_;intro aG hg HV V hb;have ae:=Bx1 A hb C.out;have af:=Ax (blk_below (g:=X) (o:=.cells #[.int .u8 0,.int .i64 0,.int .u64 0,.int .i64 0,.bool I,.int .u64 L,.int .u64 M,.int .i64 O,.int .u8 D,.int .i64 E,.int .i64 0,.int .i64 G] 35 (0,0)) (gB B.out) hb);have ag:=Bs2 HB hb F.out R.out;have ah:=Ax (V);have aj:=Gw2 HB hg F.out R.out;have al:=Gw2 HB hg F.out R.out;have am:=Nl1 A hg C.out;have ap:=Nr1 A hg C.out;have aq:=Ax ((by rw [hg];exact Nat.ne_of_lt (blk_lt (g:=X) (o:=.cells #[.int .u8 0,.int .i64 0,.int .u64 0,.int .i64 0,.bool I,.int .u64 L,.int .u64 M,.int .i64 O,.int .u8 D,.int .i64 E,.int .i64 0,.int .i64 G] 35 (0,0)) (gB B.out)):X≠aG));have ar:=Ax ((by rw [hg];exact Nat.ne_of_gt (blk_lt (g:=X) (o:=.cells #[.int .u8 0,.int .i64 0,.int .u64 0,.int .i64 0,.bool I,.int .u64 L,.int .u64 M,.int .i64 O,.int .u8 D,.int .i64 E,.int .i64 0,.int .i64 G] 35 (0,0)) (gB B.out)):aG≠X));clear A;clear B;clear HB;have A:=ae;have B:=af;have HB:=ag;have bi:=ah;have eD:=aj;have bj:=al;have bk:=am;have bl:=ap;have bm:=aq;have bn:=ar;clear ae af ag ah aj al am ap aq ar;clear hb V hg;have HX:=bl.out;have HY:=bk.out;have HZ:=bn.out;have I0:=bm.out;obtain⟨I1,I2,I3,I4,I5,I6,I7,I8,I9,Ia,Ib,Ic,Id,Ie,If,Ig,Ih,Ii,Ij,Ik,Il,Im,In,Io⟩:=cl12 bi;obtain⟨Ip,Iq,Ir,Is,It,Iu,Iv,Iw,Ix,Iy,Iz,IA,IB,IC,ID,IE,IF,IG,IH,II,IJ,IK,IL,IM⟩:=cl12 B));go_ret;exact⟨eS,bw3 HB.out F.out R.out bj.out⟩
            ·rw [if_neg aE]at H;have hH:(!(0==0)||(!(0==0)||(!(0==0)||(!(0==0)||((I||((!(L==0)||(!(M==0)))||(!(O==0))))||((!(D==0)||(!(E==0)))||(!(G==0))))))))=false:=by simpa using aE
             (try (have hL:((I||((!(L==0)||(!(M==0)))||(!(O==0))))||((!(D==0)||(!(E==0)))||(!(G==0))))=false:=by simpa using aE))
             clear aE;obtain rfl:=Option.some.inj H;have IN:=au.out;have IO:=C.out;obtain⟨IP,IQ,IR,IS,IT,IU,IV,IW,IX,IY,IZ,J0,J1,J2,J3,J4,J5,J6,J7,J8,J9,Ja,Jb,Jc⟩:=cl12 B;obtain⟨Jd,Je,Jf,Jg,Jh,Ji,Jj,Jk,Jl,Jm,Jn,Jo,Jp,Jq,Jr,Js,Jt,Ju,Jv,Jw,Jy,Jz,JA,JB⟩:=cl12 A;go_wp2_with (first|(go_at_call 62;(with_reducible refine (msg_iface.calls T true _ bU.out).mono ?_);rintro e w' ⟨rfl,⟨nd,rfl⟩⟩)|((with_reducible refine gate_dst (N:=5) rfl ?_);refine bX (N:=5) (cs:= #[.int .u8 0,.int .i64 0,.int .u64 0,.int .i64 0,.bool false,.int .u64 0,.int .u64 0,.int .i64 0,.int .u8 0,.int .i64 0,.int .i64 0,.int .i64 0]) (t:=35) ?_;intro aG hg JC V hb;have ae:=Bx1 A hb C.out;have af:=Ax (blk_below (g:=X) (o:=.cells #[.int .u8 0,.int .i64 0,.int .u64 0,.int .i64 0,.bool I,.int .u64 L,.int .u64 M,.int .i64 O,.int .u8 D,.int .i64 E,.int .i64 0,.int .i64 G] 35 (0,0)) (gB B.out) hb);have ag:=Bs2 HB hb F.out R.out;have ah:=Ax (V);have aj:=Gw2 HB hg F.out R.out;have al:=Gw2 HB hg F.out R.out;have am:=Nl1 A hg C.out;have ap:=Nr1 A hg C.out;have aq:=Ax ((by rw [hg];exact Nat.ne_of_lt (blk_lt (g:=X) (o:=.cells #[.int .u8 0,.int .i64 0,.int .u64 0,.int .i64 0,.bool I,.int .u64 L,.int .u64 M,.int .i64 O,.int .u8 D,.int .i64 E,.int .i64 0,.int .i64 G] 35 (0,0)) (gB B.out)):X≠aG));have ar:=Ax ((by rw [hg];exact Nat.ne_of_gt (blk_lt (g:=X) (o:=.cells #[.int .u8 0,.int .i64 0,.int .u64 0,.int .i64 0,.bool I,.int .u64 L,.int .u64 M,.int .i64 O,.int .u8 D,.int .i64 E,.int .i64 0,.int .i64 G] 35 (0,0)) (gB B.out)):aG≠X));clear A;clear B;clear HB;have A:=ae;have B:=af;have HB:=ag;have bi:=ah;have eD:=aj;have bj:=al;have bk:=am;have bl:=ap;have bm:=aq;have bn:=ar;clear ae af ag ah aj al am ap aq ar;clear hb V hg;have JD:=bl.out;have JE:=bk.out;have JF:=bn.out;have JG:=bm.out;obtain⟨JH,JI,JJ,JK,JL,JM,JN,JO,JP,JQ,JR,JS,JT,JU,JV,JW,JX,JY,JZ,K2,K3,K4,K5,K6⟩:=cl12 bi;obtain⟨K7,K8,K9,Ka,Kb,Ke,Kf,Kg,Kh,Ki,Kj,Kk,Kl,Km,Ko,Kq,Kr,Ks,Kt,Ku,Kv,Kw,Kx,Ky⟩:=cl12 B));go_ret;exact⟨eS,bw3 HB.out F.out R.out bj.out⟩
           ·replace bB:=Bool.eq_false_iff.mpr bB;subst bB;have H1:(some 2)=some r:=by rw [if_neg (show ¬ (false=true) by decide)]at H;exact H
            clear H;have H:=H1;clear H1;obtain rfl:=Option.some.inj H;have Kz:=au.out;have KA:=C.out;obtain⟨KB,KC,KD,KE,KF,KG,KH,KI,KJ,KK,KL,KM,KN,KO,KP,KQ,KR,KS,KT,KU,KV,KW,KX,KY⟩:=cl12 B;obtain⟨KZ,L0,L1,L2,L3,L4,L5,L6,L7,L8,L9,La,Lb,Lc,Ld,Le,Lf,Lg,Lh,Li,Lj,Lk,Ll,Lm⟩:=cl12 A;go_wp2_with (first|(go_at_call 62;(with_reducible refine (msg_iface.calls T false _ bU.out).mono ?_);rintro e w' ⟨rfl,⟨nd,rfl⟩⟩)|((with_reducible refine gate_dst (N:=5) rfl ?_);refine bX (N:=5) (cs:= #[.int .u8 0,.int .i64 0,.int .u64 0,.int .i64 0,.bool false,.int .u64 0,.int .u64 0,.int .i64 0,.int .u8 0,.int .i64 0,.int .i64 0,.int .i64 0]) (t:=35) ?_;intro aG hg Ln V hb;have ae:=Bx1 A hb C.out;have af:=Ax (blk_below (g:=X) (o:=.cells #[.int .u8 0,.int .i64 0,.int .u64 0,.int .i64 0,.bool I,.int .u64 L,.int .u64 M,.int .i64 O,.int .u8 D,.int .i64 E,.int .i64 0,.int .i64 G] 35 (0,0)) (gB B.out) hb);have ag:=Bs2 HB hb F.out R.out;have ah:=Ax (V);have aj:=Gw2 HB hg F.out R.out;have al:=Gw2 HB hg F.out R.out;have am:=Nl1 A hg C.out;have ap:=Nr1 A hg C.out;have aq:=Ax ((by rw [hg];exact Nat.ne_of_lt (blk_lt (g:=X) (o:=.cells #[.int .u8 0,.int .i64 0,.int .u64 0,.int .i64 0,.bool I,.int .u64 L,.int .u64 M,.int .i64 O,.int .u8 D,.int .i64 E,.int .i64 0,.int .i64 G] 35 (0,0)) (gB B.out)):X≠aG));have ar:=Ax ((by rw [hg];exact Nat.ne_of_gt (blk_lt (g:=X) (o:=.cells #[.int .u8 0,.int .i64 0,.int .u64 0,.int .i64 0,.bool I,.int .u64 L,.int .u64 M,.int .i64 O,.int .u8 D,.int .i64 E,.int .i64 0,.int .i64 G] 35 (0,0)) (gB B.out)):aG≠X));clear A;clear B;clear HB;have A:=ae;have B:=af;have HB:=ag;have bi:=ah;have eD:=aj;have bj:=al;have bk:=am;have bl:=ap;have bm:=aq;have bn:=ar;clear ae af ag ah aj al am ap aq ar;clear hb V hg;have Lo:=bl.out;have Lp:=bk.out;have Lq:=bn.out;have Lr:=bm.out;obtain⟨Ls,Lt,Lu,Lv,Lw,Lx,Ly,Lz,LA,LB,LC,LD,LE,LF,LG,LH,LI,LJ,LK,LL,LM,LN,LO,LP⟩:=cl12 bi));go_ret;exact⟨eS,bw3 HB.out F.out R.out bj.out⟩
          ·rw [if_neg aQ]at H;have gY:(U==6)=false:=beq_eq_false_iff_ne.mpr aQ;have gZ:(U !=6)=true:=bne_iff_ne.mpr aQ;obtain rfl:=Option.some.inj H;go_wp2;go_ret;exact⟨eS,bw2 HB.out F.out R.out⟩
mutual
def msg_Get.j0 : Nat → ByteArray → Int → Int → Int → Int → Int → Bool → Int → Int → Int → Int → Int → Int → Int → Option (Int × Int × Int × Int × Bool × Int × Int × Int × Int × Int × Int × Int × Int)
 | 0, _, _, _, _, _, _, _, _, _, _, _, _, _, _ => none
 | k + 1, x150000, x150001, x160000, x160001, x160002, x160003, x160004, x160005, x160006, x160007, x160008, x160009, x160010, x160011 => if x150001 = 0 then (if x150000.toList = ([] : List UInt8) then ((msg_Check.f k x160000 x160001 x160002 x160003 x160004 x160005 x160006 x160007 x160008 x160009 x160010 x160011).bind fun aa => (msg_Get.j1 k (aa != 0) x160000 x160001 x160002 x160003 x160004 x160005 x160006 x160007 x160008 x160009 x160010 x160011)) else (msg_Get.j1 k true x160000 x160001 x160002 x160003 x160004 x160005 x160006 x160007 x160008 x160009 x160010 x160011)) else (msg_Get.j1 k true x160000 x160001 x160002 x160003 x160004 x160005 x160006 x160007 x160008 x160009 x160010 x160011)
def msg_Get.j1 : Nat → Bool → Int → Int → Int → Int → Bool → Int → Int → Int → Int → Int → Int → Int → Option (Int × Int × Int × Int × Bool × Int × Int × Int × Int × Int × Int × Int × Int)
 | 0, _, _, _, _, _, _, _, _, _, _, _, _, _ => none
 | k + 1, x82, x160000, x160001, x160002, x160003, x160004, x160005, x160006, x160007, x160008, x160009, x160010, x160011 => if x82 = true then (some (0, 0, 0, 0, false, 0, 0, 0, 0, 0, 0, 0, 7)) else (some (x160000, x160001, x160002, x160003, x160004, x160005, x160006, x160007, x160008, x160009, x160010, x160011, 0))
end
def msg_Get.f (k:Nat) (a0:ByteArray):Option (Int × Int × Int × Int × Bool × Int × Int × Int × Int × Int × Int × Int × Int):=if a0.toList=([]:List UInt8) then (some (0,0,0,0,false,0,0,0,0,0,0,0,7)) else (if 1≤(a0.size:Int) then (if 0<(a0.size:Int) then ((num_Reader_Many.f k (a0.extract 1 a0.size) 0 1048576).bind fun B=>((num_Reader_Num.f k B.2.1 B.2.2).bind fun C=>((num_Reader_Num.f k C.2.1 C.2.2).bind fun A=>(if (bt a0 0)=3 then ((api_Prefix.f k A.2.1 A.2.2).bind fun D=>((api_Action.f k D.2.2.2.2.1 D.2.2.2.2.2).bind fun F=>(msg_Get.j0 k F.2.2.1 F.2.2.2 (bt a0 0) B.1 C.1 (wrap64 (A.1)) D.1 D.2.1 D.2.2.1 D.2.2.2.1 F.1 F.2.1 0 0))) else (if (bt a0 0)=4 then ((api_Prefix.f k A.2.1 A.2.2).bind fun E=>(msg_Get.j0 k E.2.2.2.2.1 E.2.2.2.2.2 (bt a0 0) B.1 C.1 (wrap64 (A.1)) E.1 E.2.1 E.2.2.1 E.2.2.2.1 0 0 0 0)) else (if (bt a0 0)=5 then ((num_Reader_Many.f k A.2.1 A.2.2 65536).bind fun G=>((num_Reader_Many.f k G.2.1 G.2.2 1048576).bind fun H=>(msg_Get.j0 k H.2.1 H.2.2 (bt a0 0) B.1 C.1 (wrap64 (A.1)) false 0 0 0 0 0 G.1 H.1))) else (if (bt a0 0)=6 then ((num_Reader_Many.f k A.2.1 A.2.2 65536).bind fun I=>(msg_Get.j0 k I.2.1 I.2.2 (bt a0 0) B.1 C.1 (wrap64 (A.1)) false 0 0 0 0 0 I.1 0)) else (msg_Get.j0 k A.2.1 A.2.2 (bt a0 0) B.1 C.1 (wrap64 (A.1)) false 0 0 0 0 0 0 0)))))))) else (none)) else (none))
theorem msg_Get.mono_l: ∀ k,(∀ y0 y1 y2 y3 y4 y5 y6 y7 y8 y9 A B C F,LeO (msg_Get.j0 k y0 y1 y2 y3 y4 y5 y6 y7 y8 y9 A B C F) (msg_Get.j0 (k+1) y0 y1 y2 y3 y4 y5 y6 y7 y8 y9 A B C F))∧(∀ y0 y1 y2 y3 y4 y5 y6 y7 y8 y9 A B C,LeO (msg_Get.j1 k y0 y1 y2 y3 y4 y5 y6 y7 y8 y9 A B C) (msg_Get.j1 (k+1) y0 y1 y2 y3 y4 y5 y6 y7 y8 y9 A B C))
 |0=>⟨fun _ _ _ _ _ _ _ _ _ _ _ _ _ _ r h=>by simp [msg_Get.j0]at h,fun _ _ _ _ _ _ _ _ _ _ _ _ _ r h=>by simp [msg_Get.j1]at h⟩
 |k+1=>by
  obtain⟨D,E⟩:=msg_Get.mono_l k;refine⟨?_,?_⟩
  ·intro y0 y1 y2 y3 y4 y5 y6 y7 y8 y9 A B C F;unfold msg_Get.j0
   repeat' first
   |(with_reducible exact D _ _ _ _ _ _ _ _ _ _ _ _ _ _)
   |(with_reducible exact E _ _ _ _ _ _ _ _ _ _ _ _ _)
   |(with_reducible exact api_Action.mono _ _ _)
   |(with_reducible exact api_Prefix.mono _ _ _)
   |(with_reducible exact msg_Check.mono _ _ _ _ _ _ _ _ _ _ _ _ _)
   |(with_reducible exact num_Reader_Many.mono _ _ _ _)
   |(with_reducible exact num_Reader_Num.mono _ _ _)
   |(with_reducible exact LeO.refl _)
   |(with_reducible exact LeO.none _)
   |(with_reducible refine LeO.ite ?_ ?_)
   |(with_reducible refine LeO.bind ?_ (fun _=>?_))
   |exact D _ _ _ _ _ _ _ _ _ _ _ _ _ _
   |exact E _ _ _ _ _ _ _ _ _ _ _ _ _
   |exact api_Action.mono _ _ _
   |exact api_Prefix.mono _ _ _
   |exact msg_Check.mono _ _ _ _ _ _ _ _ _ _ _ _ _
   |exact num_Reader_Many.mono _ _ _ _
   |exact num_Reader_Num.mono _ _ _
   |exact LeO.none _
   |refine LeO.ite ?_ ?_
   |refine LeO.bind ?_ (fun _=>?_)
  ·intro y0 y1 y2 y3 y4 y5 y6 y7 y8 y9 A B C;unfold msg_Get.j1
   repeat' first
   |(with_reducible exact D _ _ _ _ _ _ _ _ _ _ _ _ _ _)
   |(with_reducible exact E _ _ _ _ _ _ _ _ _ _ _ _ _)
   |(with_reducible exact api_Action.mono _ _ _)
   |(with_reducible exact api_Prefix.mono _ _ _)
   |(with_reducible exact msg_Check.mono _ _ _ _ _ _ _ _ _ _ _ _ _)
   |(with_reducible exact num_Reader_Many.mono _ _ _ _)
   |(with_reducible exact num_Reader_Num.mono _ _ _)
   |(with_reducible exact LeO.refl _)
   |(with_reducible exact LeO.none _)
   |(with_reducible refine LeO.ite ?_ ?_)
   |(with_reducible refine LeO.bind ?_ (fun _=>?_))
   |exact D _ _ _ _ _ _ _ _ _ _ _ _ _ _
   |exact E _ _ _ _ _ _ _ _ _ _ _ _ _
   |exact api_Action.mono _ _ _
   |exact api_Prefix.mono _ _ _
   |exact msg_Check.mono _ _ _ _ _ _ _ _ _ _ _ _ _
   |exact num_Reader_Many.mono _ _ _ _
   |exact num_Reader_Num.mono _ _ _
   |exact LeO.none _
   |refine LeO.ite ?_ ?_
   |refine LeO.bind ?_ (fun _=>?_)
theorem msg_Get.mono: ∀ a0 k,LeO (msg_Get.f k a0) (msg_Get.f (k+1) a0):=by
 intro a0 k;obtain⟨A,B⟩:=msg_Get.mono_l k;unfold msg_Get.f
 repeat' first
   | (with_reducible exact A _ _ _ _ _ _ _ _ _ _ _ _ _ _)
   | (with_reducible exact B _ _ _ _ _ _ _ _ _ _ _ _ _)
   | (with_reducible exact api_Action.mono _ _ _)
   | (with_reducible exact api_Prefix.mono _ _ _)
   | (with_reducible exact msg_Check.mono _ _ _ _ _ _ _ _ _ _ _ _ _)
   | (with_reducible exact num_Reader_Many.mono _ _ _ _)
   | (with_reducible exact num_Reader_Num.mono _ _ _)
   | (with_reducible exact LeO.refl _)
   | (with_reducible exact LeO.none _)
   | (with_reducible refine LeO.ite ?_ ?_)
   | (with_reducible refine LeO.bind ?_ (fun _ => ?_))
   | exact A _ _ _ _ _ _ _ _ _ _ _ _ _ _
   | exact B _ _ _ _ _ _ _ _ _ _ _ _ _
   | exact api_Action.mono _ _ _
   | exact api_Prefix.mono _ _ _
   | exact msg_Check.mono _ _ _ _ _ _ _ _ _ _ _ _ _
   | exact num_Reader_Many.mono _ _ _ _
   | exact num_Reader_Num.mono _ _ _
   | exact LeO.none _
   | refine LeO.ite ?_ ?_
   | refine LeO.bind ?_ (fun _ => ?_)
def msg_Get.T4:Bool × List (List Nat × List Nat):=(true, [([], []),([0], [0]),([], []),([2], [2]),([3], [3]),([4], [4]),([], []),([6], [6]),([7], [7]),([8,5], [8]),([], []),([10], [10]),([11], [11]),([12,9], [12]),([13], [13]),([1,5,9,14], [1,5,9,14]),([], []),([16,15,13,0,1,2,3,4,5,6,7,8,9,10,11,12,13,14,15,16], [15,16])])
def msg_Get.B4:List Nat:= [0,1,0,4,12,28,0,64,192,508,0,1024,3072,8188,16380,32767,0,131071]
theorem msg_Get.tab4:rtab .any (opsOf Try.f20 4)=msg_Get.T4:=by kernel_rfl
theorem msg_Get.bits4:waitsOk msg_Get.T4.2 msg_Get.B4=true:=by kernel_rfl
def msg_Get.T11:Bool × List (List Nat × List Nat):=(true, [([], []),([0], [0]),([1], [1]),([2], [2]),([], []),([4], [4]),([5], [5]),([6,3], [6]),([0,1,2,3], []),([8,3,7,0,1,2,3], [3,8]),([0,1,2,3,4,5,6,7,8,9], []),([10,7,9,0,1,2,3,4,5,6,7,8,9], [7,10])])
def msg_Get.B11:List Nat:= [0,1,3,7,0,16,48,127,15,511,1023,2047]
theorem msg_Get.tab11:rtab .any (opsOf Try.f20 11)=msg_Get.T11:=by kernel_rfl
theorem msg_Get.bits11:waitsOk msg_Get.T11.2 msg_Get.B11=true:=by kernel_rfl
end Go.Proofs.Ythkdfojmhloofaa.Q
end
