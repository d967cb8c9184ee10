-- Merged and trimmed by this session's program wip/tools/trim.py.
import Derived.Test.YthkdfojmhloofaaTGramReadsUpto6
section
namespace Go.Proofs.Ythkdfojmhloofaa.Q
open Go.RowKit Go.Proofs.YthkdfojmhloofaaW.PrintWords Go.Proofs.YthkdfojmhloofaaW.PrintLast Go.Proofs.YthkdfojmhloofaaW.PrintMore
attribute [local go_sem] max2_int min2_int max_two min_two max_three min_three max_four min_four   -- for this text's walks alone
set_option linter.unusedVariables false
set_option linter.unusedSimpArgs false
set_option maxHeartbeats 8000000 in
set_option maxRecDepth 100000 in
theorem spoorref11_Put.calls (k:Nat) (C:Int) (D:Int) (E:Int) (F:Int) (L:Bool) (O:Int) (T:Int) (U:Int) (V:Int) (X:Int) (I:Int) (G:Int) (r1:ByteArray) (r2:Int) (w:World) (h:spoorref11_Put.f k C D E F L O T U V X I G=some (r1,r2)):
  Calls Try.prog 27 #[.agg #[.int .u8 C,.int .i64 D,.int .u64 E,.int .i64 F,.bool L,.int .u64 O,.int .u64 T,.int .i64 U,.int .u8 V,.int .i64 X,.int .i64 I,.int .i64 G]] w fun e w'=>e= .returned (.tuple #[.string r1,.int .i64 r2])∧Below w.heap.size w w':=by
 have fV:=Try.underlying35;have fW:=Try.underlying30;have fX:=Try.underlying33;have HB:=Ax (Below.refl w.heap.size w);have H:((spoorref11_Check.f k C D E F L O T U V X I G).bind fun aI=>(if aI=0 then ((some (([C]:List Int):List Int)).bind fun aa=>((spoorref01_Put.f k (IntKind.u64.wrap (D))).bind fun ac=>(if (strOfNums aa).size+ac.size≤9223372036854775807 then ((spoorref01_Put.f k E).bind fun ah=>(if ((strOfNums aa)++ac).size+ah.size≤9223372036854775807 then ((spoorref01_Put.f k (IntKind.u64.wrap (F))).bind fun ax=>(if (((strOfNums aa)++ac)++ah).size+ax.size≤9223372036854775807 then (if C=3 then (spoorref11_Put.j0 k ((((strOfNums aa)++ac)++ah)++ax) true C D E F L O T U V X I G) else (spoorref11_Put.j0 k ((((strOfNums aa)++ac)++ah)++ax) (C==4) C D E F L O T U V X I G)) else (none))) else (none))) else (none)))) else (some ((⟨#[]⟩:ByteArray),2))))=some (r1,r2):=h;clear h;replace H:=bI H;obtain⟨aI,dc,H⟩:=H;(try dsimp only at H);have A2:=Ax dc;clear dc;by_cases c3:aI=0
 ·rw [if_pos c3]at H;have ex:(aI==0)=true:=beq_iff_eq.mpr c3;have ey:(aI !=0)=false:=bne_eq_false_iff_eq.mpr c3;clear c3;obtain⟨aa,b9⟩: ∃ y_:List Int,y_=(([C]:List Int)):=⟨_,rfl⟩;replace H:((spoorref01_Put.f k (IntKind.u64.wrap (D))).bind fun ac=>(if (strOfNums aa).size+ac.size≤9223372036854775807 then ((spoorref01_Put.f k E).bind fun ah=>(if ((strOfNums aa)++ac).size+ah.size≤9223372036854775807 then ((spoorref01_Put.f k (IntKind.u64.wrap (F))).bind fun ax=>(if (((strOfNums aa)++ac)++ah).size+ax.size≤9223372036854775807 then (if C=3 then (spoorref11_Put.j0 k ((((strOfNums aa)++ac)++ah)++ax) true C D E F L O T U V X I G) else (spoorref11_Put.j0 k ((((strOfNums aa)++ac)++ah)++ax) (C==4) C D E F L O T U V X I G)) else (none))) else (none))) else (none)))=some (r1,r2):=by first|(rw [b9];with_reducible exact H)|(have cB:=(Option.bind_some _ _).symm.trans H;rw [b9];with_reducible exact cB)|(have cB:=(Option.bind_some _ _).symm.trans H;with_reducible exact cB)|with_reducible exact H|(rw [b9];exact H)|exact H
  have aN:=Ax b9;clear b9;replace H:=bI H;obtain⟨ac,dd,H⟩:=H;(try dsimp only at H);have A4:=Ax dd;clear dd;by_cases c5:(strOfNums aa).size+ac.size≤9223372036854775807
  ·rw [if_pos c5]at H;have fY:=eq_true c5;have fZ:decide ((strOfNums aa).size+ac.size≤9223372036854775807)=true:=dT c5;try have g6:(9223372036854775807<(strOfNums aa).size+ac.size)=False:=eq_false (Nat.not_lt.2 c5)
   replace H:=bI H;obtain⟨ah,de,H⟩:=H;(try dsimp only at H);have A6:=Ax de;clear de;by_cases c7:((strOfNums aa)++ac).size+ah.size≤9223372036854775807
   ·rw [if_pos c7]at H;have g7:=eq_true c7;have g8:decide (((strOfNums aa)++ac).size+ah.size≤9223372036854775807)=true:=dT c7;try have g9:(9223372036854775807<((strOfNums aa)++ac).size+ah.size)=False:=eq_false (Nat.not_lt.2 c7)
    try have ga:(9223372036854775807<(strOfNums aa).size+ac.size+ah.size)=False:=eq_false (by have h_:=c7;(try simp only[ByteArray.size_append]at h_);omega)
    replace H:=bI H;obtain⟨ax,df,H⟩:=H;(try dsimp only at H);have A8:=Ax df;clear df;by_cases c9:(((strOfNums aa)++ac)++ah).size+ax.size≤9223372036854775807
    ·rw [if_pos c9]at H;have gb:=eq_true c9;have gc:decide ((((strOfNums aa)++ac)++ah).size+ax.size≤9223372036854775807)=true:=dT c9;try have gh:(9223372036854775807<(((strOfNums aa)++ac)++ah).size+ax.size)=False:=eq_false (Nat.not_lt.2 c9)
     try have gi:(9223372036854775807<(strOfNums aa).size+ac.size+ah.size+ax.size)=False:=eq_false (by have h_:=c9;(try simp only[ByteArray.size_append]at h_);omega)
     have cC:=Ax H;clear H;go_enter Try.func27,Try.ntmps27;try go_wp2_with (first|((with_reducible refine gate_dst (N:=1) rfl ?_);refine bX (N:=1) (cs:= #[.int .u8 C,.int .i64 D,.int .u64 E,.int .i64 F,.bool L,.int .u64 O,.int .u64 T,.int .i64 U,.int .u8 V,.int .i64 X,.int .i64 I,.int .i64 G]) (t:=35) ?_;intro A hg gj ba hb;have B:=Ax (ba);have ez:=Gw0 HB hg;have ab:=Gw0 HB hg;replace HB:=Bs0 HB hb;clear hb ba hg;obtain⟨gl,gn,gq,gt,gu,gv,gx,gy,gz,gA,gC,gD,gE,gG,gH,gI,gJ,gM,gN,gO,gP,gQ,gR,gT⟩:=cl12 B)|((with_reducible refine gate_callee (f:=50) rfl ?_);refine goesL_ (some 10) rfl rfl Try.func50 (by kernel_rfl) rfl #[.agg #[.int .u8 C,.int .i64 D,.int .u64 E,.int .i64 F,.bool L,.int .u64 O,.int .u64 T,.int .i64 U,.int .u8 V,.int .i64 X,.int .i64 I,.int .i64 G]] rfl gS ?_;(with_reducible refine (spoorref11_Check.calls k C D E F L O T U V X I G aI _ A2.out).mono ?_);rintro e eA ⟨rfl,hb⟩;refine⟨_,rfl,?_⟩;replace B:=Bx0 B hb;replace HB:=Bs1 HB hb ab.out;(try clear hb)))
     replace B:=Ax (blk_drew B.out);replace HB:=Ax (below_drew1 HB.out);refine start_ (n:=19) (S:=fun w'=>w'.cell? ⟨A,0,none⟩=some (.int .u8 C)∧w'.cell? ⟨A,1,none⟩=some (.int .i64 D)∧w'.cell? ⟨A,2,none⟩=some (.int .u64 E)∧w'.cell? ⟨A,3,none⟩=some (.int .i64 F)∧w'.cell? ⟨A,4,none⟩=some (.bool L)∧w'.cell? ⟨A,5,none⟩=some (.int .u64 O)∧w'.cell? ⟨A,6,none⟩=some (.int .u64 T)∧w'.cell? ⟨A,7,none⟩=some (.int .i64 U)∧w'.cell? ⟨A,8,none⟩=some (.int .u8 V)∧w'.cell? ⟨A,9,none⟩=some (.int .i64 X)∧w'.cell? ⟨A,10,none⟩=some (.int .i64 I)∧w'.cell? ⟨A,11,none⟩=some (.int .i64 G)) (ds:= []) #[Y,Y,Y,Y,Y,Y,Y,Y,Y,Y,Y,Y,Y,Y,Y,Y,Y,Y,Y] (by kernel_rfl) rfl rfl (bqc12 B.out) (fun ae=>?_);refine with_tabW spoorref11_Put.tab3 spoorref11_Put.bits3 (fun aw bo=>?_);generalize eA.drew=w14 at B HB ae ⊢;refine pz 0 12 #[Z,Y,Y,Y,Y,Y,Y,Y,Y,Y,Y,Y,Y,Y,Y,Y,Y,Y,Y] aw.out ?_
     refine pz 4 16 #[Z,Y,Y,Y,Z,Y,Y,Y,Y,Y,Y,Y,Y,Y,Y,Y,Y,Y,Y] aw.out ?_
     refine pz 9 21 #[Z,Y,Y,Y,Z,Y,Y,Y,Y,Z,Y,Y,Y,Y,Y,Y,Y,Y,Y] aw.out ?_
     refine pz 13 25 #[Z,Y,Y,Y,Z,Y,Y,Y,Y,Z,Y,Y,Y,Z,Y,Y,Y,Y,Y] aw.out ?_
     refine take_ (i:=1) (N:=some 13) (v:=?_) (a':=?_) #[Z,Z,Y,Y,Z,Y,Y,Y,Y,Z,Y,Y,Y,Z,Y,Y,Y,Y,Y] rfl rfl (take_ofW aw.out bo.out (by kernel_rfl)) (fun _ _ _ h=>h) (Or.inl ⟨by rfl,?_⟩) ae ?_ ?_;rotate_left
     ·rintro w' ⟨s0,s1,s2,s3,s4,s5,s6,s7,s8,s9,cD,cE⟩
      go_simp;with_reducible rfl
     rotate_left;·simp only[sP];rfl
     refine take_ (i:=5) (N:=some 17) (v:=?_) (a':=?_) #[Z,Z,Y,Y,Z,Z,Y,Y,Y,Z,Y,Y,Y,Z,Y,Y,Y,Y,Y] rfl rfl (take_ofW aw.out bo.out (by kernel_rfl)) (fun _ _ _ h=>h) (Or.inl ⟨by rfl,?_⟩) ae ?_ ?_;rotate_left
     ·rintro w' ⟨s0,s1,s2,s3,s4,s5,s6,s7,s8,s9,cD,cE⟩
      go_simp;with_reducible rfl
     rotate_left;·simp only[sP];rfl
     refine pz 6 18 #[Z,Z,Y,Y,Z,Z,Z,Y,Y,Z,Y,Y,Y,Z,Y,Y,Y,Y,Y] aw.out ?_
     refine take_ (i:=10) (N:=some 22) (v:=?_) (a':=?_) #[Z,Z,Y,Y,Z,Z,Z,Y,Y,Z,Z,Y,Y,Z,Y,Y,Y,Y,Y] rfl rfl (take_ofW aw.out bo.out (by kernel_rfl)) (fun _ _ _ h=>h) (Or.inl ⟨by rfl,?_⟩) ae ?_ ?_;rotate_left
     ·rintro w' ⟨s0,s1,s2,s3,s4,s5,s6,s7,s8,s9,cD,cE⟩
      go_simp;with_reducible rfl
     rotate_left;·simp only[sP];rfl
     refine take_ (i:=14) (N:=some 26) (v:=?_) (a':=?_) #[Z,Z,Y,Y,Z,Z,Z,Y,Y,Z,Z,Y,Y,Z,Z,Y,Y,Y,Y] rfl rfl (take_ofW aw.out bo.out (by kernel_rfl)) (fun _ _ _ h=>h) (Or.inl ⟨by rfl,?_⟩) ae ?_ ?_;rotate_left
     ·rintro w' ⟨s0,s1,s2,s3,s4,s5,s6,s7,s8,s9,cD,cE⟩
      go_simp;with_reducible rfl
     rotate_left;·simp only[sP];rfl
     refine pz 15 27 #[Z,Z,Y,Y,Z,Z,Z,Y,Y,Z,Z,Y,Y,Z,Z,Z,Y,Y,Y] aw.out ?_
     refine join_ (σ:=Value) 2 #[Z,Z,Z,Z,Z,Z,Z,Z,Z,Z,Z,Z,Z,Z,Z,Z,Z,Y,Y] (fun s_=> [(14,s_),(15,.string (strOfNums aa)),(19,.string ac),(23,.string ah),(28,.string ax),(20,.string ((strOfNums aa)++ac)),(24,.string (((strOfNums aa)++ac)++ah))]) (fun s_ w'=>(w'.cell? ⟨A,0,none⟩=some (.int .u8 C)∧w'.cell? ⟨A,1,none⟩=some (.int .i64 D)∧w'.cell? ⟨A,2,none⟩=some (.int .u64 E)∧w'.cell? ⟨A,3,none⟩=some (.int .i64 F)∧w'.cell? ⟨A,4,none⟩=some (.bool L)∧w'.cell? ⟨A,5,none⟩=some (.int .u64 O)∧w'.cell? ⟨A,6,none⟩=some (.int .u64 T)∧w'.cell? ⟨A,7,none⟩=some (.int .i64 U)∧w'.cell? ⟨A,8,none⟩=some (.int .u8 V)∧w'.cell? ⟨A,9,none⟩=some (.int .i64 X)∧w'.cell? ⟨A,10,none⟩=some (.int .i64 I)∧w'.cell? ⟨A,11,none⟩=some (.int .i64 G))∧(Kd.R (Kd.int .u8) 5 w' w.heap.size (fun _=>True) s_ aa)∧(w'.heap[A]? =some (.cells #[.int .u8 C,.int .i64 D,.int .u64 E,.int .i64 F,.bool L,.int .u64 O,.int .u64 T,.int .i64 U,.int .u8 V,.int .i64 X,.int .i64 I,.int .i64 G] 35 (0,0)))∧(Below w.heap.size w w')) ?_ ?_;rotate_left
     ·intro dg;refine join_ (σ:=Value) 3 #[Z,Z,Z,Z,Z,Z,Z,Z,Z,Z,Z,Z,Z,Z,Z,Z,Y,Y,Y] (fun s_=> [(14,s_),(15,.string (strOfNums aa)),(19,.string ac),(23,.string ah),(20,.string ((strOfNums aa)++ac)),(24,.string (((strOfNums aa)++ac)++ah))]) (fun s_ w'=>(w'.cell? ⟨A,0,none⟩=some (.int .u8 C)∧w'.cell? ⟨A,1,none⟩=some (.int .i64 D)∧w'.cell? ⟨A,2,none⟩=some (.int .u64 E)∧w'.cell? ⟨A,3,none⟩=some (.int .i64 F)∧w'.cell? ⟨A,4,none⟩=some (.bool L)∧w'.cell? ⟨A,5,none⟩=some (.int .u64 O)∧w'.cell? ⟨A,6,none⟩=some (.int .u64 T)∧w'.cell? ⟨A,7,none⟩=some (.int .i64 U)∧w'.cell? ⟨A,8,none⟩=some (.int .u8 V)∧w'.cell? ⟨A,9,none⟩=some (.int .i64 X)∧w'.cell? ⟨A,10,none⟩=some (.int .i64 I)∧w'.cell? ⟨A,11,none⟩=some (.int .i64 G))∧(Kd.R (Kd.int .u8) 5 w' w.heap.size (fun _=>True) s_ aa)∧(w'.heap[A]? =some (.cells #[.int .u8 C,.int .i64 D,.int .u64 E,.int .i64 F,.bool L,.int .u64 O,.int .u64 T,.int .i64 U,.int .u8 V,.int .i64 X,.int .i64 I,.int .i64 G] 35 (0,0)))∧(Below w.heap.size w w')) ?_ ?_;rotate_left
      ·intro dh;refine join_ (σ:=Value) 5 #[Z,Z,Z,Y,Z,Z,Z,Z,Y,Z,Z,Z,Y,Z,Z,Z,Z,Y,Y] (fun s_=> [(14,s_),(19,.string ac),(23,.string ah),(28,.string ax)]) (fun s_ w'=>(w'.cell? ⟨A,0,none⟩=some (.int .u8 C)∧w'.cell? ⟨A,1,none⟩=some (.int .i64 D)∧w'.cell? ⟨A,2,none⟩=some (.int .u64 E)∧w'.cell? ⟨A,3,none⟩=some (.int .i64 F)∧w'.cell? ⟨A,4,none⟩=some (.bool L)∧w'.cell? ⟨A,5,none⟩=some (.int .u64 O)∧w'.cell? ⟨A,6,none⟩=some (.int .u64 T)∧w'.cell? ⟨A,7,none⟩=some (.int .i64 U)∧w'.cell? ⟨A,8,none⟩=some (.int .u8 V)∧w'.cell? ⟨A,9,none⟩=some (.int .i64 X)∧w'.cell? ⟨A,10,none⟩=some (.int .i64 I)∧w'.cell? ⟨A,11,none⟩=some (.int .i64 G))∧(Kd.R (Kd.int .u8) 5 w' w.heap.size (fun _=>True) s_ aa)∧(w'.heap[A]? =some (.cells #[.int .u8 C,.int .i64 D,.int .u64 E,.int .i64 F,.bool L,.int .u64 O,.int .u64 T,.int .i64 U,.int .u8 V,.int .i64 X,.int .i64 I,.int .i64 G] 35 (0,0)))∧(Below w.heap.size w w')) ?_ ?_;rotate_left
       ·intro di;refine join_ (σ:=Value) 5 #[Z,Z,Z,Z,Z,Z,Z,Z,Z,Z,Z,Y,Y,Z,Z,Z,Y,Y,Y] (fun s_=> [(14,s_),(15,.string (strOfNums aa)),(19,.string ac),(20,.string ((strOfNums aa)++ac))]) (fun s_ w'=>(w'.cell? ⟨A,0,none⟩=some (.int .u8 C)∧w'.cell? ⟨A,1,none⟩=some (.int .i64 D)∧w'.cell? ⟨A,2,none⟩=some (.int .u64 E)∧w'.cell? ⟨A,3,none⟩=some (.int .i64 F)∧w'.cell? ⟨A,4,none⟩=some (.bool L)∧w'.cell? ⟨A,5,none⟩=some (.int .u64 O)∧w'.cell? ⟨A,6,none⟩=some (.int .u64 T)∧w'.cell? ⟨A,7,none⟩=some (.int .i64 U)∧w'.cell? ⟨A,8,none⟩=some (.int .u8 V)∧w'.cell? ⟨A,9,none⟩=some (.int .i64 X)∧w'.cell? ⟨A,10,none⟩=some (.int .i64 I)∧w'.cell? ⟨A,11,none⟩=some (.int .i64 G))∧(Kd.R (Kd.int .u8) 5 w' w.heap.size (fun _=>True) s_ aa)∧(w'.heap[A]? =some (.cells #[.int .u8 C,.int .i64 D,.int .u64 E,.int .i64 F,.bool L,.int .u64 O,.int .u64 T,.int .i64 U,.int .u8 V,.int .i64 X,.int .i64 I,.int .i64 G] 35 (0,0)))∧(Below w.heap.size w w')) ?_ ?_;rotate_left
        ·intro dj;refine join_ (σ:=Value) 6 #[Z,Z,Z,Y,Z,Z,Z,Z,Y,Z,Z,Z,Y,Z,Z,Z,Y,Y,Y] (fun s_=> [(14,s_),(19,.string ac),(23,.string ah)]) (fun s_ w'=>(w'.cell? ⟨A,0,none⟩=some (.int .u8 C)∧w'.cell? ⟨A,1,none⟩=some (.int .i64 D)∧w'.cell? ⟨A,2,none⟩=some (.int .u64 E)∧w'.cell? ⟨A,3,none⟩=some (.int .i64 F)∧w'.cell? ⟨A,4,none⟩=some (.bool L)∧w'.cell? ⟨A,5,none⟩=some (.int .u64 O)∧w'.cell? ⟨A,6,none⟩=some (.int .u64 T)∧w'.cell? ⟨A,7,none⟩=some (.int .i64 U)∧w'.cell? ⟨A,8,none⟩=some (.int .u8 V)∧w'.cell? ⟨A,9,none⟩=some (.int .i64 X)∧w'.cell? ⟨A,10,none⟩=some (.int .i64 I)∧w'.cell? ⟨A,11,none⟩=some (.int .i64 G))∧(Kd.R (Kd.int .u8) 5 w' w.heap.size (fun _=>True) s_ aa)∧(w'.heap[A]? =some (.cells #[.int .u8 C,.int .i64 D,.int .u64 E,.int .i64 F,.bool L,.int .u64 O,.int .u64 T,.int .i64 U,.int .u8 V,.int .i64 X,.int .i64 I,.int .i64 G] 35 (0,0)))∧(Below w.heap.size w w')) ?_ ?_;rotate_left
         ·intro dk;refine join_ (σ:=Unit) 6 #[Z,Z,Y,Y,Z,Z,Z,Z,Y,Z,Z,Z,Y,Z,Z,Z,Z,Y,Y] (fun s_=> [(19,.string ac),(23,.string ah),(28,.string ax)]) (fun s_ w'=>(w'.cell? ⟨A,0,none⟩=some (.int .u8 C)∧w'.cell? ⟨A,1,none⟩=some (.int .i64 D)∧w'.cell? ⟨A,2,none⟩=some (.int .u64 E)∧w'.cell? ⟨A,3,none⟩=some (.int .i64 F)∧w'.cell? ⟨A,4,none⟩=some (.bool L)∧w'.cell? ⟨A,5,none⟩=some (.int .u64 O)∧w'.cell? ⟨A,6,none⟩=some (.int .u64 T)∧w'.cell? ⟨A,7,none⟩=some (.int .i64 U)∧w'.cell? ⟨A,8,none⟩=some (.int .u8 V)∧w'.cell? ⟨A,9,none⟩=some (.int .i64 X)∧w'.cell? ⟨A,10,none⟩=some (.int .i64 I)∧w'.cell? ⟨A,11,none⟩=some (.int .i64 G))∧(w'.heap[A]? =some (.cells #[.int .u8 C,.int .i64 D,.int .u64 E,.int .i64 F,.bool L,.int .u64 O,.int .u64 T,.int .i64 U,.int .u8 V,.int .i64 X,.int .i64 I,.int .i64 G] 35 (0,0)))∧(Below w.heap.size w w')) ?_ ?_;rotate_left
          ·intro eB;refine join_ (σ:=Value) 7 #[Z,Z,Z,Z,Z,Z,Z,Y,Y,Z,Z,Y,Y,Z,Z,Z,Y,Y,Y] (fun s_=> [(14,s_),(15,.string (strOfNums aa))]) (fun s_ w'=>(w'.cell? ⟨A,0,none⟩=some (.int .u8 C)∧w'.cell? ⟨A,1,none⟩=some (.int .i64 D)∧w'.cell? ⟨A,2,none⟩=some (.int .u64 E)∧w'.cell? ⟨A,3,none⟩=some (.int .i64 F)∧w'.cell? ⟨A,4,none⟩=some (.bool L)∧w'.cell? ⟨A,5,none⟩=some (.int .u64 O)∧w'.cell? ⟨A,6,none⟩=some (.int .u64 T)∧w'.cell? ⟨A,7,none⟩=some (.int .i64 U)∧w'.cell? ⟨A,8,none⟩=some (.int .u8 V)∧w'.cell? ⟨A,9,none⟩=some (.int .i64 X)∧w'.cell? ⟨A,10,none⟩=some (.int .i64 I)∧w'.cell? ⟨A,11,none⟩=some (.int .i64 G))∧(Kd.R (Kd.int .u8) 5 w' w.heap.size (fun _=>True) s_ aa)∧(w'.heap[A]? =some (.cells #[.int .u8 C,.int .i64 D,.int .u64 E,.int .i64 F,.bool L,.int .u64 O,.int .u64 T,.int .i64 U,.int .u8 V,.int .i64 X,.int .i64 I,.int .i64 G] 35 (0,0)))∧(Below w.heap.size w w')) ?_ ?_;rotate_left
           ·intro eC;refine join_ (σ:=Value) 7 #[Z,Z,Z,Y,Z,Z,Z,Z,Y,Z,Z,Y,Y,Z,Z,Z,Y,Y,Y] (fun s_=> [(14,s_),(19,.string ac)]) (fun s_ w'=>(w'.cell? ⟨A,0,none⟩=some (.int .u8 C)∧w'.cell? ⟨A,1,none⟩=some (.int .i64 D)∧w'.cell? ⟨A,2,none⟩=some (.int .u64 E)∧w'.cell? ⟨A,3,none⟩=some (.int .i64 F)∧w'.cell? ⟨A,4,none⟩=some (.bool L)∧w'.cell? ⟨A,5,none⟩=some (.int .u64 O)∧w'.cell? ⟨A,6,none⟩=some (.int .u64 T)∧w'.cell? ⟨A,7,none⟩=some (.int .i64 U)∧w'.cell? ⟨A,8,none⟩=some (.int .u8 V)∧w'.cell? ⟨A,9,none⟩=some (.int .i64 X)∧w'.cell? ⟨A,10,none⟩=some (.int .i64 I)∧w'.cell? ⟨A,11,none⟩=some (.int .i64 G))∧(Kd.R (Kd.int .u8) 5 w' w.heap.size (fun _=>True) s_ aa)∧(w'.heap[A]? =some (.cells #[.int .u8 C,.int .i64 D,.int .u64 E,.int .i64 F,.bool L,.int .u64 O,.int .u64 T,.int .i64 U,.int .u8 V,.int .i64 X,.int .i64 I,.int .i64 G] 35 (0,0)))∧(Below w.heap.size w w')) ?_ ?_;rotate_left
            ·intro dl;refine join_ (σ:=Unit) 7 #[Z,Z,Y,Y,Z,Z,Z,Z,Y,Z,Z,Z,Y,Z,Z,Z,Y,Y,Y] (fun s_=> [(19,.string ac),(23,.string ah)]) (fun s_ w'=>(w'.cell? ⟨A,0,none⟩=some (.int .u8 C)∧w'.cell? ⟨A,1,none⟩=some (.int .i64 D)∧w'.cell? ⟨A,2,none⟩=some (.int .u64 E)∧w'.cell? ⟨A,3,none⟩=some (.int .i64 F)∧w'.cell? ⟨A,4,none⟩=some (.bool L)∧w'.cell? ⟨A,5,none⟩=some (.int .u64 O)∧w'.cell? ⟨A,6,none⟩=some (.int .u64 T)∧w'.cell? ⟨A,7,none⟩=some (.int .i64 U)∧w'.cell? ⟨A,8,none⟩=some (.int .u8 V)∧w'.cell? ⟨A,9,none⟩=some (.int .i64 X)∧w'.cell? ⟨A,10,none⟩=some (.int .i64 I)∧w'.cell? ⟨A,11,none⟩=some (.int .i64 G))∧(w'.heap[A]? =some (.cells #[.int .u8 C,.int .i64 D,.int .u64 E,.int .i64 F,.bool L,.int .u64 O,.int .u64 T,.int .i64 U,.int .u8 V,.int .i64 X,.int .i64 I,.int .i64 G] 35 (0,0)))∧(Below w.heap.size w w')) ?_ ?_;rotate_left
             ·intro eD;refine join_ (σ:=Value) 8 #[Z,Z,Z,Y,Z,Z,Z,Y,Y,Z,Z,Y,Y,Z,Z,Z,Y,Y,Y] (fun s_=> [(14,s_)]) (fun s_ w'=>(w'.cell? ⟨A,0,none⟩=some (.int .u8 C)∧w'.cell? ⟨A,1,none⟩=some (.int .i64 D)∧w'.cell? ⟨A,2,none⟩=some (.int .u64 E)∧w'.cell? ⟨A,3,none⟩=some (.int .i64 F)∧w'.cell? ⟨A,4,none⟩=some (.bool L)∧w'.cell? ⟨A,5,none⟩=some (.int .u64 O)∧w'.cell? ⟨A,6,none⟩=some (.int .u64 T)∧w'.cell? ⟨A,7,none⟩=some (.int .i64 U)∧w'.cell? ⟨A,8,none⟩=some (.int .u8 V)∧w'.cell? ⟨A,9,none⟩=some (.int .i64 X)∧w'.cell? ⟨A,10,none⟩=some (.int .i64 I)∧w'.cell? ⟨A,11,none⟩=some (.int .i64 G))∧(Kd.R (Kd.int .u8) 5 w' w.heap.size (fun _=>True) s_ aa)∧(w'.heap[A]? =some (.cells #[.int .u8 C,.int .i64 D,.int .u64 E,.int .i64 F,.bool L,.int .u64 O,.int .u64 T,.int .i64 U,.int .u8 V,.int .i64 X,.int .i64 I,.int .i64 G] 35 (0,0)))∧(Below w.heap.size w w')) ?_ ?_;rotate_left
              ·intro eE;refine join_ (σ:=Unit) 8 #[Z,Z,Y,Y,Z,Z,Z,Z,Y,Z,Z,Y,Y,Z,Z,Z,Y,Y,Y] (fun s_=> [(19,.string ac)]) (fun s_ w'=>(w'.cell? ⟨A,0,none⟩=some (.int .u8 C)∧w'.cell? ⟨A,1,none⟩=some (.int .i64 D)∧w'.cell? ⟨A,2,none⟩=some (.int .u64 E)∧w'.cell? ⟨A,3,none⟩=some (.int .i64 F)∧w'.cell? ⟨A,4,none⟩=some (.bool L)∧w'.cell? ⟨A,5,none⟩=some (.int .u64 O)∧w'.cell? ⟨A,6,none⟩=some (.int .u64 T)∧w'.cell? ⟨A,7,none⟩=some (.int .i64 U)∧w'.cell? ⟨A,8,none⟩=some (.int .u8 V)∧w'.cell? ⟨A,9,none⟩=some (.int .i64 X)∧w'.cell? ⟨A,10,none⟩=some (.int .i64 I)∧w'.cell? ⟨A,11,none⟩=some (.int .i64 G))∧(w'.heap[A]? =some (.cells #[.int .u8 C,.int .i64 D,.int .u64 E,.int .i64 F,.bool L,.int .u64 O,.int .u64 T,.int .i64 U,.int .u8 V,.int .i64 X,.int .i64 I,.int .i64 G] 35 (0,0)))∧(Below w.heap.size w w')) ?_ ?_;rotate_left
               ·intro eF;refine two_ (i:=2) (j:=7) (Ni:=some 14) (Nj:=some 19) #[Z,Z,Z,Y,Z,Z,Z,Y,Y,Z,Z,Y,Y,Z,Z,Z,Y,Y,Y] #[Z,Z,Y,Y,Z,Z,Z,Z,Y,Z,Z,Y,Y,Z,Z,Z,Y,Y,Y] rfl rfl rfl rfl (two_of aw.out (by kernel_rfl)) (by decide) (by decide) (fun K hK=>?_) (fun K hK=>?_)
                ·skip
                 refine Kd.R_lit_step (Kd.int .u8) _ 5 ?hg (N:=14) ?hd (xs:=([C]:List Int)) (inner:= [.int .u8 C]) (ok:=fun _=>True) (okp:=fun _=>True) ?hr ?hp (fun _ hk=>hk) trivial (Below.refl _ _) (Nat.le_refl _) (by simp) ?_;(case hd=>rfl);(case hg=>rfl);(case hr=>first|(go_simp;done)|(go_simp;rfl));(case hp=>exact (Reps.one (show Kd.M (Kd.int .u8) _ _ _ C [.int .u8 C] from rfl) (Reps.none _ _)));intro al eG bb hb aU aV;clear aU aV
                 (first|rw [← aN.out]at bb|(simp only[Int.reduceToNat]at bb;rw [← aN.out]at bb))
                 have ag:=Ax (Kd.R_lower bb (below_size (bw1 HB.out ab.out)));replace B:=Bx0 B hb;replace HB:=Bs1 HB hb ab.out;clear hb bb;refine hK.out _ _ (bqc12 B.out) (fun ae=>?_);clear hK K;refine norm_ (a':=?_) ?_ ?_;rotate_left
                 ·show Act.put _ (some 14) _=_
                  simp only[sP];rfl
                 exact norm_ (by first|(simp only[putAll,Act.put,List.setIfInBounds_toArray,List.set_cons_zero,List.set_cons_succ];done)|(simp only[putAll,Act.put,List.setIfInBounds_toArray,List.set_cons_zero,List.set_cons_succ];rfl)) (eE (al) _ ⟨ae,(by (with_reducible repeat (first|apply Kd.R_alloc|apply Kd.R_drewN|apply Kd.R_drew));exact ag.out),(bf0 B.out),(bw1 HB.out ab.out)⟩)
                ·skip
                 refine goes_ Try.func51 (by kernel_rfl) rfl #[.int .u64 (IntKind.u64.wrap (D))] (by rfl) rfl rfl gS ?_;with_reducible refine (spoorref01_Put.calls k (IntKind.u64.wrap (D)) ac _ A4.out).mono ?_
                 rintro e eG ⟨rfl,hb⟩
                 refine⟨_,rfl,?_⟩;replace B:=Bx0 B hb;replace HB:=Bs1 HB hb ab.out
                 (try clear hb)
                 refine hK.out _ _ (bqc12 B.out) (fun ae=>?_);clear hK K;refine norm_ (a':=?_) ?_ ?_;rotate_left
                 ·show Act.put _ (some 19) _=_
                  simp only[sP];rfl
                 exact norm_ (by first|(simp only[putAll,Act.put,List.setIfInBounds_toArray,List.set_cons_zero,List.set_cons_succ];done)|(simp only[putAll,Act.put,List.setIfInBounds_toArray,List.set_cons_zero,List.set_cons_succ];rfl)) (eF () _ ⟨ae,(bf0 B.out),(bw1 HB.out ab.out)⟩)
               ·skip
                rintro _ aE ⟨aA,ap,aq⟩
                have ar:Aside0 (aE.heap[A]? =some (.cells #[.int .u8 C,.int .i64 D,.int .u64 E,.int .i64 F,.bool L,.int .u64 O,.int .u64 T,.int .i64 U,.int .u8 V,.int .i64 X,.int .i64 I,.int .i64 G] 35 (0,0))):=⟨ap⟩;have au:Aside0 (Below w.heap.size w aE):=⟨aq⟩;clear B;clear HB;clear ap aq;have B:=ar;have HB:=au;clear ar au;have ae:aE.cell? ⟨A,0,none⟩=some (.int .u8 C)∧aE.cell? ⟨A,1,none⟩=some (.int .i64 D)∧aE.cell? ⟨A,2,none⟩=some (.int .u64 E)∧aE.cell? ⟨A,3,none⟩=some (.int .i64 F)∧aE.cell? ⟨A,4,none⟩=some (.bool L)∧aE.cell? ⟨A,5,none⟩=some (.int .u64 O)∧aE.cell? ⟨A,6,none⟩=some (.int .u64 T)∧aE.cell? ⟨A,7,none⟩=some (.int .i64 U)∧aE.cell? ⟨A,8,none⟩=some (.int .u8 V)∧aE.cell? ⟨A,9,none⟩=some (.int .i64 X)∧aE.cell? ⟨A,10,none⟩=some (.int .i64 I)∧aE.cell? ⟨A,11,none⟩=some (.int .i64 G):=aA;refine norm_ (a':=?_) ?_ ?_;rotate_left;·simp only[putAll,Act.put,List.setIfInBounds_toArray,List.set_cons_zero,List.set_cons_succ];rfl
                refine two_ (i:=2) (j:=11) (Ni:=some 14) (Nj:=some 23) #[Z,Z,Z,Y,Z,Z,Z,Z,Y,Z,Z,Y,Y,Z,Z,Z,Y,Y,Y] #[Z,Z,Y,Y,Z,Z,Z,Z,Y,Z,Z,Z,Y,Z,Z,Z,Y,Y,Y] rfl rfl rfl rfl (two_of aw.out (by kernel_rfl)) (by decide) (by decide) (fun K hK=>?_) (fun K hK=>?_)
                ·skip
                 refine Kd.R_lit_step (Kd.int .u8) _ 5 ?hg (N:=14) ?hd (xs:=([C]:List Int)) (inner:= [.int .u8 C]) (ok:=fun _=>True) (okp:=fun _=>True) ?hr ?hp (fun _ hk=>hk) trivial (Below.refl _ _) (Nat.le_refl _) (by simp) ?_;(case hd=>rfl);(case hg=>rfl);(case hr=>first|(go_simp;done)|(go_simp;rfl));(case hp=>exact (Reps.one (show Kd.M (Kd.int .u8) _ _ _ C [.int .u8 C] from rfl) (Reps.none _ _)));intro al av bc hb aU aV;clear aU aV
                 (first|rw [← aN.out]at bc|(simp only[Int.reduceToNat]at bc;rw [← aN.out]at bc))
                 have ag:=Ax (Kd.R_lower bc (below_size (bw1 HB.out ab.out)));replace B:=Bx0 B hb;replace HB:=Bs1 HB hb ab.out;clear hb bc;refine hK.out _ _ (bqc12 B.out) (fun ae=>?_);clear hK K;refine norm_ (a':=?_) ?_ ?_;rotate_left
                 ·show Act.put _ (some 14) _=_
                  simp only[sP];rfl
                 exact norm_ (by first|(simp only[putAll,Act.put,List.setIfInBounds_toArray,List.set_cons_zero,List.set_cons_succ];done)|(simp only[putAll,Act.put,List.setIfInBounds_toArray,List.set_cons_zero,List.set_cons_succ];rfl)) (dl (al) _ ⟨ae,(by (with_reducible repeat (first|apply Kd.R_alloc|apply Kd.R_drewN|apply Kd.R_drew));exact ag.out),(bf0 B.out),(bw1 HB.out ab.out)⟩)
                ·skip
                 refine goes_ Try.func51 (by kernel_rfl) rfl #[.int .u64 E] (by rfl) rfl rfl gS ?_;with_reducible refine (spoorref01_Put.calls k E ah _ A6.out).mono ?_
                 rintro e av ⟨rfl,hb⟩
                 refine⟨_,rfl,?_⟩;replace B:=Bx0 B hb;replace HB:=Bs1 HB hb ab.out
                 (try clear hb)
                 refine hK.out _ _ (bqc12 B.out) (fun ae=>?_);clear hK K;refine norm_ (a':=?_) ?_ ?_;rotate_left
                 ·show Act.put _ (some 23) _=_
                  simp only[sP];rfl
                 exact norm_ (by first|(simp only[putAll,Act.put,List.setIfInBounds_toArray,List.set_cons_zero,List.set_cons_succ];done)|(simp only[putAll,Act.put,List.setIfInBounds_toArray,List.set_cons_zero,List.set_cons_succ];rfl)) (eD () _ ⟨ae,(bf0 B.out),(bw1 HB.out ab.out)⟩)
              ·skip
               rintro al av ⟨aA,ap,aq,ay⟩
               have ar:Aside0 (Kd.R (Kd.int .u8) 5 av w.heap.size (fun _=>True) al aa):=⟨ap⟩;have au:Aside0 (av.heap[A]? =some (.cells #[.int .u8 C,.int .i64 D,.int .u64 E,.int .i64 F,.bool L,.int .u64 O,.int .u64 T,.int .i64 U,.int .u8 V,.int .i64 X,.int .i64 I,.int .i64 G] 35 (0,0))):=⟨aq⟩;have az:Aside0 (Below w.heap.size w av):=⟨ay⟩;clear B;clear HB;clear ap aq ay;have ag:=ar;have B:=au;have HB:=az;clear ar au az;have ae:av.cell? ⟨A,0,none⟩=some (.int .u8 C)∧av.cell? ⟨A,1,none⟩=some (.int .i64 D)∧av.cell? ⟨A,2,none⟩=some (.int .u64 E)∧av.cell? ⟨A,3,none⟩=some (.int .i64 F)∧av.cell? ⟨A,4,none⟩=some (.bool L)∧av.cell? ⟨A,5,none⟩=some (.int .u64 O)∧av.cell? ⟨A,6,none⟩=some (.int .u64 T)∧av.cell? ⟨A,7,none⟩=some (.int .i64 U)∧av.cell? ⟨A,8,none⟩=some (.int .u8 V)∧av.cell? ⟨A,9,none⟩=some (.int .i64 X)∧av.cell? ⟨A,10,none⟩=some (.int .i64 I)∧av.cell? ⟨A,11,none⟩=some (.int .i64 G):=aA;refine norm_ (a':=?_) ?_ ?_;rotate_left;·simp only[putAll,Act.put,List.setIfInBounds_toArray,List.set_cons_zero,List.set_cons_succ];rfl
               refine two_ (i:=3) (j:=7) (Ni:=some 15) (Nj:=some 19) #[Z,Z,Z,Z,Z,Z,Z,Y,Y,Z,Z,Y,Y,Z,Z,Z,Y,Y,Y] #[Z,Z,Z,Y,Z,Z,Z,Z,Y,Z,Z,Y,Y,Z,Z,Z,Y,Y,Y] rfl rfl rfl rfl (two_of aw.out (by kernel_rfl)) (by decide) (by decide) (fun K hK=>?_) (fun K hK=>?_)
               ·skip
                have bd:=own_string (P:=Try.prog) Try.underlying67 Try.underlying5 Try.underlying9 (Kd.own_of_R ag.out);refine value_ (w1:=?_) (v:=?_) (by rfl) rfl ?_ ?_;rotate_left 2
                ·go_simp;constructor;·rfl
                 ·rfl
                clear bd;refine hK.out _ _ (bqc12 B.out) (fun ae=>?_);clear hK K;refine norm_ (a':=?_) ?_ ?_;rotate_left
                ·show Act.put _ (some 15) _=_
                 simp only[sP];rfl
                exact norm_ (by first|(simp only[putAll,Act.put,List.setIfInBounds_toArray,List.set_cons_zero,List.set_cons_succ];done)|(simp only[putAll,Act.put,List.setIfInBounds_toArray,List.set_cons_zero,List.set_cons_succ];rfl)) (eC (al) _ ⟨ae,(by (with_reducible repeat (first|apply Kd.R_alloc|apply Kd.R_drewN|apply Kd.R_drew));exact ag.out),(bf0 B.out),(bw1 HB.out ab.out)⟩)
               ·skip
                refine goes_ Try.func51 (by kernel_rfl) rfl #[.int .u64 (IntKind.u64.wrap (D))] (by rfl) rfl rfl gS ?_;with_reducible refine (spoorref01_Put.calls k (IntKind.u64.wrap (D)) ac _ A4.out).mono ?_
                rintro e af ⟨rfl,hb⟩
                refine⟨_,rfl,?_⟩;replace ag:=Ax (Kd.R_below (by (with_reducible repeat (first|apply Kd.R_alloc|apply Kd.R_drewN|apply Kd.R_drew));exact ag.out) hb);replace B:=Bx0 B hb;replace HB:=Bs1 HB hb ab.out
                (try clear hb)
                refine hK.out _ _ (bqc12 B.out) (fun ae=>?_);clear hK K;refine norm_ (a':=?_) ?_ ?_;rotate_left
                ·show Act.put _ (some 19) _=_
                 simp only[sP];rfl
                exact norm_ (by first|(simp only[putAll,Act.put,List.setIfInBounds_toArray,List.set_cons_zero,List.set_cons_succ];done)|(simp only[putAll,Act.put,List.setIfInBounds_toArray,List.set_cons_zero,List.set_cons_succ];rfl)) (dl (al) _ ⟨ae,(by (with_reducible repeat (first|apply Kd.R_alloc|apply Kd.R_drewN|apply Kd.R_drew));exact ag.out),(bf0 B.out),(bw1 HB.out ab.out)⟩)
             ·skip
              rintro _ av ⟨aA,ap,aq⟩
              have ar:Aside0 (av.heap[A]? =some (.cells #[.int .u8 C,.int .i64 D,.int .u64 E,.int .i64 F,.bool L,.int .u64 O,.int .u64 T,.int .i64 U,.int .u8 V,.int .i64 X,.int .i64 I,.int .i64 G] 35 (0,0))):=⟨ap⟩;have au:Aside0 (Below w.heap.size w av):=⟨aq⟩;clear B;clear HB;clear ap aq;have B:=ar;have HB:=au;clear ar au;have ae:av.cell? ⟨A,0,none⟩=some (.int .u8 C)∧av.cell? ⟨A,1,none⟩=some (.int .i64 D)∧av.cell? ⟨A,2,none⟩=some (.int .u64 E)∧av.cell? ⟨A,3,none⟩=some (.int .i64 F)∧av.cell? ⟨A,4,none⟩=some (.bool L)∧av.cell? ⟨A,5,none⟩=some (.int .u64 O)∧av.cell? ⟨A,6,none⟩=some (.int .u64 T)∧av.cell? ⟨A,7,none⟩=some (.int .i64 U)∧av.cell? ⟨A,8,none⟩=some (.int .u8 V)∧av.cell? ⟨A,9,none⟩=some (.int .i64 X)∧av.cell? ⟨A,10,none⟩=some (.int .i64 I)∧av.cell? ⟨A,11,none⟩=some (.int .i64 G):=aA;refine norm_ (a':=?_) ?_ ?_;rotate_left;·simp only[putAll,Act.put,List.setIfInBounds_toArray,List.set_cons_zero,List.set_cons_succ];rfl
              refine two_ (i:=2) (j:=16) (Ni:=some 14) (Nj:=some 28) #[Z,Z,Z,Y,Z,Z,Z,Z,Y,Z,Z,Z,Y,Z,Z,Z,Y,Y,Y] #[Z,Z,Y,Y,Z,Z,Z,Z,Y,Z,Z,Z,Y,Z,Z,Z,Z,Y,Y] rfl rfl rfl rfl (two_of aw.out (by kernel_rfl)) (by decide) (by decide) (fun K hK=>?_) (fun K hK=>?_)
              ·skip
               refine Kd.R_lit_step (Kd.int .u8) _ 5 ?hg (N:=14) ?hd (xs:=([C]:List Int)) (inner:= [.int .u8 C]) (ok:=fun _=>True) (okp:=fun _=>True) ?hr ?hp (fun _ hk=>hk) trivial (Below.refl _ _) (Nat.le_refl _) (by simp) ?_;(case hd=>rfl);(case hg=>rfl);(case hr=>first|(go_simp;done)|(go_simp;rfl));(case hp=>exact (Reps.one (show Kd.M (Kd.int .u8) _ _ _ C [.int .u8 C] from rfl) (Reps.none _ _)));intro al af bf hb aU aV;clear aU aV
               (first|rw [← aN.out]at bf|(simp only[Int.reduceToNat]at bf;rw [← aN.out]at bf))
               have ag:=Ax (Kd.R_lower bf (below_size (bw1 HB.out ab.out)));replace B:=Bx0 B hb;replace HB:=Bs1 HB hb ab.out;clear hb bf;refine hK.out _ _ (bqc12 B.out) (fun ae=>?_);clear hK K;refine norm_ (a':=?_) ?_ ?_;rotate_left
               ·show Act.put _ (some 14) _=_
                simp only[sP];rfl
               exact norm_ (by first|(simp only[putAll,Act.put,List.setIfInBounds_toArray,List.set_cons_zero,List.set_cons_succ];done)|(simp only[putAll,Act.put,List.setIfInBounds_toArray,List.set_cons_zero,List.set_cons_succ];rfl)) (dk (al) _ ⟨ae,(by (with_reducible repeat (first|apply Kd.R_alloc|apply Kd.R_drewN|apply Kd.R_drew));exact ag.out),(bf0 B.out),(bw1 HB.out ab.out)⟩)
              ·skip
               refine goes_ Try.func51 (by kernel_rfl) rfl #[.int .u64 (IntKind.u64.wrap (F))] (by rfl) rfl rfl gS ?_;with_reducible refine (spoorref01_Put.calls k (IntKind.u64.wrap (F)) ax _ A8.out).mono ?_
               rintro e af ⟨rfl,hb⟩
               refine⟨_,rfl,?_⟩;replace B:=Bx0 B hb;replace HB:=Bs1 HB hb ab.out
               (try clear hb)
               refine hK.out _ _ (bqc12 B.out) (fun ae=>?_);clear hK K;refine norm_ (a':=?_) ?_ ?_;rotate_left
               ·show Act.put _ (some 28) _=_
                simp only[sP];rfl
               exact norm_ (by first|(simp only[putAll,Act.put,List.setIfInBounds_toArray,List.set_cons_zero,List.set_cons_succ];done)|(simp only[putAll,Act.put,List.setIfInBounds_toArray,List.set_cons_zero,List.set_cons_succ];rfl)) (eB () _ ⟨ae,(bf0 B.out),(bw1 HB.out ab.out)⟩)
            ·skip
             rintro al af ⟨aA,ap,aq,ay⟩
             have ar:Aside0 (Kd.R (Kd.int .u8) 5 af w.heap.size (fun _=>True) al aa):=⟨ap⟩;have au:Aside0 (af.heap[A]? =some (.cells #[.int .u8 C,.int .i64 D,.int .u64 E,.int .i64 F,.bool L,.int .u64 O,.int .u64 T,.int .i64 U,.int .u8 V,.int .i64 X,.int .i64 I,.int .i64 G] 35 (0,0))):=⟨aq⟩;have az:Aside0 (Below w.heap.size w af):=⟨ay⟩;clear B;clear HB;clear ap aq ay;have ag:=ar;have B:=au;have HB:=az;clear ar au az;have ae:af.cell? ⟨A,0,none⟩=some (.int .u8 C)∧af.cell? ⟨A,1,none⟩=some (.int .i64 D)∧af.cell? ⟨A,2,none⟩=some (.int .u64 E)∧af.cell? ⟨A,3,none⟩=some (.int .i64 F)∧af.cell? ⟨A,4,none⟩=some (.bool L)∧af.cell? ⟨A,5,none⟩=some (.int .u64 O)∧af.cell? ⟨A,6,none⟩=some (.int .u64 T)∧af.cell? ⟨A,7,none⟩=some (.int .i64 U)∧af.cell? ⟨A,8,none⟩=some (.int .u8 V)∧af.cell? ⟨A,9,none⟩=some (.int .i64 X)∧af.cell? ⟨A,10,none⟩=some (.int .i64 I)∧af.cell? ⟨A,11,none⟩=some (.int .i64 G):=aA;refine norm_ (a':=?_) ?_ ?_;rotate_left;·simp only[putAll,Act.put,List.setIfInBounds_toArray,List.set_cons_zero,List.set_cons_succ];rfl
             refine two_ (i:=3) (j:=11) (Ni:=some 15) (Nj:=some 23) #[Z,Z,Z,Z,Z,Z,Z,Z,Y,Z,Z,Y,Y,Z,Z,Z,Y,Y,Y] #[Z,Z,Z,Y,Z,Z,Z,Z,Y,Z,Z,Z,Y,Z,Z,Z,Y,Y,Y] rfl rfl rfl rfl (two_of aw.out (by kernel_rfl)) (by decide) (by decide) (fun K hK=>?_) (fun K hK=>?_)
             ·skip
              have bg:=own_string (P:=Try.prog) Try.underlying67 Try.underlying5 Try.underlying9 (Kd.own_of_R ag.out);refine value_ (w1:=?_) (v:=?_) (by rfl) rfl ?_ ?_;rotate_left 2
              ·go_simp;constructor;·rfl
               ·rfl
              clear bg;refine hK.out _ _ (bqc12 B.out) (fun ae=>?_);clear hK K;refine norm_ (a':=?_) ?_ ?_;rotate_left
              ·show Act.put _ (some 15) _=_
               simp only[sP];rfl
              refine pz 8 20 #[Z,Z,Z,Z,Z,Z,Z,Z,Z,Z,Z,Y,Y,Z,Z,Z,Y,Y,Y] aw.out ?_
              exact norm_ (by first|(simp only[putAll,Act.put,List.setIfInBounds_toArray,List.set_cons_zero,List.set_cons_succ];done)|(simp only[putAll,Act.put,List.setIfInBounds_toArray,List.set_cons_zero,List.set_cons_succ];rfl)) (dj (al) _ ⟨ae,(by (with_reducible repeat (first|apply Kd.R_alloc|apply Kd.R_drewN|apply Kd.R_drew));exact ag.out),(bf0 B.out),(bw1 HB.out ab.out)⟩)
             ·skip
              refine goes_ Try.func51 (by kernel_rfl) rfl #[.int .u64 E] (by rfl) rfl rfl gS ?_;with_reducible refine (spoorref01_Put.calls k E ah _ A6.out).mono ?_
              rintro e aj ⟨rfl,hb⟩
              refine⟨_,rfl,?_⟩;replace ag:=Ax (Kd.R_below (by (with_reducible repeat (first|apply Kd.R_alloc|apply Kd.R_drewN|apply Kd.R_drew));exact ag.out) hb);replace B:=Bx0 B hb;replace HB:=Bs1 HB hb ab.out
              (try clear hb)
              refine hK.out _ _ (bqc12 B.out) (fun ae=>?_);clear hK K;refine norm_ (a':=?_) ?_ ?_;rotate_left
              ·show Act.put _ (some 23) _=_
               simp only[sP];rfl
              exact norm_ (by first|(simp only[putAll,Act.put,List.setIfInBounds_toArray,List.set_cons_zero,List.set_cons_succ];done)|(simp only[putAll,Act.put,List.setIfInBounds_toArray,List.set_cons_zero,List.set_cons_succ];rfl)) (dk (al) _ ⟨ae,(by (with_reducible repeat (first|apply Kd.R_alloc|apply Kd.R_drewN|apply Kd.R_drew));exact ag.out),(bf0 B.out),(bw1 HB.out ab.out)⟩)
           ·skip
            rintro al af ⟨aA,ap,aq,ay⟩
            have ar:Aside0 (Kd.R (Kd.int .u8) 5 af w.heap.size (fun _=>True) al aa):=⟨ap⟩;have au:Aside0 (af.heap[A]? =some (.cells #[.int .u8 C,.int .i64 D,.int .u64 E,.int .i64 F,.bool L,.int .u64 O,.int .u64 T,.int .i64 U,.int .u8 V,.int .i64 X,.int .i64 I,.int .i64 G] 35 (0,0))):=⟨aq⟩;have az:Aside0 (Below w.heap.size w af):=⟨ay⟩;clear B;clear HB;clear ap aq ay;have ag:=ar;have B:=au;have HB:=az;clear ar au az;have ae:af.cell? ⟨A,0,none⟩=some (.int .u8 C)∧af.cell? ⟨A,1,none⟩=some (.int .i64 D)∧af.cell? ⟨A,2,none⟩=some (.int .u64 E)∧af.cell? ⟨A,3,none⟩=some (.int .i64 F)∧af.cell? ⟨A,4,none⟩=some (.bool L)∧af.cell? ⟨A,5,none⟩=some (.int .u64 O)∧af.cell? ⟨A,6,none⟩=some (.int .u64 T)∧af.cell? ⟨A,7,none⟩=some (.int .i64 U)∧af.cell? ⟨A,8,none⟩=some (.int .u8 V)∧af.cell? ⟨A,9,none⟩=some (.int .i64 X)∧af.cell? ⟨A,10,none⟩=some (.int .i64 I)∧af.cell? ⟨A,11,none⟩=some (.int .i64 G):=aA;refine norm_ (a':=?_) ?_ ?_;rotate_left;·simp only[putAll,Act.put,List.setIfInBounds_toArray,List.set_cons_zero,List.set_cons_succ];rfl
            refine one_ (i:=7) (N:=some 19) #[Z,Z,Z,Z,Z,Z,Z,Z,Y,Z,Z,Y,Y,Z,Z,Z,Y,Y,Y] rfl rfl (one_of aw.out (by kernel_rfl)) (by decide) (fun K hK=>?_);refine goes_ Try.func51 (by kernel_rfl) rfl #[.int .u64 (IntKind.u64.wrap (D))] (by rfl) rfl rfl gS ?_;with_reducible refine (spoorref01_Put.calls k (IntKind.u64.wrap (D)) ac _ A4.out).mono ?_
            rintro e aj ⟨rfl,hb⟩
            refine⟨_,rfl,?_⟩;replace ag:=Ax (Kd.R_below (by (with_reducible repeat (first|apply Kd.R_alloc|apply Kd.R_drewN|apply Kd.R_drew));exact ag.out) hb);replace B:=Bx0 B hb;replace HB:=Bs1 HB hb ab.out
            (try clear hb)
            refine hK.out _ _ (bqc12 B.out) (fun ae=>?_);clear hK K;refine norm_ (a':=?_) ?_ ?_;rotate_left
            ·show Act.put _ (some 19) _=_
             simp only[sP];rfl
            refine pz 8 20 #[Z,Z,Z,Z,Z,Z,Z,Z,Z,Z,Z,Y,Y,Z,Z,Z,Y,Y,Y] aw.out ?_
            exact norm_ (by first|(simp only[putAll,Act.put,List.setIfInBounds_toArray,List.set_cons_zero,List.set_cons_succ];done)|(simp only[putAll,Act.put,List.setIfInBounds_toArray,List.set_cons_zero,List.set_cons_succ];rfl)) (dj (al) _ ⟨ae,(by (with_reducible repeat (first|apply Kd.R_alloc|apply Kd.R_drewN|apply Kd.R_drew));exact ag.out),(bf0 B.out),(bw1 HB.out ab.out)⟩)
          ·skip
           rintro _ af ⟨aA,ap,aq⟩
           have ar:Aside0 (af.heap[A]? =some (.cells #[.int .u8 C,.int .i64 D,.int .u64 E,.int .i64 F,.bool L,.int .u64 O,.int .u64 T,.int .i64 U,.int .u8 V,.int .i64 X,.int .i64 I,.int .i64 G] 35 (0,0))):=⟨ap⟩;have au:Aside0 (Below w.heap.size w af):=⟨aq⟩;clear B;clear HB;clear ap aq;have B:=ar;have HB:=au;clear ar au;have ae:af.cell? ⟨A,0,none⟩=some (.int .u8 C)∧af.cell? ⟨A,1,none⟩=some (.int .i64 D)∧af.cell? ⟨A,2,none⟩=some (.int .u64 E)∧af.cell? ⟨A,3,none⟩=some (.int .i64 F)∧af.cell? ⟨A,4,none⟩=some (.bool L)∧af.cell? ⟨A,5,none⟩=some (.int .u64 O)∧af.cell? ⟨A,6,none⟩=some (.int .u64 T)∧af.cell? ⟨A,7,none⟩=some (.int .i64 U)∧af.cell? ⟨A,8,none⟩=some (.int .u8 V)∧af.cell? ⟨A,9,none⟩=some (.int .i64 X)∧af.cell? ⟨A,10,none⟩=some (.int .i64 I)∧af.cell? ⟨A,11,none⟩=some (.int .i64 G):=aA;refine norm_ (a':=?_) ?_ ?_;rotate_left;·simp only[putAll,Act.put,List.setIfInBounds_toArray,List.set_cons_zero,List.set_cons_succ];rfl
           refine one_ (i:=2) (N:=some 14) #[Z,Z,Z,Y,Z,Z,Z,Z,Y,Z,Z,Z,Y,Z,Z,Z,Z,Y,Y] rfl rfl (one_of aw.out (by kernel_rfl)) (by decide) (fun K hK=>?_);refine Kd.R_lit_step (Kd.int .u8) _ 5 ?hg (N:=14) ?hd (xs:=([C]:List Int)) (inner:= [.int .u8 C]) (ok:=fun _=>True) (okp:=fun _=>True) ?hr ?hp (fun _ hk=>hk) trivial (Below.refl _ _) (Nat.le_refl _) (by simp) ?_;(case hd=>rfl);(case hg=>rfl);(case hr=>first|(go_simp;done)|(go_simp;rfl));(case hp=>exact (Reps.one (show Kd.M (Kd.int .u8) _ _ _ C [.int .u8 C] from rfl) (Reps.none _ _)));intro al aj bh hb aU aV;clear aU aV
           (first|rw [← aN.out]at bh|(simp only[Int.reduceToNat]at bh;rw [← aN.out]at bh))
           have ag:=Ax (Kd.R_lower bh (below_size (bw1 HB.out ab.out)));replace B:=Bx0 B hb;replace HB:=Bs1 HB hb ab.out;clear hb bh;refine hK.out _ _ (bqc12 B.out) (fun ae=>?_);clear hK K;refine norm_ (a':=?_) ?_ ?_;rotate_left
           ·show Act.put _ (some 14) _=_
            simp only[sP];rfl
           exact norm_ (by first|(simp only[putAll,Act.put,List.setIfInBounds_toArray,List.set_cons_zero,List.set_cons_succ];done)|(simp only[putAll,Act.put,List.setIfInBounds_toArray,List.set_cons_zero,List.set_cons_succ];rfl)) (di (al) _ ⟨ae,(by (with_reducible repeat (first|apply Kd.R_alloc|apply Kd.R_drewN|apply Kd.R_drew));exact ag.out),(bf0 B.out),(bw1 HB.out ab.out)⟩)
         ·skip
          rintro al aj ⟨aA,ap,aq,ay⟩
          have ar:Aside0 (Kd.R (Kd.int .u8) 5 aj w.heap.size (fun _=>True) al aa):=⟨ap⟩;have au:Aside0 (aj.heap[A]? =some (.cells #[.int .u8 C,.int .i64 D,.int .u64 E,.int .i64 F,.bool L,.int .u64 O,.int .u64 T,.int .i64 U,.int .u8 V,.int .i64 X,.int .i64 I,.int .i64 G] 35 (0,0))):=⟨aq⟩;have az:Aside0 (Below w.heap.size w aj):=⟨ay⟩;clear B;clear HB;clear ap aq ay;have ag:=ar;have B:=au;have HB:=az;clear ar au az;have ae:aj.cell? ⟨A,0,none⟩=some (.int .u8 C)∧aj.cell? ⟨A,1,none⟩=some (.int .i64 D)∧aj.cell? ⟨A,2,none⟩=some (.int .u64 E)∧aj.cell? ⟨A,3,none⟩=some (.int .i64 F)∧aj.cell? ⟨A,4,none⟩=some (.bool L)∧aj.cell? ⟨A,5,none⟩=some (.int .u64 O)∧aj.cell? ⟨A,6,none⟩=some (.int .u64 T)∧aj.cell? ⟨A,7,none⟩=some (.int .i64 U)∧aj.cell? ⟨A,8,none⟩=some (.int .u8 V)∧aj.cell? ⟨A,9,none⟩=some (.int .i64 X)∧aj.cell? ⟨A,10,none⟩=some (.int .i64 I)∧aj.cell? ⟨A,11,none⟩=some (.int .i64 G):=aA;refine norm_ (a':=?_) ?_ ?_;rotate_left;·simp only[putAll,Act.put,List.setIfInBounds_toArray,List.set_cons_zero,List.set_cons_succ];rfl
          refine two_ (i:=3) (j:=16) (Ni:=some 15) (Nj:=some 28) #[Z,Z,Z,Z,Z,Z,Z,Z,Y,Z,Z,Z,Y,Z,Z,Z,Y,Y,Y] #[Z,Z,Z,Y,Z,Z,Z,Z,Y,Z,Z,Z,Y,Z,Z,Z,Z,Y,Y] rfl rfl rfl rfl (two_of aw.out (by kernel_rfl)) (by decide) (by decide) (fun K hK=>?_) (fun K hK=>?_)
          ·skip
           have bi:=own_string (P:=Try.prog) Try.underlying67 Try.underlying5 Try.underlying9 (Kd.own_of_R ag.out);refine value_ (w1:=?_) (v:=?_) (by rfl) rfl ?_ ?_;rotate_left 2
           ·go_simp;constructor;·rfl
            ·rfl
           clear bi;refine hK.out _ _ (bqc12 B.out) (fun ae=>?_);clear hK K;refine norm_ (a':=?_) ?_ ?_;rotate_left
           ·show Act.put _ (some 15) _=_
            simp only[sP];rfl
           refine pz 8 20 #[Z,Z,Z,Z,Z,Z,Z,Z,Z,Z,Z,Z,Y,Z,Z,Z,Y,Y,Y] aw.out ?_
           refine pz 12 24 #[Z,Z,Z,Z,Z,Z,Z,Z,Z,Z,Z,Z,Z,Z,Z,Z,Y,Y,Y] aw.out ?_
           exact norm_ (by first|(simp only[putAll,Act.put,List.setIfInBounds_toArray,List.set_cons_zero,List.set_cons_succ];done)|(simp only[putAll,Act.put,List.setIfInBounds_toArray,List.set_cons_zero,List.set_cons_succ];rfl)) (dh (al) _ ⟨ae,(by (with_reducible repeat (first|apply Kd.R_alloc|apply Kd.R_drewN|apply Kd.R_drew));exact ag.out),(bf0 B.out),(bw1 HB.out ab.out)⟩)
          ·skip
           refine goes_ Try.func51 (by kernel_rfl) rfl #[.int .u64 (IntKind.u64.wrap (F))] (by rfl) rfl rfl gS ?_;with_reducible refine (spoorref01_Put.calls k (IntKind.u64.wrap (F)) ax _ A8.out).mono ?_
           rintro e am ⟨rfl,hb⟩
           refine⟨_,rfl,?_⟩;replace ag:=Ax (Kd.R_below (by (with_reducible repeat (first|apply Kd.R_alloc|apply Kd.R_drewN|apply Kd.R_drew));exact ag.out) hb);replace B:=Bx0 B hb;replace HB:=Bs1 HB hb ab.out
           (try clear hb)
           refine hK.out _ _ (bqc12 B.out) (fun ae=>?_);clear hK K;refine norm_ (a':=?_) ?_ ?_;rotate_left
           ·show Act.put _ (some 28) _=_
            simp only[sP];rfl
           exact norm_ (by first|(simp only[putAll,Act.put,List.setIfInBounds_toArray,List.set_cons_zero,List.set_cons_succ];done)|(simp only[putAll,Act.put,List.setIfInBounds_toArray,List.set_cons_zero,List.set_cons_succ];rfl)) (di (al) _ ⟨ae,(by (with_reducible repeat (first|apply Kd.R_alloc|apply Kd.R_drewN|apply Kd.R_drew));exact ag.out),(bf0 B.out),(bw1 HB.out ab.out)⟩)
        ·skip
         rintro al aj ⟨aA,ap,aq,ay⟩
         have ar:Aside0 (Kd.R (Kd.int .u8) 5 aj w.heap.size (fun _=>True) al aa):=⟨ap⟩;have au:Aside0 (aj.heap[A]? =some (.cells #[.int .u8 C,.int .i64 D,.int .u64 E,.int .i64 F,.bool L,.int .u64 O,.int .u64 T,.int .i64 U,.int .u8 V,.int .i64 X,.int .i64 I,.int .i64 G] 35 (0,0))):=⟨aq⟩;have az:Aside0 (Below w.heap.size w aj):=⟨ay⟩;clear B;clear HB;clear ap aq ay;have ag:=ar;have B:=au;have HB:=az;clear ar au az;have ae:aj.cell? ⟨A,0,none⟩=some (.int .u8 C)∧aj.cell? ⟨A,1,none⟩=some (.int .i64 D)∧aj.cell? ⟨A,2,none⟩=some (.int .u64 E)∧aj.cell? ⟨A,3,none⟩=some (.int .i64 F)∧aj.cell? ⟨A,4,none⟩=some (.bool L)∧aj.cell? ⟨A,5,none⟩=some (.int .u64 O)∧aj.cell? ⟨A,6,none⟩=some (.int .u64 T)∧aj.cell? ⟨A,7,none⟩=some (.int .i64 U)∧aj.cell? ⟨A,8,none⟩=some (.int .u8 V)∧aj.cell? ⟨A,9,none⟩=some (.int .i64 X)∧aj.cell? ⟨A,10,none⟩=some (.int .i64 I)∧aj.cell? ⟨A,11,none⟩=some (.int .i64 G):=aA;refine norm_ (a':=?_) ?_ ?_;rotate_left;·simp only[putAll,Act.put,List.setIfInBounds_toArray,List.set_cons_zero,List.set_cons_succ];rfl
         refine one_ (i:=11) (N:=some 23) #[Z,Z,Z,Z,Z,Z,Z,Z,Z,Z,Z,Z,Y,Z,Z,Z,Y,Y,Y] rfl rfl (one_of aw.out (by kernel_rfl)) (by decide) (fun K hK=>?_);refine goes_ Try.func51 (by kernel_rfl) rfl #[.int .u64 E] (by rfl) rfl rfl gS ?_;with_reducible refine (spoorref01_Put.calls k E ah _ A6.out).mono ?_
         rintro e am ⟨rfl,hb⟩
         refine⟨_,rfl,?_⟩;replace ag:=Ax (Kd.R_below (by (with_reducible repeat (first|apply Kd.R_alloc|apply Kd.R_drewN|apply Kd.R_drew));exact ag.out) hb);replace B:=Bx0 B hb;replace HB:=Bs1 HB hb ab.out
         (try clear hb)
         refine hK.out _ _ (bqc12 B.out) (fun ae=>?_);clear hK K;refine norm_ (a':=?_) ?_ ?_;rotate_left
         ·show Act.put _ (some 23) _=_
          simp only[sP];rfl
         refine pz 12 24 #[Z,Z,Z,Z,Z,Z,Z,Z,Z,Z,Z,Z,Z,Z,Z,Z,Y,Y,Y] aw.out ?_
         exact norm_ (by first|(simp only[putAll,Act.put,List.setIfInBounds_toArray,List.set_cons_zero,List.set_cons_succ];done)|(simp only[putAll,Act.put,List.setIfInBounds_toArray,List.set_cons_zero,List.set_cons_succ];rfl)) (dh (al) _ ⟨ae,(by (with_reducible repeat (first|apply Kd.R_alloc|apply Kd.R_drewN|apply Kd.R_drew));exact ag.out),(bf0 B.out),(bw1 HB.out ab.out)⟩)
       ·skip
        rintro al am ⟨aA,ap,aq,ay⟩
        have ar:Aside0 (Kd.R (Kd.int .u8) 5 am w.heap.size (fun _=>True) al aa):=⟨ap⟩;have au:Aside0 (am.heap[A]? =some (.cells #[.int .u8 C,.int .i64 D,.int .u64 E,.int .i64 F,.bool L,.int .u64 O,.int .u64 T,.int .i64 U,.int .u8 V,.int .i64 X,.int .i64 I,.int .i64 G] 35 (0,0))):=⟨aq⟩;have az:Aside0 (Below w.heap.size w am):=⟨ay⟩;clear B;clear HB;clear ap aq ay;have ag:=ar;have B:=au;have HB:=az;clear ar au az;have ae:am.cell? ⟨A,0,none⟩=some (.int .u8 C)∧am.cell? ⟨A,1,none⟩=some (.int .i64 D)∧am.cell? ⟨A,2,none⟩=some (.int .u64 E)∧am.cell? ⟨A,3,none⟩=some (.int .i64 F)∧am.cell? ⟨A,4,none⟩=some (.bool L)∧am.cell? ⟨A,5,none⟩=some (.int .u64 O)∧am.cell? ⟨A,6,none⟩=some (.int .u64 T)∧am.cell? ⟨A,7,none⟩=some (.int .i64 U)∧am.cell? ⟨A,8,none⟩=some (.int .u8 V)∧am.cell? ⟨A,9,none⟩=some (.int .i64 X)∧am.cell? ⟨A,10,none⟩=some (.int .i64 I)∧am.cell? ⟨A,11,none⟩=some (.int .i64 G):=aA;refine norm_ (a':=?_) ?_ ?_;rotate_left;·simp only[putAll,Act.put,List.setIfInBounds_toArray,List.set_cons_zero,List.set_cons_succ];rfl
        refine one_ (i:=3) (N:=some 15) #[Z,Z,Z,Z,Z,Z,Z,Z,Y,Z,Z,Z,Y,Z,Z,Z,Z,Y,Y] rfl rfl (one_of aw.out (by kernel_rfl)) (by decide) (fun K hK=>?_);have bj:=own_string (P:=Try.prog) Try.underlying67 Try.underlying5 Try.underlying9 (Kd.own_of_R ag.out);refine value_ (w1:=?_) (v:=?_) (by rfl) rfl ?_ ?_;rotate_left 2
        ·go_simp;constructor;·rfl
         ·rfl
        clear bj;refine hK.out _ _ (bqc12 B.out) (fun ae=>?_);clear hK K;refine norm_ (a':=?_) ?_ ?_;rotate_left
        ·show Act.put _ (some 15) _=_
         simp only[sP];rfl
        refine pz 8 20 #[Z,Z,Z,Z,Z,Z,Z,Z,Z,Z,Z,Z,Y,Z,Z,Z,Z,Y,Y] aw.out ?_
        refine pz 12 24 #[Z,Z,Z,Z,Z,Z,Z,Z,Z,Z,Z,Z,Z,Z,Z,Z,Z,Y,Y] aw.out ?_
        exact norm_ (by first|(simp only[putAll,Act.put,List.setIfInBounds_toArray,List.set_cons_zero,List.set_cons_succ];done)|(simp only[putAll,Act.put,List.setIfInBounds_toArray,List.set_cons_zero,List.set_cons_succ];rfl)) (dg (al) _ ⟨ae,(by (with_reducible repeat (first|apply Kd.R_alloc|apply Kd.R_drewN|apply Kd.R_drew));exact ag.out),(bf0 B.out),(bw1 HB.out ab.out)⟩)
      ·skip
       rintro al am ⟨aA,ap,aq,ay⟩
       have ar:Aside0 (Kd.R (Kd.int .u8) 5 am w.heap.size (fun _=>True) al aa):=⟨ap⟩;have au:Aside0 (am.heap[A]? =some (.cells #[.int .u8 C,.int .i64 D,.int .u64 E,.int .i64 F,.bool L,.int .u64 O,.int .u64 T,.int .i64 U,.int .u8 V,.int .i64 X,.int .i64 I,.int .i64 G] 35 (0,0))):=⟨aq⟩;have az:Aside0 (Below w.heap.size w am):=⟨ay⟩;clear B;clear HB;clear ap aq ay;have ag:=ar;have B:=au;have HB:=az;clear ar au az;have ae:am.cell? ⟨A,0,none⟩=some (.int .u8 C)∧am.cell? ⟨A,1,none⟩=some (.int .i64 D)∧am.cell? ⟨A,2,none⟩=some (.int .u64 E)∧am.cell? ⟨A,3,none⟩=some (.int .i64 F)∧am.cell? ⟨A,4,none⟩=some (.bool L)∧am.cell? ⟨A,5,none⟩=some (.int .u64 O)∧am.cell? ⟨A,6,none⟩=some (.int .u64 T)∧am.cell? ⟨A,7,none⟩=some (.int .i64 U)∧am.cell? ⟨A,8,none⟩=some (.int .u8 V)∧am.cell? ⟨A,9,none⟩=some (.int .i64 X)∧am.cell? ⟨A,10,none⟩=some (.int .i64 I)∧am.cell? ⟨A,11,none⟩=some (.int .i64 G):=aA;refine norm_ (a':=?_) ?_ ?_;rotate_left;·simp only[putAll,Act.put,List.setIfInBounds_toArray,List.set_cons_zero,List.set_cons_succ];rfl
       refine one_ (i:=16) (N:=some 28) #[Z,Z,Z,Z,Z,Z,Z,Z,Z,Z,Z,Z,Z,Z,Z,Z,Z,Y,Y] rfl rfl (one_of aw.out (by kernel_rfl)) (by decide) (fun K hK=>?_);refine goes_ Try.func51 (by kernel_rfl) rfl #[.int .u64 (IntKind.u64.wrap (F))] (by rfl) rfl rfl gS ?_;with_reducible refine (spoorref01_Put.calls k (IntKind.u64.wrap (F)) ax _ A8.out).mono ?_
       rintro e aD ⟨rfl,hb⟩
       refine⟨_,rfl,?_⟩;replace ag:=Ax (Kd.R_below (by (with_reducible repeat (first|apply Kd.R_alloc|apply Kd.R_drewN|apply Kd.R_drew));exact ag.out) hb);replace B:=Bx0 B hb;replace HB:=Bs1 HB hb ab.out
       (try clear hb)
       refine hK.out _ _ (bqc12 B.out) (fun ae=>?_);clear hK K;refine norm_ (a':=?_) ?_ ?_;rotate_left
       ·show Act.put _ (some 28) _=_
        simp only[sP];rfl
       exact norm_ (by first|(simp only[putAll,Act.put,List.setIfInBounds_toArray,List.set_cons_zero,List.set_cons_succ];done)|(simp only[putAll,Act.put,List.setIfInBounds_toArray,List.set_cons_zero,List.set_cons_succ];rfl)) (dg (al) _ ⟨ae,(by (with_reducible repeat (first|apply Kd.R_alloc|apply Kd.R_drewN|apply Kd.R_drew));exact ag.out),(bf0 B.out),(bw1 HB.out ab.out)⟩)
     rintro al aD ⟨aA,ap,aq,ay⟩
     have ar:Aside0 (Kd.R (Kd.int .u8) 5 aD w.heap.size (fun _=>True) al aa):=⟨ap⟩;have au:Aside0 (aD.heap[A]? =some (.cells #[.int .u8 C,.int .i64 D,.int .u64 E,.int .i64 F,.bool L,.int .u64 O,.int .u64 T,.int .i64 U,.int .u8 V,.int .i64 X,.int .i64 I,.int .i64 G] 35 (0,0))):=⟨aq⟩;have az:Aside0 (Below w.heap.size w aD):=⟨ay⟩;clear B;clear HB;clear ap aq ay;have ag:=ar;have B:=au;have HB:=az;clear ar au az;have ae:aD.cell? ⟨A,0,none⟩=some (.int .u8 C)∧aD.cell? ⟨A,1,none⟩=some (.int .i64 D)∧aD.cell? ⟨A,2,none⟩=some (.int .u64 E)∧aD.cell? ⟨A,3,none⟩=some (.int .i64 F)∧aD.cell? ⟨A,4,none⟩=some (.bool L)∧aD.cell? ⟨A,5,none⟩=some (.int .u64 O)∧aD.cell? ⟨A,6,none⟩=some (.int .u64 T)∧aD.cell? ⟨A,7,none⟩=some (.int .i64 U)∧aD.cell? ⟨A,8,none⟩=some (.int .u8 V)∧aD.cell? ⟨A,9,none⟩=some (.int .i64 X)∧aD.cell? ⟨A,10,none⟩=some (.int .i64 I)∧aD.cell? ⟨A,11,none⟩=some (.int .i64 G):=aA;refine norm_ (a':=?_) ?_ ?_;rotate_left;·simp only[putAll,Act.put,List.setIfInBounds_toArray,List.set_cons_zero,List.set_cons_succ];rfl
     refine pz 17 29 #[Z,Z,Z,Z,Z,Z,Z,Z,Z,Z,Z,Z,Z,Z,Z,Z,Z,Z,Y] aw.out ?_
     refine pz 18 4 #[Z,Z,Z,Z,Z,Z,Z,Z,Z,Z,Z,Z,Z,Z,Z,Z,Z,Z,Z] aw.out ?_
     refine done_ (done_of aw.out (by kernel_rfl)) ?_;go_upto_region 4 with (fail)
     go_cut [37] (fun eH wc=> ∃ (kq:Nat) (bq:Bool),eH= .bool bq∧Aside0 (spoorref11_Put.j0 kq ((((strOfNums aa)++ac)++ah)++ax) bq C D E F L O T U V X I G=some (r1,r2))∧Aside0 (kq≤k)∧Aside0 (wc.heap[A]? =some (.cells #[.int .u8 C,.int .i64 D,.int .u64 E,.int .i64 F,.bool L,.int .u64 O,.int .u64 T,.int .i64 U,.int .u8 V,.int .i64 X,.int .i64 I,.int .i64 G] 35 (0,0)))∧Aside0 (Below w.heap.size w wc))
     case first=>
      have H:=cC.out;clear cC;by_cases aH:C=3
      ·rw [if_pos aH]at H;have aJ:(C==3)=true:=beq_iff_eq.mpr aH;have bk:(C !=3)=false:=bne_eq_false_iff_eq.mpr aH;clear aH
       (first|rw [aJ]|(simp only[i64_w,i32_w];rw [aJ])|skip)
       have H':=Ax H;clear H;obtain⟨br,bu,bv,bx,bz,bA,bB,bC,bD,bE,bF,bG,bH,bJ,bK,bL,bM,bN,bO,bP,bQ,bR,bS,bT⟩:=cl12 B;go_wp2;go_meet
       case rel=>exact⟨_,(true),rS,H',⟨by first|omega|exact Nat.le_refl _⟩,⟨bf0 B.out⟩,⟨bw1 HB.out ab.out⟩⟩
      ·rw [if_neg aH]at H;have aJ:(C==3)=false:=beq_eq_false_iff_ne.mpr aH;have bk:(C !=3)=true:=bne_iff_ne.mpr aH
       (first|rw [aJ]|(simp only[i64_w,i32_w];rw [aJ])|skip)
       have H':=Ax H;clear H;obtain⟨bU,bV,bW,bY,bZ,cd,ce,cf,cg,ch,ci,cj,ck,cl,cm,cn,co,cq,cr,ct,cu,cv,cw,cx⟩:=cl12 B;go_wp2;go_meet
       case rel=>exact⟨_,((C==4)),rS,H',⟨by first|omega|exact Nat.le_refl _⟩,⟨bf0 B.out⟩,⟨bw1 HB.out ab.out⟩⟩
     case rest=>
      clear cC;(try clear hcv1);(try clear c2);(try clear p2);(try clear hcv2);(try clear c5);(try clear bd);(try clear bg);(try clear bi);(try clear bj);(try clear aH);(try clear aJ);(try clear bk);(try clear br bu bF bG bv bx bz bA bB bC bD bE);(try clear bU bV ci cj bW bY bZ cd ce cf cg ch);(try clear bH bJ bS bT bK bL bM bN bO bP bQ bR);(try clear ck cl cw cx cm cn co cq cr ct cu cv);obtain⟨kq,bq,rfl,HA,b5,B,HB⟩:=hcut;cases kq with
      |zero=>exact absurd HA.out (by simp [spoorref11_Put.j0])
      |succ kj9=>
       have H:=HA.out;clear HA;simp only[spoorref11_Put.j0]at H;have cF:=Ax H;clear H;go_upto_if 37 with (fail)
       go_cut [4] (fun v4 wc=> ∃ (kq:Nat) (aQ:ByteArray),v4= .string aQ∧Aside0 (spoorref11_Put.j1 kq aQ C D E F L O T U V X I G=some (r1,r2))∧Aside0 (kq≤kj9)∧Aside0 (wc.heap[A]? =some (.cells #[.int .u8 C,.int .i64 D,.int .u64 E,.int .i64 F,.bool L,.int .u64 O,.int .u64 T,.int .i64 U,.int .u8 V,.int .i64 X,.int .i64 I,.int .i64 G] 35 (0,0)))∧Aside0 (Below w.heap.size w wc))
       case first=>
        have H:=cF.out;clear cF;by_cases aW:bq=true
        ·subst aW;have H1:((spoorref11_PutPrefix.f kj9 L O T U).bind fun dm=>(if ((((strOfNums aa)++ac)++ah)++ax).size+dm.1.size≤9223372036854775807 then (spoorref11_Put.j1 kj9 (((((strOfNums aa)++ac)++ah)++ax)++dm.1) C D E F L O T U V X I G) else (none)))=some (r1,r2):=by rw [if_pos rfl]at H;exact H
         clear H;have H:=H1;clear H1;replace H:=bI H;obtain⟨⟨b6,eI⟩,dn,H⟩:=H;dsimp only at H;have eJ:=Ax dn;clear dn;by_cases aK:((((strOfNums aa)++ac)++ah)++ax).size+b6.size≤9223372036854775807
         ·rw [if_pos aK]at H;have cG:=eq_true aK;have cH:decide (((((strOfNums aa)++ac)++ah)++ax).size+b6.size≤9223372036854775807)=true:=dT aK;try have cI:(9223372036854775807<((((strOfNums aa)++ac)++ah)++ax).size+b6.size)=False:=eq_false (Nat.not_lt.2 aK)
          try have gU:(9223372036854775807<(strOfNums aa).size+ac.size+ah.size+ax.size+b6.size)=False:=eq_false (by have h_:=aK;(try simp only[ByteArray.size_append]at h_);omega)
          have H':=Ax H;clear H;obtain⟨cJ,cK,cL,cM,cN,cO,cP,cQ,cR,cS,cT,cU,cV,cW,cX,cY,cZ,d2,d3,d4,d5,d6,d7,d8⟩:=cl12 B;go_wp2_with (first|((with_reducible refine gate_callee (f:=52) rfl ?_);refine goesL_ (some 41) rfl rfl Try.func52 (by kernel_rfl) rfl #[.agg #[.bool L,.int .u64 O,.int .u64 T,.int .i64 U]] rfl gS ?_;(with_reducible refine (spoorref11_PutPrefix.calls kj9 L O T U b6 eI _ eJ.out).mono ?_);rintro e gV ⟨rfl,hb⟩;refine⟨_,rfl,?_⟩;replace B:=Bx0 B hb;replace HB:=Bs1 HB hb ab.out;(try clear hb)));go_meet
          case rel=>exact⟨_,(((((strOfNums aa)++ac)++ah)++ax)++b6),rS,H',⟨by have:=b5.out;first|omega|exact Nat.le_refl _⟩,⟨bf0 B.out⟩,⟨bw1 HB.out ab.out⟩⟩
         ·rw [if_neg aK]at H;exact absurd H (by simp)
        ·replace aW:=Bool.eq_false_iff.mpr aW;subst aW;have H1:(spoorref11_Put.j1 kj9 ((((strOfNums aa)++ac)++ah)++ax) C D E F L O T U V X I G)=some (r1,r2):=by rw [if_neg (show ¬ (false=true) by decide)]at H;exact H
         clear H;have H:=H1;clear H1;have H':=Ax H;clear H;go_wp2;go_meet
         case rel=>exact⟨_,(((((strOfNums aa)++ac)++ah)++ax)),rS,H',⟨by have:=b5.out;first|omega|exact Nat.le_refl _⟩,⟨bf0 B.out⟩,⟨bw1 HB.out ab.out⟩⟩
       case rest=>
        clear cF;(try clear hcv1);(try clear c2);(try clear p2 p2);(try clear hcv2);(try clear c5);(try clear bd);(try clear bg);(try clear bi);(try clear bj);(try clear aH);(try clear aJ);(try clear bk);(try clear aW);(try clear aK);(try clear cG);(try clear cH);(try clear cI);(try clear br bu bF bG bv bx bz bA bB bC bD bE);(try clear bU bV ci cj bW bY bZ cd ce cf cg ch);(try clear cJ cK cT cU cL cM cN cO cP cQ cR cS);(try clear bH bJ bS bT bK bL bM bN bO bP bQ bR);(try clear ck cl cw cx cm cn co cq cr ct cu cv);(try clear cV cW d7 d8 cX cY cZ d2 d3 d4 d5 d6);obtain⟨kq,aQ,rfl,HA,cy,B,HB⟩:=hcut;cases kq with
        |zero=>exact absurd HA.out (by simp [spoorref11_Put.j1])
        |succ kj24=>
         have H:=HA.out;clear HA;simp only[spoorref11_Put.j1]at H;have d9:=Ax H;clear H;obtain⟨dp,dq,dr,dt,du,dv,dw,dx,dy,dz,dA,dB,dC,dD,dE,dG,dH,dI,dJ,dK,dL,dM,dN,dO⟩:=cl12 B;go_upto_if 49 with (fail)
         go_cut [4] (fun v4 wc=> ∃ (kq:Nat) (aC:ByteArray),v4= .string aC∧Aside0 (spoorref11_Put.j2 kq aC C D E F L O T U V X I G=some (r1,r2))∧Aside0 (kq≤kj24)∧Aside0 (wc.heap[A]? =some (.cells #[.int .u8 C,.int .i64 D,.int .u64 E,.int .i64 F,.bool L,.int .u64 O,.int .u64 T,.int .i64 U,.int .u8 V,.int .i64 X,.int .i64 I,.int .i64 G] 35 (0,0)))∧Aside0 (Below w.heap.size w wc))
         case first=>
          have H:=d9.out;clear d9;by_cases aM:C=3
          ·rw [if_pos aM]at H;have aY:(C==3)=true:=beq_iff_eq.mpr aM;have da:(C !=3)=false:=bne_eq_false_iff_eq.mpr aM;clear aM
           (first|rw [aY]|(simp only[i64_w,i32_w];rw [aY])|skip)
           replace H:=bI H;obtain⟨⟨bl,eK⟩,dP,H⟩:=H;dsimp only at H;have eL:=Ax dP;clear dP;by_cases aZ:aQ.size+bl.size≤9223372036854775807
           ·rw [if_pos aZ]at H;have dQ:=eq_true aZ;have dR:decide (aQ.size+bl.size≤9223372036854775807)=true:=dT aZ;try have dS:(9223372036854775807<aQ.size+bl.size)=False:=eq_false (Nat.not_lt.2 aZ)
            have H':=Ax H;clear H;obtain⟨dU,dV,dW,dX,dY,dZ,e7,e8,e9,ea,eb,ec,ed,ee,ef,eg,eh,ei,ej,ek,el,en,eo,ep⟩:=cl12 B;go_wp2_with (first|((with_reducible refine gate_callee (f:=53) rfl ?_);refine goesL_ (some 53) rfl rfl Try.func53 (by kernel_rfl) rfl #[.agg #[.int .u8 V,.int .i64 X]] rfl gS ?_;(with_reducible refine (spoorref11_PutAction.calls kj24 V X bl eK _ eL.out).mono ?_);rintro e gW ⟨rfl,hb⟩;refine⟨_,rfl,?_⟩;replace B:=Bx0 B hb;replace HB:=Bs1 HB hb ab.out;(try clear hb)));go_meet
            case rel=>exact⟨_,(aQ++bl),rS,H',⟨by have:=b5.out;have:=cy.out;first|omega|exact Nat.le_refl _⟩,⟨bf0 B.out⟩,⟨bw1 HB.out ab.out⟩⟩
           ·rw [if_neg aZ]at H;exact absurd H (by simp)
          ·rw [if_neg aM]at H;have aY:(C==3)=false:=beq_eq_false_iff_ne.mpr aM;have da:(C !=3)=true:=bne_iff_ne.mpr aM
           (first|rw [aY]|(simp only[i64_w,i32_w];rw [aY])|skip)
           have H':=Ax H;clear H;go_wp2;go_meet
           case rel=>exact⟨_,(aQ),rS,H',⟨by have:=b5.out;have:=cy.out;first|omega|exact Nat.le_refl _⟩,⟨bf0 B.out⟩,⟨bw1 HB.out ab.out⟩⟩
         case rest=>
          clear d9;(try clear hcv1);(try clear c2);(try clear p2 p2);(try clear hcv2);(try clear c3);(try clear c5);(try clear bd);(try clear bg);(try clear bi);(try clear bj);(try clear aH);(try clear aJ);(try clear bk);(try clear aW);(try clear aK);(try clear cG);(try clear cH);(try clear cI);(try clear aM);(try clear aY);(try clear da);(try clear aZ);(try clear dQ);(try clear dR);(try clear dS);(try clear br bu bF bG bv bx bz bA bB bC bD bE);(try clear bU bV ci cj bW bY bZ cd ce cf cg ch);(try clear cJ cK cT cU cL cM cN cO cP cQ cR cS);(try clear dp dq dA dB dr dt du dv dw dx dy dz);(try clear dU dV eb ec dW dX dY dZ e7 e8 e9 ea);(try clear bH bJ bS bT bK bL bM bN bO bP bQ bR);(try clear ck cl cw cx cm cn co cq cr ct cu cv);(try clear cV cW d7 d8 cX cY cZ d2 d3 d4 d5 d6);(try clear dC dD dN dO dE dG dH dI dJ dK dL dM);(try clear ed ee eo ep ef eg eh ei ej ek el en);obtain⟨kq,aC,rfl,HA,eq,B,HB⟩:=hcut;cases kq with
          |zero=>exact absurd HA.out (by simp [spoorref11_Put.j2])
          |succ kj30=>
           have H:=HA.out;clear HA;simp only[spoorref11_Put.j2]at H;have db:=Ax H;clear H;go_upto_region 10 with (fail)
           go_cut [66] (fun eM wc=> ∃ (kq:Nat) (cz:Bool),eM= .bool cz∧Aside0 (spoorref11_Put.j3 kq aC cz C D E F L O T U V X I G=some (r1,r2))∧Aside0 (kq≤kj30)∧Aside0 (wc.heap[A]? =some (.cells #[.int .u8 C,.int .i64 D,.int .u64 E,.int .i64 F,.bool L,.int .u64 O,.int .u64 T,.int .i64 U,.int .u8 V,.int .i64 X,.int .i64 I,.int .i64 G] 35 (0,0)))∧Aside0 (Below w.heap.size w wc))
           case first=>
            have H:=db.out;clear db;by_cases aR:C=5
            ·rw [if_pos aR]at H;have b7:(C==5)=true:=beq_iff_eq.mpr aR;have er:(C !=5)=false:=bne_eq_false_iff_eq.mpr aR;clear aR
             (first|rw [b7]|(simp only[i64_w,i32_w];rw [b7])|skip)
             have H':=Ax H;clear H;obtain⟨eN,eO,eP,eQ,eR,eT,eU,eV,eW,eX,eY,eZ,fb,fc,fd,fe,fg,fh,fi,fj,fk,fl,fm,fo⟩:=cl12 B;go_wp2;go_meet
             case rel=>exact⟨_,(true),rS,H',⟨by have:=b5.out;have:=cy.out;have:=eq.out;first|omega|exact Nat.le_refl _⟩,⟨bf0 B.out⟩,⟨bw1 HB.out ab.out⟩⟩
            ·rw [if_neg aR]at H;have b7:(C==5)=false:=beq_eq_false_iff_ne.mpr aR;have er:(C !=5)=true:=bne_iff_ne.mpr aR
             (first|rw [b7]|(simp only[i64_w,i32_w];rw [b7])|skip)
             have H':=Ax H;clear H;obtain⟨fp,fq,ft,fu,fv,fw,fx,fy,fz,fA,fB,fC,fD,fE,fF,fG,fH,fI,fJ,fK,fL,fM,fN,fO⟩:=cl12 B;go_wp2;go_meet
             case rel=>exact⟨_,((C==6)),rS,H',⟨by have:=b5.out;have:=cy.out;have:=eq.out;first|omega|exact Nat.le_refl _⟩,⟨bf0 B.out⟩,⟨bw1 HB.out ab.out⟩⟩
           case rest=>
            clear db;(try clear hcv1);(try clear c2);(try clear p2 p2);(try clear hcv2);(try clear c3);(try clear c5);(try clear bd);(try clear bg);(try clear bi);(try clear bj);(try clear aH);(try clear aJ);(try clear bk);(try clear aW);(try clear aK);(try clear cG);(try clear cH);(try clear cI);(try clear aM);(try clear aY);(try clear da);(try clear aZ);(try clear dQ);(try clear dR);(try clear dS);(try clear aR);(try clear b7);(try clear er);(try clear br bu bF bG bv bx bz bA bB bC bD bE);(try clear bU bV ci cj bW bY bZ cd ce cf cg ch);(try clear cJ cK cT cU cL cM cN cO cP cQ cR cS);(try clear dp dq dA dB dr dt du dv dw dx dy dz);(try clear dU dV eb ec dW dX dY dZ e7 e8 e9 ea);(try clear eN eO eY eZ eP eQ eR eT eU eV eW eX);(try clear fp fq fB fC ft fu fv fw fx fy fz fA);(try clear bH bJ bS bT bK bL bM bN bO bP bQ bR);(try clear ck cl cw cx cm cn co cq cr ct cu cv);(try clear cV cW d7 d8 cX cY cZ d2 d3 d4 d5 d6);(try clear dC dD dN dO dE dG dH dI dJ dK dL dM);(try clear ed ee eo ep ef eg eh ei ej ek el en);(try clear fb fc fm fo fd fe fg fh fi fj fk fl);(try clear fD fE fN fO fF fG fH fI fJ fK fL fM);obtain⟨kq,cz,rfl,HA,gX,B,HB⟩:=hcut;cases kq with
            |zero=>exact absurd HA.out (by simp [spoorref11_Put.j3])
            |succ kj37=>
             have H:=HA.out;clear HA;simp only[spoorref11_Put.j3]at H;by_cases cA:cz=true
             ·subst cA;have H1:((spoorref01_Put.f kj37 (IntKind.u64.wrap (I))).bind fun aG=>(if aC.size+aG.size≤9223372036854775807 then (if C=5 then ((spoorref01_Put.f kj37 (IntKind.u64.wrap (G))).bind fun aT=>(if (aC++aG).size+aT.size≤9223372036854775807 then (some ((aC++aG)++aT,0)) else (none))) else (some (aC++aG,0))) else (none)))=some (r1,r2):=by rw [if_pos rfl]at H;exact H
              clear H;have H:=H1;clear H1;replace H:=bI H;obtain⟨aG,es,H⟩:=H;(try dsimp only at H);have et:=Ax es;clear es;by_cases bm:aC.size+aG.size≤9223372036854775807
              ·rw [if_pos bm]at H;have gY:=eq_true bm;have gZ:decide (aC.size+aG.size≤9223372036854775807)=true:=dT bm;try have hH:(9223372036854775807<aC.size+aG.size)=False:=eq_false (Nat.not_lt.2 bm)
               by_cases b2:C=5
               ·rw [if_pos b2]at H;have fP:(C==5)=true:=beq_iff_eq.mpr b2;have fQ:(C !=5)=false:=bne_eq_false_iff_eq.mpr b2;clear b2;replace H:=bI H;obtain⟨aT,eu,H⟩:=H;(try dsimp only at H);have fR:=Ax eu;clear eu;by_cases b8:(aC++aG).size+aT.size≤9223372036854775807
                ·rw [if_pos b8]at H;have hL:=eq_true b8;have hO:decide ((aC++aG).size+aT.size≤9223372036854775807)=true:=dT b8;try have hP:(9223372036854775807<(aC++aG).size+aT.size)=False:=eq_false (Nat.not_lt.2 b8)
                 try have hU:(9223372036854775807<aC.size+aG.size+aT.size)=False:=eq_false (by have h_:=b8;(try simp only[ByteArray.size_append]at h_);omega)
                 simp only[Option.some.injEq,Prod.mk.injEq]at H;obtain⟨rfl,rfl⟩:=H;obtain⟨hX,hZ,i1,i2,i3,i4,i5,i6,i7,i8,i9,ia,ib,ic,ie,ig,ii,ij,ik,il,im,io,ip,iq⟩:=cl12 B;go_wp2_with (first|((with_reducible refine gate_callee (f:=51) rfl ?_);refine goesL_ (some 71) rfl rfl Try.func51 (by kernel_rfl) rfl #[.int .u64 (IntKind.u64.wrap (I))] rfl gS ?_;(with_reducible refine (spoorref01_Put.calls kj37 (IntKind.u64.wrap (I)) aG _ et.out).mono ?_);rintro e ir ⟨rfl,hb⟩;refine⟨_,rfl,?_⟩;replace B:=Bx0 B hb;replace HB:=Bs1 HB hb ab.out;(try clear hb);obtain⟨iu,iv,iw,ix,iy,iz,iA,iB,iC,iD,iE,iF,iG,iH,iI,iJ,iK,iL,iM,iN,iO,iP,iQ,iR⟩:=cl12 B)|((with_reducible refine gate_callee (f:=51) rfl ?_);refine goesL_ (some 80) rfl rfl Try.func51 (by kernel_rfl) rfl #[.int .u64 (IntKind.u64.wrap (G))] rfl gS ?_;(with_reducible refine (spoorref01_Put.calls kj37 (IntKind.u64.wrap (G)) aT _ fR.out).mono ?_);rintro e iS ⟨rfl,hb⟩;refine⟨_,rfl,?_⟩;replace B:=Bx0 B hb;replace HB:=Bs1 HB hb ab.out;(try clear hb)));go_ret2;exact⟨eS,bw1 HB.out ab.out⟩
                ·rw [if_neg b8]at H;exact absurd H (by simp)
               ·rw [if_neg b2]at H;have fP:(C==5)=false:=beq_eq_false_iff_ne.mpr b2;have fQ:(C !=5)=true:=bne_iff_ne.mpr b2;simp only[Option.some.injEq,Prod.mk.injEq]at H;obtain⟨rfl,rfl⟩:=H;obtain⟨iT,iU,iV,iW,iX,iY,iZ,j7,j8,j9,ja,jb,jc,jd,je,jf,jg,jh,ji,jj,jk,jl,jm,jn⟩:=cl12 B;go_wp2_with (first|((with_reducible refine gate_callee (f:=51) rfl ?_);refine goesL_ (some 71) rfl rfl Try.func51 (by kernel_rfl) rfl #[.int .u64 (IntKind.u64.wrap (I))] rfl gS ?_;(with_reducible refine (spoorref01_Put.calls kj37 (IntKind.u64.wrap (I)) aG _ et.out).mono ?_);rintro e jo ⟨rfl,hb⟩;refine⟨_,rfl,?_⟩;replace B:=Bx0 B hb;replace HB:=Bs1 HB hb ab.out;(try clear hb);obtain⟨jp,jq,jr,js,jt,ju,jv,jw,jx,jy,jz,jA,jB,jC,jD,jE,jF,jG,jH,jI,jJ,jK,jL,jM⟩:=cl12 B));go_ret2;exact⟨eS,bw1 HB.out ab.out⟩
              ·rw [if_neg bm]at H;exact absurd H (by simp)
             ·replace cA:=Bool.eq_false_iff.mpr cA;subst cA;have H1:(if C=5 then ((spoorref01_Put.f kj37 (IntKind.u64.wrap (G))).bind fun b3=>(if aC.size+b3.size≤9223372036854775807 then (some (aC++b3,0)) else (none))) else (some (aC,0)))=some (r1,r2):=by rw [if_neg (show ¬ (false=true) by decide)]at H;exact H
              clear H;have H:=H1;clear H1;by_cases b4:C=5
              ·rw [if_pos b4]at H;have fS:(C==5)=true:=beq_iff_eq.mpr b4;have fT:(C !=5)=false:=bne_eq_false_iff_eq.mpr b4;clear b4;replace H:=bI H;obtain⟨b3,ev,H⟩:=H;(try dsimp only at H);have fU:=Ax ev;clear ev;by_cases bn:aC.size+b3.size≤9223372036854775807
               ·rw [if_pos bn]at H;have jN:=eq_true bn;have jO:decide (aC.size+b3.size≤9223372036854775807)=true:=dT bn;try have jP:(9223372036854775807<aC.size+b3.size)=False:=eq_false (Nat.not_lt.2 bn)
                simp only[Option.some.injEq,Prod.mk.injEq]at H;obtain⟨rfl,rfl⟩:=H;obtain⟨jQ,jR,jS,jT,jU,jV,jW,jX,jY,jZ,k3,k4,k5,k6,k7,k8,k9,ka,kb,kc,ke,kf,kg,kh⟩:=cl12 B;go_wp2_with (first|((with_reducible refine gate_callee (f:=51) rfl ?_);refine goesL_ (some 80) rfl rfl Try.func51 (by kernel_rfl) rfl #[.int .u64 (IntKind.u64.wrap (G))] rfl gS ?_;(with_reducible refine (spoorref01_Put.calls kj37 (IntKind.u64.wrap (G)) b3 _ fU.out).mono ?_);rintro e ki ⟨rfl,hb⟩;refine⟨_,rfl,?_⟩;replace B:=Bx0 B hb;replace HB:=Bs1 HB hb ab.out;(try clear hb)));go_ret2;exact⟨eS,bw1 HB.out ab.out⟩
               ·rw [if_neg bn]at H;exact absurd H (by simp)
              ·rw [if_neg b4]at H;have fS:(C==5)=false:=beq_eq_false_iff_ne.mpr b4;have fT:(C !=5)=true:=bne_iff_ne.mpr b4;simp only[Option.some.injEq,Prod.mk.injEq]at H;obtain⟨rfl,rfl⟩:=H;obtain⟨kj,kk,kl,km,kn,ko,kp,kr,ks,kt,ku,kv,kw,kx,ky,kz,kA,kB,kC,kD,kE,kF,kG,kH⟩:=cl12 B;go_wp2;go_ret2;exact⟨eS,bw1 HB.out ab.out⟩
    ·rw [if_neg c9]at H;exact absurd H (by simp)
   ·rw [if_neg c7]at H;exact absurd H (by simp)
  ·rw [if_neg c5]at H;exact absurd H (by simp)
 ·rw [if_neg c3]at H;have ex:(aI==0)=false:=beq_eq_false_iff_ne.mpr c3;have ey:(aI !=0)=true:=bne_iff_ne.mpr c3;simp only[Option.some.injEq,Prod.mk.injEq]at H;obtain⟨rfl,rfl⟩:=H;go_enter Try.func27,Try.ntmps27;go_wp2_with (first|((with_reducible refine gate_dst (N:=1) rfl ?_);refine bX (N:=1) (cs:= #[.int .u8 C,.int .i64 D,.int .u64 E,.int .i64 F,.bool L,.int .u64 O,.int .u64 T,.int .i64 U,.int .u8 V,.int .i64 X,.int .i64 I,.int .i64 G]) (t:=35) ?_;intro A hg kI ba hb;have B:=Ax (ba);have ez:=Gw0 HB hg;have ab:=Gw0 HB hg;replace HB:=Bs0 HB hb;clear hb ba hg;obtain⟨kJ,kK,kL,kM,kN,kO,kP,kQ,kR,kS,kT,kU,kV,kW,kX,kY,kZ,l3,l4,l5,l6,l7,l8,l9⟩:=cl12 B)|((with_reducible refine gate_callee (f:=50) rfl ?_);refine goesL_ (some 10) rfl rfl Try.func50 (by kernel_rfl) rfl #[.agg #[.int .u8 C,.int .i64 D,.int .u64 E,.int .i64 F,.bool L,.int .u64 O,.int .u64 T,.int .i64 U,.int .u8 V,.int .i64 X,.int .i64 I,.int .i64 G]] rfl gS ?_;(with_reducible refine (spoorref11_Check.calls k C D E F L O T U V X I G aI _ A2.out).mono ?_);rintro e ld ⟨rfl,hb⟩;refine⟨_,rfl,?_⟩;replace B:=Bx0 B hb;replace HB:=Bs1 HB hb ab.out;(try clear hb)));go_ret2;exact⟨eS,bw1 HB.out ab.out⟩
end Go.Proofs.Ythkdfojmhloofaa.Q
end
section
namespace Go.Proofs.Ythkdfojmhloofaa.Q
open Go.RowKit Go.Proofs.YthkdfojmhloofaaW.PrintWords Go.Proofs.YthkdfojmhloofaaW.PrintLast Go.Proofs.YthkdfojmhloofaaW.PrintMore
attribute [local go_sem] max2_int min2_int max_two min_two max_three min_three max_four min_four   -- for this text's walks alone
set_option linter.unusedVariables false
set_option linter.unusedSimpArgs false
mutual
def spoorref01_Get.l0 : Nat → ByteArray → Int → Int → Int → Option (Int × ByteArray × Int)
 | 0, _, _, _, _ => none
 | k + 1, x0, x5, x6, x7 => if x7 < (x0.size : Int) then (if 0 ≤ x7 then (if x7 = 9 then (spoorref01_Get.j1 k x0 x5 x6 x7 (bt x0 x7) (decide ((bt x0 x7) > 1))) else (spoorref01_Get.j1 k x0 x5 x6 x7 (bt x0 x7) false)) else (none)) else (some (0, (⟨#[]⟩ : ByteArray), 5))
def spoorref01_Get.j1 : Nat → ByteArray → Int → Int → Int → Int → Bool → Option (Int × ByteArray × Int)
 | 0, _, _, _, _, _, _ => none
 | k + 1, x0, x5, x6, x7, x8, x23 => if x23 = true then (some (0, (⟨#[]⟩ : ByteArray), 7)) else (if x8 ≥ 128 then (spoorref01_Get.l0 k x0 (IntKind.u64.wrap (x5 + (IntKind.u64.wrap ((IntKind.u64.wrap (Int.tmod x8 128)) * x6)))) (IntKind.u64.wrap (x6 * 128)) (wrap64 (x7 + 1))) else (if x8 = 0 then (if x7 > 0 then (some (0, (⟨#[]⟩ : ByteArray), 7)) else (if 0 ≤ (wrap64 (x7 + 1)) then (if (wrap64 (x7 + 1)) ≤ (x0.size : Int) then (some (IntKind.u64.wrap (x5 + (IntKind.u64.wrap ((IntKind.u64.wrap (Int.tmod x8 128)) * x6))), x0.extract ((wrap64 (x7 + 1)) : Int).toNat x0.size, 0)) else (none)) else (none))) else (if 0 ≤ (wrap64 (x7 + 1)) then (if (wrap64 (x7 + 1)) ≤ (x0.size : Int) then (some (IntKind.u64.wrap (x5 + (IntKind.u64.wrap ((IntKind.u64.wrap (Int.tmod x8 128)) * x6))), x0.extract ((wrap64 (x7 + 1)) : Int).toNat x0.size, 0)) else (none)) else (none))))
end
def spoorref01_Get.f (k:Nat) (a0:ByteArray):Option (Int × ByteArray × Int):=spoorref01_Get.l0 k a0 0 1 0
set_option maxHeartbeats 8000000 in
set_option maxRecDepth 100000 in
theorem spoorref01_Get.calls (k:Nat) (a0:ByteArray) (r1:Int) (r2:ByteArray) (r3:Int) (w:World) (h:spoorref01_Get.f k a0=some (r1,r2,r3)):
  Calls Try.prog 63 #[.string a0] w fun e w'=>e= .returned (.tuple #[.int .u64 r1,.string r2,.int .i64 r3])∧Drawn0 w w':=by
 have H:(spoorref01_Get.l0 k a0 0 1 0)=some (r1,r2,r3):=h;clear h;have H':=Ax H;clear H;go_enter Try.func63,Try.ntmps63;go_wp2
 repeat (go_quiet (fail);try go_wp2)
 go_loopg [5,6,7] k (fun kq v5 v6 v7 w'=> ∃ (C:Int) (B:Int) (A:Int),v5= .int .u64 C∧v6= .int .u64 B∧v7= .int .i64 A∧Aside0 (spoorref01_Get.l0 kq a0 C B A=some (r1,r2,r3))∧Aside0 (kq≤k)∧Drawn0 w w')
 case atStart=>exact⟨(0),(1),(0),rS,rS,rS,H',⟨Nat.le_refl _⟩,by repeat (first|exact Drawn0.refl _|apply Drawn0.step)⟩
 case round=>
  clear H';obtain⟨C,B,A,rfl,rfl,rfl,HA,N,⟨m1,rfl⟩⟩:=hrel;cases gk with
  |zero=>exact absurd HA.out (by simp [spoorref01_Get.l0])
  |succ k1=>
   have H:=HA.out;clear HA;simp only[spoorref01_Get.l0]at H;by_cases c2:A<(a0.size:Int)
   ·rw [if_pos c2]at H;have V:decide (A<(a0.size:Int))=true:=dT c2;clear c2;by_cases c3:0≤A
    ·rw [if_pos c3]at H;have ab:decide (0≤A)=true:=dT c3;clear c3;have U:=Ax H;clear H;have p4:0≤(A:Int):=of_decide_eq_true (by first|(with_reducible assumption)|assumption);have q4:A<(a0.size:Int):=of_decide_eq_true (by first|(with_reducible assumption)|assumption);have ac:=bt_at a0 A;replace p4:=eq_true p4;replace q4:=eq_true q4;go_upto_region 7 with (fail)
     repeat (go_quiet (fail);go_upto_region 7 with (fail))
     go_cut [23] (fun ae wc=> ∃ (kq:Nat) (O:Bool),ae= .bool O∧Aside0 (spoorref01_Get.j1 kq a0 C B A (bt a0 A) O=some (r1,r2,r3))∧Aside0 (kq≤k1)∧Drawn0 w wc)
     case first=>
      have H:=U.out;clear U;by_cases c6:A=9
      ·rw [if_pos c6]at H;have F:(A==9)=true:=beq_iff_eq.mpr c6;have X:(A !=9)=false:=bne_eq_false_iff_eq.mpr c6;clear c6
       (first|rw [F]|(simp only[i64_w,i32_w];rw [F])|skip)
       have H':=Ax H;clear H;go_wp2
       repeat (go_quiet (fail);try go_wp2)
       go_meet
       case rel=>exact⟨_,(decide ((bt a0 A) > 1)),rS,H',⟨by have:=N.out;first|omega|exact Nat.le_refl _⟩,by repeat (first|exact Drawn0.refl _|apply Drawn0.step)⟩
      ·rw [if_neg c6]at H;have F:(A==9)=false:=beq_eq_false_iff_ne.mpr c6;have X:(A !=9)=true:=bne_iff_ne.mpr c6
       (first|rw [F]|(simp only[i64_w,i32_w];rw [F])|skip)
       have H':=Ax H;clear H;go_wp2
       repeat (go_quiet (fail);try go_wp2)
       go_meet
       case rel=>exact⟨_,(false),rS,H',⟨by have:=N.out;first|omega|exact Nat.le_refl _⟩,by repeat (first|exact Drawn0.refl _|apply Drawn0.step)⟩
     case rest=>
      clear U;(try clear c2);(try clear V);(try clear p2);(try clear c3);(try clear ab);(try clear p4 p4);(try clear q4 q4);(try clear ac);(try clear c6);(try clear F);(try clear X);obtain⟨kq,O,rfl,HA,aa,⟨al,rfl⟩⟩:=hcut;cases kq with
      |zero=>exact absurd HA.out (by simp [spoorref01_Get.j1])
      |succ kj4=>
       have H:=HA.out;clear HA;simp only[spoorref01_Get.j1]at H;by_cases c7:O=true
       ·subst c7;have H1:(some (0,(⟨#[]⟩:ByteArray),7))=some (r1,r2,r3):=by rw [if_pos rfl]at H;exact H
        clear H;have H:=H1;clear H1;simp only[Option.some.injEq,Prod.mk.injEq]at H;obtain⟨rfl,rfl,rfl⟩:=H;go_wp2
        repeat (go_quiet (fail);try go_wp2)
        go_ret3;exact⟨by first|rfl|(simp;done)|(simp [*];done),by repeat (first|exact Drawn0.refl _|apply Drawn0.step)⟩
       ·replace c7:=Bool.eq_false_iff.mpr c7;subst c7;have H1:(if (bt a0 A) ≥ 128 then (spoorref01_Get.l0 kj4 a0 (IntKind.u64.wrap (C+(IntKind.u64.wrap ((IntKind.u64.wrap (Int.tmod (bt a0 A) 128)) * B)))) (IntKind.u64.wrap (B * 128)) (wrap64 (A+1))) else (if (bt a0 A)=0 then (if A > 0 then (some (0,(⟨#[]⟩:ByteArray),7)) else (if 0≤(wrap64 (A+1)) then (if (wrap64 (A+1))≤(a0.size:Int) then (some (IntKind.u64.wrap (C+(IntKind.u64.wrap ((IntKind.u64.wrap (Int.tmod (bt a0 A) 128)) * B))),a0.extract ((wrap64 (A+1)):Int).toNat a0.size,0)) else (none)) else (none))) else (if 0≤(wrap64 (A+1)) then (if (wrap64 (A+1))≤(a0.size:Int) then (some (IntKind.u64.wrap (C+(IntKind.u64.wrap ((IntKind.u64.wrap (Int.tmod (bt a0 A) 128)) * B))),a0.extract ((wrap64 (A+1)):Int).toNat a0.size,0)) else (none)) else (none))))=some (r1,r2,r3):=by rw [if_neg (show ¬ (false=true) by decide)]at H;exact H
        clear H;have H:=H1;clear H1;by_cases c8:(bt a0 A) ≥ 128
        ·rw [if_pos c8]at H;have af:decide (128≤(bt a0 A))=true:=dT c8;clear c8;have H':=Ax H;clear H;go_wp2
         repeat (go_quiet (fail);try go_wp2)
         go_roundg kj4
         case measure=>have:=N.out;have:=aa.out;omega
         case rel=>exact⟨(IntKind.u64.wrap (C+(IntKind.u64.wrap ((IntKind.u64.wrap (Int.tmod (bt a0 A) 128)) * B)))),(IntKind.u64.wrap (B * 128)),(wrap64 (A+1)),rS,rS,rS,H',⟨by have:=N.out;have:=aa.out;omega⟩,by repeat (first|exact Drawn0.refl _|apply Drawn0.step)⟩
        ·rw [if_neg c8]at H;have af:decide (128≤(bt a0 A))=false:=dF c8;clear c8;by_cases c9:(bt a0 A)=0
         ·rw [if_pos c9]at H;have ag:((bt a0 A)==0)=true:=beq_iff_eq.mpr c9;have ah:((bt a0 A) !=0)=false:=bne_eq_false_iff_eq.mpr c9;clear c9;by_cases c10:A > 0
          ·rw [if_pos c10]at H;have aj:decide (0<A)=true:=dT c10;clear c10;simp only[Option.some.injEq,Prod.mk.injEq]at H;obtain⟨rfl,rfl,rfl⟩:=H;go_wp2
           repeat (go_quiet (fail);try go_wp2)
           go_ret3;exact⟨by first|rfl|(simp;done)|(simp [*];done),by repeat (first|exact Drawn0.refl _|apply Drawn0.step)⟩
          ·rw [if_neg c10]at H;have aj:decide (0<A)=false:=dF c10;clear c10;obtain⟨D,R⟩: ∃ j_:Int,(wrap64 (A+1))=j_:=⟨_,rfl⟩;replace H:(if 0≤(D) then (if (D)≤(a0.size:Int) then (some (IntKind.u64.wrap (C+(IntKind.u64.wrap ((IntKind.u64.wrap (Int.tmod (bt a0 A) 128)) * B))),a0.extract ((D):Int).toNat a0.size,0)) else (none)) else (none))=some (r1,r2,r3):=by first|(rw [R]at H;exact H)|(simp only[R]at H ⊢;exact H)
           have am:(IntKind.i64.wrap (A+1))=D:=(i64_w _).trans R;by_cases G:0≤(D)
           ·rw [if_pos G]at H;have ap:=eq_true G;have aq:decide (0≤(D))=true:=dT G;clear G;by_cases I:(D)≤(a0.size:Int)
            ·rw [if_pos I]at H;have ar:=eq_true I;have au:decide ((D)≤(a0.size:Int))=true:=dT I;clear I;simp only[Option.some.injEq,Prod.mk.injEq]at H;obtain⟨rfl,rfl,rfl⟩:=H;go_wp2
             repeat (go_quiet (fail);try go_wp2)
             go_ret3;exact⟨by first|rfl|(simp;done)|(simp only[← R] <;> (first|rfl|simp))|(simp [*];done),by repeat (first|exact Drawn0.refl _|apply Drawn0.step)⟩
            ·rw [if_neg I]at H;exact absurd H (by simp)
           ·rw [if_neg G]at H;exact absurd H (by simp)
         ·rw [if_neg c9]at H;have ag:((bt a0 A)==0)=false:=beq_eq_false_iff_ne.mpr c9;have ah:((bt a0 A) !=0)=true:=bne_iff_ne.mpr c9;obtain⟨E,T⟩: ∃ j_:Int,(wrap64 (A+1))=j_:=⟨_,rfl⟩;replace H:(if 0≤(E) then (if (E)≤(a0.size:Int) then (some (IntKind.u64.wrap (C+(IntKind.u64.wrap ((IntKind.u64.wrap (Int.tmod (bt a0 A) 128)) * B))),a0.extract ((E):Int).toNat a0.size,0)) else (none)) else (none))=some (r1,r2,r3):=by first|(rw [T]at H;exact H)|(simp only[T]at H ⊢;exact H)
          have av:(IntKind.i64.wrap (A+1))=E:=(i64_w _).trans T;by_cases L:0≤(E)
          ·rw [if_pos L]at H;have aw:=eq_true L;have ax:decide (0≤(E))=true:=dT L;clear L;by_cases M:(E)≤(a0.size:Int)
           ·rw [if_pos M]at H;have ay:=eq_true M;have az:decide ((E)≤(a0.size:Int))=true:=dT M;clear M;simp only[Option.some.injEq,Prod.mk.injEq]at H;obtain⟨rfl,rfl,rfl⟩:=H;go_wp2
            repeat (go_quiet (fail);try go_wp2)
            go_ret3;exact⟨by first|rfl|(simp;done)|(simp only[← T] <;> (first|rfl|simp))|(simp [*];done),by repeat (first|exact Drawn0.refl _|apply Drawn0.step)⟩
           ·rw [if_neg M]at H;exact absurd H (by simp)
          ·rw [if_neg L]at H;exact absurd H (by simp)
    ·rw [if_neg c3]at H;exact absurd H (by simp)
   ·rw [if_neg c2]at H;have V:decide (A<(a0.size:Int))=false:=dF c2;clear c2;simp only[Option.some.injEq,Prod.mk.injEq]at H;obtain⟨rfl,rfl,rfl⟩:=H;go_wp2
    repeat (go_quiet (fail);try go_wp2)
    go_ret3;exact⟨by first|rfl|(simp;done)|(simp [*];done),by repeat (first|exact Drawn0.refl _|apply Drawn0.step)⟩
def IsS95 (w0 W:World) (g:Nat) (f0:ByteArray) (f1:Bool):Prop:=W.heap[g]? =some (.cells #[.string f0,.bool f1] 95 (0,0))∧w0.heap.size≤g
theorem IsS95.grown {w0 W:World}{g:Nat}{f0:ByteArray}{f1:Bool}{W1:World}{row:Option Nat} (h:IsS95 w0 W g f0 f1) (hw:W.grownBy W1 row) (aa:some g≠row):IsS95 w0 W1 g f0 f1:=by
 obtain⟨hb,hg⟩:=h;exact⟨blk_grown hb hw aa,hg⟩
theorem IsS95.kept {w0 W:World}{g:Nat}{f0:ByteArray}{f1:Bool}{W1:World}{S:Nat→Prop} (h:IsS95 w0 W g f0 f1) (hk:Kept W W1 S) (aa: ¬ S g):IsS95 w0 W1 g f0 f1:=by
 obtain⟨hb,hg⟩:=h;exact⟨blk_kept hb hk aa,hg⟩
theorem IsS95.below {w0 W:World}{g:Nat}{f0:ByteArray}{f1:Bool}{W1:World} (h:IsS95 w0 W g f0 f1) (hw:Below W.heap.size W W1):IsS95 w0 W1 g f0 f1:=h.grown (grown_of_below hw none) (by simp)
theorem IsS95.alloc {w0 W:World}{g:Nat}{f0:ByteArray}{f1:Bool} (h:IsS95 w0 W g f0 f1) (o:Obj):IsS95 w0 (W.alloc o) g f0 f1:=h.below (below_alloc (Below.refl _ _) o)
theorem IsS95.drewN {w0 W:World}{g:Nat}{f0:ByteArray}{f1:Bool} (h:IsS95 w0 W g f0 f1) (m:Nat):IsS95 w0 (W.drewN m) g f0 f1:=h
theorem IsS95.drew {w0 W:World}{g:Nat}{f0:ByteArray}{f1:Bool} (h:IsS95 w0 W g f0 f1):IsS95 w0 W.drew g f0 f1:=h
theorem IsS95.at_ {w0 W:World}{g:Nat}{f0:ByteArray}{f1:Bool}{w':World}{m:Nat} (hq:W.drewN m=w') (h:IsS95 w0 W g f0 f1):IsS95 w0 w' g f0 f1:=by subst hq;exact IsS95.drewN h m
theorem IsS95.apart {w0 W:World}{g:Nat}{f0:ByteArray}{f1:Bool}{α:Type}{d:Kd α}{e:Nat}{base:Nat}{ok:Nat→Prop}{v:Value}{xs:List α} (h:IsS95 w0 W g f0 f1) (ho:d.R e W base ok v xs) (ht: ∀ q,q∈e :: d.E→q≠95):d.R e W base (fun k=>ok k∧k≠g) v xs:=by
 obtain⟨hb,hg⟩:=h;exact Kd.R_types ho hb ht
theorem IsS95.own_ne {w0 W:World}{g:Nat}{f0:ByteArray}{f1:Bool}{α:Type}{d:Kd α}{e:Nat}{base:Nat}{ok:Nat→Prop}{v:Value}{xs:List α} (h:IsS95 w0 W g f0 f1) (ho:d.R e W base ok v xs) (ht:e≠95):some g≠v.ownBlock:=by
 obtain⟨hb,hg⟩:=h;exact Kd.R_ne ho hb ht
theorem IsS95.lt {w0 W:World}{g:Nat}{f0:ByteArray}{f1:Bool} (h:IsS95 w0 W g f0 f1):g<W.heap.size:=by
 obtain⟨hb,hg⟩:=h;exact blk_lt hb
theorem IsS95.ge {w0 W:World}{g:Nat}{f0:ByteArray}{f1:Bool} (h:IsS95 w0 W g f0 f1):w0.heap.size≤g:=by
 obtain⟨hb,hg⟩:=h;exact hg
theorem IsS95.far {w0 W:World}{g:Nat}{f0:ByteArray}{f1:Bool}{p:Addr} (h:IsS95 w0 W g f0 f1) (aa:g≠p.block) (u:Value):IsS95 w0 (W.setCell p u) g f0 f1:=by
 obtain⟨hb,hg⟩:=h;exact⟨blk_far hb aa u,hg⟩
theorem cellS95_0 {W:World}{g:Nat}{f0:ByteArray}{f1:Bool} (h:W.heap[g]? =some (.cells #[.string f0,.bool f1] 95 (0,0))):W.cell? ⟨g,0,none⟩=some (.string f0):=(blk_cell h 0).trans rfl
theorem IsS95.set_0 {w0 W:World}{g:Nat}{f0:ByteArray}{f1:Bool} (h:IsS95 w0 W g f0 f1) (x:ByteArray):IsS95 w0 (W.setCell ⟨g,0,none⟩ (.string x)) g x f1:=by
 obtain⟨hb,hg⟩:=h;exact⟨by simpa using blk_set hb 0 (.string x),hg⟩
theorem cellS95_1 {W:World}{g:Nat}{f0:ByteArray}{f1:Bool} (h:W.heap[g]? =some (.cells #[.string f0,.bool f1] 95 (0,0))):W.cell? ⟨g,1,none⟩=some (.bool f1):=(blk_cell h 1).trans rfl
theorem IsS95.set_1 {w0 W:World}{g:Nat}{f0:ByteArray}{f1:Bool} (h:IsS95 w0 W g f0 f1) (x:Bool):IsS95 w0 (W.setCell ⟨g,1,none⟩ (.bool x)) g f0 x:=by
 obtain⟨hb,hg⟩:=h;exact⟨by simpa using blk_set hb 1 (.bool x),hg⟩
theorem IsS95.new (w0 W:World) (f0:ByteArray) (f1:Bool) (hB:Below w0.heap.size w0 W):IsS95 w0 (W.alloc (.cells #[.string f0,.bool f1] 95)) W.heap.size f0 f1:=⟨by simpa using heap_alloc_new W _,hB.size⟩
def spoorref11_reader_num.f (k:Nat) (B:ByteArray) (aa:Bool) (a1:Int):Option (Int × ByteArray × Bool):=(spoorref01_Get.f k B).bind fun A=>(if A.2.2=0 then (if A.1 > a1 then (some (0,B,false)) else (some (A.1,A.2.1,aa))) else (some (0,B,false)))
set_option maxHeartbeats 8000000 in
set_option maxRecDepth 100000 in
theorem spoorref11_reader_num.calls (k:Nat) (g:Nat) (C:ByteArray) (R:Bool) (a1:Int) (r1:Int) (r2:ByteArray) (r3:Bool) (w0 w:World) (hI:IsS95 w0 w g C R) (hB:Below w0.heap.size w0 w) (h:spoorref11_reader_num.f k C R a1=some (r1,r2,r3)):
  Calls Try.prog 40 #[.pointer (some ⟨g,0,none⟩),.int .u64 a1] w fun e w'=>e= .returned (.int .u64 r1)∧IsS95 w0 w' g r2 r3∧Below w0.heap.size w0 w'∧KeepBut w w' g none:=by
 have A:=Ax hI;have HK:=Ax (KeepBut.refl w g none);have HL:=Ax hB.size;clear hI;have aq:=Ax hB.size;have HB:=Ax hB;clear hB;have H:((spoorref01_Get.f k C).bind fun O=>(if O.2.2=0 then (if O.1 > a1 then (some (0,C,false)) else (some (O.1,O.2.1,R))) else (some (0,C,false))))=some (r1,r2,r3):=h;clear h;replace H:=bI H;obtain⟨⟨E,T,D⟩,U,H⟩:=H;dsimp only at H;have A3:=Ax U;clear U;by_cases c4:D=0
 ·rw [if_pos c4]at H;have ac:(D==0)=true:=beq_iff_eq.mpr c4;have ae:(D !=0)=false:=bne_eq_false_iff_eq.mpr c4;clear c4;by_cases c5:E > a1;·rw [if_pos c5]at H;have af:decide (a1<E)=true:=dT c5;clear c5;simp only[Option.some.injEq,Prod.mk.injEq]at H;obtain⟨rfl,rfl,rfl⟩:=H;obtain⟨F,ag⟩:=A.out;have ar:=cellS95_0 F;have au:=cellS95_1 F;have av:=blk_frozen F 0;have aw:=blk_frozen F 1;clear F ag;go_enter Try.func40,Try.ntmps40;go_wp2_with (first|((with_reducible refine gate_callee (f:=63) rfl ?_);refine goesL_ (some 13) rfl rfl Try.func63 (by kernel_rfl) rfl #[.string C] rfl gS ?_;(with_reducible refine (spoorref01_Get.calls k C E T D _ A3.out).mono ?_);rintro e w' ⟨rfl,⟨nd,rfl⟩⟩;refine⟨_,rfl,?_⟩;rw [drewN_self w];generalize hq_:World.drewN w _=w7;replace A:=Ax (IsS95.at_ hq_ A.out);replace HK:=Ax (keep_at hq_ HK.out);replace HB:=Ax (below_at hq_ HB.out);clear hq_;(try (have B:=A.out.1;have V:=cellS95_0 B;have X:=blk_frozen B 0;have aa:=cellS95_1 B;have ab:=blk_frozen B 1;clear B));obtain⟨G,ah⟩:=A.out;have ax:=cellS95_0 G;have ay:=cellS95_1 G;have az:=blk_frozen G 0;have aA:=blk_frozen G 1;clear G ah));go_ret;exact⟨eS,by repeat (first|(with_reducible first|exact A.out|apply IsS95.alloc|apply IsS95.drewN|apply IsS95.drew|apply IsS95.set_0|apply IsS95.set_1)|exact A.out),bw1 HB.out (IsS95.ge A.out),by repeat (first|(with_reducible first|exact HK.out|apply KeepBut.set_|apply keep_drewN|apply keep_drew|apply keep_alloc)|exact HK.out)⟩
  ·rw [if_neg c5]at H;have af:decide (a1<E)=false:=dF c5;clear c5;simp only[Option.some.injEq,Prod.mk.injEq]at H;obtain⟨rfl,rfl,rfl⟩:=H;obtain⟨I,aj⟩:=A.out;have aC:=cellS95_0 I;have aD:=cellS95_1 I;have aE:=blk_frozen I 0;have aG:=blk_frozen I 1;clear I aj;go_enter Try.func40,Try.ntmps40;go_wp2_with (first|((with_reducible refine gate_callee (f:=63) rfl ?_);refine goesL_ (some 13) rfl rfl Try.func63 (by kernel_rfl) rfl #[.string C] rfl gS ?_;(with_reducible refine (spoorref01_Get.calls k C E T D _ A3.out).mono ?_);rintro e w' ⟨rfl,⟨nd,rfl⟩⟩;refine⟨_,rfl,?_⟩;rw [drewN_self w];generalize hq_:World.drewN w _=w10;replace A:=Ax (IsS95.at_ hq_ A.out);replace HK:=Ax (keep_at hq_ HK.out);replace HB:=Ax (below_at hq_ HB.out);clear hq_;(try (have B:=A.out.1;have V:=cellS95_0 B;have X:=blk_frozen B 0;have aa:=cellS95_1 B;have ab:=blk_frozen B 1;clear B));obtain⟨L,al⟩:=A.out;have aH:=cellS95_0 L;have aI:=cellS95_1 L;have aJ:=blk_frozen L 0;have aK:=blk_frozen L 1;clear L al));go_ret;exact⟨eS,by repeat (first|(with_reducible first|exact A.out|apply IsS95.alloc|apply IsS95.drewN|apply IsS95.drew|apply IsS95.set_0|apply IsS95.set_1)|exact A.out),bw1 HB.out (IsS95.ge A.out),by repeat (first|(with_reducible first|exact HK.out|apply KeepBut.set_|apply keep_drewN|apply keep_drew|apply keep_alloc)|exact HK.out)⟩
 ·rw [if_neg c4]at H;have ac:(D==0)=false:=beq_eq_false_iff_ne.mpr c4;have ae:(D !=0)=true:=bne_iff_ne.mpr c4;simp only[Option.some.injEq,Prod.mk.injEq]at H;obtain⟨rfl,rfl,rfl⟩:=H;obtain⟨M,am⟩:=A.out;have aM:=cellS95_0 M;have aN:=cellS95_1 M;have aQ:=blk_frozen M 0;have aR:=blk_frozen M 1;clear M am;go_enter Try.func40,Try.ntmps40;go_wp2_with (first|((with_reducible refine gate_callee (f:=63) rfl ?_);refine goesL_ (some 13) rfl rfl Try.func63 (by kernel_rfl) rfl #[.string C] rfl gS ?_;(with_reducible refine (spoorref01_Get.calls k C E T D _ A3.out).mono ?_);rintro e w' ⟨rfl,⟨nd,rfl⟩⟩;refine⟨_,rfl,?_⟩;rw [drewN_self w];generalize hq_:World.drewN w _=w13;replace A:=Ax (IsS95.at_ hq_ A.out);replace HK:=Ax (keep_at hq_ HK.out);replace HB:=Ax (below_at hq_ HB.out);clear hq_;(try (have B:=A.out.1;have V:=cellS95_0 B;have X:=blk_frozen B 0;have aa:=cellS95_1 B;have ab:=blk_frozen B 1;clear B));obtain⟨N,ap⟩:=A.out;have aT:=cellS95_0 N;have aU:=cellS95_1 N;have aV:=blk_frozen N 0;have aW:=blk_frozen N 1;clear N ap));go_ret;exact⟨eS,by repeat (first|(with_reducible first|exact A.out|apply IsS95.alloc|apply IsS95.drewN|apply IsS95.drew|apply IsS95.set_0|apply IsS95.set_1)|exact A.out),bw1 HB.out (IsS95.ge A.out),by repeat (first|(with_reducible first|exact HK.out|apply KeepBut.set_|apply keep_drewN|apply keep_drew|apply keep_alloc)|exact HK.out)⟩
def spoorref05_Zeros.f (a0:Int):Option (ByteArray):=if 0≤a0 then (if (a0:Int).toNat≤281474976710656 then (some (strOfNums (List.replicate (a0:Int).toNat 0))) else (none)) else (none)
set_option maxHeartbeats 8000000 in
set_option maxRecDepth 100000 in
theorem spoorref05_Zeros.calls (a0:Int) (r:ByteArray) (w:World) (h:spoorref05_Zeros.f a0=some r):
  Calls Try.prog 65 #[.int .i64 a0] w fun e w'=>e= .returned (.string r)∧Below w.heap.size w w':=by
 have HB:=Ax (Below.refl w.heap.size w);have H:(if 0≤a0 then (if (a0:Int).toNat≤281474976710656 then (some (strOfNums (List.replicate (a0:Int).toNat 0))) else (none)) else (none))=some r:=h;clear h;by_cases c2:0≤a0
 ·rw [if_pos c2]at H;have af:=eq_true c2;have ag:decide (0≤a0)=true:=dT c2;clear c2;by_cases c3:(a0:Int).toNat≤281474976710656
  ·rw [if_pos c3]at H;have ah:=eq_true c3;have aj:decide ((a0:Int).toNat≤281474976710656)=true:=dT c3;clear c3;obtain⟨aa,A⟩: ∃ y_:List Int,y_=(List.replicate (a0:Int).toNat 0):=⟨_,rfl⟩;replace H:(some (strOfNums aa))=some r:=by first|(rw [A];with_reducible exact H)|(have C:=(Option.bind_some _ _).symm.trans H;rw [A];with_reducible exact C)|(have C:=(Option.bind_some _ _).symm.trans H;with_reducible exact C)|with_reducible exact H|(rw [A];exact H)|exact H
   have D:=Ax A;clear A;obtain rfl:=Option.some.inj H;go_enter Try.func65,Try.ntmps65;go_wp2_with (first|((with_reducible refine gate_dst (N:=4) rfl ?_);refine Kd.R_make (Kd.int .u8) _ 5 rfl (N:=4) rfl 67 _ _ rfl a0 rfl rfl Try.underlying67 (.int .u8 0) 1 info5 rfl (by decide) (by omega) 0 (ok:=fun _=>True) (okp:=fun _=>True) rfl (fun _ hk=>hk) trivial (of_decide_eq_true (by first|(with_reducible assumption)|assumption)) (Nat.le_trans (Nat.mul_le_mul_right _ (of_decide_eq_true (by first|(with_reducible assumption)|assumption):a0.toNat≤281474976710656)) (by omega)) (Below.refl _ _) (Nat.le_refl _) ?_;intro al w4 B hb ab ac;clear ab ac;(first|rw [← D.out]at B|(simp only[Int.reduceToNat]at B;rw [← D.out]at B));have ae:=Ax (Kd.R_lower B (below_size (bw0 HB.out)));replace HB:=Bs0 HB hb;clear hb B;have am:=own_string (P:=Try.prog) Try.underlying67 Try.underlying5 Try.underlying9 (Kd.own_of_R ae.out)));go_ret;exact⟨eS,bw0 HB.out⟩
  ·rw [if_neg c3]at H;exact absurd H (by simp)
 ·rw [if_neg c2]at H;exact absurd H (by simp)
def spoorref05_Number.l0 : Nat → ByteArray → Int → Int → Option (Int)
 | 0, _, _, _ => none
 | k + 1, x0, x3, x4 => if x4 < (x0.size : Int) then (if 0 ≤ x4 then (spoorref05_Number.l0 k x0 (IntKind.u64.wrap ((IntKind.u64.wrap (256 * x3)) + (IntKind.u64.wrap (bt x0 x4)))) (wrap64 (x4 + 1))) else (none)) else (some x3)
def spoorref05_Number.f (k:Nat) (a0:ByteArray):Option (Int):=spoorref05_Number.l0 k a0 0 0
set_option maxHeartbeats 8000000 in
set_option maxRecDepth 100000 in
theorem spoorref05_Number.calls (k:Nat) (a0:ByteArray) (r:Int) (w:World) (h:spoorref05_Number.f k a0=some r):
  Calls Try.prog 66 #[.string a0] w fun e w'=>e= .returned (.int .u64 r)∧Drawn0 w w':=by
 have H:(spoorref05_Number.l0 k a0 0 0)=some r:=h;clear h;have H':=Ax H;clear H;go_enter Try.func66,Try.ntmps66;go_wp2;go_loopg [3,4] k (fun kq v3 v4 w'=> ∃ (B:Int) (A:Int),v3= .int .u64 B∧v4= .int .i64 A∧Aside0 (spoorref05_Number.l0 kq a0 B A=some r)∧Aside0 (kq≤k)∧Drawn0 w w')
 case atStart=>exact⟨(0),(0),rS,rS,H',⟨Nat.le_refl _⟩,by repeat (first|exact Drawn0.refl _|apply Drawn0.step)⟩
 case round=>
  clear H';obtain⟨B,A,rfl,rfl,HA,C,⟨m1,rfl⟩⟩:=hrel;cases gk with
  |zero=>exact absurd HA.out (by simp [spoorref05_Number.l0])
  |succ k1=>
   have H:=HA.out;clear HA;simp only[spoorref05_Number.l0]at H;by_cases c2:A<(a0.size:Int)
   ·rw [if_pos c2]at H;have aa:decide (A<(a0.size:Int))=true:=dT c2;clear c2;by_cases c3:0≤A
    ·rw [if_pos c3]at H;have ab:decide (0≤A)=true:=dT c3;clear c3;have H':=Ax H;clear H;have p4:0≤(A:Int):=of_decide_eq_true (by first|(with_reducible assumption)|assumption);have q4:A<(a0.size:Int):=of_decide_eq_true (by first|(with_reducible assumption)|assumption);have ac:=bt_at a0 A;replace p4:=eq_true p4;replace q4:=eq_true q4;go_wp2;go_roundg k1
     case measure=>have:=C.out;omega
     case rel=>exact⟨(IntKind.u64.wrap ((IntKind.u64.wrap (256 * B))+(IntKind.u64.wrap (bt a0 A)))),(wrap64 (A+1)),rS,rS,H',⟨by have:=C.out;omega⟩,by repeat (first|exact Drawn0.refl _|apply Drawn0.step)⟩
    ·rw [if_neg c3]at H;exact absurd H (by simp)
   ·rw [if_neg c2]at H;have aa:decide (A<(a0.size:Int))=false:=dF c2;clear c2;obtain rfl:=Option.some.inj H;go_wp2;go_ret;exact⟨by first|rfl|(simp;done)|(simp [*];done),by repeat (first|exact Drawn0.refl _|apply Drawn0.step)⟩
mutual
def spoorref11_GetPrefix.j0 : Nat → ByteArray → Bool → Option (Bool × Int × Int × Int × ByteArray × Int)
 | 0, _, _ => none
 | k + 1, x0, x20 => if x20 = true then (some (false, 0, 0, 0, (⟨#[]⟩ : ByteArray), 7)) else (if 0 < (x0.size : Int) then (if 1 < (x0.size : Int) then ((spoorref09_Wide.f ((bt x0 0) == 6)).bind fun aa => (if (wrap64 (bt x0 1)) > aa then (spoorref11_GetPrefix.j1 k x0 (wrap64 (Int.tdiv (wrap64 ((wrap64 (bt x0 1)) + 7)) 8)) true ((bt x0 0) == 6) 0 0 (wrap64 (bt x0 1))) else (spoorref11_GetPrefix.j1 k x0 (wrap64 (Int.tdiv (wrap64 ((wrap64 (bt x0 1)) + 7)) 8)) (decide ((x0.size : Int) < (wrap64 (2 + (wrap64 (Int.tdiv (wrap64 ((wrap64 (bt x0 1)) + 7)) 8)))))) ((bt x0 0) == 6) 0 0 (wrap64 (bt x0 1))))) else (none)) else (none))
def spoorref11_GetPrefix.j1 : Nat → ByteArray → Int → Bool → Bool → Int → Int → Int → Option (Bool × Int × Int × Int × ByteArray × Int)
 | 0, _, _, _, _, _, _, _ => none
 | k + 1, x0, x6, x45, x398000, x398001, x398002, x398003 => if x45 = true then (some (false, 0, 0, 0, (⟨#[]⟩ : ByteArray), 7)) else (if 2 ≤ (wrap64 (2 + x6)) then (if (wrap64 (2 + x6)) ≤ (x0.size : Int) then ((spoorref09_Wide.f x398000).bind fun aa => ((spoorref05_Zeros.f (wrap64 ((wrap64 (Int.tdiv aa 8)) - x6))).bind fun A => (if (x0.extract 2 ((wrap64 (2 + x6)) : Int).toNat).size + A.size ≤ 9223372036854775807 then (if x398000 = true then (if 8 ≤ (((x0.extract 2 ((wrap64 (2 + x6)) : Int).toNat) ++ A).size : Int) then ((spoorref05_Number.f k (((x0.extract 2 ((wrap64 (2 + x6)) : Int).toNat) ++ A).extract 0 8)).bind fun B => ((spoorref05_Number.f k (((x0.extract 2 ((wrap64 (2 + x6)) : Int).toNat) ++ A).extract 8 ((x0.extract 2 ((wrap64 (2 + x6)) : Int).toNat) ++ A).size)).bind fun C => ((spoorref09_Check.f k x398000 B C x398003).bind fun ab => (if ab = 0 then (if 0 ≤ (wrap64 (2 + x6)) then (some (x398000, B, C, x398003, x0.extract ((wrap64 (2 + x6)) : Int).toNat x0.size, 0)) else (none)) else (some (false, 0, 0, 0, (⟨#[]⟩ : ByteArray), 7)))))) else (none)) else ((spoorref05_Number.f k ((x0.extract 2 ((wrap64 (2 + x6)) : Int).toNat) ++ A)).bind fun D => ((spoorref09_Check.f k x398000 x398001 D x398003).bind fun ac => (if ac = 0 then (if 0 ≤ (wrap64 (2 + x6)) then (some (x398000, x398001, D, x398003, x0.extract ((wrap64 (2 + x6)) : Int).toNat x0.size, 0)) else (none)) else (some (false, 0, 0, 0, (⟨#[]⟩ : ByteArray), 7)))))) else (none)))) else (none)) else (none))
end
def spoorref11_GetPrefix.f (k:Nat) (a0:ByteArray):Option (Bool × Int × Int × Int × ByteArray × Int):=if (a0.size:Int)<2 then (spoorref11_GetPrefix.j0 k a0 true) else (if 0<(a0.size:Int) then (if (bt a0 0)=4 then (spoorref11_GetPrefix.j0 k a0 false) else (spoorref11_GetPrefix.j0 k a0 ((bt a0 0) !=6))) else (none))
def spoorref11_GetPrefix.T3:Bool × List (List Nat × List Nat):=(true, [([], []),([0], [0]),([1], [1]),([], []),([3], [3]),([4], [4]),([2,5], [2,5]),([], []),([7,6,0,1,2,3,4,5,6,7], [6,7])])
def spoorref11_GetPrefix.B3:List Nat:= [0,1,3,0,8,24,63,0,255]
theorem spoorref11_GetPrefix.tab3:rtab .any (opsOf Try.f41 3)=spoorref11_GetPrefix.T3:=by kernel_rfl
theorem spoorref11_GetPrefix.bits3:waitsOk spoorref11_GetPrefix.T3.2 spoorref11_GetPrefix.B3=true:=by kernel_rfl
def spoorref11_GetPrefix.T5:Bool × List (List Nat × List Nat):=(true, [([], []),([0], [0]),([], []),([2], [2]),([3], [3]),([1,4], [1,4]),([5,4], [5]),([6], [6]),([7,6], [6,7]),([6], [6]),([9,6], [6,9]),([8,10,6], [6,8,10]),([6,11], [6,11])])
def spoorref11_GetPrefix.B5:List Nat:= [0,1,0,4,12,31,63,127,255,127,639,2047,4095]
theorem spoorref11_GetPrefix.tab5:rtab .any (opsOf Try.f41 5)=spoorref11_GetPrefix.T5:=by kernel_rfl
theorem spoorref11_GetPrefix.bits5:waitsOk spoorref11_GetPrefix.T5.2 spoorref11_GetPrefix.B5=true:=by kernel_rfl
def spoorref11_GetPrefix.T7:Bool × List (List Nat × List Nat):=(true, [([], []),([], []),([1], [1]),([0,2], [0,2]),([], []),([4], [4]),([5], [5]),([6], [6]),([], []),([7,8], [7,8]),([9,6], [9]),([3,10], [3,10]),([11,10,0,1,2,3,4,5,6,7,8,9,10,11], [11])])
def spoorref11_GetPrefix.B7:List Nat:= [0,0,2,7,0,16,48,112,0,496,1008,2047,4095]
theorem spoorref11_GetPrefix.tab7:rtab .any (opsOf Try.f41 7)=spoorref11_GetPrefix.T7:=by kernel_rfl
theorem spoorref11_GetPrefix.bits7:waitsOk spoorref11_GetPrefix.T7.2 spoorref11_GetPrefix.B7=true:=by kernel_rfl
def spoorref11_GetPrefix.T9:Bool × List (List Nat × List Nat):=(true, [([], []),([0], [0]),([1], [1]),([], []),([3], [3]),([4,2], [4]),([0,1,2], []),([6,0,1,2], [6]),([7,2,5,0,1,2], [2,7]),([0,1,2,3,4,5,6,7,8], []),([9,0,1,2,3,4,5,6,7,8], [9]),([10,5,8,0,1,2,3,4,5,6,7,8], [5,10])])
def spoorref11_GetPrefix.B9:List Nat:= [0,1,3,0,8,31,7,71,255,511,1023,2047]
theorem spoorref11_GetPrefix.tab9:rtab .any (opsOf Try.f41 9)=spoorref11_GetPrefix.T9:=by kernel_rfl
theorem spoorref11_GetPrefix.bits9:waitsOk spoorref11_GetPrefix.T9.2 spoorref11_GetPrefix.B9=true:=by kernel_rfl
def spoorref11_GetPrefix.T13:Bool × List (List Nat × List Nat):=(true, [([], []),([], []),([], []),([2], [2]),([1,3], [1,3]),([0,0], [0]),([4,5,0,1,2,3,4,5], [4]),([6,0,1,2,3,4,5,6], [])])
def spoorref11_GetPrefix.B13:List Nat:= [0,0,0,4,14,1,63,127]
theorem spoorref11_GetPrefix.tab13:rtab .any (opsOf Try.f41 13)=spoorref11_GetPrefix.T13:=by kernel_rfl
theorem spoorref11_GetPrefix.bits13:waitsOk spoorref11_GetPrefix.T13.2 spoorref11_GetPrefix.B13=true:=by kernel_rfl
end Go.Proofs.Ythkdfojmhloofaa.Q
end
section
namespace Go.Proofs.Ythkdfojmhloofaa.Q
open Go.RowKit Go.Proofs.YthkdfojmhloofaaW.PrintWords Go.Proofs.YthkdfojmhloofaaW.PrintLast Go.Proofs.YthkdfojmhloofaaW.PrintMore
attribute [local go_sem] max2_int min2_int max_two min_two max_three min_three max_four min_four   -- for this text's walks alone
set_option linter.unusedVariables false
set_option linter.unusedSimpArgs false
def spoorref11_GetAction.j0 : Nat → Int → ByteArray → Bool → Int → Int → Option (Int × Int × ByteArray × Int)
 | 0, _, _, _, _, _ => none
 | k + 1, x7, x8, x32, x408000, x408001 => if x32 = true then (some (0, 0, (⟨#[]⟩ : ByteArray), 7)) else ((spoorref11_Acts.f x408000 (wrap64 (x7))).bind fun aa => (if aa = true then (some (x408000, wrap64 (x7), x8, 0)) else (some (0, 0, (⟨#[]⟩ : ByteArray), 7))))
def spoorref11_GetAction.f (k:Nat) (a0:ByteArray):Option (Int × Int × ByteArray × Int):=if a0.toList=([]:List UInt8) then (some (0,0,(⟨#[]⟩:ByteArray),7)) else (if 0<(a0.size:Int) then (if 1≤(a0.size:Int) then (if (bt a0 0)=1 then ((spoorref01_Get.f k (a0.extract 1 a0.size)).bind fun A=>(if A.2.2=0 then (spoorref11_GetAction.j0 k A.1 A.2.1 (decide (A.1 > 65536)) (bt a0 0) 0) else (spoorref11_GetAction.j0 k A.1 A.2.1 true (bt a0 0) 0))) else ((spoorref11_Acts.f (bt a0 0) 0).bind fun aa=>(if aa=true then (some (bt a0 0,0,a0.extract 1 a0.size,0)) else (some (0,0,(⟨#[]⟩:ByteArray),7))))) else (none)) else (none))
set_option maxHeartbeats 8000000 in
set_option maxRecDepth 100000 in
theorem spoorref11_GetAction.calls (k:Nat) (a0:ByteArray) (r1:Int) (r2:Int) (r3:ByteArray) (r4:Int) (w:World) (h:spoorref11_GetAction.f k a0=some (r1,r2,r3,r4)):
  Calls Try.prog 42 #[.string a0] w fun e w'=>e= .returned (.tuple #[.agg #[.int .u8 r1,.int .i64 r2],.string r3,.int .i64 r4])∧Below w.heap.size w w':=by
 have aU:=Try.underlying33;have HB:=Ax (Below.refl w.heap.size w);have H:(if a0.toList=([]:List UInt8) then (some (0,0,(⟨#[]⟩:ByteArray),7)) else (if 0<(a0.size:Int) then (if 1≤(a0.size:Int) then (if (bt a0 0)=1 then ((spoorref01_Get.f k (a0.extract 1 a0.size)).bind fun R=>(if R.2.2=0 then (spoorref11_GetAction.j0 k R.1 R.2.1 (decide (R.1 > 65536)) (bt a0 0) 0) else (spoorref11_GetAction.j0 k R.1 R.2.1 true (bt a0 0) 0))) else ((spoorref11_Acts.f (bt a0 0) 0).bind fun ae=>(if ae=true then (some (bt a0 0,0,a0.extract 1 a0.size,0)) else (some (0,0,(⟨#[]⟩:ByteArray),7))))) else (none)) else (none)))=some (r1,r2,r3,r4):=h;clear h;by_cases c2:a0.toList=([]:List UInt8);·rw [if_pos c2]at H;have am:(a0.toList==([]:List UInt8))=true:=beq_iff_eq.mpr c2;have ap:(a0.toList !=([]:List UInt8))=false:=bne_eq_false_iff_eq.mpr c2;clear c2;simp only[Option.some.injEq,Prod.mk.injEq]at H;obtain⟨rfl,rfl,rfl,rfl⟩:=H;go_enter Try.func42,Try.ntmps42;go_wp2_with (first|((with_reducible refine gate_dst (N:=2) rfl ?_);refine bX (N:=2) (cs:= #[.int .u8 0,.int .i64 0]) (t:=33) ?_;intro I hg w3 C hb;have A:=Ax (C);have af:=Gw0 HB hg;have B:=Gw0 HB hg;replace HB:=Bs0 HB hb;clear hb C hg;obtain⟨aC,aD,aE,aG⟩:=cl2 A));refine bodyPost_ret (results_ctt rfl _ _ I 33 #[.int .u8 0,.int .i64 0] (0,0) _ rfl (gB A.out) Try.underlying33 rfl (by kernel_rfl)) rfl ?_;exact⟨eS,bw1 HB.out B.out⟩
 ·rw [if_neg c2]at H;have am:(a0.toList==([]:List UInt8))=false:=beq_eq_false_iff_ne.mpr c2;have ap:(a0.toList !=([]:List UInt8))=true:=bne_iff_ne.mpr c2;by_cases c5:0<(a0.size:Int)
  ·rw [if_pos c5]at H;have aH:decide (0<(a0.size:Int))=true:=dT c5;have aI:decide (0<a0.size)=true:=dT (by omega);clear c5;by_cases c7:1≤(a0.size:Int)
   ·rw [if_pos c7]at H;have aJ:=eq_true c7;have aK:decide (1≤(a0.size:Int))=true:=dT c7;clear c7;by_cases c8:(bt a0 0)=1
    ·rw [if_pos c8]at H;have aq:((bt a0 0)==1)=true:=beq_iff_eq.mpr c8;have ar:((bt a0 0) !=1)=false:=bne_eq_false_iff_eq.mpr c8;clear c8;replace H:=bI H;obtain⟨⟨F,V,T⟩,au,H⟩:=H;dsimp only at H;have A9:=Ax au;clear au;have ag:=Ax H;clear H;go_enter Try.func42,Try.ntmps42;go_upto_region 7 with (first|((with_reducible refine gate_dst (N:=2) rfl ?_);refine bX (N:=2) (cs:= #[.int .u8 0,.int .i64 0]) (t:=33) ?_;intro I hg aV C hb;have A:=Ax (C);have af:=Gw0 HB hg;have B:=Gw0 HB hg;replace HB:=Bs0 HB hb;clear hb C hg;have p6:0≤(0:Int):=(by omega);have q6:0<a0.size:=(by have:(0:Int)<(a0.size:Int):=of_decide_eq_true (by first|(with_reducible assumption)|assumption);first|omega|(simp only[ByteArray.size_append];omega));have ah: ∀ h:0<a0.size,((a0[0]'h).toNat:Int)=bt a0 0:=bt_at a0 0;clear p6;have aj:(0<(a0.size:Int))=True:=eq_true (of_decide_eq_true (by first|(with_reducible assumption)|assumption));replace q6:=eq_true q6)|((with_reducible refine gate_dst (N:=5) rfl ?_);refine bX (N:=5) (cs:= #[.int .u8 0,.int .i64 0]) (t:=33) ?_;intro O hg aW C hb;have D:=Ax (C);have av:=Gw1 HB hg B.out;have G:=Gw1 HB hg B.out;replace HB:=Bs1 HB hb B.out;have E:=Nl0 A hg;have L:=Nr0 A hg;replace A:=Bx0 A hb;clear hb C hg;have aY:=L.out;have aZ:=E.out;obtain⟨aM,aN,aQ,aR⟩:=cl2 D)|((with_reducible refine gate_callee (f:=63) rfl ?_);refine goesL_ (some 23) rfl rfl Try.func63 (by kernel_rfl) rfl #[.string (a0.extract 1 a0.size)] rfl gS ?_;(with_reducible refine (spoorref01_Get.calls k (a0.extract 1 a0.size) F V T _ A9.out).mono ?_);rintro e w' ⟨rfl,⟨nd,rfl⟩⟩;refine⟨_,rfl,?_⟩))
     (try simp only[Act.put,List.setIfInBounds_toArray,List.set_cons_zero,List.set_cons_succ])
     go_cut [32] (fun aT wc=> ∃ (kq:Nat) (X:Bool),aT= .bool X∧Aside0 (spoorref11_GetAction.j0 kq F V X (bt a0 0) 0=some (r1,r2,r3,r4))∧Aside0 (kq≤k)∧Aside0 (wc.heap[I]? =some (.cells #[.int .u8 0,.int .i64 0] 33 (0,0)))∧Aside0 (wc.heap[O]? =some (.cells #[.int .u8 (bt a0 0),.int .i64 0] 33 (0,0)))∧Aside0 (Below w.heap.size w wc))
     case first=>
      have H:=ag.out;clear ag;by_cases M:T=0
      ·rw [if_pos M]at H;have U:(T==0)=true:=beq_iff_eq.mpr M;have aw:(T !=0)=false:=bne_eq_false_iff_eq.mpr M;clear M
       (first|rw [U]|(simp only[i64_w,i32_w];rw [U])|skip)
       have H':=Ax H;clear H;go_wp2;go_meet
       case rel=>exact⟨_,(decide (F > 65536)),rS,H',⟨by first|omega|exact Nat.le_refl _⟩,⟨bf2 A.out E.out E.out⟩,⟨gB D.out⟩,⟨bw2 HB.out B.out G.out⟩⟩
      ·rw [if_neg M]at H;have U:(T==0)=false:=beq_eq_false_iff_ne.mpr M;have aw:(T !=0)=true:=bne_iff_ne.mpr M
       (first|rw [U]|(simp only[i64_w,i32_w];rw [U])|skip)
       have H':=Ax H;clear H;go_wp2;go_meet
       case rel=>exact⟨_,(true),rS,H',⟨by first|omega|exact Nat.le_refl _⟩,⟨bf2 A.out E.out E.out⟩,⟨gB D.out⟩,⟨bw2 HB.out B.out G.out⟩⟩
     case rest=>
      clear ag;(try clear c1);(try clear c2);(try clear am);(try clear ap);(try clear p2);(try clear c4);(try clear c5);(try clear aH);(try clear aI);(try clear c6);(try clear p6 p6);(try clear q6 q6);(try clear ah);(try clear aj);(try clear c7);(try clear aJ);(try clear aK);(try clear c8);(try clear aq);(try clear ar);(try clear c13);(try clear M);(try clear U);(try clear aw);(try clear aM aN);(try clear aC aD);(try clear aQ aR);(try clear aE aG);obtain⟨kq,X,rfl,HA,b2,A,D,HB⟩:=hcut;cases kq with
      |zero=>exact absurd HA.out (by simp [spoorref11_GetAction.j0])
      |succ kj9=>
       have H:=HA.out;clear HA;simp only[spoorref11_GetAction.j0]at H;by_cases aa:X=true
       ·subst aa;have H1:(some (0,0,(⟨#[]⟩:ByteArray),7))=some (r1,r2,r3,r4):=by rw [if_pos rfl]at H;exact H
        clear H;have H:=H1;clear H1;simp only[Option.some.injEq,Prod.mk.injEq]at H;obtain⟨rfl,rfl,rfl,rfl⟩:=H;have b3:=E.out;have b4:=L.out;obtain⟨b5,b6,b7,b8⟩:=cl2 A;go_wp2;refine bodyPost_ret (results_ctt rfl _ _ I 33 #[.int .u8 0,.int .i64 0] (0,0) _ rfl (gB A.out) Try.underlying33 rfl (by kernel_rfl)) rfl ?_;exact⟨eS,bw2 HB.out B.out G.out⟩
       ·replace aa:=Bool.eq_false_iff.mpr aa;subst aa;have H1:((spoorref11_Acts.f (bt a0 0) (wrap64 (F))).bind fun al=>(if al=true then (some ((bt a0 0),wrap64 (F),V,0)) else (some (0,0,(⟨#[]⟩:ByteArray),7))))=some (r1,r2,r3,r4):=by rw [if_neg (show ¬ (false=true) by decide)]at H;exact H
        clear H;have H:=H1;clear H1;replace H:=bI H;obtain⟨al,ax,H⟩:=H;(try dsimp only at H);have ay:=Ax ax;clear ax;by_cases ab:al=true
        ·subst ab;have H1:(some ((bt a0 0),wrap64 (F),V,0))=some (r1,r2,r3,r4):=by rw [if_pos rfl]at H;exact H
         clear H;have H:=H1;clear H1;simp only[Option.some.injEq,Prod.mk.injEq]at H;obtain⟨rfl,rfl,rfl,rfl⟩:=H;have b9:=L.out;have ba:=E.out;obtain⟨bb,bc,bd,bf⟩:=cl2 D;go_wp2_with (first|((with_reducible refine gate_callee (f:=68) rfl ?_);refine goesL_ (some 39) rfl rfl Try.func68 (by kernel_rfl) rfl #[.agg #[.int .u8 (bt a0 0),.int .i64 (wrap64 (F))]] rfl gS ?_;(with_reducible refine (spoorref11_Acts.calls (bt a0 0) (wrap64 (F)) true _ ay.out).mono ?_);rintro e bg ⟨rfl,hb⟩;refine⟨_,rfl,?_⟩;replace A:=Bx1 A hb E.out;replace D:=Ax (blk_below (g:=O) (o:=.cells #[.int .u8 (bt a0 0),.int .i64 (wrap64 (F))] 33 (0,0)) (gB D.out) hb);replace HB:=Bs2 HB hb B.out G.out;(try clear hb);obtain⟨bh,bi,bj,bk⟩:=cl2 D;obtain⟨bl,bm,bn,bo⟩:=cl2 A));refine bodyPost_ret (results_ctt rfl _ _ I 33 #[.int .u8 (bt a0 0),.int .i64 (wrap64 (F))] (0,0) _ rfl (gB A.out) Try.underlying33 rfl (by kernel_rfl)) rfl ?_;exact⟨eS,bw2 HB.out B.out G.out⟩
        ·replace ab:=Bool.eq_false_iff.mpr ab;subst ab;have H1:(some (0,0,(⟨#[]⟩:ByteArray),7))=some (r1,r2,r3,r4):=by rw [if_neg (show ¬ (false=true) by decide)]at H;exact H
         clear H;have H:=H1;clear H1;simp only[Option.some.injEq,Prod.mk.injEq]at H;obtain⟨rfl,rfl,rfl,rfl⟩:=H;have bq:=L.out;have br:=E.out;obtain⟨bu,bv,bx,bz⟩:=cl2 D;go_wp2_with (first|((with_reducible refine gate_callee (f:=68) rfl ?_);refine goesL_ (some 39) rfl rfl Try.func68 (by kernel_rfl) rfl #[.agg #[.int .u8 (bt a0 0),.int .i64 (wrap64 (F))]] rfl gS ?_;(with_reducible refine (spoorref11_Acts.calls (bt a0 0) (wrap64 (F)) false _ ay.out).mono ?_);rintro e bA ⟨rfl,hb⟩;refine⟨_,rfl,?_⟩;replace A:=Bx1 A hb E.out;replace D:=Ax (blk_below (g:=O) (o:=.cells #[.int .u8 (bt a0 0),.int .i64 (wrap64 (F))] 33 (0,0)) (gB D.out) hb);replace HB:=Bs2 HB hb B.out G.out;(try clear hb);obtain⟨bB,bC,bD,bE⟩:=cl2 A));refine bodyPost_ret (results_ctt rfl _ _ I 33 #[.int .u8 0,.int .i64 0] (0,0) _ rfl (gB A.out) Try.underlying33 rfl (by kernel_rfl)) rfl ?_;exact⟨eS,bw2 HB.out B.out G.out⟩
    ·rw [if_neg c8]at H;have aq:((bt a0 0)==1)=false:=beq_eq_false_iff_ne.mpr c8;have ar:((bt a0 0) !=1)=true:=bne_iff_ne.mpr c8;replace H:=bI H;obtain⟨ae,az,H⟩:=H;(try dsimp only at H);have aA:=Ax az;clear az;by_cases ac:ae=true
     ·subst ac;have H1:(some (bt a0 0,0,a0.extract 1 a0.size,0))=some (r1,r2,r3,r4):=by rw [if_pos rfl]at H;exact H
      clear H;have H:=H1;clear H1;simp only[Option.some.injEq,Prod.mk.injEq]at H;obtain⟨rfl,rfl,rfl,rfl⟩:=H;go_enter Try.func42,Try.ntmps42;go_wp2_with (first|((with_reducible refine gate_dst (N:=2) rfl ?_);refine bX (N:=2) (cs:= #[.int .u8 0,.int .i64 0]) (t:=33) ?_;intro I hg bF C hb;have A:=Ax (C);have af:=Gw0 HB hg;have B:=Gw0 HB hg;replace HB:=Bs0 HB hb;clear hb C hg;have p6:0≤(0:Int):=(by omega);have q6:0<a0.size:=(by have:(0:Int)<(a0.size:Int):=of_decide_eq_true (by first|(with_reducible assumption)|assumption);first|omega|(simp only[ByteArray.size_append];omega));have ah: ∀ h:0<a0.size,((a0[0]'h).toNat:Int)=bt a0 0:=bt_at a0 0;clear p6;have aj:(0<(a0.size:Int))=True:=eq_true (of_decide_eq_true (by first|(with_reducible assumption)|assumption));replace q6:=eq_true q6)|((with_reducible refine gate_dst (N:=5) rfl ?_);refine bX (N:=5) (cs:= #[.int .u8 0,.int .i64 0]) (t:=33) ?_;intro O hg bG C hb;have D:=Ax (C);have av:=Gw1 HB hg B.out;have G:=Gw1 HB hg B.out;replace HB:=Bs1 HB hb B.out;have E:=Nl0 A hg;have L:=Nr0 A hg;replace A:=Bx0 A hb;clear hb C hg;have bH:=L.out;have bJ:=E.out;obtain⟨bK,bL,bM,bN⟩:=cl2 D)|((with_reducible refine gate_callee (f:=68) rfl ?_);refine goesL_ (some 39) rfl rfl Try.func68 (by kernel_rfl) rfl #[.agg #[.int .u8 (bt a0 0),.int .i64 0]] rfl gS ?_;(with_reducible refine (spoorref11_Acts.calls (bt a0 0) 0 true _ aA.out).mono ?_);rintro e bO ⟨rfl,hb⟩;refine⟨_,rfl,?_⟩;replace A:=Bx2 A hb E.out E.out;replace D:=Ax (blk_below (g:=O) (o:=.cells #[.int .u8 (bt a0 0),.int .i64 0] 33 (0,0)) (gB D.out) hb);replace HB:=Bs2 HB hb B.out G.out;(try clear hb);obtain⟨bP,bQ,bR,bS⟩:=cl2 D;obtain⟨bT,bU,bV,bW⟩:=cl2 A));refine bodyPost_ret (results_ctt rfl _ _ I 33 #[.int .u8 (bt a0 0),.int .i64 0] (0,0) _ rfl (gB A.out) Try.underlying33 rfl (by kernel_rfl)) rfl ?_;exact⟨eS,bw2 HB.out B.out G.out⟩
     ·replace ac:=Bool.eq_false_iff.mpr ac;subst ac;have H1:(some (0,0,(⟨#[]⟩:ByteArray),7))=some (r1,r2,r3,r4):=by rw [if_neg (show ¬ (false=true) by decide)]at H;exact H
      clear H;have H:=H1;clear H1;simp only[Option.some.injEq,Prod.mk.injEq]at H;obtain⟨rfl,rfl,rfl,rfl⟩:=H;go_enter Try.func42,Try.ntmps42;go_wp2_with (first|((with_reducible refine gate_dst (N:=2) rfl ?_);refine bX (N:=2) (cs:= #[.int .u8 0,.int .i64 0]) (t:=33) ?_;intro I hg bY C hb;have A:=Ax (C);have af:=Gw0 HB hg;have B:=Gw0 HB hg;replace HB:=Bs0 HB hb;clear hb C hg;have p6:0≤(0:Int):=(by omega);have q6:0<a0.size:=(by have:(0:Int)<(a0.size:Int):=of_decide_eq_true (by first|(with_reducible assumption)|assumption);first|omega|(simp only[ByteArray.size_append];omega));have ah: ∀ h:0<a0.size,((a0[0]'h).toNat:Int)=bt a0 0:=bt_at a0 0;clear p6;have aj:(0<(a0.size:Int))=True:=eq_true (of_decide_eq_true (by first|(with_reducible assumption)|assumption));replace q6:=eq_true q6)|((with_reducible refine gate_dst (N:=5) rfl ?_);refine bX (N:=5) (cs:= #[.int .u8 0,.int .i64 0]) (t:=33) ?_;intro O hg bZ C hb;have D:=Ax (C);have av:=Gw1 HB hg B.out;have G:=Gw1 HB hg B.out;replace HB:=Bs1 HB hb B.out;have E:=Nl0 A hg;have L:=Nr0 A hg;replace A:=Bx0 A hb;clear hb C hg;have cd:=L.out;have ce:=E.out;obtain⟨cf,cg,ch,ci⟩:=cl2 D)|((with_reducible refine gate_callee (f:=68) rfl ?_);refine goesL_ (some 39) rfl rfl Try.func68 (by kernel_rfl) rfl #[.agg #[.int .u8 (bt a0 0),.int .i64 0]] rfl gS ?_;(with_reducible refine (spoorref11_Acts.calls (bt a0 0) 0 false _ aA.out).mono ?_);rintro e cj ⟨rfl,hb⟩;refine⟨_,rfl,?_⟩;replace A:=Bx2 A hb E.out E.out;replace D:=Ax (blk_below (g:=O) (o:=.cells #[.int .u8 (bt a0 0),.int .i64 0] 33 (0,0)) (gB D.out) hb);replace HB:=Bs2 HB hb B.out G.out;(try clear hb);obtain⟨ck,cl,cm,cn⟩:=cl2 A));refine bodyPost_ret (results_ctt rfl _ _ I 33 #[.int .u8 0,.int .i64 0] (0,0) _ rfl (gB A.out) Try.underlying33 rfl (by kernel_rfl)) rfl ?_;exact⟨eS,bw2 HB.out B.out G.out⟩
   ·rw [if_neg c7]at H;exact absurd H (by simp)
  ·rw [if_neg c5]at H;exact absurd H (by simp)
mutual
def spoorref11_Get.j0 : Nat → ByteArray → Bool → ByteArray → Bool → Int → Int → Int → Int → Bool → Int → Int → Int → Int → Int → Int → Int → Option (Int × Int × Int × Int × Bool × Int × Int × Int × Int × Int × Int × Int × Int)
 | 0, _, _, _, _, _, _, _, _, _, _, _, _, _, _, _, _ => none
 | k + 1, x0, x42, x415000, x415001, x416000, x416001, x416002, x416003, x416004, x416005, x416006, x416007, x416008, x416009, x416010, x416011 => if x42 = true then ((spoorref11_GetPrefix.f k x415000).bind fun A => (if x415001 = true then (spoorref11_Get.j1 k x0 A.2.2.2.2.1 (A.2.2.2.2.2 == 0) x416000 x416001 x416002 x416003 A.1 A.2.1 A.2.2.1 A.2.2.2.1 x416008 x416009 x416010 x416011) else (spoorref11_Get.j1 k x0 A.2.2.2.2.1 false x416000 x416001 x416002 x416003 A.1 A.2.1 A.2.2.1 A.2.2.2.1 x416008 x416009 x416010 x416011))) else (spoorref11_Get.j1 k x0 x415000 x415001 x416000 x416001 x416002 x416003 x416004 x416005 x416006 x416007 x416008 x416009 x416010 x416011)
def spoorref11_Get.j1 : Nat → ByteArray → ByteArray → Bool → Int → Int → Int → Int → Bool → Int → Int → Int → Int → Int → Int → Int → Option (Int × Int × Int × Int × Bool × Int × Int × Int × Int × Int × Int × Int × Int)
 | 0, _, _, _, _, _, _, _, _, _, _, _, _, _, _, _ => none
 | k + 1, x0, x415000, x415001, x416000, x416001, x416002, x416003, x416004, x416005, x416006, x416007, x416008, x416009, x416010, x416011 => if x416000 = 3 then ((spoorref11_GetAction.f k x415000).bind fun A => (if x415001 = true then (spoorref11_Get.j2 k x0 A.2.2.1 (A.2.2.2 == 0) x416000 x416001 x416002 x416003 x416004 x416005 x416006 x416007 A.1 A.2.1 x416010 x416011) else (spoorref11_Get.j2 k x0 A.2.2.1 false x416000 x416001 x416002 x416003 x416004 x416005 x416006 x416007 A.1 A.2.1 x416010 x416011))) else (spoorref11_Get.j2 k x0 x415000 x415001 x416000 x416001 x416002 x416003 x416004 x416005 x416006 x416007 x416008 x416009 x416010 x416011)
def spoorref11_Get.j2 : Nat → ByteArray → ByteArray → Bool → Int → Int → Int → Int → Bool → Int → Int → Int → Int → Int → Int → Int → Option (Int × Int × Int × Int × Bool × Int × Int × Int × Int × Int × Int × Int × Int)
 | 0, _, _, _, _, _, _, _, _, _, _, _, _, _, _, _ => none
 | k + 1, x0, x415000, x415001, x416000, x416001, x416002, x416003, x416004, x416005, x416006, x416007, x416008, x416009, x416010, x416011 => if x416000 = 5 then (spoorref11_Get.j3 k x0 true x415000 x415001 x416000 x416001 x416002 x416003 x416004 x416005 x416006 x416007 x416008 x416009 x416010 x416011) else (spoorref11_Get.j3 k x0 (x416000 == 6) x415000 x415001 x416000 x416001 x416002 x416003 x416004 x416005 x416006 x416007 x416008 x416009 x416010 x416011)
def spoorref11_Get.j3 : Nat → ByteArray → Bool → ByteArray → Bool → Int → Int → Int → Int → Bool → Int → Int → Int → Int → Int → Int → Int → Option (Int × Int × Int × Int × Bool × Int × Int × Int × Int × Int × Int × Int × Int)
 | 0, _, _, _, _, _, _, _, _, _, _, _, _, _, _, _, _ => none
 | k + 1, x0, x105, x415000, x415001, x416000, x416001, x416002, x416003, x416004, x416005, x416006, x416007, x416008, x416009, x416010, x416011 => if x105 = true then ((spoorref11_reader_num.f k x415000 x415001 65536).bind fun A => (spoorref11_Get.j4 k x0 A.2.1 A.2.2 x416000 x416001 x416002 x416003 x416004 x416005 x416006 x416007 x416008 x416009 (wrap64 (A.1)) x416011)) else (spoorref11_Get.j4 k x0 x415000 x415001 x416000 x416001 x416002 x416003 x416004 x416005 x416006 x416007 x416008 x416009 x416010 x416011)
def spoorref11_Get.j4 : Nat → ByteArray → ByteArray → Bool → Int → Int → Int → Int → Bool → Int → Int → Int → Int → Int → Int → Int → Option (Int × Int × Int × Int × Bool × Int × Int × Int × Int × Int × Int × Int × Int)
 | 0, _, _, _, _, _, _, _, _, _, _, _, _, _, _, _ => none
 | k + 1, x0, x415000, x415001, x416000, x416001, x416002, x416003, x416004, x416005, x416006, x416007, x416008, x416009, x416010, x416011 => if x416000 = 5 then ((spoorref11_reader_num.f k x415000 x415001 1048576).bind fun A => (spoorref11_Get.j5 k x0 A.2.1 A.2.2 x416000 x416001 x416002 x416003 x416004 x416005 x416006 x416007 x416008 x416009 x416010 (wrap64 (A.1)))) else (spoorref11_Get.j5 k x0 x415000 x415001 x416000 x416001 x416002 x416003 x416004 x416005 x416006 x416007 x416008 x416009 x416010 x416011)
def spoorref11_Get.j5 : Nat → ByteArray → ByteArray → Bool → Int → Int → Int → Int → Bool → Int → Int → Int → Int → Int → Int → Int → Option (Int × Int × Int × Int × Bool × Int × Int × Int × Int × Int × Int × Int × Int)
 | 0, _, _, _, _, _, _, _, _, _, _, _, _, _, _, _ => none
 | k + 1, x0, x415000, x415001, x416000, x416001, x416002, x416003, x416004, x416005, x416006, x416007, x416008, x416009, x416010, x416011 => (spoorref11_Put.f k x416000 x416001 x416002 x416003 x416004 x416005 x416006 x416007 x416008 x416009 x416010 x416011).bind fun A => (if x415001 = true then (if A.2 = 0 then (spoorref11_Get.j6 k (A.1.toList != x0.toList) x416000 x416001 x416002 x416003 x416004 x416005 x416006 x416007 x416008 x416009 x416010 x416011) else (spoorref11_Get.j6 k true x416000 x416001 x416002 x416003 x416004 x416005 x416006 x416007 x416008 x416009 x416010 x416011)) else (spoorref11_Get.j6 k true x416000 x416001 x416002 x416003 x416004 x416005 x416006 x416007 x416008 x416009 x416010 x416011))
def spoorref11_Get.j6 : Nat → Bool → Int → Int → Int → Int → Bool → Int → Int → Int → Int → Int → Int → Int → Option (Int × Int × Int × Int × Bool × Int × Int × Int × Int × Int × Int × Int × Int)
 | 0, _, _, _, _, _, _, _, _, _, _, _, _, _ => none
 | k + 1, x135, x416000, x416001, x416002, x416003, x416004, x416005, x416006, x416007, x416008, x416009, x416010, x416011 => if x135 = true then (some (0, 0, 0, 0, false, 0, 0, 0, 0, 0, 0, 0, 7)) else (some (x416000, x416001, x416002, x416003, x416004, x416005, x416006, x416007, x416008, x416009, x416010, x416011, 0))
end
def spoorref11_Get.f (k:Nat) (a0:ByteArray):Option (Int × Int × Int × Int × Bool × Int × Int × Int × Int × Int × Int × Int × Int):=if a0.toList=([]:List UInt8) then (some (0,0,0,0,false,0,0,0,0,0,0,0,7)) else (if 1≤(a0.size:Int) then (if 0<(a0.size:Int) then ((spoorref11_reader_num.f k (a0.extract 1 a0.size) true 1048576).bind fun B=>((spoorref11_reader_num.f k B.2.1 B.2.2 1099511627776).bind fun C=>((spoorref11_reader_num.f k C.2.1 C.2.2 1099511627776).bind fun A=>(if (bt a0 0)=3 then (spoorref11_Get.j0 k a0 true A.2.1 A.2.2 (bt a0 0) (wrap64 (B.1)) C.1 (wrap64 (A.1)) false 0 0 0 0 0 0 0) else (spoorref11_Get.j0 k a0 ((bt a0 0)==4) A.2.1 A.2.2 (bt a0 0) (wrap64 (B.1)) C.1 (wrap64 (A.1)) false 0 0 0 0 0 0 0))))) else (none)) else (none))
def spoorref11_Get.T10:Bool × List (List Nat × List Nat):=(true, [([], []),([], []),([], []),([], []),([], []),([4], [4]),([5], [5]),([6], [6]),([7], [7]),([8], [8]),([9,8], [8,9]),([8,10], [8,10]),([2,7], []),([12,2,8,2,7], [2,12]),([0,0,2,3,7,12,13], [0]),([14,0,2,3,7,12,13], [14]),([15,3,13,0,2,3,7,12,13], [3,15]),([1,0,1,2,3,4,5,6,7,8,9,10,11,12,13,14,15,16], [1]),([17,0,1,2,3,4,5,6,7,8,9,10,11,12,13,14,15,16], [17]),([18,11,16,0,1,2,3,4,5,6,7,8,9,10,11,12,13,14,15,16], [11,18])])
def spoorref11_Get.B10:List Nat:= [0,0,0,0,0,16,48,112,240,496,1008,2032,244,4596,12797,29181,61949,131071,262143,524287]
theorem spoorref11_Get.tab10:rtab .any (opsOf Try.f21 10)=spoorref11_Get.T10:=by kernel_rfl
theorem spoorref11_Get.bits10:waitsOk spoorref11_Get.T10.2 spoorref11_Get.B10=true:=by kernel_rfl
def spoorref11_Get.T13:Bool × List (List Nat × List Nat):=(true, [([], []),([], []),([], []),([], []),([], []),([4], [4]),([5], [5]),([6], [6]),([7], [7]),([8], [8]),([9,8], [8,9]),([8,10], [8,10]),([2,7], []),([12,2,8,2,7], [2,12]),([0,0,2,3,7,12,13], [0]),([14,0,2,3,7,12,13], [14]),([15,3,13,0,2,3,7,12,13], [3,15]),([1,0,1,2,3,4,5,6,7,8,9,10,11,12,13,14,15,16], [1]),([17,0,1,2,3,4,5,6,7,8,9,10,11,12,13,14,15,16], [17]),([18,11,16,0,1,2,3,4,5,6,7,8,9,10,11,12,13,14,15,16], [11,18])])
def spoorref11_Get.B13:List Nat:= [0,0,0,0,0,16,48,112,240,496,1008,2032,244,4596,12797,29181,61949,131071,262143,524287]
theorem spoorref11_Get.tab13:rtab .any (opsOf Try.f21 13)=spoorref11_Get.T13:=by kernel_rfl
theorem spoorref11_Get.bits13:waitsOk spoorref11_Get.T13.2 spoorref11_Get.B13=true:=by kernel_rfl
end Go.Proofs.Ythkdfojmhloofaa.Q
end
