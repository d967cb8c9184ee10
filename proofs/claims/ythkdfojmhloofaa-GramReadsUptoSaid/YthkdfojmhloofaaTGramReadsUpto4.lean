-- Merged and trimmed by this session's program wip/tools/trim.py.
import Derived.Test.YthkdfojmhloofaaTGramReadsUpto3
section
namespace Go.Proofs.Ythkdfojmhloofaa.Q
open Go.RowKit Go.Proofs.YthkdfojmhloofaaW.PrintWords Go.Proofs.YthkdfojmhloofaaW.PrintLast Go.Proofs.YthkdfojmhloofaaW.PrintMore
attribute [local go_sem] max2_int min2_int max_two min_two max_three min_three max_four min_four   -- for this text's walks alone
set_option linter.unusedVariables false
set_option linter.unusedSimpArgs false
def byt8 (n:Int):List Int:= [n / 72057594037927936 % 256,n / 281474976710656 % 256,n / 1099511627776 % 256,n / 4294967296 % 256,n / 16777216 % 256,n / 65536 % 256,n / 256 % 256,n % 256]
def PreI (w0 w W : World) (P0 : Nat → Prop) (v : Value) (xs : List Int) : Prop :=
  W.ownsRow w0.heap.size 5 1 v xs.length (nums .u8 xs) ∧ (∀ k, v.ownBlock = some k → P0 k ∨ w.heap.size ≤ k) ∧ Kept w W P0 ∧ Below w0.heap.size w0 W
theorem PreI.grow {w0 w W w1:World}{P0:Nat→Prop}{v v1:Value}{xs ys:List Int} (h:PreI w0 w W P0 v xs) (ho:w1.ownsRow w0.heap.size 5 1 v1 (xs++ys).length (nums .u8 (xs++ys))) (hb:Below w0.heap.size w0 w1) (hg:W.grownBy w1 v.ownBlock)
    (aa:v1.ownBlock=v.ownBlock∨ ∃ b,v1.ownBlock=some b∧W.heap.size≤b):PreI w0 w w1 P0 v1 (xs++ys):=by
  obtain⟨_,h2,h3,_⟩:=h;refine⟨ho,fun k hk=>?_,⟨Nat.le_trans h3.1 hg.size,fun i hi hn=>?_⟩,hb⟩
  · rcases aa with e|⟨b,e,hl⟩
    · exact h2 k (e▸hk)
    ·rw [e]at hk;obtain rfl:=Option.some.inj hk;exact .inr (Nat.le_trans h3.1 hl)
  · refine (hg.block i (Nat.lt_of_lt_of_le hi h3.1) (fun e=>?_)).trans (h3.2 i hi hn);rcases h2 i e.symm with hp|hp
    · exact hn hp
    · omega
theorem PreI.below {w0 w W w1 : World} {P0 : Nat → Prop} {v : Value} {xs : List Int} (h : PreI w0 w W P0 v xs) (hb : Below W.heap.size W w1) : PreI w0 w w1 P0 v xs :=
  ⟨pw_own_below h.1 hb, h.2.1, Kept.below h.2.2.1 hb, below_then h.2.2.2 h.2.2.2.size hb⟩
theorem PreI.drew {w0 w W:World}{P0:Nat→Prop}{v:Value}{xs:List Int} (h:PreI w0 w W P0 v xs):PreI w0 w W.drew P0 v xs:=⟨h.1,h.2.1,h.2.2.1,below_drew1 h.2.2.2⟩
theorem PreI.alloc {w0 w W:World}{P0:Nat→Prop}{v:Value}{xs:List Int} (h:PreI w0 w W P0 v xs) (o:Obj):PreI w0 w (W.alloc o) P0 v xs:=h.below (below_alloc (Below.refl _ _) o)
theorem blk_not_row {W:World}{B t e base size k:Nat}{cs:Array Value}{fr:Nat × Nat} (h:W.heap[B]? =some (.cells cs t fr)) (aa:t≠e) {v:Value}{xs:List Value} (hr:W.ownsRow base e size v k xs):some B≠v.ownBlock:=by
  rcases hr.2 with ⟨rfl,_⟩|⟨g,ac,ae,rfl,_,ab,_⟩
  · simp [Value.ownBlock]
  · intro e';obtain rfl:B=g:=by simpa [Value.ownBlock] using e'
    have:=h.symm.trans ab;simp at this;exact aa this.2.1
theorem PreI.blk0 {w0 w W w1 : World} {P0 : Nat → Prop} {v : Value} {xs : List Int} (h : PreI w0 w W P0 v xs) {B t : Nat} {cs : Array Value} (h1 : W.heap[B]? = some (.cells cs t (0, 0))) (ht : t ≠ 5) (hg : W.grownBy w1 v.ownBlock) : w1.heap[B]? = some (.cells cs t (0, 0)) :=
  (hg.block B (blk_lt h1) (blk_not_row h1 ht h.1)).trans h1
theorem PreI.blk {w0 w W w1:World}{P0:Nat→Prop}{v:Value}{xs:List Int} (h:PreI w0 w W P0 v xs) {B t:Nat}{cs:Array Value} (hB:W.heap[B]? =some (.cells cs t (0,0))) (ht:t≠5) {o:Obj} (hg:(W.alloc o).grownBy w1 v.ownBlock):w1.heap[B]? =some (.cells cs t (0,0)):=by
  have h1:=blk_alloc hB o;exact (hg.block B (blk_lt h1) (blk_not_row h1 ht (h.alloc o).1)).trans h1
theorem PreI.set {w0 w W:World}{P0:Nat→Prop}{v:Value}{xs:List Int} (h:PreI w0 w W P0 v xs) {B t:Nat}{cs:Array Value} (hB:W.heap[B]? =some (.cells cs t (0,0))) (ht:t≠5) (hw:w.heap.size≤B) (j:Nat) (u:Value) (aa:w0.heap.size≤w.heap.size):PreI w0 w (W.setCell ⟨B,j,none⟩ u) P0 v xs:=by
  obtain⟨h1,h2,h3,h4⟩:=h;refine⟨own_setCell h1 (blk_not_row hB ht h1) u,h2,⟨by simpa [World.setCell] using h3.1,fun i hi hn=>(Below.heap_setCell W ⟨B,j,none⟩ u i (by simp;omega)).trans (h3.2 i hi hn)⟩,h4.setCell (p:=⟨B,j,none⟩) (by simp;omega) u⟩
theorem reads2 {w:World}{g:Nat}{x y:Int} (h:w.heap[g]? =some (.cells #[.int .u8 x,.int .u8 y] 5 (0,0))):ReadsInt w .u8 (some ⟨g,0,none⟩) 2 [x,y]:=by
  refine⟨rfl,by omega,fun _=>⟨_,rfl,fun j hj=>?_⟩⟩;have e:(⟨g,0,none⟩:Addr).add j=⟨g,j,none⟩:=by unfold Addr.add;split <;> simp_all
  rw [e,blk_cell h];have:j=0∨j=1:=by omega
  rcases this with rfl|rfl <;> rfl
def pre_word (six:Bool) (hi lo:Int):List Int:=if six then byt8 hi++byt8 lo else byt8 (lo * 4294967296 % 18446744073709551616)++byt8 0
def msg_prefix.f (l0 : List Int) (D : Bool) (B C A : Int) : Option (List Int) :=
  if 0 ≤ A ∧ A ≤ 128 ∧ 0 ≤ B ∧ B ≤ 18446744073709551615 ∧ 0 ≤ C ∧ C ≤ 18446744073709551615 ∧ l0.length < 140737488355000 then some (l0 ++ ([if D then 6 else 4, A] ++ (pre_word D B C).take ((A.toNat + 7) / 8))) else none
set_option maxHeartbeats 8000000 in
set_option maxRecDepth 100000 in
theorem msg_prefix.calls (M:Nat→Prop) (N:Value) (l0:List Int) (L:Bool) (G C O:Int) (r:List Int) (w0 w:World) (hB:Below w0.heap.size w0 w) (ac:Kd.R (Kd.int .u8) 5 w w0.heap.size M N l0) (h:msg_prefix.f l0 L G C O=some r):
    Calls Try.prog 47 #[N,.agg #[.bool L,.int .u64 G,.int .u64 C,.int .i64 O]] w fun e w'=> ∃ ar:Value,e= .returned (ar)∧Kd.R (Kd.int .u8) 5 w' w0.heap.size (fun k_=>(M k_∨w.heap.size≤k_)) ar r∧Below w0.heap.size w0 w'∧Kept w w' (fun k_=>M k_):=by
  unfold msg_prefix.f at h;by_cases c:0≤O∧O≤128∧0≤G∧G≤18446744073709551615∧0≤C∧C≤18446744073709551615∧l0.length<140737488355000
  · rw [if_pos c]at h;have HR:=Aside0.mk (Option.some.inj h);clear h;obtain⟨ln,rfl⟩: ∃ ln:Nat,O=ln:=⟨O.toNat,by omega⟩;obtain⟨c1,c2,c3,c4,c5,c6,c7⟩:=c;have au:Aside0 (PreI w0 w w M N l0):=⟨Kd.own_of_R ac,fun k hk=>.inl (ac.1 k hk),Kept.refl _ _,hB⟩;have av:=hB.size;clear ac hB;go_enter Try.func47,Try.ntmps47;go_wp2;have bp:(w.alloc (.cells #[.bool L,.int .u64 G,.int .u64 C,.int .i64 ln] 30)).heap[w.heap.size]? =some (.cells #[.bool L,.int .u64 G,.int .u64 C,.int .i64 ln] 30 (0,0)):=heap_alloc_new _ _;have aw:=Aside0.mk (au.out.alloc (.cells #[.bool L,.int .u64 G,.int .u64 C,.int .i64 ln] 30));have U:(w.alloc (.cells #[.bool L,.int .u64 G,.int .u64 C,.int .i64 ln] 30)).heap.size=w.heap.size+1:=by simp
    generalize (w.alloc (.cells #[.bool L,.int .u64 G,.int .u64 C,.int .i64 ln] 30))=w1 at bp aw U ⊢;obtain⟨gp,ae⟩: ∃ gp,w.heap.size=gp:=⟨_,rfl⟩;rw [ae]at bp U ⊢;have aH:=Aside0.mk ae;have aI:=Aside0.mk U;clear ae U au;have aJ:w1.drew.cell? ⟨gp,2,none⟩=some (.int .u64 C):=(blk_cell bp 2).trans rfl;have aK:w1.cell? ⟨gp,0,none⟩=some (.bool L):=(blk_cell bp 0).trans rfl;have aM:w1.cell? ⟨gp,2,none⟩=some (.int .u64 C):=(blk_cell bp 2).trans rfl;have aN:(w1.alloc (.cells #[.int .u64 0,.int .u64 0] 116)).cell? ⟨gp,2,none⟩=some (.int .u64 C):=(blk_cell (blk_alloc bp _) 2).trans rfl;have BP:=Aside0.mk bp;clear bp;go_region;have bw:(w1.alloc (.cells #[.int .u64 (IntKind.u64.wrap (C * 4294967296)),.int .u64 0] 116)).drew.heap[w1.heap.size]? =some (.cells #[.int .u64 (IntKind.u64.wrap (C * 4294967296)),.int .u64 0] 116 (0,0)):=heap_alloc_new w1 _;have T:(w1.alloc (.cells #[.int .u64 (IntKind.u64.wrap (C * 4294967296)),.int .u64 0] 116)).drew.heap[gp]? =some (.cells #[.bool L,.int .u64 G,.int .u64 C,.int .i64 ln] 30 (0,0)):=blk_alloc BP.out _;have af:Aside0 (PreI w0 w (w1.alloc (.cells #[.int .u64 (IntKind.u64.wrap (C * 4294967296)),.int .u64 0] 116)).drew M N l0):=⟨(aw.out.alloc _).drew⟩;have V:Aside0 (w.heap.size≤w1.heap.size∧gp≠w1.heap.size):=⟨by have:=aI.out;have:=aH.out;omega⟩;clear aJ aK aM aN;generalize (w1.alloc (.cells #[.int .u64 (IntKind.u64.wrap (C * 4294967296)),.int .u64 0] 116)).drew=w2 at bw T af ⊢;generalize w1.heap.size=gw at bw V ⊢;have aQ:w2.cell? ⟨gp,0,none⟩=some (.bool L):=(blk_cell T 0).trans rfl;have ax:w2.cell? ⟨gp,3,none⟩=some (.int .i64 ln):=(blk_cell T 3).trans rfl;have BW:=Aside0.mk bw;have X:=Aside0.mk T;clear bw T;cases L
    · have aa:=BW;have ag:=X;have I:=af;obtain⟨W0,ah⟩: ∃ W0,IntKind.u64.wrap (C * 4294967296)=W0:=⟨_,rfl⟩;have hW0':C * 4294967296 % 18446744073709551616=W0:=by rw [← ah];simp [IntKind.wrap,IntKind.bits,IntKind.signed]
      rw [ah]at aa ⊢;have aR:=Aside0.mk hW0';clear ah hW0';go_wp2_with (first|((with_reducible refine gate_builtin (b:=.append) (xs:= #[.tmp 22,.tmp 27]) rfl ?_);at_builtin;refine print_append_row (w0:=w0) w0.heap.size rfl (.tmp 22) (.tmp 27) 67 5 .u8 1 rfl Try.underlying67 info5 (by decide) N l0 [4,(ln:Int)] _ 2 2 rfl rfl (I.out.alloc _).1 (reads2 (heap_alloc_new _ _)) (I.out.alloc _).2.2.2 (I.out.alloc _).2.2.2.size (by omega) ?_;intro v1 w4 A hb hg B;have aj:=Aside0.mk ((I.out.alloc _).grow A hb hg B);have al:=Aside0.mk (I.out.blk aa.out (by decide) hg);have am:=Aside0.mk (I.out.blk ag.out (by decide) hg);have aT:=(blk_cell am.out 3).trans rfl;clear A hb hg B));go_loopg [34,0] 17 (fun kq ap v0 w'=> ∃ (i:Nat),i≤(ln+7) / 8∧kq=17 - i∧ap= .int .i64 (i:Int)∧Aside0 (PreI w0 w w' M v0 (l0++ [4,(ln:Int)]++(byt8 W0++byt8 0).take i))∧Aside0 (w'.heap[gw]? =some (.cells #[.int .u64 W0,.int .u64 0] 116 (0,0))))
      case atStart=>exact⟨0,by omega,rfl,rfl,⟨by simpa using aj.out⟩,al⟩
      case round=>
        obtain⟨i,hi,rfl,rfl,HI,HW⟩:=hrel;have aU:=(blk_cell HW.out 0).trans rfl;have aV:=(blk_cell HW.out 1).trans rfl;have D:Aside0 ((l0++ [4,(ln:Int)]++(byt8 W0++byt8 0).take i).length≤140737488355100):=⟨by simp [byt8];omega⟩;by_cases H:i<(ln+7) / 8
        · match i,hi,H,HI,D with
          |0,_,H,HI,D=>
            have hd:decide ((0:Int)<((ln:Int)+8 - 1) / 8)=true:=dT (by omega);go_wp2_with (first|((with_reducible refine gate_builtin (b:=.append) (xs:= #[.tmp 37,.tmp 48]) rfl ?_);at_builtin;refine print_append_num (w0:=w0) w0.heap.size rfl (.tmp 37) (.tmp 48) 67 5 .u8 1 rfl Try.underlying67 info5 (by decide) _ _ _ rfl rfl HI.out.1 HI.out.2.2.2 HI.out.2.2.2.size (by have:=D.out;omega) ?_;intro v1 w5 A hb hg B;have E:=Aside0.mk (HI.out.grow A hb hg B);have F:=Aside0.mk (HI.out.blk0 HW.out (by decide) hg);clear A hb hg B));go_roundg (17 - (0+1))
            case measure=>omega
            case rel=>exact⟨0+1,by omega,rfl,rfl,⟨by have:=E.out;simpa [byt8] using this⟩,F⟩
          |1,_,H,HI,D=>
            have hd:decide ((1:Int)<((ln:Int)+8 - 1) / 8)=true:=dT (by omega);go_wp2_with (first|((with_reducible refine gate_builtin (b:=.append) (xs:= #[.tmp 37,.tmp 48]) rfl ?_);at_builtin;refine print_append_num (w0:=w0) w0.heap.size rfl (.tmp 37) (.tmp 48) 67 5 .u8 1 rfl Try.underlying67 info5 (by decide) _ _ _ rfl rfl HI.out.1 HI.out.2.2.2 HI.out.2.2.2.size (by have:=D.out;omega) ?_;intro v1 w5 A hb hg B;have E:=Aside0.mk (HI.out.grow A hb hg B);have F:=Aside0.mk (HI.out.blk0 HW.out (by decide) hg);clear A hb hg B));go_roundg (17 - (1+1))
            case measure=>omega
            case rel=>exact⟨1+1,by omega,rfl,rfl,⟨by have:=E.out;simpa [byt8] using this⟩,F⟩
          |2,_,H,HI,D=>
            have hd:decide ((2:Int)<((ln:Int)+8 - 1) / 8)=true:=dT (by omega);go_wp2_with (first|((with_reducible refine gate_builtin (b:=.append) (xs:= #[.tmp 37,.tmp 48]) rfl ?_);at_builtin;refine print_append_num (w0:=w0) w0.heap.size rfl (.tmp 37) (.tmp 48) 67 5 .u8 1 rfl Try.underlying67 info5 (by decide) _ _ _ rfl rfl HI.out.1 HI.out.2.2.2 HI.out.2.2.2.size (by have:=D.out;omega) ?_;intro v1 w5 A hb hg B;have E:=Aside0.mk (HI.out.grow A hb hg B);have F:=Aside0.mk (HI.out.blk0 HW.out (by decide) hg);clear A hb hg B));go_roundg (17 - (2+1))
            case measure=>omega
            case rel=>exact⟨2+1,by omega,rfl,rfl,⟨by have:=E.out;simpa [byt8] using this⟩,F⟩
          |3,_,H,HI,D=>
            have hd:decide ((3:Int)<((ln:Int)+8 - 1) / 8)=true:=dT (by omega);go_wp2_with (first|((with_reducible refine gate_builtin (b:=.append) (xs:= #[.tmp 37,.tmp 48]) rfl ?_);at_builtin;refine print_append_num (w0:=w0) w0.heap.size rfl (.tmp 37) (.tmp 48) 67 5 .u8 1 rfl Try.underlying67 info5 (by decide) _ _ _ rfl rfl HI.out.1 HI.out.2.2.2 HI.out.2.2.2.size (by have:=D.out;omega) ?_;intro v1 w5 A hb hg B;have E:=Aside0.mk (HI.out.grow A hb hg B);have F:=Aside0.mk (HI.out.blk0 HW.out (by decide) hg);clear A hb hg B));go_roundg (17 - (3+1))
            case measure=>omega
            case rel=>exact⟨3+1,by omega,rfl,rfl,⟨by have:=E.out;simpa [byt8] using this⟩,F⟩
          |4,_,H,HI,D=>
            have hd:decide ((4:Int)<((ln:Int)+8 - 1) / 8)=true:=dT (by omega);go_wp2_with (first|((with_reducible refine gate_builtin (b:=.append) (xs:= #[.tmp 37,.tmp 48]) rfl ?_);at_builtin;refine print_append_num (w0:=w0) w0.heap.size rfl (.tmp 37) (.tmp 48) 67 5 .u8 1 rfl Try.underlying67 info5 (by decide) _ _ _ rfl rfl HI.out.1 HI.out.2.2.2 HI.out.2.2.2.size (by have:=D.out;omega) ?_;intro v1 w5 A hb hg B;have E:=Aside0.mk (HI.out.grow A hb hg B);have F:=Aside0.mk (HI.out.blk0 HW.out (by decide) hg);clear A hb hg B));go_roundg (17 - (4+1))
            case measure=>omega
            case rel=>exact⟨4+1,by omega,rfl,rfl,⟨by have:=E.out;simpa [byt8] using this⟩,F⟩
          |5,_,H,HI,D=>
            have hd:decide ((5:Int)<((ln:Int)+8 - 1) / 8)=true:=dT (by omega);go_wp2_with (first|((with_reducible refine gate_builtin (b:=.append) (xs:= #[.tmp 37,.tmp 48]) rfl ?_);at_builtin;refine print_append_num (w0:=w0) w0.heap.size rfl (.tmp 37) (.tmp 48) 67 5 .u8 1 rfl Try.underlying67 info5 (by decide) _ _ _ rfl rfl HI.out.1 HI.out.2.2.2 HI.out.2.2.2.size (by have:=D.out;omega) ?_;intro v1 w5 A hb hg B;have E:=Aside0.mk (HI.out.grow A hb hg B);have F:=Aside0.mk (HI.out.blk0 HW.out (by decide) hg);clear A hb hg B));go_roundg (17 - (5+1))
            case measure=>omega
            case rel=>exact⟨5+1,by omega,rfl,rfl,⟨by have:=E.out;simpa [byt8] using this⟩,F⟩
          |6,_,H,HI,D=>
            have hd:decide ((6:Int)<((ln:Int)+8 - 1) / 8)=true:=dT (by omega);go_wp2_with (first|((with_reducible refine gate_builtin (b:=.append) (xs:= #[.tmp 37,.tmp 48]) rfl ?_);at_builtin;refine print_append_num (w0:=w0) w0.heap.size rfl (.tmp 37) (.tmp 48) 67 5 .u8 1 rfl Try.underlying67 info5 (by decide) _ _ _ rfl rfl HI.out.1 HI.out.2.2.2 HI.out.2.2.2.size (by have:=D.out;omega) ?_;intro v1 w5 A hb hg B;have E:=Aside0.mk (HI.out.grow A hb hg B);have F:=Aside0.mk (HI.out.blk0 HW.out (by decide) hg);clear A hb hg B));go_roundg (17 - (6+1))
            case measure=>omega
            case rel=>exact⟨6+1,by omega,rfl,rfl,⟨by have:=E.out;simpa [byt8] using this⟩,F⟩
          |7,_,H,HI,D=>
            have hd:decide ((7:Int)<((ln:Int)+8 - 1) / 8)=true:=dT (by omega);go_wp2_with (first|((with_reducible refine gate_builtin (b:=.append) (xs:= #[.tmp 37,.tmp 48]) rfl ?_);at_builtin;refine print_append_num (w0:=w0) w0.heap.size rfl (.tmp 37) (.tmp 48) 67 5 .u8 1 rfl Try.underlying67 info5 (by decide) _ _ _ rfl rfl HI.out.1 HI.out.2.2.2 HI.out.2.2.2.size (by have:=D.out;omega) ?_;intro v1 w5 A hb hg B;have E:=Aside0.mk (HI.out.grow A hb hg B);have F:=Aside0.mk (HI.out.blk0 HW.out (by decide) hg);clear A hb hg B));go_roundg (17 - (7+1))
            case measure=>omega
            case rel=>exact⟨7+1,by omega,rfl,rfl,⟨by have:=E.out;simpa [byt8] using this⟩,F⟩
          |8,_,H,HI,D=>
            have hd:decide ((8:Int)<((ln:Int)+8 - 1) / 8)=true:=dT (by omega);go_wp2_with (first|((with_reducible refine gate_builtin (b:=.append) (xs:= #[.tmp 37,.tmp 48]) rfl ?_);at_builtin;refine print_append_num (w0:=w0) w0.heap.size rfl (.tmp 37) (.tmp 48) 67 5 .u8 1 rfl Try.underlying67 info5 (by decide) _ _ _ rfl rfl HI.out.1 HI.out.2.2.2 HI.out.2.2.2.size (by have:=D.out;omega) ?_;intro v1 w5 A hb hg B;have E:=Aside0.mk (HI.out.grow A hb hg B);have F:=Aside0.mk (HI.out.blk0 HW.out (by decide) hg);clear A hb hg B));go_roundg (17 - (8+1))
            case measure=>omega
            case rel=>exact⟨8+1,by omega,rfl,rfl,⟨by have:=E.out;simpa [byt8] using this⟩,F⟩
          |9,_,H,HI,D=>
            have hd:decide ((9:Int)<((ln:Int)+8 - 1) / 8)=true:=dT (by omega);go_wp2_with (first|((with_reducible refine gate_builtin (b:=.append) (xs:= #[.tmp 37,.tmp 48]) rfl ?_);at_builtin;refine print_append_num (w0:=w0) w0.heap.size rfl (.tmp 37) (.tmp 48) 67 5 .u8 1 rfl Try.underlying67 info5 (by decide) _ _ _ rfl rfl HI.out.1 HI.out.2.2.2 HI.out.2.2.2.size (by have:=D.out;omega) ?_;intro v1 w5 A hb hg B;have E:=Aside0.mk (HI.out.grow A hb hg B);have F:=Aside0.mk (HI.out.blk0 HW.out (by decide) hg);clear A hb hg B));go_roundg (17 - (9+1))
            case measure=>omega
            case rel=>exact⟨9+1,by omega,rfl,rfl,⟨by have:=E.out;simpa [byt8] using this⟩,F⟩
          |10,_,H,HI,D=>
            have hd:decide ((10:Int)<((ln:Int)+8 - 1) / 8)=true:=dT (by omega);go_wp2_with (first|((with_reducible refine gate_builtin (b:=.append) (xs:= #[.tmp 37,.tmp 48]) rfl ?_);at_builtin;refine print_append_num (w0:=w0) w0.heap.size rfl (.tmp 37) (.tmp 48) 67 5 .u8 1 rfl Try.underlying67 info5 (by decide) _ _ _ rfl rfl HI.out.1 HI.out.2.2.2 HI.out.2.2.2.size (by have:=D.out;omega) ?_;intro v1 w5 A hb hg B;have E:=Aside0.mk (HI.out.grow A hb hg B);have F:=Aside0.mk (HI.out.blk0 HW.out (by decide) hg);clear A hb hg B));go_roundg (17 - (10+1))
            case measure=>omega
            case rel=>exact⟨10+1,by omega,rfl,rfl,⟨by have:=E.out;simpa [byt8] using this⟩,F⟩
          |11,_,H,HI,D=>
            have hd:decide ((11:Int)<((ln:Int)+8 - 1) / 8)=true:=dT (by omega);go_wp2_with (first|((with_reducible refine gate_builtin (b:=.append) (xs:= #[.tmp 37,.tmp 48]) rfl ?_);at_builtin;refine print_append_num (w0:=w0) w0.heap.size rfl (.tmp 37) (.tmp 48) 67 5 .u8 1 rfl Try.underlying67 info5 (by decide) _ _ _ rfl rfl HI.out.1 HI.out.2.2.2 HI.out.2.2.2.size (by have:=D.out;omega) ?_;intro v1 w5 A hb hg B;have E:=Aside0.mk (HI.out.grow A hb hg B);have F:=Aside0.mk (HI.out.blk0 HW.out (by decide) hg);clear A hb hg B));go_roundg (17 - (11+1))
            case measure=>omega
            case rel=>exact⟨11+1,by omega,rfl,rfl,⟨by have:=E.out;simpa [byt8] using this⟩,F⟩
          |12,_,H,HI,D=>
            have hd:decide ((12:Int)<((ln:Int)+8 - 1) / 8)=true:=dT (by omega);go_wp2_with (first|((with_reducible refine gate_builtin (b:=.append) (xs:= #[.tmp 37,.tmp 48]) rfl ?_);at_builtin;refine print_append_num (w0:=w0) w0.heap.size rfl (.tmp 37) (.tmp 48) 67 5 .u8 1 rfl Try.underlying67 info5 (by decide) _ _ _ rfl rfl HI.out.1 HI.out.2.2.2 HI.out.2.2.2.size (by have:=D.out;omega) ?_;intro v1 w5 A hb hg B;have E:=Aside0.mk (HI.out.grow A hb hg B);have F:=Aside0.mk (HI.out.blk0 HW.out (by decide) hg);clear A hb hg B));go_roundg (17 - (12+1))
            case measure=>omega
            case rel=>exact⟨12+1,by omega,rfl,rfl,⟨by have:=E.out;simpa [byt8] using this⟩,F⟩
          |13,_,H,HI,D=>
            have hd:decide ((13:Int)<((ln:Int)+8 - 1) / 8)=true:=dT (by omega);go_wp2_with (first|((with_reducible refine gate_builtin (b:=.append) (xs:= #[.tmp 37,.tmp 48]) rfl ?_);at_builtin;refine print_append_num (w0:=w0) w0.heap.size rfl (.tmp 37) (.tmp 48) 67 5 .u8 1 rfl Try.underlying67 info5 (by decide) _ _ _ rfl rfl HI.out.1 HI.out.2.2.2 HI.out.2.2.2.size (by have:=D.out;omega) ?_;intro v1 w5 A hb hg B;have E:=Aside0.mk (HI.out.grow A hb hg B);have F:=Aside0.mk (HI.out.blk0 HW.out (by decide) hg);clear A hb hg B));go_roundg (17 - (13+1))
            case measure=>omega
            case rel=>exact⟨13+1,by omega,rfl,rfl,⟨by have:=E.out;simpa [byt8] using this⟩,F⟩
          |14,_,H,HI,D=>
            have hd:decide ((14:Int)<((ln:Int)+8 - 1) / 8)=true:=dT (by omega);go_wp2_with (first|((with_reducible refine gate_builtin (b:=.append) (xs:= #[.tmp 37,.tmp 48]) rfl ?_);at_builtin;refine print_append_num (w0:=w0) w0.heap.size rfl (.tmp 37) (.tmp 48) 67 5 .u8 1 rfl Try.underlying67 info5 (by decide) _ _ _ rfl rfl HI.out.1 HI.out.2.2.2 HI.out.2.2.2.size (by have:=D.out;omega) ?_;intro v1 w5 A hb hg B;have E:=Aside0.mk (HI.out.grow A hb hg B);have F:=Aside0.mk (HI.out.blk0 HW.out (by decide) hg);clear A hb hg B));go_roundg (17 - (14+1))
            case measure=>omega
            case rel=>exact⟨14+1,by omega,rfl,rfl,⟨by have:=E.out;simpa [byt8] using this⟩,F⟩
          |15,_,H,HI,D=>
            have hd:decide ((15:Int)<((ln:Int)+8 - 1) / 8)=true:=dT (by omega);go_wp2_with (first|((with_reducible refine gate_builtin (b:=.append) (xs:= #[.tmp 37,.tmp 48]) rfl ?_);at_builtin;refine print_append_num (w0:=w0) w0.heap.size rfl (.tmp 37) (.tmp 48) 67 5 .u8 1 rfl Try.underlying67 info5 (by decide) _ _ _ rfl rfl HI.out.1 HI.out.2.2.2 HI.out.2.2.2.size (by have:=D.out;omega) ?_;intro v1 w5 A hb hg B;have E:=Aside0.mk (HI.out.grow A hb hg B);have F:=Aside0.mk (HI.out.blk0 HW.out (by decide) hg);clear A hb hg B));go_roundg (17 - (15+1))
            case measure=>omega
            case rel=>exact⟨15+1,by omega,rfl,rfl,⟨by have:=E.out;simpa [byt8] using this⟩,F⟩
          |n+16,_,H,_,_=>exact absurd H (by omega)
        · have hd:decide ((i:Int)<((ln:Int)+8 - 1) / 8)=false:=dF (by omega);go_wp2;go_ret;obtain rfl:i=(ln+7) / 8:=by omega
          have e:l0++ [4,(ln:Int)]++(byt8 W0++byt8 0).take ((ln+7) / 8)=r:=by rw [← HR.out];rw [pre_word,if_neg (by decide),aR.out];simp [pre_word]
          have hI:=HI.out;rw [e]at hI;exact⟨_,rfl,Kd.R_of_own (enc:=Value.int .u8) (h1:=fun _=>rfl) hI.1 hI.2.1,hI.2.2.2,hI.2.2.1⟩
    · go_wp2;have ay:w2.drew.cell? ⟨gp,1,none⟩=some (.int .u64 G):=(blk_cell X.out 1).trans rfl;have az:w2.drew.cell? ⟨gp,2,none⟩=some (.int .u64 C):=(blk_cell X.out 2).trans rfl;have aA:w2.drew.cell? ⟨gw,0,none⟩=some (.int .u64 (IntKind.u64.wrap (C * 4294967296))):=(blk_cell BW.out 0).trans rfl;have aC:w2.drew.cell? ⟨gw,1,none⟩=some (.int .u64 0):=(blk_cell BW.out 1).trans rfl;have aD:w2.drew.frozen? ⟨gw,0,none⟩=false:=blk_frozen BW.out 0;have aE:w2.drew.frozen? ⟨gw,1,none⟩=false:=blk_frozen BW.out 1;have aG:=V.out.2;have aW:w2.cell? ⟨gp,1,none⟩=some (.int .u64 G):=ay;have aY:w2.cell? ⟨gp,2,none⟩=some (.int .u64 C):=az;have aZ:w2.cell? ⟨gw,0,none⟩=some (.int .u64 (IntKind.u64.wrap (C * 4294967296))):=aA;have b2:w2.cell? ⟨gw,1,none⟩=some (.int .u64 0):=aC;have b3:w2.frozen? ⟨gw,0,none⟩=false:=aD;have b4:w2.frozen? ⟨gw,1,none⟩=false:=aE;go_region;have bw3:((w2.setCell ⟨gw,0,none⟩ (.int .u64 G)).setCell ⟨gw,1,none⟩ (.int .u64 C)).drew.heap[gw]? =some (.cells #[.int .u64 G,.int .u64 C] 116 (0,0)):=blk_drew (blk_put (blk_put BW.out 0 (.int .u64 G) rfl) 1 (.int .u64 C) rfl);have ab:((w2.setCell ⟨gw,0,none⟩ (.int .u64 G)).setCell ⟨gw,1,none⟩ (.int .u64 C)).drew.heap[gp]? =some (.cells #[.bool true,.int .u64 G,.int .u64 C,.int .i64 ln] 30 (0,0)):=blk_drew (blk_far (blk_far X.out (p:=⟨gw,0,none⟩) (by simpa using aG) _) (p:=⟨gw,1,none⟩) (by simpa using aG) _);have aq:PreI w0 w ((w2.setCell ⟨gw,0,none⟩ (.int .u64 G)).setCell ⟨gw,1,none⟩ (.int .u64 C)).drew M N l0:=((af.out.set BW.out (by decide) V.out.1 0 (.int .u64 G) av).set (blk_put BW.out 0 (.int .u64 G) rfl) (by decide) V.out.1 1 (.int .u64 C) av).drew;clear ay az aA aC aD aE aW aY aZ b2 b3 b4 aQ ax;generalize ((w2.setCell ⟨gw,0,none⟩ (.int .u64 G)).setCell ⟨gw,1,none⟩ (.int .u64 C)).drew=w3 at bw3 ab aq ⊢;have ax:w3.cell? ⟨gp,3,none⟩=some (.int .i64 ln):=(blk_cell ab 3).trans rfl;have aa:=Aside0.mk bw3;have ag:=Aside0.mk ab;have I:=Aside0.mk aq;clear bw3 ab aq;go_wp2_with (first|((with_reducible refine gate_builtin (b:=.append) (xs:= #[.tmp 22,.tmp 27]) rfl ?_);at_builtin;refine print_append_row (w0:=w0) w0.heap.size rfl (.tmp 22) (.tmp 27) 67 5 .u8 1 rfl Try.underlying67 info5 (by decide) N l0 [6,(ln:Int)] _ 2 2 rfl rfl (I.out.alloc _).1 (reads2 (heap_alloc_new _ _)) (I.out.alloc _).2.2.2 (I.out.alloc _).2.2.2.size (by omega) ?_;intro v1 w4 A hb hg B;have aj:=Aside0.mk ((I.out.alloc _).grow A hb hg B);have al:=Aside0.mk (I.out.blk aa.out (by decide) hg);have am:=Aside0.mk (I.out.blk ag.out (by decide) hg);have aT:=(blk_cell am.out 3).trans rfl;clear A hb hg B));go_loopg [34,0] 17 (fun kq ap v0 w'=> ∃ (i:Nat),i≤(ln+7) / 8∧kq=17 - i∧ap= .int .i64 (i:Int)∧Aside0 (PreI w0 w w' M v0 (l0++ [6,(ln:Int)]++(byt8 G++byt8 C).take i))∧Aside0 (w'.heap[gw]? =some (.cells #[.int .u64 G,.int .u64 C] 116 (0,0))))
      case atStart=>exact⟨0,by omega,rfl,rfl,⟨by simpa using aj.out⟩,al⟩
      case round=>
        obtain⟨i,hi,rfl,rfl,HI,HW⟩:=hrel;have aU:=(blk_cell HW.out 0).trans rfl;have aV:=(blk_cell HW.out 1).trans rfl;have D:Aside0 ((l0++ [6,(ln:Int)]++(byt8 G++byt8 C).take i).length≤140737488355100):=⟨by simp [byt8];omega⟩;by_cases H:i<(ln+7) / 8
        · match i,hi,H,HI,D with
          |0,_,H,HI,D=>
            have hd:decide ((0:Int)<((ln:Int)+8 - 1) / 8)=true:=dT (by omega);go_wp2_with (first|((with_reducible refine gate_builtin (b:=.append) (xs:= #[.tmp 37,.tmp 48]) rfl ?_);at_builtin;refine print_append_num (w0:=w0) w0.heap.size rfl (.tmp 37) (.tmp 48) 67 5 .u8 1 rfl Try.underlying67 info5 (by decide) _ _ _ rfl rfl HI.out.1 HI.out.2.2.2 HI.out.2.2.2.size (by have:=D.out;omega) ?_;intro v1 w5 A hb hg B;have E:=Aside0.mk (HI.out.grow A hb hg B);have F:=Aside0.mk (HI.out.blk0 HW.out (by decide) hg);clear A hb hg B));go_roundg (17 - (0+1))
            case measure=>omega
            case rel=>exact⟨0+1,by omega,rfl,rfl,⟨by have:=E.out;first|simpa [byt8] using this|simpa [byt8,show G / 72057594037927936 % 256=G / 72057594037927936 from by omega] using this|simpa [byt8,show C / 72057594037927936 % 256=C / 72057594037927936 from by omega] using this⟩,F⟩
          |1,_,H,HI,D=>
            have hd:decide ((1:Int)<((ln:Int)+8 - 1) / 8)=true:=dT (by omega);go_wp2_with (first|((with_reducible refine gate_builtin (b:=.append) (xs:= #[.tmp 37,.tmp 48]) rfl ?_);at_builtin;refine print_append_num (w0:=w0) w0.heap.size rfl (.tmp 37) (.tmp 48) 67 5 .u8 1 rfl Try.underlying67 info5 (by decide) _ _ _ rfl rfl HI.out.1 HI.out.2.2.2 HI.out.2.2.2.size (by have:=D.out;omega) ?_;intro v1 w5 A hb hg B;have E:=Aside0.mk (HI.out.grow A hb hg B);have F:=Aside0.mk (HI.out.blk0 HW.out (by decide) hg);clear A hb hg B));go_roundg (17 - (1+1))
            case measure=>omega
            case rel=>exact⟨1+1,by omega,rfl,rfl,⟨by have:=E.out;first|simpa [byt8] using this|simpa [byt8,show G / 72057594037927936 % 256=G / 72057594037927936 from by omega] using this|simpa [byt8,show C / 72057594037927936 % 256=C / 72057594037927936 from by omega] using this⟩,F⟩
          |2,_,H,HI,D=>
            have hd:decide ((2:Int)<((ln:Int)+8 - 1) / 8)=true:=dT (by omega);go_wp2_with (first|((with_reducible refine gate_builtin (b:=.append) (xs:= #[.tmp 37,.tmp 48]) rfl ?_);at_builtin;refine print_append_num (w0:=w0) w0.heap.size rfl (.tmp 37) (.tmp 48) 67 5 .u8 1 rfl Try.underlying67 info5 (by decide) _ _ _ rfl rfl HI.out.1 HI.out.2.2.2 HI.out.2.2.2.size (by have:=D.out;omega) ?_;intro v1 w5 A hb hg B;have E:=Aside0.mk (HI.out.grow A hb hg B);have F:=Aside0.mk (HI.out.blk0 HW.out (by decide) hg);clear A hb hg B));go_roundg (17 - (2+1))
            case measure=>omega
            case rel=>exact⟨2+1,by omega,rfl,rfl,⟨by have:=E.out;first|simpa [byt8] using this|simpa [byt8,show G / 72057594037927936 % 256=G / 72057594037927936 from by omega] using this|simpa [byt8,show C / 72057594037927936 % 256=C / 72057594037927936 from by omega] using this⟩,F⟩
          |3,_,H,HI,D=>
            have hd:decide ((3:Int)<((ln:Int)+8 - 1) / 8)=true:=dT (by omega);go_wp2_with (first|((with_reducible refine gate_builtin (b:=.append) (xs:= #[.tmp 37,.tmp 48]) rfl ?_);at_builtin;refine print_append_num (w0:=w0) w0.heap.size rfl (.tmp 37) (.tmp 48) 67 5 .u8 1 rfl Try.underlying67 info5 (by decide) _ _ _ rfl rfl HI.out.1 HI.out.2.2.2 HI.out.2.2.2.size (by have:=D.out;omega) ?_;intro v1 w5 A hb hg B;have E:=Aside0.mk (HI.out.grow A hb hg B);have F:=Aside0.mk (HI.out.blk0 HW.out (by decide) hg);clear A hb hg B));go_roundg (17 - (3+1))
            case measure=>omega
            case rel=>exact⟨3+1,by omega,rfl,rfl,⟨by have:=E.out;first|simpa [byt8] using this|simpa [byt8,show G / 72057594037927936 % 256=G / 72057594037927936 from by omega] using this|simpa [byt8,show C / 72057594037927936 % 256=C / 72057594037927936 from by omega] using this⟩,F⟩
          |4,_,H,HI,D=>
            have hd:decide ((4:Int)<((ln:Int)+8 - 1) / 8)=true:=dT (by omega);go_wp2_with (first|((with_reducible refine gate_builtin (b:=.append) (xs:= #[.tmp 37,.tmp 48]) rfl ?_);at_builtin;refine print_append_num (w0:=w0) w0.heap.size rfl (.tmp 37) (.tmp 48) 67 5 .u8 1 rfl Try.underlying67 info5 (by decide) _ _ _ rfl rfl HI.out.1 HI.out.2.2.2 HI.out.2.2.2.size (by have:=D.out;omega) ?_;intro v1 w5 A hb hg B;have E:=Aside0.mk (HI.out.grow A hb hg B);have F:=Aside0.mk (HI.out.blk0 HW.out (by decide) hg);clear A hb hg B));go_roundg (17 - (4+1))
            case measure=>omega
            case rel=>exact⟨4+1,by omega,rfl,rfl,⟨by have:=E.out;first|simpa [byt8] using this|simpa [byt8,show G / 72057594037927936 % 256=G / 72057594037927936 from by omega] using this|simpa [byt8,show C / 72057594037927936 % 256=C / 72057594037927936 from by omega] using this⟩,F⟩
          |5,_,H,HI,D=>
            have hd:decide ((5:Int)<((ln:Int)+8 - 1) / 8)=true:=dT (by omega);go_wp2_with (first|((with_reducible refine gate_builtin (b:=.append) (xs:= #[.tmp 37,.tmp 48]) rfl ?_);at_builtin;refine print_append_num (w0:=w0) w0.heap.size rfl (.tmp 37) (.tmp 48) 67 5 .u8 1 rfl Try.underlying67 info5 (by decide) _ _ _ rfl rfl HI.out.1 HI.out.2.2.2 HI.out.2.2.2.size (by have:=D.out;omega) ?_;intro v1 w5 A hb hg B;have E:=Aside0.mk (HI.out.grow A hb hg B);have F:=Aside0.mk (HI.out.blk0 HW.out (by decide) hg);clear A hb hg B));go_roundg (17 - (5+1))
            case measure=>omega
            case rel=>exact⟨5+1,by omega,rfl,rfl,⟨by have:=E.out;first|simpa [byt8] using this|simpa [byt8,show G / 72057594037927936 % 256=G / 72057594037927936 from by omega] using this|simpa [byt8,show C / 72057594037927936 % 256=C / 72057594037927936 from by omega] using this⟩,F⟩
          |6,_,H,HI,D=>
            have hd:decide ((6:Int)<((ln:Int)+8 - 1) / 8)=true:=dT (by omega);go_wp2_with (first|((with_reducible refine gate_builtin (b:=.append) (xs:= #[.tmp 37,.tmp 48]) rfl ?_);at_builtin;refine print_append_num (w0:=w0) w0.heap.size rfl (.tmp 37) (.tmp 48) 67 5 .u8 1 rfl Try.underlying67 info5 (by decide) _ _ _ rfl rfl HI.out.1 HI.out.2.2.2 HI.out.2.2.2.size (by have:=D.out;omega) ?_;intro v1 w5 A hb hg B;have E:=Aside0.mk (HI.out.grow A hb hg B);have F:=Aside0.mk (HI.out.blk0 HW.out (by decide) hg);clear A hb hg B));go_roundg (17 - (6+1))
            case measure=>omega
            case rel=>exact⟨6+1,by omega,rfl,rfl,⟨by have:=E.out;first|simpa [byt8] using this|simpa [byt8,show G / 72057594037927936 % 256=G / 72057594037927936 from by omega] using this|simpa [byt8,show C / 72057594037927936 % 256=C / 72057594037927936 from by omega] using this⟩,F⟩
          |7,_,H,HI,D=>
            have hd:decide ((7:Int)<((ln:Int)+8 - 1) / 8)=true:=dT (by omega);go_wp2_with (first|((with_reducible refine gate_builtin (b:=.append) (xs:= #[.tmp 37,.tmp 48]) rfl ?_);at_builtin;refine print_append_num (w0:=w0) w0.heap.size rfl (.tmp 37) (.tmp 48) 67 5 .u8 1 rfl Try.underlying67 info5 (by decide) _ _ _ rfl rfl HI.out.1 HI.out.2.2.2 HI.out.2.2.2.size (by have:=D.out;omega) ?_;intro v1 w5 A hb hg B;have E:=Aside0.mk (HI.out.grow A hb hg B);have F:=Aside0.mk (HI.out.blk0 HW.out (by decide) hg);clear A hb hg B));go_roundg (17 - (7+1))
            case measure=>omega
            case rel=>exact⟨7+1,by omega,rfl,rfl,⟨by have:=E.out;first|simpa [byt8] using this|simpa [byt8,show G / 72057594037927936 % 256=G / 72057594037927936 from by omega] using this|simpa [byt8,show C / 72057594037927936 % 256=C / 72057594037927936 from by omega] using this⟩,F⟩
          |8,_,H,HI,D=>
            have hd:decide ((8:Int)<((ln:Int)+8 - 1) / 8)=true:=dT (by omega);go_wp2_with (first|((with_reducible refine gate_builtin (b:=.append) (xs:= #[.tmp 37,.tmp 48]) rfl ?_);at_builtin;refine print_append_num (w0:=w0) w0.heap.size rfl (.tmp 37) (.tmp 48) 67 5 .u8 1 rfl Try.underlying67 info5 (by decide) _ _ _ rfl rfl HI.out.1 HI.out.2.2.2 HI.out.2.2.2.size (by have:=D.out;omega) ?_;intro v1 w5 A hb hg B;have E:=Aside0.mk (HI.out.grow A hb hg B);have F:=Aside0.mk (HI.out.blk0 HW.out (by decide) hg);clear A hb hg B));go_roundg (17 - (8+1))
            case measure=>omega
            case rel=>exact⟨8+1,by omega,rfl,rfl,⟨by have:=E.out;first|simpa [byt8] using this|simpa [byt8,show G / 72057594037927936 % 256=G / 72057594037927936 from by omega] using this|simpa [byt8,show C / 72057594037927936 % 256=C / 72057594037927936 from by omega] using this⟩,F⟩
          |9,_,H,HI,D=>
            have hd:decide ((9:Int)<((ln:Int)+8 - 1) / 8)=true:=dT (by omega);go_wp2_with (first|((with_reducible refine gate_builtin (b:=.append) (xs:= #[.tmp 37,.tmp 48]) rfl ?_);at_builtin;refine print_append_num (w0:=w0) w0.heap.size rfl (.tmp 37) (.tmp 48) 67 5 .u8 1 rfl Try.underlying67 info5 (by decide) _ _ _ rfl rfl HI.out.1 HI.out.2.2.2 HI.out.2.2.2.size (by have:=D.out;omega) ?_;intro v1 w5 A hb hg B;have E:=Aside0.mk (HI.out.grow A hb hg B);have F:=Aside0.mk (HI.out.blk0 HW.out (by decide) hg);clear A hb hg B));go_roundg (17 - (9+1))
            case measure=>omega
            case rel=>exact⟨9+1,by omega,rfl,rfl,⟨by have:=E.out;first|simpa [byt8] using this|simpa [byt8,show G / 72057594037927936 % 256=G / 72057594037927936 from by omega] using this|simpa [byt8,show C / 72057594037927936 % 256=C / 72057594037927936 from by omega] using this⟩,F⟩
          |10,_,H,HI,D=>
            have hd:decide ((10:Int)<((ln:Int)+8 - 1) / 8)=true:=dT (by omega);go_wp2_with (first|((with_reducible refine gate_builtin (b:=.append) (xs:= #[.tmp 37,.tmp 48]) rfl ?_);at_builtin;refine print_append_num (w0:=w0) w0.heap.size rfl (.tmp 37) (.tmp 48) 67 5 .u8 1 rfl Try.underlying67 info5 (by decide) _ _ _ rfl rfl HI.out.1 HI.out.2.2.2 HI.out.2.2.2.size (by have:=D.out;omega) ?_;intro v1 w5 A hb hg B;have E:=Aside0.mk (HI.out.grow A hb hg B);have F:=Aside0.mk (HI.out.blk0 HW.out (by decide) hg);clear A hb hg B));go_roundg (17 - (10+1))
            case measure=>omega
            case rel=>exact⟨10+1,by omega,rfl,rfl,⟨by have:=E.out;first|simpa [byt8] using this|simpa [byt8,show G / 72057594037927936 % 256=G / 72057594037927936 from by omega] using this|simpa [byt8,show C / 72057594037927936 % 256=C / 72057594037927936 from by omega] using this⟩,F⟩
          |11,_,H,HI,D=>
            have hd:decide ((11:Int)<((ln:Int)+8 - 1) / 8)=true:=dT (by omega);go_wp2_with (first|((with_reducible refine gate_builtin (b:=.append) (xs:= #[.tmp 37,.tmp 48]) rfl ?_);at_builtin;refine print_append_num (w0:=w0) w0.heap.size rfl (.tmp 37) (.tmp 48) 67 5 .u8 1 rfl Try.underlying67 info5 (by decide) _ _ _ rfl rfl HI.out.1 HI.out.2.2.2 HI.out.2.2.2.size (by have:=D.out;omega) ?_;intro v1 w5 A hb hg B;have E:=Aside0.mk (HI.out.grow A hb hg B);have F:=Aside0.mk (HI.out.blk0 HW.out (by decide) hg);clear A hb hg B));go_roundg (17 - (11+1))
            case measure=>omega
            case rel=>exact⟨11+1,by omega,rfl,rfl,⟨by have:=E.out;first|simpa [byt8] using this|simpa [byt8,show G / 72057594037927936 % 256=G / 72057594037927936 from by omega] using this|simpa [byt8,show C / 72057594037927936 % 256=C / 72057594037927936 from by omega] using this⟩,F⟩
          |12,_,H,HI,D=>
            have hd:decide ((12:Int)<((ln:Int)+8 - 1) / 8)=true:=dT (by omega);go_wp2_with (first|((with_reducible refine gate_builtin (b:=.append) (xs:= #[.tmp 37,.tmp 48]) rfl ?_);at_builtin;refine print_append_num (w0:=w0) w0.heap.size rfl (.tmp 37) (.tmp 48) 67 5 .u8 1 rfl Try.underlying67 info5 (by decide) _ _ _ rfl rfl HI.out.1 HI.out.2.2.2 HI.out.2.2.2.size (by have:=D.out;omega) ?_;intro v1 w5 A hb hg B;have E:=Aside0.mk (HI.out.grow A hb hg B);have F:=Aside0.mk (HI.out.blk0 HW.out (by decide) hg);clear A hb hg B));go_roundg (17 - (12+1))
            case measure=>omega
            case rel=>exact⟨12+1,by omega,rfl,rfl,⟨by have:=E.out;first|simpa [byt8] using this|simpa [byt8,show G / 72057594037927936 % 256=G / 72057594037927936 from by omega] using this|simpa [byt8,show C / 72057594037927936 % 256=C / 72057594037927936 from by omega] using this⟩,F⟩
          |13,_,H,HI,D=>
            have hd:decide ((13:Int)<((ln:Int)+8 - 1) / 8)=true:=dT (by omega);go_wp2_with (first|((with_reducible refine gate_builtin (b:=.append) (xs:= #[.tmp 37,.tmp 48]) rfl ?_);at_builtin;refine print_append_num (w0:=w0) w0.heap.size rfl (.tmp 37) (.tmp 48) 67 5 .u8 1 rfl Try.underlying67 info5 (by decide) _ _ _ rfl rfl HI.out.1 HI.out.2.2.2 HI.out.2.2.2.size (by have:=D.out;omega) ?_;intro v1 w5 A hb hg B;have E:=Aside0.mk (HI.out.grow A hb hg B);have F:=Aside0.mk (HI.out.blk0 HW.out (by decide) hg);clear A hb hg B));go_roundg (17 - (13+1))
            case measure=>omega
            case rel=>exact⟨13+1,by omega,rfl,rfl,⟨by have:=E.out;first|simpa [byt8] using this|simpa [byt8,show G / 72057594037927936 % 256=G / 72057594037927936 from by omega] using this|simpa [byt8,show C / 72057594037927936 % 256=C / 72057594037927936 from by omega] using this⟩,F⟩
          |14,_,H,HI,D=>
            have hd:decide ((14:Int)<((ln:Int)+8 - 1) / 8)=true:=dT (by omega);go_wp2_with (first|((with_reducible refine gate_builtin (b:=.append) (xs:= #[.tmp 37,.tmp 48]) rfl ?_);at_builtin;refine print_append_num (w0:=w0) w0.heap.size rfl (.tmp 37) (.tmp 48) 67 5 .u8 1 rfl Try.underlying67 info5 (by decide) _ _ _ rfl rfl HI.out.1 HI.out.2.2.2 HI.out.2.2.2.size (by have:=D.out;omega) ?_;intro v1 w5 A hb hg B;have E:=Aside0.mk (HI.out.grow A hb hg B);have F:=Aside0.mk (HI.out.blk0 HW.out (by decide) hg);clear A hb hg B));go_roundg (17 - (14+1))
            case measure=>omega
            case rel=>exact⟨14+1,by omega,rfl,rfl,⟨by have:=E.out;first|simpa [byt8] using this|simpa [byt8,show G / 72057594037927936 % 256=G / 72057594037927936 from by omega] using this|simpa [byt8,show C / 72057594037927936 % 256=C / 72057594037927936 from by omega] using this⟩,F⟩
          |15,_,H,HI,D=>
            have hd:decide ((15:Int)<((ln:Int)+8 - 1) / 8)=true:=dT (by omega);go_wp2_with (first|((with_reducible refine gate_builtin (b:=.append) (xs:= #[.tmp 37,.tmp 48]) rfl ?_);at_builtin;refine print_append_num (w0:=w0) w0.heap.size rfl (.tmp 37) (.tmp 48) 67 5 .u8 1 rfl Try.underlying67 info5 (by decide) _ _ _ rfl rfl HI.out.1 HI.out.2.2.2 HI.out.2.2.2.size (by have:=D.out;omega) ?_;intro v1 w5 A hb hg B;have E:=Aside0.mk (HI.out.grow A hb hg B);have F:=Aside0.mk (HI.out.blk0 HW.out (by decide) hg);clear A hb hg B));go_roundg (17 - (15+1))
            case measure=>omega
            case rel=>exact⟨15+1,by omega,rfl,rfl,⟨by have:=E.out;first|simpa [byt8] using this|simpa [byt8,show G / 72057594037927936 % 256=G / 72057594037927936 from by omega] using this|simpa [byt8,show C / 72057594037927936 % 256=C / 72057594037927936 from by omega] using this⟩,F⟩
          |n+16,_,H,_,_=>exact absurd H (by omega)
        · have hd:decide ((i:Int)<((ln:Int)+8 - 1) / 8)=false:=dF (by omega);go_wp2;go_ret;obtain rfl:i=(ln+7) / 8:=by omega
          have e:l0++ [6,(ln:Int)]++(byt8 G++byt8 C).take ((ln+7) / 8)=r:=by rw [← HR.out];rw [pre_word,if_pos rfl];simp [pre_word]
          have hI:=HI.out;rw [e]at hI;exact⟨_,rfl,Kd.R_of_own (enc:=Value.int .u8) (h1:=fun _=>rfl) hI.1 hI.2.1,hI.2.2.2,hI.2.2.1⟩
  ·rw [if_neg c]at h;cases h
def msg_Put.f (k:Nat) (A:Int) (H:Int) (I:Int) (L:Int) (C:Bool) (D:Int) (E:Int) (F:Int) (M:Int) (N:Int) (G:Int) (O:Int):Option (ByteArray × Int):=(msg_Check.f k A H I L C D E F M N G O).bind fun R=>(if R=0 then ((num_Add.f k (([A]:List Int)) (IntKind.u64.wrap (H))).bind fun aa=>((num_Add.f k aa I).bind fun ab=>((num_Add.f k ab (IntKind.u64.wrap (L))).bind fun B=>(if A=3 then ((msg_prefix.f B C D E F).bind fun ac=>((msg_action.f k ac M N).bind fun ae=>(some (strOfNums ae,0)))) else (if A=4 then ((msg_prefix.f B C D E F).bind fun af=>(some (strOfNums af,0))) else (if A=5 then ((num_Add.f k B (IntKind.u64.wrap (G))).bind fun ag=>((num_Add.f k ag (IntKind.u64.wrap (O))).bind fun ah=>(some (strOfNums ah,0)))) else (if A=6 then ((num_Add.f k B (IntKind.u64.wrap (G))).bind fun aj=>(some (strOfNums aj,0))) else (some (strOfNums B,0))))))))) else (some ((⟨#[]⟩:ByteArray),R)))
theorem msg_Put.mono: ∀ a0 a1 a2 a3 a4 a5 a6 a7 a8 a9 A B k,LeO (msg_Put.f k a0 a1 a2 a3 a4 a5 a6 a7 a8 a9 A B) (msg_Put.f (k+1) a0 a1 a2 a3 a4 a5 a6 a7 a8 a9 A B):=by
 intro a0 a1 a2 a3 a4 a5 a6 a7 a8 a9 A B k;unfold msg_Put.f
 repeat' first
   | (with_reducible exact msg_Check.mono _ _ _ _ _ _ _ _ _ _ _ _ _)
   | (with_reducible exact msg_action.mono _ _ _ _)
   | (with_reducible exact num_Add.mono _ _ _)
   | (with_reducible exact LeO.refl _)
   | (with_reducible exact LeO.none _)
   | (with_reducible refine LeO.ite ?_ ?_)
   | (with_reducible refine LeO.bind ?_ (fun _ => ?_))
   | exact msg_Check.mono _ _ _ _ _ _ _ _ _ _ _ _ _
   | exact msg_action.mono _ _ _ _
   | exact num_Add.mono _ _ _
   | exact LeO.none _
   | refine LeO.ite ?_ ?_
   | refine LeO.bind ?_ (fun _ => ?_)
def msg_Put.T4:Bool × List (List Nat × List Nat):=(true, [([], []),([0], [0]),([1], [1]),([], []),([3], [3]),([4], [4]),([2,5], [2,5]),([], []),([7], [7]),([6,8,6], [6,8]),([], []),([10], [10]),([11], [11]),([9,12,9], [9,12]),([13,13,0,1,2,3,4,5,6,7,8,9,10,11,12,13], [13])])
def msg_Put.B4:List Nat:= [0,1,3,0,8,24,63,0,128,511,0,1024,3072,8191,16383]
theorem msg_Put.tab4:rtab .any (opsOf Try.f23 4)=msg_Put.T4:=by kernel_rfl
theorem msg_Put.bits4:waitsOk msg_Put.T4.2 msg_Put.B4=true:=by kernel_rfl
def msg_Put.T7:Bool × List (List Nat × List Nat):=(true, [([], []),([], []),([1], [1]),([0,2], [0,2]),([], []),([4], [4]),([3,5,3], [3,5]),([6,6,0,1,2,3,4,5,6], [0,6])])
def msg_Put.B7:List Nat:= [0,0,2,7,0,16,63,127]
theorem msg_Put.tab7:rtab .any (opsOf Try.f23 7)=msg_Put.T7:=by kernel_rfl
theorem msg_Put.bits7:waitsOk msg_Put.T7.2 msg_Put.B7=true:=by kernel_rfl
def msg_Put.T11:Bool × List (List Nat × List Nat):=(true, [([], []),([], []),([1], [1]),([2], [2]),([0,3], [0,3]),([], []),([5], [5]),([6], [6]),([4,7,4], [4,7]),([8,8,0,1,2,3,4,5,6,7,8], [0,8])])
def msg_Put.B11:List Nat:= [0,0,2,6,15,0,32,96,255,511]
theorem msg_Put.tab11:rtab .any (opsOf Try.f23 11)=msg_Put.T11:=by kernel_rfl
theorem msg_Put.bits11:waitsOk msg_Put.T11.2 msg_Put.B11=true:=by kernel_rfl
end Go.Proofs.Ythkdfojmhloofaa.Q
end
section
namespace Go.Proofs.Ythkdfojmhloofaa.Q
open Go.RowKit Go.Proofs.YthkdfojmhloofaaW.PrintWords Go.Proofs.YthkdfojmhloofaaW.PrintLast Go.Proofs.YthkdfojmhloofaaW.PrintMore
attribute [local go_sem] max2_int min2_int max_two min_two max_three min_three max_four min_four   -- for this text's walks alone
set_option linter.unusedVariables false
set_option linter.unusedSimpArgs false
set_option maxHeartbeats 8000000 in
set_option maxRecDepth 100000 in
theorem msg_Put.calls (k:Nat) (D:Int) (U:Int) (V:Int) (X:Int) (ac:Bool) (ae:Int) (af:Int) (ag:Int) (al:Int) (am:Int) (ah:Int) (ap:Int) (r1:ByteArray) (r2:Int) (w:World) (h:msg_Put.f k D U V X ac ae af ag al am ah ap=some (r1,r2)):
  Calls Try.prog 23 #[.agg #[.int .u8 D,.int .i64 U,.int .u64 V,.int .i64 X,.bool ac,.int .u64 ae,.int .u64 af,.int .i64 ag,.int .u8 al,.int .i64 am,.int .i64 ah,.int .i64 ap]] w fun e w'=>e= .returned (.tuple #[.string r1,.int .i64 r2])∧Below w.heap.size w w':=by
 have dd:=Try.underlying35;have de:=Try.underlying30;have df:=Try.underlying33;have HB:=Ax (Below.refl w.heap.size w);have H:((msg_Check.f k D U V X ac ae af ag al am ah ap).bind fun aG=>(if aG=0 then ((num_Add.f k (([D]:List Int)) (IntKind.u64.wrap (U))).bind fun ar=>((num_Add.f k ar V).bind fun au=>((num_Add.f k au (IntKind.u64.wrap (X))).bind fun aj=>(if D=3 then ((msg_prefix.f aj ac ae af ag).bind fun aI=>((msg_action.f k aI al am).bind fun aT=>(some (strOfNums aT,0)))) else (if D=4 then ((msg_prefix.f aj ac ae af ag).bind fun aU=>(some (strOfNums aU,0))) else (if D=5 then ((num_Add.f k aj (IntKind.u64.wrap (ah))).bind fun aJ=>((num_Add.f k aJ (IntKind.u64.wrap (ap))).bind fun aV=>(some (strOfNums aV,0)))) else (if D=6 then ((num_Add.f k aj (IntKind.u64.wrap (ah))).bind fun aW=>(some (strOfNums aW,0))) else (some (strOfNums aj,0))))))))) else (some ((⟨#[]⟩:ByteArray),aG))))=some (r1,r2):=h;clear h;replace H:=bI H;obtain⟨aG,cf,H⟩:=H;(try dsimp only at H);have A2:=Ax cf;clear cf;by_cases c3:aG=0
 ·rw [if_pos c3]at H;have cK:(aG==0)=true:=beq_iff_eq.mpr c3;have cL:(aG !=0)=false:=bne_eq_false_iff_eq.mpr c3;clear c3;obtain⟨aC,aY⟩: ∃ y_:List Int,y_=(([D]:List Int)):=⟨_,rfl⟩;replace H:((num_Add.f k aC (IntKind.u64.wrap (U))).bind fun ar=>((num_Add.f k ar V).bind fun au=>((num_Add.f k au (IntKind.u64.wrap (X))).bind fun aj=>(if D=3 then ((msg_prefix.f aj ac ae af ag).bind fun aI=>((msg_action.f k aI al am).bind fun aT=>(some (strOfNums aT,0)))) else (if D=4 then ((msg_prefix.f aj ac ae af ag).bind fun aU=>(some (strOfNums aU,0))) else (if D=5 then ((num_Add.f k aj (IntKind.u64.wrap (ah))).bind fun aJ=>((num_Add.f k aJ (IntKind.u64.wrap (ap))).bind fun aV=>(some (strOfNums aV,0)))) else (if D=6 then ((num_Add.f k aj (IntKind.u64.wrap (ah))).bind fun aW=>(some (strOfNums aW,0))) else (some (strOfNums aj,0)))))))))=some (r1,r2):=by first|(rw [aY];with_reducible exact H)|(have bd:=(Option.bind_some _ _).symm.trans H;rw [aY];with_reducible exact bd)|(have bd:=(Option.bind_some _ _).symm.trans H;with_reducible exact bd)|with_reducible exact H|(rw [aY];exact H)|exact H
  have aH:=Ax aY;clear aY;replace H:=bI H;obtain⟨ar,cg,H⟩:=H;(try dsimp only at H);have A4:=Ax cg;clear cg;replace H:=bI H;obtain⟨au,ch,H⟩:=H;(try dsimp only at H);have A5:=Ax ch;clear ch;replace H:=bI H;obtain⟨aj,ci,H⟩:=H;(try dsimp only at H);have A6:=Ax ci;clear ci;by_cases c7:D=3
  ·rw [if_pos c7]at H;have cM:(D==3)=true:=beq_iff_eq.mpr c7;have cN:(D !=3)=false:=bne_eq_false_iff_eq.mpr c7;clear c7;replace H:=bI H;obtain⟨aI,cj,H⟩:=H;(try dsimp only at H);have A8:=Ax cj;clear cj;replace H:=bI H;obtain⟨aT,ck,H⟩:=H;(try dsimp only at H);have A9:=Ax ck;clear ck;simp only[Option.some.injEq,Prod.mk.injEq]at H;obtain⟨rfl,rfl⟩:=H;go_enter Try.func23,Try.ntmps23;try go_wp2_with (first|((with_reducible refine gate_dst (N:=1) rfl ?_);refine bX (N:=1) (cs:= #[.int .u8 D,.int .i64 U,.int .u64 V,.int .i64 X,.bool ac,.int .u64 ae,.int .u64 af,.int .i64 ag,.int .u8 al,.int .i64 am,.int .i64 ah,.int .i64 ap]) (t:=35) ?_;intro C hg dg aE hb;have A:=Ax (aE);have aZ:=Gw0 HB hg;have R:=Gw0 HB hg;replace HB:=Bs0 HB hb;clear hb aE hg;obtain⟨dh,di,dj,dk,dl,dm,dn,dp,dq,dr,dt,du,dv,dw,dx,dy,dz,dA,dB,dC,dD,dE,dG,dH⟩:=cl12 A)|((with_reducible refine gate_callee (f:=39) rfl ?_);refine goesL_ (some 7) rfl rfl Try.func39 (by kernel_rfl) rfl #[.agg #[.int .u8 D,.int .i64 U,.int .u64 V,.int .i64 X,.bool ac,.int .u64 ae,.int .u64 af,.int .i64 ag,.int .u8 al,.int .i64 am,.int .i64 ah,.int .i64 ap]] rfl gS ?_;(with_reducible refine (msg_Check.calls k D U V X ac ae af ag al am ah ap aG _ A2.out).mono ?_);rintro e cO ⟨rfl,hb⟩;refine⟨_,rfl,?_⟩;replace A:=Bx0 A hb;replace HB:=Bs1 HB hb R.out;(try clear hb)))
   replace A:=Ax (blk_drew A.out);replace HB:=Ax (below_drew1 HB.out);refine start_ (n:=15) (S:=fun w'=>w'.cell? ⟨C,0,none⟩=some (.int .u8 D)∧w'.cell? ⟨C,1,none⟩=some (.int .i64 U)∧w'.cell? ⟨C,2,none⟩=some (.int .u64 V)∧w'.cell? ⟨C,3,none⟩=some (.int .i64 X)∧w'.cell? ⟨C,4,none⟩=some (.bool ac)∧w'.cell? ⟨C,5,none⟩=some (.int .u64 ae)∧w'.cell? ⟨C,6,none⟩=some (.int .u64 af)∧w'.cell? ⟨C,7,none⟩=some (.int .i64 ag)∧w'.cell? ⟨C,8,none⟩=some (.int .u8 al)∧w'.cell? ⟨C,9,none⟩=some (.int .i64 am)∧w'.cell? ⟨C,10,none⟩=some (.int .i64 ah)∧w'.cell? ⟨C,11,none⟩=some (.int .i64 ap)) (ds:= []) #[Y,Y,Y,Y,Y,Y,Y,Y,Y,Y,Y,Y,Y,Y,Y] (by kernel_rfl) rfl rfl (bqc12 A.out) (fun O=>?_);refine with_tabW msg_Put.tab4 msg_Put.bits4 (fun B aq=>?_);generalize cO.drew=w13 at A HB O ⊢;refine pz 0 11 #[Z,Y,Y,Y,Y,Y,Y,Y,Y,Y,Y,Y,Y,Y,Y] B.out ?_
   refine pz 3 14 #[Z,Y,Y,Z,Y,Y,Y,Y,Y,Y,Y,Y,Y,Y,Y] B.out ?_
   refine pz 7 18 #[Z,Y,Y,Z,Y,Y,Y,Z,Y,Y,Y,Y,Y,Y,Y] B.out ?_
   refine pz 10 21 #[Z,Y,Y,Z,Y,Y,Y,Z,Y,Y,Z,Y,Y,Y,Y] B.out ?_
   refine take_ (i:=1) (N:=some 12) (v:=?_) (a':=?_) #[Z,Z,Y,Z,Y,Y,Y,Z,Y,Y,Z,Y,Y,Y,Y] rfl rfl (take_ofW B.out aq.out (by kernel_rfl)) (fun _ _ _ h=>h) (Or.inl ⟨by rfl,?_⟩) O ?_ ?_;rotate_left
   ·rintro w' ⟨s0,s1,s2,s3,s4,s5,s6,s7,s8,s9,az,aA⟩
    go_simp;with_reducible rfl
   rotate_left;·simp only[sP];rfl
   refine take_ (i:=4) (N:=some 15) (v:=?_) (a':=?_) #[Z,Z,Y,Z,Z,Y,Y,Z,Y,Y,Z,Y,Y,Y,Y] rfl rfl (take_ofW B.out aq.out (by kernel_rfl)) (fun _ _ _ h=>h) (Or.inl ⟨by rfl,?_⟩) O ?_ ?_;rotate_left
   ·rintro w' ⟨s0,s1,s2,s3,s4,s5,s6,s7,s8,s9,az,aA⟩
    go_simp;with_reducible rfl
   rotate_left;·simp only[sP];rfl
   refine pz 5 16 #[Z,Z,Y,Z,Z,Z,Y,Z,Y,Y,Z,Y,Y,Y,Y] B.out ?_
   refine take_ (i:=8) (N:=some 19) (v:=?_) (a':=?_) #[Z,Z,Y,Z,Z,Z,Y,Z,Z,Y,Z,Y,Y,Y,Y] rfl rfl (take_ofW B.out aq.out (by kernel_rfl)) (fun _ _ _ h=>h) (Or.inl ⟨by rfl,?_⟩) O ?_ ?_;rotate_left
   ·rintro w' ⟨s0,s1,s2,s3,s4,s5,s6,s7,s8,s9,az,aA⟩
    go_simp;with_reducible rfl
   rotate_left;·simp only[sP];rfl
   refine take_ (i:=11) (N:=some 22) (v:=?_) (a':=?_) #[Z,Z,Y,Z,Z,Z,Y,Z,Z,Y,Z,Z,Y,Y,Y] rfl rfl (take_ofW B.out aq.out (by kernel_rfl)) (fun _ _ _ h=>h) (Or.inl ⟨by rfl,?_⟩) O ?_ ?_;rotate_left
   ·rintro w' ⟨s0,s1,s2,s3,s4,s5,s6,s7,s8,s9,az,aA⟩
    go_simp;with_reducible rfl
   rotate_left;·simp only[sP];rfl
   refine pz 12 23 #[Z,Z,Y,Z,Z,Z,Y,Z,Z,Y,Z,Z,Z,Y,Y] B.out ?_
   refine one_ (i:=2) (N:=some 13) #[Z,Z,Z,Z,Z,Z,Y,Z,Z,Y,Z,Z,Z,Y,Y] rfl rfl (one_of B.out (by kernel_rfl)) (by decide) (fun K hK=>?_);refine Kd.R_lit_step (Kd.int .u8) _ 5 ?hg (N:=13) ?hd (xs:=([D]:List Int)) (inner:= [.int .u8 D]) (ok:=fun _=>True) (okp:=fun _=>True) ?hr ?hp (fun _ hk=>hk) trivial (Below.refl _ _) (Nat.le_refl _) (by simp) ?_;(case hd=>rfl);(case hg=>rfl);(case hr=>first|(go_simp;done)|(go_simp;rfl));(case hp=>exact (Reps.one (show Kd.M (Kd.int .u8) _ _ _ D [.int .u8 D] from rfl) (Reps.none _ _)));intro b7 dI b2 hb aK aM;clear aK aM
   (first|rw [← aH.out]at b2|(simp only[Int.reduceToNat]at b2;rw [← aH.out]at b2))
   have aw:=Ax (Kd.R_lower b2 (below_size (bw1 HB.out R.out)));replace A:=Bx0 A hb;replace HB:=Bs1 HB hb R.out;clear hb b2;obtain⟨bf,bg,cl⟩:=Kd.R_slice aw.out
   (first|subst cl|(injection cl with f1_ f2_ f3_;have aa:=f1_.symm;have ab:=f3_.symm;clear f1_ f2_ f3_;subst aa;subst ab))
   refine hK.out _ _ (bqc12 A.out) (fun O=>?_);clear hK K;refine norm_ (a':=?_) ?_ ?_;rotate_left
   ·show Act.put _ (some 13) _=_
    simp only[sP];rfl
   refine one_ (i:=6) (N:=some 17) #[Z,Z,Z,Z,Z,Z,Z,Z,Z,Y,Z,Z,Z,Y,Y] rfl rfl (one_of B.out (by kernel_rfl)) (by decide) (fun K hK=>?_);refine goes_ Try.func45 (by kernel_rfl) rfl #[.slice bf aC.length bg,.int .u64 (IntKind.u64.wrap (U))] (by rfl) rfl rfl gS ?_;with_reducible refine (num_Add.calls k (fun k_=>some k_=(.slice bf aC.length bg:Value).ownBlock) (.slice bf aC.length bg) aC (IntKind.u64.wrap (U)) ar w _ ?side1 ?side2 A4.out).mono ?_
   (case side1=>repeat (first|(with_reducible first|exact HB.out|apply below_alloc|apply pw_below_drewN|apply below_drew1|refine below_set ?_ R.out)|exact HB.out))
   (case side2=>exact Kd.R_tight rfl aw.out)
   rintro e dJ ⟨b8,rfl,E,hb,F⟩
   refine⟨_,rfl,?_⟩;have G:=Ax (blk_kept (bf0 A.out) F (fun T=>(fun e_=>(Kd.R_ne aw.out A.out (by decide)) e_) T));have I:=Ax (Kd.R_mono (ok':=fun k_=>True) E (fun k_ aD=>trivial));have L:=Ax (hb);clear A;clear HB;clear aw;have A:=G;have ax:=I;have HB:=L;clear G I L
   (try clear hb)
   (try clear F)
   (try clear E)
   obtain⟨bh,bi,cm⟩:=Kd.R_slice ax.out
   (first|subst cm|(injection cm with f1_ f2_ f3_;have aa:=f1_.symm;have ab:=f3_.symm;clear f1_ f2_ f3_;subst aa;subst ab))
   refine hK.out _ _ (bqc12 A.out) (fun O=>?_);clear hK K;refine norm_ (a':=?_) ?_ ?_;rotate_left
   ·show Act.put _ (some 17) _=_
    simp only[sP];rfl
   refine one_ (i:=9) (N:=some 20) #[Z,Z,Z,Z,Z,Z,Z,Z,Z,Z,Z,Z,Z,Y,Y] rfl rfl (one_of B.out (by kernel_rfl)) (by decide) (fun K hK=>?_);refine goes_ Try.func45 (by kernel_rfl) rfl #[.slice bh ar.length bi,.int .u64 V] (by rfl) rfl rfl gS ?_;with_reducible refine (num_Add.calls k (fun k_=>some k_=(.slice bh ar.length bi:Value).ownBlock) (.slice bh ar.length bi) ar V au w _ ?side1 ?side2 A5.out).mono ?_
   (case side1=>repeat (first|(with_reducible first|exact HB.out|apply below_alloc|apply pw_below_drewN|apply below_drew1|refine below_set ?_ R.out)|exact HB.out))
   (case side2=>exact Kd.R_tight rfl ax.out)
   rintro e dK ⟨b9,rfl,E,hb,F⟩
   refine⟨_,rfl,?_⟩;have G:=Ax (blk_kept (bf0 A.out) F (fun T=>(fun e_=>(Kd.R_ne ax.out A.out (by decide)) e_) T));have I:=Ax (Kd.R_mono (ok':=fun k_=>True) E (fun k_ aD=>trivial));have L:=Ax (hb);clear A;clear HB;clear ax;have A:=G;have ay:=I;have HB:=L;clear G I L
   (try clear hb)
   (try clear F)
   (try clear E)
   obtain⟨bj,bk,cn⟩:=Kd.R_slice ay.out
   (first|subst cn|(injection cn with f1_ f2_ f3_;have aa:=f1_.symm;have ab:=f3_.symm;clear f1_ f2_ f3_;subst aa;subst ab))
   refine hK.out _ _ (bqc12 A.out) (fun O=>?_);clear hK K;refine norm_ (a':=?_) ?_ ?_;rotate_left
   ·show Act.put _ (some 20) _=_
    simp only[sP];rfl
   refine one_ (i:=13) (N:=some 24) #[Z,Z,Z,Z,Z,Z,Z,Z,Z,Z,Z,Z,Z,Z,Y] rfl rfl (one_of B.out (by kernel_rfl)) (by decide) (fun K hK=>?_);refine goes_ Try.func45 (by kernel_rfl) rfl #[.slice bj au.length bk,.int .u64 (IntKind.u64.wrap (X))] (by rfl) rfl rfl gS ?_;with_reducible refine (num_Add.calls k (fun k_=>some k_=(.slice bj au.length bk:Value).ownBlock) (.slice bj au.length bk) au (IntKind.u64.wrap (X)) aj w _ ?side1 ?side2 A6.out).mono ?_
   (case side1=>repeat (first|(with_reducible first|exact HB.out|apply below_alloc|apply pw_below_drewN|apply below_drew1|refine below_set ?_ R.out)|exact HB.out))
   (case side2=>exact Kd.R_tight rfl ay.out)
   rintro e cP ⟨ba,rfl,E,hb,F⟩
   refine⟨_,rfl,?_⟩;have G:=Ax (blk_kept (bf0 A.out) F (fun T=>(fun e_=>(Kd.R_ne ay.out A.out (by decide)) e_) T));have I:=Ax (Kd.R_mono (ok':=fun k_=>True) E (fun k_ aD=>trivial));have L:=Ax (hb);clear A;clear HB;clear ay;have A:=G;have av:=I;have HB:=L;clear G I L
   (try clear hb)
   (try clear F)
   (try clear E)
   refine hK.out _ _ (bqc12 A.out) (fun O=>?_);clear hK K;refine norm_ (a':=?_) ?_ ?_;rotate_left
   ·show Act.put _ (some 24) _=_
    simp only[sP];rfl
   refine pz 14 5 #[Z,Z,Z,Z,Z,Z,Z,Z,Z,Z,Z,Z,Z,Z,Z] B.out ?_
   refine done_ (done_of B.out (by kernel_rfl)) ?_;obtain⟨dL,dM,dN,dO,dP,dQ,dR,dS,dU,dV,dW,dX,dY,dZ,e7,e8,e9,ea,eb,ec,ed,ee,ef,eg⟩:=cl12 A;try go_wp2
   replace av:=Ax (Kd.R_drew av.out);replace A:=Ax (blk_drew A.out);replace HB:=Ax (below_drew1 HB.out);obtain⟨bl,bm,co⟩:=Kd.R_slice av.out
   (first|subst co|(injection co with f1_ f2_ f3_;have aa:=f1_.symm;have ab:=f3_.symm;clear f1_ f2_ f3_;subst aa;subst ab))
   refine start_ (n:=8) (S:=fun w'=>w'.cell? ⟨C,0,none⟩=some (.int .u8 D)∧w'.cell? ⟨C,1,none⟩=some (.int .i64 U)∧w'.cell? ⟨C,2,none⟩=some (.int .u64 V)∧w'.cell? ⟨C,3,none⟩=some (.int .i64 X)∧w'.cell? ⟨C,4,none⟩=some (.bool ac)∧w'.cell? ⟨C,5,none⟩=some (.int .u64 ae)∧w'.cell? ⟨C,6,none⟩=some (.int .u64 af)∧w'.cell? ⟨C,7,none⟩=some (.int .i64 ag)∧w'.cell? ⟨C,8,none⟩=some (.int .u8 al)∧w'.cell? ⟨C,9,none⟩=some (.int .i64 am)∧w'.cell? ⟨C,10,none⟩=some (.int .i64 ah)∧w'.cell? ⟨C,11,none⟩=some (.int .i64 ap)) (ds:= []) #[Y,Y,Y,Y,Y,Y,Y,Y] (by kernel_rfl) rfl rfl (bqc12 A.out) (fun O=>?_);refine with_tabW msg_Put.tab7 msg_Put.bits7 (fun B aq=>?_);generalize cP.drew=w23 at av A HB O ⊢;refine pz 0 29 #[Z,Y,Y,Y,Y,Y,Y,Y] B.out ?_
   refine pz 1 30 #[Z,Z,Y,Y,Y,Y,Y,Y] B.out ?_
   refine pz 4 33 #[Z,Z,Y,Y,Z,Y,Y,Y] B.out ?_
   refine take_ (i:=2) (N:=some 31) (v:=?_) (a':=?_) #[Z,Z,Z,Y,Z,Y,Y,Y] rfl rfl (take_ofW B.out aq.out (by kernel_rfl)) (fun _ _ _ h=>h) (Or.inl ⟨by rfl,?_⟩) O ?_ ?_;rotate_left
   ·rintro w' ⟨s0,s1,s2,s3,s4,s5,s6,s7,s8,s9,az,aA⟩
    go_simp;with_reducible rfl
   rotate_left;·simp only[sP];rfl
   refine take_ (i:=5) (N:=some 34) (v:=?_) (a':=?_) #[Z,Z,Z,Y,Z,Z,Y,Y] rfl rfl (take_ofW B.out aq.out (by kernel_rfl)) (fun _ _ _ h=>h) (Or.inl ⟨by rfl,?_⟩) O ?_ ?_;rotate_left
   ·rintro w' ⟨s0,s1,s2,s3,s4,s5,s6,s7,s8,s9,az,aA⟩
    go_simp;with_reducible rfl
   rotate_left;·simp only[sP];rfl
   refine one_ (i:=3) (N:=some 32) #[Z,Z,Z,Z,Z,Z,Y,Y] rfl rfl (one_of B.out (by kernel_rfl)) (by decide) (fun K hK=>?_);refine goes_ Try.func47 (by kernel_rfl) rfl #[.slice bl aj.length bm,.agg #[.bool ac,.int .u64 ae,.int .u64 af,.int .i64 ag]] (by rfl) rfl rfl gS ?_;with_reducible refine (msg_prefix.calls (fun k_=>some k_=(.slice bl aj.length bm:Value).ownBlock) (.slice bl aj.length bm) aj ac ae af ag aI w _ ?side1 ?side2 A8.out).mono ?_
   (case side1=>repeat (first|(with_reducible first|exact HB.out|apply below_alloc|apply pw_below_drewN|apply below_drew1|refine below_set ?_ R.out)|exact HB.out))
   (case side2=>exact Kd.R_tight rfl av.out)
   rintro e eh ⟨ei,rfl,E,hb,F⟩
   refine⟨_,rfl,?_⟩;have G:=Ax (blk_kept (bf0 A.out) F (fun T=>(fun e_=>(Kd.R_ne av.out A.out (by decide)) e_) T));have I:=Ax (Kd.R_mono (ok':=fun k_=>True) E (fun k_ aD=>trivial));have L:=Ax (hb);clear A;clear HB;clear av;have A:=G;have bb:=I;have HB:=L;clear G I L
   (try clear hb)
   (try clear F)
   (try clear E)
   obtain⟨bn,bo,cq⟩:=Kd.R_slice bb.out
   (first|subst cq|(injection cq with f1_ f2_ f3_;have aa:=f1_.symm;have ab:=f3_.symm;clear f1_ f2_ f3_;subst aa;subst ab))
   refine hK.out _ _ (bqc12 A.out) (fun O=>?_);clear hK K;refine norm_ (a':=?_) ?_ ?_;rotate_left
   ·show Act.put _ (some 32) _=_
    simp only[sP];rfl
   refine one_ (i:=6) (N:=some 35) #[Z,Z,Z,Z,Z,Z,Z,Y] rfl rfl (one_of B.out (by kernel_rfl)) (by decide) (fun K hK=>?_);refine goes_ Try.func46 (by kernel_rfl) rfl #[.slice bn aI.length bo,.agg #[.int .u8 al,.int .i64 am]] (by rfl) rfl rfl gS ?_;with_reducible refine (msg_action.calls k (fun k_=>some k_=(.slice bn aI.length bo:Value).ownBlock) (.slice bn aI.length bo) aI al am aT w _ ?side1 ?side2 A9.out).mono ?_
   (case side1=>repeat (first|(with_reducible first|exact HB.out|apply below_alloc|apply pw_below_drewN|apply below_drew1|refine below_set ?_ R.out)|exact HB.out))
   (case side2=>exact Kd.R_tight rfl bb.out)
   rintro e ej ⟨ek,rfl,E,hb,F⟩
   refine⟨_,rfl,?_⟩;have G:=Ax (blk_kept (bf0 A.out) F (fun T=>(fun e_=>(Kd.R_ne bb.out A.out (by decide)) e_) T));have I:=Ax (Kd.R_mono (ok':=fun k_=>True) E (fun k_ aD=>trivial));have L:=Ax (hb);clear A;clear HB;clear bb;have A:=G;have cQ:=I;have HB:=L;clear G I L
   (try clear hb)
   (try clear F)
   (try clear E)
   refine hK.out _ _ (bqc12 A.out) (fun O=>?_);clear hK K;refine norm_ (a':=?_) ?_ ?_;rotate_left
   ·show Act.put _ (some 35) _=_
    simp only[sP];rfl
   refine pz 7 5 #[Z,Z,Z,Z,Z,Z,Z,Z] B.out ?_
   refine done_ (done_of B.out (by kernel_rfl)) ?_;have el:=own_string (P:=Try.prog) Try.underlying67 Try.underlying5 Try.underlying9 (Kd.own_of_R cQ.out);try go_wp2
   go_ret2;exact⟨eS,bw1 HB.out R.out⟩
  ·rw [if_neg c7]at H;have cM:(D==3)=false:=beq_eq_false_iff_ne.mpr c7;have cN:(D !=3)=true:=bne_iff_ne.mpr c7;by_cases aN:D=4
   ·rw [if_pos aN]at H;have cR:(D==4)=true:=beq_iff_eq.mpr aN;have cS:(D !=4)=false:=bne_eq_false_iff_eq.mpr aN;clear aN;replace H:=bI H;obtain⟨aU,cr,H⟩:=H;(try dsimp only at H);have cT:=Ax cr;clear cr;simp only[Option.some.injEq,Prod.mk.injEq]at H;obtain⟨rfl,rfl⟩:=H;go_enter Try.func23,Try.ntmps23;try go_wp2_with (first|((with_reducible refine gate_dst (N:=1) rfl ?_);refine bX (N:=1) (cs:= #[.int .u8 D,.int .i64 U,.int .u64 V,.int .i64 X,.bool ac,.int .u64 ae,.int .u64 af,.int .i64 ag,.int .u8 al,.int .i64 am,.int .i64 ah,.int .i64 ap]) (t:=35) ?_;intro C hg en aE hb;have A:=Ax (aE);have aZ:=Gw0 HB hg;have R:=Gw0 HB hg;replace HB:=Bs0 HB hb;clear hb aE hg;obtain⟨eo,ep,eq,er,es,et,eu,ev,ex,ey,ez,eA,eB,eC,eD,eE,eF,eG,eH,eI,eJ,eK,eL,eM⟩:=cl12 A)|((with_reducible refine gate_callee (f:=39) rfl ?_);refine goesL_ (some 7) rfl rfl Try.func39 (by kernel_rfl) rfl #[.agg #[.int .u8 D,.int .i64 U,.int .u64 V,.int .i64 X,.bool ac,.int .u64 ae,.int .u64 af,.int .i64 ag,.int .u8 al,.int .i64 am,.int .i64 ah,.int .i64 ap]] rfl gS ?_;(with_reducible refine (msg_Check.calls k D U V X ac ae af ag al am ah ap aG _ A2.out).mono ?_);rintro e cU ⟨rfl,hb⟩;refine⟨_,rfl,?_⟩;replace A:=Bx0 A hb;replace HB:=Bs1 HB hb R.out;(try clear hb)))
    replace A:=Ax (blk_drew A.out);replace HB:=Ax (below_drew1 HB.out);refine start_ (n:=15) (S:=fun w'=>w'.cell? ⟨C,0,none⟩=some (.int .u8 D)∧w'.cell? ⟨C,1,none⟩=some (.int .i64 U)∧w'.cell? ⟨C,2,none⟩=some (.int .u64 V)∧w'.cell? ⟨C,3,none⟩=some (.int .i64 X)∧w'.cell? ⟨C,4,none⟩=some (.bool ac)∧w'.cell? ⟨C,5,none⟩=some (.int .u64 ae)∧w'.cell? ⟨C,6,none⟩=some (.int .u64 af)∧w'.cell? ⟨C,7,none⟩=some (.int .i64 ag)∧w'.cell? ⟨C,8,none⟩=some (.int .u8 al)∧w'.cell? ⟨C,9,none⟩=some (.int .i64 am)∧w'.cell? ⟨C,10,none⟩=some (.int .i64 ah)∧w'.cell? ⟨C,11,none⟩=some (.int .i64 ap)) (ds:= []) #[Y,Y,Y,Y,Y,Y,Y,Y,Y,Y,Y,Y,Y,Y,Y] (by kernel_rfl) rfl rfl (bqc12 A.out) (fun O=>?_);refine with_tabW msg_Put.tab4 msg_Put.bits4 (fun B aq=>?_);generalize cU.drew=w34 at A HB O ⊢;refine pz 0 11 #[Z,Y,Y,Y,Y,Y,Y,Y,Y,Y,Y,Y,Y,Y,Y] B.out ?_
    refine pz 3 14 #[Z,Y,Y,Z,Y,Y,Y,Y,Y,Y,Y,Y,Y,Y,Y] B.out ?_
    refine pz 7 18 #[Z,Y,Y,Z,Y,Y,Y,Z,Y,Y,Y,Y,Y,Y,Y] B.out ?_
    refine pz 10 21 #[Z,Y,Y,Z,Y,Y,Y,Z,Y,Y,Z,Y,Y,Y,Y] B.out ?_
    refine take_ (i:=1) (N:=some 12) (v:=?_) (a':=?_) #[Z,Z,Y,Z,Y,Y,Y,Z,Y,Y,Z,Y,Y,Y,Y] rfl rfl (take_ofW B.out aq.out (by kernel_rfl)) (fun _ _ _ h=>h) (Or.inl ⟨by rfl,?_⟩) O ?_ ?_;rotate_left
    ·rintro w' ⟨s0,s1,s2,s3,s4,s5,s6,s7,s8,s9,az,aA⟩
     go_simp;with_reducible rfl
    rotate_left;·simp only[sP];rfl
    refine take_ (i:=4) (N:=some 15) (v:=?_) (a':=?_) #[Z,Z,Y,Z,Z,Y,Y,Z,Y,Y,Z,Y,Y,Y,Y] rfl rfl (take_ofW B.out aq.out (by kernel_rfl)) (fun _ _ _ h=>h) (Or.inl ⟨by rfl,?_⟩) O ?_ ?_;rotate_left
    ·rintro w' ⟨s0,s1,s2,s3,s4,s5,s6,s7,s8,s9,az,aA⟩
     go_simp;with_reducible rfl
    rotate_left;·simp only[sP];rfl
    refine pz 5 16 #[Z,Z,Y,Z,Z,Z,Y,Z,Y,Y,Z,Y,Y,Y,Y] B.out ?_
    refine take_ (i:=8) (N:=some 19) (v:=?_) (a':=?_) #[Z,Z,Y,Z,Z,Z,Y,Z,Z,Y,Z,Y,Y,Y,Y] rfl rfl (take_ofW B.out aq.out (by kernel_rfl)) (fun _ _ _ h=>h) (Or.inl ⟨by rfl,?_⟩) O ?_ ?_;rotate_left
    ·rintro w' ⟨s0,s1,s2,s3,s4,s5,s6,s7,s8,s9,az,aA⟩
     go_simp;with_reducible rfl
    rotate_left;·simp only[sP];rfl
    refine take_ (i:=11) (N:=some 22) (v:=?_) (a':=?_) #[Z,Z,Y,Z,Z,Z,Y,Z,Z,Y,Z,Z,Y,Y,Y] rfl rfl (take_ofW B.out aq.out (by kernel_rfl)) (fun _ _ _ h=>h) (Or.inl ⟨by rfl,?_⟩) O ?_ ?_;rotate_left
    ·rintro w' ⟨s0,s1,s2,s3,s4,s5,s6,s7,s8,s9,az,aA⟩
     go_simp;with_reducible rfl
    rotate_left;·simp only[sP];rfl
    refine pz 12 23 #[Z,Z,Y,Z,Z,Z,Y,Z,Z,Y,Z,Z,Z,Y,Y] B.out ?_
    refine one_ (i:=2) (N:=some 13) #[Z,Z,Z,Z,Z,Z,Y,Z,Z,Y,Z,Z,Z,Y,Y] rfl rfl (one_of B.out (by kernel_rfl)) (by decide) (fun K hK=>?_);refine Kd.R_lit_step (Kd.int .u8) _ 5 ?hg (N:=13) ?hd (xs:=([D]:List Int)) (inner:= [.int .u8 D]) (ok:=fun _=>True) (okp:=fun _=>True) ?hr ?hp (fun _ hk=>hk) trivial (Below.refl _ _) (Nat.le_refl _) (by simp) ?_;(case hd=>rfl);(case hg=>rfl);(case hr=>first|(go_simp;done)|(go_simp;rfl));(case hp=>exact (Reps.one (show Kd.M (Kd.int .u8) _ _ _ D [.int .u8 D] from rfl) (Reps.none _ _)));intro b7 eN b3 hb aK aM;clear aK aM
    (first|rw [← aH.out]at b3|(simp only[Int.reduceToNat]at b3;rw [← aH.out]at b3))
    have aw:=Ax (Kd.R_lower b3 (below_size (bw1 HB.out R.out)));replace A:=Bx0 A hb;replace HB:=Bs1 HB hb R.out;clear hb b3;obtain⟨bq,br,ct⟩:=Kd.R_slice aw.out
    (first|subst ct|(injection ct with f1_ f2_ f3_;have aa:=f1_.symm;have ab:=f3_.symm;clear f1_ f2_ f3_;subst aa;subst ab))
    refine hK.out _ _ (bqc12 A.out) (fun O=>?_);clear hK K;refine norm_ (a':=?_) ?_ ?_;rotate_left
    ·show Act.put _ (some 13) _=_
     simp only[sP];rfl
    refine one_ (i:=6) (N:=some 17) #[Z,Z,Z,Z,Z,Z,Z,Z,Z,Y,Z,Z,Z,Y,Y] rfl rfl (one_of B.out (by kernel_rfl)) (by decide) (fun K hK=>?_);refine goes_ Try.func45 (by kernel_rfl) rfl #[.slice bq aC.length br,.int .u64 (IntKind.u64.wrap (U))] (by rfl) rfl rfl gS ?_;with_reducible refine (num_Add.calls k (fun k_=>some k_=(.slice bq aC.length br:Value).ownBlock) (.slice bq aC.length br) aC (IntKind.u64.wrap (U)) ar w _ ?side1 ?side2 A4.out).mono ?_
    (case side1=>repeat (first|(with_reducible first|exact HB.out|apply below_alloc|apply pw_below_drewN|apply below_drew1|refine below_set ?_ R.out)|exact HB.out))
    (case side2=>exact Kd.R_tight rfl aw.out)
    rintro e eO ⟨b8,rfl,E,hb,F⟩
    refine⟨_,rfl,?_⟩;have G:=Ax (blk_kept (bf0 A.out) F (fun T=>(fun e_=>(Kd.R_ne aw.out A.out (by decide)) e_) T));have I:=Ax (Kd.R_mono (ok':=fun k_=>True) E (fun k_ aD=>trivial));have L:=Ax (hb);clear A;clear HB;clear aw;have A:=G;have ax:=I;have HB:=L;clear G I L
    (try clear hb)
    (try clear F)
    (try clear E)
    obtain⟨bu,bv,cu⟩:=Kd.R_slice ax.out
    (first|subst cu|(injection cu with f1_ f2_ f3_;have aa:=f1_.symm;have ab:=f3_.symm;clear f1_ f2_ f3_;subst aa;subst ab))
    refine hK.out _ _ (bqc12 A.out) (fun O=>?_);clear hK K;refine norm_ (a':=?_) ?_ ?_;rotate_left
    ·show Act.put _ (some 17) _=_
     simp only[sP];rfl
    refine one_ (i:=9) (N:=some 20) #[Z,Z,Z,Z,Z,Z,Z,Z,Z,Z,Z,Z,Z,Y,Y] rfl rfl (one_of B.out (by kernel_rfl)) (by decide) (fun K hK=>?_);refine goes_ Try.func45 (by kernel_rfl) rfl #[.slice bu ar.length bv,.int .u64 V] (by rfl) rfl rfl gS ?_;with_reducible refine (num_Add.calls k (fun k_=>some k_=(.slice bu ar.length bv:Value).ownBlock) (.slice bu ar.length bv) ar V au w _ ?side1 ?side2 A5.out).mono ?_
    (case side1=>repeat (first|(with_reducible first|exact HB.out|apply below_alloc|apply pw_below_drewN|apply below_drew1|refine below_set ?_ R.out)|exact HB.out))
    (case side2=>exact Kd.R_tight rfl ax.out)
    rintro e eP ⟨b9,rfl,E,hb,F⟩
    refine⟨_,rfl,?_⟩;have G:=Ax (blk_kept (bf0 A.out) F (fun T=>(fun e_=>(Kd.R_ne ax.out A.out (by decide)) e_) T));have I:=Ax (Kd.R_mono (ok':=fun k_=>True) E (fun k_ aD=>trivial));have L:=Ax (hb);clear A;clear HB;clear ax;have A:=G;have ay:=I;have HB:=L;clear G I L
    (try clear hb)
    (try clear F)
    (try clear E)
    obtain⟨bx,bz,cv⟩:=Kd.R_slice ay.out
    (first|subst cv|(injection cv with f1_ f2_ f3_;have aa:=f1_.symm;have ab:=f3_.symm;clear f1_ f2_ f3_;subst aa;subst ab))
    refine hK.out _ _ (bqc12 A.out) (fun O=>?_);clear hK K;refine norm_ (a':=?_) ?_ ?_;rotate_left
    ·show Act.put _ (some 20) _=_
     simp only[sP];rfl
    refine one_ (i:=13) (N:=some 24) #[Z,Z,Z,Z,Z,Z,Z,Z,Z,Z,Z,Z,Z,Z,Y] rfl rfl (one_of B.out (by kernel_rfl)) (by decide) (fun K hK=>?_);refine goes_ Try.func45 (by kernel_rfl) rfl #[.slice bx au.length bz,.int .u64 (IntKind.u64.wrap (X))] (by rfl) rfl rfl gS ?_;with_reducible refine (num_Add.calls k (fun k_=>some k_=(.slice bx au.length bz:Value).ownBlock) (.slice bx au.length bz) au (IntKind.u64.wrap (X)) aj w _ ?side1 ?side2 A6.out).mono ?_
    (case side1=>repeat (first|(with_reducible first|exact HB.out|apply below_alloc|apply pw_below_drewN|apply below_drew1|refine below_set ?_ R.out)|exact HB.out))
    (case side2=>exact Kd.R_tight rfl ay.out)
    rintro e eQ ⟨ba,rfl,E,hb,F⟩
    refine⟨_,rfl,?_⟩;have G:=Ax (blk_kept (bf0 A.out) F (fun T=>(fun e_=>(Kd.R_ne ay.out A.out (by decide)) e_) T));have I:=Ax (Kd.R_mono (ok':=fun k_=>True) E (fun k_ aD=>trivial));have L:=Ax (hb);clear A;clear HB;clear ay;have A:=G;have av:=I;have HB:=L;clear G I L
    (try clear hb)
    (try clear F)
    (try clear E)
    refine hK.out _ _ (bqc12 A.out) (fun O=>?_);clear hK K;refine norm_ (a':=?_) ?_ ?_;rotate_left
    ·show Act.put _ (some 24) _=_
     simp only[sP];rfl
    refine pz 14 5 #[Z,Z,Z,Z,Z,Z,Z,Z,Z,Z,Z,Z,Z,Z,Z] B.out ?_
    refine done_ (done_of B.out (by kernel_rfl)) ?_;obtain⟨eR,eT,eU,eV,eW,eX,eY,eZ,fb,fc,fd,fe,fg,fh,fi,fj,fk,fl,fm,fo,fp,fq,ft,fu⟩:=cl12 A;obtain⟨bA,bB,cV⟩:=Kd.R_slice av.out;subst cV;try go_wp2_with (first|((with_reducible refine gate_callee (f:=47) rfl ?_);refine goesL_ (some 41) rfl rfl Try.func47 (by kernel_rfl) rfl #[.slice bA aj.length bB,.agg #[.bool ac,.int .u64 ae,.int .u64 af,.int .i64 ag]] rfl gS ?_;(with_reducible refine (msg_prefix.calls (fun k_=>some k_=(.slice bA aj.length bB:Value).ownBlock) (.slice bA aj.length bB) aj ac ae af ag aU w _ ?side1 ?side2 cT.out).mono ?_);(case side1=>repeat (first|(with_reducible first|exact HB.out|apply below_alloc|apply pw_below_drewN|apply below_drew1|refine below_set ?_ R.out)|exact HB.out));(case side2=>exact Kd.R_tight rfl av.out);rintro e fv ⟨fw,rfl,E,hb,F⟩;refine⟨_,rfl,?_⟩;have G:=Ax (blk_kept (bf0 A.out) F (fun T=>(fun e_=>(Kd.R_ne av.out A.out (by decide)) e_) T));have I:=Ax (Kd.R_mono (ok':=fun k_=>True) E (fun k_ aD=>trivial));have L:=Ax (hb);clear A;clear HB;clear av;have A:=G;have cW:=I;have HB:=L;clear G I L;(try clear hb);(try clear F);(try clear E);have fx:=own_string (P:=Try.prog) Try.underlying67 Try.underlying5 Try.underlying9 (Kd.own_of_R cW.out)))
    go_ret2;exact⟨eS,bw1 HB.out R.out⟩
   ·rw [if_neg aN]at H;have cR:(D==4)=false:=beq_eq_false_iff_ne.mpr aN;have cS:(D !=4)=true:=bne_iff_ne.mpr aN;by_cases aQ:D=5
    ·rw [if_pos aQ]at H;have cX:(D==5)=true:=beq_iff_eq.mpr aQ;have cY:(D !=5)=false:=bne_eq_false_iff_eq.mpr aQ;clear aQ;replace H:=bI H;obtain⟨aJ,cw,H⟩:=H;(try dsimp only at H);have cZ:=Ax cw;clear cw;replace H:=bI H;obtain⟨aV,cx,H⟩:=H;(try dsimp only at H);have d2:=Ax cx;clear cx;simp only[Option.some.injEq,Prod.mk.injEq]at H;obtain⟨rfl,rfl⟩:=H;go_enter Try.func23,Try.ntmps23;try go_wp2_with (first|((with_reducible refine gate_dst (N:=1) rfl ?_);refine bX (N:=1) (cs:= #[.int .u8 D,.int .i64 U,.int .u64 V,.int .i64 X,.bool ac,.int .u64 ae,.int .u64 af,.int .i64 ag,.int .u8 al,.int .i64 am,.int .i64 ah,.int .i64 ap]) (t:=35) ?_;intro C hg fy aE hb;have A:=Ax (aE);have aZ:=Gw0 HB hg;have R:=Gw0 HB hg;replace HB:=Bs0 HB hb;clear hb aE hg;obtain⟨fz,fA,fB,fC,fD,fE,fF,fG,fH,fI,fJ,fK,fL,fM,fN,fO,fP,fQ,fR,fS,fT,fU,fV,fW⟩:=cl12 A)|((with_reducible refine gate_callee (f:=39) rfl ?_);refine goesL_ (some 7) rfl rfl Try.func39 (by kernel_rfl) rfl #[.agg #[.int .u8 D,.int .i64 U,.int .u64 V,.int .i64 X,.bool ac,.int .u64 ae,.int .u64 af,.int .i64 ag,.int .u8 al,.int .i64 am,.int .i64 ah,.int .i64 ap]] rfl gS ?_;(with_reducible refine (msg_Check.calls k D U V X ac ae af ag al am ah ap aG _ A2.out).mono ?_);rintro e d3 ⟨rfl,hb⟩;refine⟨_,rfl,?_⟩;replace A:=Bx0 A hb;replace HB:=Bs1 HB hb R.out;(try clear hb)))
     replace A:=Ax (blk_drew A.out);replace HB:=Ax (below_drew1 HB.out);refine start_ (n:=15) (S:=fun w'=>w'.cell? ⟨C,0,none⟩=some (.int .u8 D)∧w'.cell? ⟨C,1,none⟩=some (.int .i64 U)∧w'.cell? ⟨C,2,none⟩=some (.int .u64 V)∧w'.cell? ⟨C,3,none⟩=some (.int .i64 X)∧w'.cell? ⟨C,4,none⟩=some (.bool ac)∧w'.cell? ⟨C,5,none⟩=some (.int .u64 ae)∧w'.cell? ⟨C,6,none⟩=some (.int .u64 af)∧w'.cell? ⟨C,7,none⟩=some (.int .i64 ag)∧w'.cell? ⟨C,8,none⟩=some (.int .u8 al)∧w'.cell? ⟨C,9,none⟩=some (.int .i64 am)∧w'.cell? ⟨C,10,none⟩=some (.int .i64 ah)∧w'.cell? ⟨C,11,none⟩=some (.int .i64 ap)) (ds:= []) #[Y,Y,Y,Y,Y,Y,Y,Y,Y,Y,Y,Y,Y,Y,Y] (by kernel_rfl) rfl rfl (bqc12 A.out) (fun O=>?_);refine with_tabW msg_Put.tab4 msg_Put.bits4 (fun B aq=>?_);generalize d3.drew=w53 at A HB O ⊢;refine pz 0 11 #[Z,Y,Y,Y,Y,Y,Y,Y,Y,Y,Y,Y,Y,Y,Y] B.out ?_
     refine pz 3 14 #[Z,Y,Y,Z,Y,Y,Y,Y,Y,Y,Y,Y,Y,Y,Y] B.out ?_
     refine pz 7 18 #[Z,Y,Y,Z,Y,Y,Y,Z,Y,Y,Y,Y,Y,Y,Y] B.out ?_
     refine pz 10 21 #[Z,Y,Y,Z,Y,Y,Y,Z,Y,Y,Z,Y,Y,Y,Y] B.out ?_
     refine take_ (i:=1) (N:=some 12) (v:=?_) (a':=?_) #[Z,Z,Y,Z,Y,Y,Y,Z,Y,Y,Z,Y,Y,Y,Y] rfl rfl (take_ofW B.out aq.out (by kernel_rfl)) (fun _ _ _ h=>h) (Or.inl ⟨by rfl,?_⟩) O ?_ ?_;rotate_left
     ·rintro w' ⟨s0,s1,s2,s3,s4,s5,s6,s7,s8,s9,az,aA⟩
      go_simp;with_reducible rfl
     rotate_left;·simp only[sP];rfl
     refine take_ (i:=4) (N:=some 15) (v:=?_) (a':=?_) #[Z,Z,Y,Z,Z,Y,Y,Z,Y,Y,Z,Y,Y,Y,Y] rfl rfl (take_ofW B.out aq.out (by kernel_rfl)) (fun _ _ _ h=>h) (Or.inl ⟨by rfl,?_⟩) O ?_ ?_;rotate_left
     ·rintro w' ⟨s0,s1,s2,s3,s4,s5,s6,s7,s8,s9,az,aA⟩
      go_simp;with_reducible rfl
     rotate_left;·simp only[sP];rfl
     refine pz 5 16 #[Z,Z,Y,Z,Z,Z,Y,Z,Y,Y,Z,Y,Y,Y,Y] B.out ?_
     refine take_ (i:=8) (N:=some 19) (v:=?_) (a':=?_) #[Z,Z,Y,Z,Z,Z,Y,Z,Z,Y,Z,Y,Y,Y,Y] rfl rfl (take_ofW B.out aq.out (by kernel_rfl)) (fun _ _ _ h=>h) (Or.inl ⟨by rfl,?_⟩) O ?_ ?_;rotate_left
     ·rintro w' ⟨s0,s1,s2,s3,s4,s5,s6,s7,s8,s9,az,aA⟩
      go_simp;with_reducible rfl
     rotate_left;·simp only[sP];rfl
     refine take_ (i:=11) (N:=some 22) (v:=?_) (a':=?_) #[Z,Z,Y,Z,Z,Z,Y,Z,Z,Y,Z,Z,Y,Y,Y] rfl rfl (take_ofW B.out aq.out (by kernel_rfl)) (fun _ _ _ h=>h) (Or.inl ⟨by rfl,?_⟩) O ?_ ?_;rotate_left
     ·rintro w' ⟨s0,s1,s2,s3,s4,s5,s6,s7,s8,s9,az,aA⟩
      go_simp;with_reducible rfl
     rotate_left;·simp only[sP];rfl
     refine pz 12 23 #[Z,Z,Y,Z,Z,Z,Y,Z,Z,Y,Z,Z,Z,Y,Y] B.out ?_
     refine one_ (i:=2) (N:=some 13) #[Z,Z,Z,Z,Z,Z,Y,Z,Z,Y,Z,Z,Z,Y,Y] rfl rfl (one_of B.out (by kernel_rfl)) (by decide) (fun K hK=>?_);refine Kd.R_lit_step (Kd.int .u8) _ 5 ?hg (N:=13) ?hd (xs:=([D]:List Int)) (inner:= [.int .u8 D]) (ok:=fun _=>True) (okp:=fun _=>True) ?hr ?hp (fun _ hk=>hk) trivial (Below.refl _ _) (Nat.le_refl _) (by simp) ?_;(case hd=>rfl);(case hg=>rfl);(case hr=>first|(go_simp;done)|(go_simp;rfl));(case hp=>exact (Reps.one (show Kd.M (Kd.int .u8) _ _ _ D [.int .u8 D] from rfl) (Reps.none _ _)));intro b7 fX b4 hb aK aM;clear aK aM
     (first|rw [← aH.out]at b4|(simp only[Int.reduceToNat]at b4;rw [← aH.out]at b4))
     have aw:=Ax (Kd.R_lower b4 (below_size (bw1 HB.out R.out)));replace A:=Bx0 A hb;replace HB:=Bs1 HB hb R.out;clear hb b4;obtain⟨bC,bD,cy⟩:=Kd.R_slice aw.out
     (first|subst cy|(injection cy with f1_ f2_ f3_;have aa:=f1_.symm;have ab:=f3_.symm;clear f1_ f2_ f3_;subst aa;subst ab))
     refine hK.out _ _ (bqc12 A.out) (fun O=>?_);clear hK K;refine norm_ (a':=?_) ?_ ?_;rotate_left
     ·show Act.put _ (some 13) _=_
      simp only[sP];rfl
     refine one_ (i:=6) (N:=some 17) #[Z,Z,Z,Z,Z,Z,Z,Z,Z,Y,Z,Z,Z,Y,Y] rfl rfl (one_of B.out (by kernel_rfl)) (by decide) (fun K hK=>?_);refine goes_ Try.func45 (by kernel_rfl) rfl #[.slice bC aC.length bD,.int .u64 (IntKind.u64.wrap (U))] (by rfl) rfl rfl gS ?_;with_reducible refine (num_Add.calls k (fun k_=>some k_=(.slice bC aC.length bD:Value).ownBlock) (.slice bC aC.length bD) aC (IntKind.u64.wrap (U)) ar w _ ?side1 ?side2 A4.out).mono ?_
     (case side1=>repeat (first|(with_reducible first|exact HB.out|apply below_alloc|apply pw_below_drewN|apply below_drew1|refine below_set ?_ R.out)|exact HB.out))
     (case side2=>exact Kd.R_tight rfl aw.out)
     rintro e fY ⟨b8,rfl,E,hb,F⟩
     refine⟨_,rfl,?_⟩;have G:=Ax (blk_kept (bf0 A.out) F (fun T=>(fun e_=>(Kd.R_ne aw.out A.out (by decide)) e_) T));have I:=Ax (Kd.R_mono (ok':=fun k_=>True) E (fun k_ aD=>trivial));have L:=Ax (hb);clear A;clear HB;clear aw;have A:=G;have ax:=I;have HB:=L;clear G I L
     (try clear hb)
     (try clear F)
     (try clear E)
     obtain⟨bE,bF,cz⟩:=Kd.R_slice ax.out
     (first|subst cz|(injection cz with f1_ f2_ f3_;have aa:=f1_.symm;have ab:=f3_.symm;clear f1_ f2_ f3_;subst aa;subst ab))
     refine hK.out _ _ (bqc12 A.out) (fun O=>?_);clear hK K;refine norm_ (a':=?_) ?_ ?_;rotate_left
     ·show Act.put _ (some 17) _=_
      simp only[sP];rfl
     refine one_ (i:=9) (N:=some 20) #[Z,Z,Z,Z,Z,Z,Z,Z,Z,Z,Z,Z,Z,Y,Y] rfl rfl (one_of B.out (by kernel_rfl)) (by decide) (fun K hK=>?_);refine goes_ Try.func45 (by kernel_rfl) rfl #[.slice bE ar.length bF,.int .u64 V] (by rfl) rfl rfl gS ?_;with_reducible refine (num_Add.calls k (fun k_=>some k_=(.slice bE ar.length bF:Value).ownBlock) (.slice bE ar.length bF) ar V au w _ ?side1 ?side2 A5.out).mono ?_
     (case side1=>repeat (first|(with_reducible first|exact HB.out|apply below_alloc|apply pw_below_drewN|apply below_drew1|refine below_set ?_ R.out)|exact HB.out))
     (case side2=>exact Kd.R_tight rfl ax.out)
     rintro e fZ ⟨b9,rfl,E,hb,F⟩
     refine⟨_,rfl,?_⟩;have G:=Ax (blk_kept (bf0 A.out) F (fun T=>(fun e_=>(Kd.R_ne ax.out A.out (by decide)) e_) T));have I:=Ax (Kd.R_mono (ok':=fun k_=>True) E (fun k_ aD=>trivial));have L:=Ax (hb);clear A;clear HB;clear ax;have A:=G;have ay:=I;have HB:=L;clear G I L
     (try clear hb)
     (try clear F)
     (try clear E)
     obtain⟨bG,bH,cA⟩:=Kd.R_slice ay.out
     (first|subst cA|(injection cA with f1_ f2_ f3_;have aa:=f1_.symm;have ab:=f3_.symm;clear f1_ f2_ f3_;subst aa;subst ab))
     refine hK.out _ _ (bqc12 A.out) (fun O=>?_);clear hK K;refine norm_ (a':=?_) ?_ ?_;rotate_left
     ·show Act.put _ (some 20) _=_
      simp only[sP];rfl
     refine one_ (i:=13) (N:=some 24) #[Z,Z,Z,Z,Z,Z,Z,Z,Z,Z,Z,Z,Z,Z,Y] rfl rfl (one_of B.out (by kernel_rfl)) (by decide) (fun K hK=>?_);refine goes_ Try.func45 (by kernel_rfl) rfl #[.slice bG au.length bH,.int .u64 (IntKind.u64.wrap (X))] (by rfl) rfl rfl gS ?_;with_reducible refine (num_Add.calls k (fun k_=>some k_=(.slice bG au.length bH:Value).ownBlock) (.slice bG au.length bH) au (IntKind.u64.wrap (X)) aj w _ ?side1 ?side2 A6.out).mono ?_
     (case side1=>repeat (first|(with_reducible first|exact HB.out|apply below_alloc|apply pw_below_drewN|apply below_drew1|refine below_set ?_ R.out)|exact HB.out))
     (case side2=>exact Kd.R_tight rfl ay.out)
     rintro e d4 ⟨ba,rfl,E,hb,F⟩
     refine⟨_,rfl,?_⟩;have G:=Ax (blk_kept (bf0 A.out) F (fun T=>(fun e_=>(Kd.R_ne ay.out A.out (by decide)) e_) T));have I:=Ax (Kd.R_mono (ok':=fun k_=>True) E (fun k_ aD=>trivial));have L:=Ax (hb);clear A;clear HB;clear ay;have A:=G;have av:=I;have HB:=L;clear G I L
     (try clear hb)
     (try clear F)
     (try clear E)
     refine hK.out _ _ (bqc12 A.out) (fun O=>?_);clear hK K;refine norm_ (a':=?_) ?_ ?_;rotate_left
     ·show Act.put _ (some 24) _=_
      simp only[sP];rfl
     refine pz 14 5 #[Z,Z,Z,Z,Z,Z,Z,Z,Z,Z,Z,Z,Z,Z,Z] B.out ?_
     refine done_ (done_of B.out (by kernel_rfl)) ?_;obtain⟨g6,g7,g8,g9,ga,gb,gc,gh,gi,gj,gl,gn,gq,gt,gu,gv,gx,gy,gz,gA,gC,gD,gE,gG⟩:=cl12 A;try go_wp2
     replace av:=Ax (Kd.R_drew av.out);replace A:=Ax (blk_drew A.out);replace HB:=Ax (below_drew1 HB.out);obtain⟨bJ,bK,cB⟩:=Kd.R_slice av.out
     (first|subst cB|(injection cB with f1_ f2_ f3_;have aa:=f1_.symm;have ab:=f3_.symm;clear f1_ f2_ f3_;subst aa;subst ab))
     refine start_ (n:=10) (S:=fun w'=>w'.cell? ⟨C,0,none⟩=some (.int .u8 D)∧w'.cell? ⟨C,1,none⟩=some (.int .i64 U)∧w'.cell? ⟨C,2,none⟩=some (.int .u64 V)∧w'.cell? ⟨C,3,none⟩=some (.int .i64 X)∧w'.cell? ⟨C,4,none⟩=some (.bool ac)∧w'.cell? ⟨C,5,none⟩=some (.int .u64 ae)∧w'.cell? ⟨C,6,none⟩=some (.int .u64 af)∧w'.cell? ⟨C,7,none⟩=some (.int .i64 ag)∧w'.cell? ⟨C,8,none⟩=some (.int .u8 al)∧w'.cell? ⟨C,9,none⟩=some (.int .i64 am)∧w'.cell? ⟨C,10,none⟩=some (.int .i64 ah)∧w'.cell? ⟨C,11,none⟩=some (.int .i64 ap)) (ds:= []) #[Y,Y,Y,Y,Y,Y,Y,Y,Y,Y] (by kernel_rfl) rfl rfl (bqc12 A.out) (fun O=>?_);refine with_tabW msg_Put.tab11 msg_Put.bits11 (fun B aq=>?_);generalize d4.drew=w63 at av A HB O ⊢;refine pz 0 44 #[Z,Y,Y,Y,Y,Y,Y,Y,Y,Y] B.out ?_
     refine pz 1 45 #[Z,Z,Y,Y,Y,Y,Y,Y,Y,Y] B.out ?_
     refine pz 5 49 #[Z,Z,Y,Y,Y,Z,Y,Y,Y,Y] B.out ?_
     refine take_ (i:=2) (N:=some 46) (v:=?_) (a':=?_) #[Z,Z,Z,Y,Y,Z,Y,Y,Y,Y] rfl rfl (take_ofW B.out aq.out (by kernel_rfl)) (fun _ _ _ h=>h) (Or.inl ⟨by rfl,?_⟩) O ?_ ?_;rotate_left
     ·rintro w' ⟨s0,s1,s2,s3,s4,s5,s6,s7,s8,s9,az,aA⟩
      go_simp;with_reducible rfl
     rotate_left;·simp only[sP];rfl
     refine pz 3 47 #[Z,Z,Z,Z,Y,Z,Y,Y,Y,Y] B.out ?_
     refine take_ (i:=6) (N:=some 50) (v:=?_) (a':=?_) #[Z,Z,Z,Z,Y,Z,Z,Y,Y,Y] rfl rfl (take_ofW B.out aq.out (by kernel_rfl)) (fun _ _ _ h=>h) (Or.inl ⟨by rfl,?_⟩) O ?_ ?_;rotate_left
     ·rintro w' ⟨s0,s1,s2,s3,s4,s5,s6,s7,s8,s9,az,aA⟩
      go_simp;with_reducible rfl
     rotate_left;·simp only[sP];rfl
     refine pz 7 51 #[Z,Z,Z,Z,Y,Z,Z,Z,Y,Y] B.out ?_
     refine one_ (i:=4) (N:=some 48) #[Z,Z,Z,Z,Z,Z,Z,Z,Y,Y] rfl rfl (one_of B.out (by kernel_rfl)) (by decide) (fun K hK=>?_);refine goes_ Try.func45 (by kernel_rfl) rfl #[.slice bJ aj.length bK,.int .u64 (IntKind.u64.wrap (ah))] (by rfl) rfl rfl gS ?_;with_reducible refine (num_Add.calls k (fun k_=>some k_=(.slice bJ aj.length bK:Value).ownBlock) (.slice bJ aj.length bK) aj (IntKind.u64.wrap (ah)) aJ w _ ?side1 ?side2 cZ.out).mono ?_
     (case side1=>repeat (first|(with_reducible first|exact HB.out|apply below_alloc|apply pw_below_drewN|apply below_drew1|refine below_set ?_ R.out)|exact HB.out))
     (case side2=>exact Kd.R_tight rfl av.out)
     rintro e gH ⟨gI,rfl,E,hb,F⟩
     refine⟨_,rfl,?_⟩;have G:=Ax (blk_kept (bf0 A.out) F (fun T=>(fun e_=>(Kd.R_ne av.out A.out (by decide)) e_) T));have I:=Ax (Kd.R_mono (ok':=fun k_=>True) E (fun k_ aD=>trivial));have L:=Ax (hb);clear A;clear HB;clear av;have A:=G;have bc:=I;have HB:=L;clear G I L
     (try clear hb)
     (try clear F)
     (try clear E)
     obtain⟨bL,bM,cC⟩:=Kd.R_slice bc.out
     (first|subst cC|(injection cC with f1_ f2_ f3_;have aa:=f1_.symm;have ab:=f3_.symm;clear f1_ f2_ f3_;subst aa;subst ab))
     refine hK.out _ _ (bqc12 A.out) (fun O=>?_);clear hK K;refine norm_ (a':=?_) ?_ ?_;rotate_left
     ·show Act.put _ (some 48) _=_
      simp only[sP];rfl
     refine one_ (i:=8) (N:=some 52) #[Z,Z,Z,Z,Z,Z,Z,Z,Z,Y] rfl rfl (one_of B.out (by kernel_rfl)) (by decide) (fun K hK=>?_);refine goes_ Try.func45 (by kernel_rfl) rfl #[.slice bL aJ.length bM,.int .u64 (IntKind.u64.wrap (ap))] (by rfl) rfl rfl gS ?_;with_reducible refine (num_Add.calls k (fun k_=>some k_=(.slice bL aJ.length bM:Value).ownBlock) (.slice bL aJ.length bM) aJ (IntKind.u64.wrap (ap)) aV w _ ?side1 ?side2 d2.out).mono ?_
     (case side1=>repeat (first|(with_reducible first|exact HB.out|apply below_alloc|apply pw_below_drewN|apply below_drew1|refine below_set ?_ R.out)|exact HB.out))
     (case side2=>exact Kd.R_tight rfl bc.out)
     rintro e gJ ⟨gM,rfl,E,hb,F⟩
     refine⟨_,rfl,?_⟩;have G:=Ax (blk_kept (bf0 A.out) F (fun T=>(fun e_=>(Kd.R_ne bc.out A.out (by decide)) e_) T));have I:=Ax (Kd.R_mono (ok':=fun k_=>True) E (fun k_ aD=>trivial));have L:=Ax (hb);clear A;clear HB;clear bc;have A:=G;have d5:=I;have HB:=L;clear G I L
     (try clear hb)
     (try clear F)
     (try clear E)
     refine hK.out _ _ (bqc12 A.out) (fun O=>?_);clear hK K;refine norm_ (a':=?_) ?_ ?_;rotate_left
     ·show Act.put _ (some 52) _=_
      simp only[sP];rfl
     refine pz 9 5 #[Z,Z,Z,Z,Z,Z,Z,Z,Z,Z] B.out ?_
     refine done_ (done_of B.out (by kernel_rfl)) ?_;have gN:=own_string (P:=Try.prog) Try.underlying67 Try.underlying5 Try.underlying9 (Kd.own_of_R d5.out);try go_wp2
     go_ret2;exact⟨eS,bw1 HB.out R.out⟩
    ·rw [if_neg aQ]at H;have cX:(D==5)=false:=beq_eq_false_iff_ne.mpr aQ;have cY:(D !=5)=true:=bne_iff_ne.mpr aQ;by_cases aR:D=6
     ·rw [if_pos aR]at H;have d6:(D==6)=true:=beq_iff_eq.mpr aR;have d7:(D !=6)=false:=bne_eq_false_iff_eq.mpr aR;clear aR;replace H:=bI H;obtain⟨aW,cD,H⟩:=H;(try dsimp only at H);have d8:=Ax cD;clear cD;simp only[Option.some.injEq,Prod.mk.injEq]at H;obtain⟨rfl,rfl⟩:=H;go_enter Try.func23,Try.ntmps23;try go_wp2_with (first|((with_reducible refine gate_dst (N:=1) rfl ?_);refine bX (N:=1) (cs:= #[.int .u8 D,.int .i64 U,.int .u64 V,.int .i64 X,.bool ac,.int .u64 ae,.int .u64 af,.int .i64 ag,.int .u8 al,.int .i64 am,.int .i64 ah,.int .i64 ap]) (t:=35) ?_;intro C hg gO aE hb;have A:=Ax (aE);have aZ:=Gw0 HB hg;have R:=Gw0 HB hg;replace HB:=Bs0 HB hb;clear hb aE hg;obtain⟨gP,gQ,gR,gT,gU,gV,gW,gX,gY,gZ,hH,hL,hO,hP,hU,hX,hZ,i1,i2,i3,i4,i5,i6,i7⟩:=cl12 A)|((with_reducible refine gate_callee (f:=39) rfl ?_);refine goesL_ (some 7) rfl rfl Try.func39 (by kernel_rfl) rfl #[.agg #[.int .u8 D,.int .i64 U,.int .u64 V,.int .i64 X,.bool ac,.int .u64 ae,.int .u64 af,.int .i64 ag,.int .u8 al,.int .i64 am,.int .i64 ah,.int .i64 ap]] rfl gS ?_;(with_reducible refine (msg_Check.calls k D U V X ac ae af ag al am ah ap aG _ A2.out).mono ?_);rintro e d9 ⟨rfl,hb⟩;refine⟨_,rfl,?_⟩;replace A:=Bx0 A hb;replace HB:=Bs1 HB hb R.out;(try clear hb)))
      replace A:=Ax (blk_drew A.out);replace HB:=Ax (below_drew1 HB.out);refine start_ (n:=15) (S:=fun w'=>w'.cell? ⟨C,0,none⟩=some (.int .u8 D)∧w'.cell? ⟨C,1,none⟩=some (.int .i64 U)∧w'.cell? ⟨C,2,none⟩=some (.int .u64 V)∧w'.cell? ⟨C,3,none⟩=some (.int .i64 X)∧w'.cell? ⟨C,4,none⟩=some (.bool ac)∧w'.cell? ⟨C,5,none⟩=some (.int .u64 ae)∧w'.cell? ⟨C,6,none⟩=some (.int .u64 af)∧w'.cell? ⟨C,7,none⟩=some (.int .i64 ag)∧w'.cell? ⟨C,8,none⟩=some (.int .u8 al)∧w'.cell? ⟨C,9,none⟩=some (.int .i64 am)∧w'.cell? ⟨C,10,none⟩=some (.int .i64 ah)∧w'.cell? ⟨C,11,none⟩=some (.int .i64 ap)) (ds:= []) #[Y,Y,Y,Y,Y,Y,Y,Y,Y,Y,Y,Y,Y,Y,Y] (by kernel_rfl) rfl rfl (bqc12 A.out) (fun O=>?_);refine with_tabW msg_Put.tab4 msg_Put.bits4 (fun B aq=>?_);generalize d9.drew=w74 at A HB O ⊢;refine pz 0 11 #[Z,Y,Y,Y,Y,Y,Y,Y,Y,Y,Y,Y,Y,Y,Y] B.out ?_
      refine pz 3 14 #[Z,Y,Y,Z,Y,Y,Y,Y,Y,Y,Y,Y,Y,Y,Y] B.out ?_
      refine pz 7 18 #[Z,Y,Y,Z,Y,Y,Y,Z,Y,Y,Y,Y,Y,Y,Y] B.out ?_
      refine pz 10 21 #[Z,Y,Y,Z,Y,Y,Y,Z,Y,Y,Z,Y,Y,Y,Y] B.out ?_
      refine take_ (i:=1) (N:=some 12) (v:=?_) (a':=?_) #[Z,Z,Y,Z,Y,Y,Y,Z,Y,Y,Z,Y,Y,Y,Y] rfl rfl (take_ofW B.out aq.out (by kernel_rfl)) (fun _ _ _ h=>h) (Or.inl ⟨by rfl,?_⟩) O ?_ ?_;rotate_left
      ·rintro w' ⟨s0,s1,s2,s3,s4,s5,s6,s7,s8,s9,az,aA⟩
       go_simp;with_reducible rfl
      rotate_left;·simp only[sP];rfl
      refine take_ (i:=4) (N:=some 15) (v:=?_) (a':=?_) #[Z,Z,Y,Z,Z,Y,Y,Z,Y,Y,Z,Y,Y,Y,Y] rfl rfl (take_ofW B.out aq.out (by kernel_rfl)) (fun _ _ _ h=>h) (Or.inl ⟨by rfl,?_⟩) O ?_ ?_;rotate_left
      ·rintro w' ⟨s0,s1,s2,s3,s4,s5,s6,s7,s8,s9,az,aA⟩
       go_simp;with_reducible rfl
      rotate_left;·simp only[sP];rfl
      refine pz 5 16 #[Z,Z,Y,Z,Z,Z,Y,Z,Y,Y,Z,Y,Y,Y,Y] B.out ?_
      refine take_ (i:=8) (N:=some 19) (v:=?_) (a':=?_) #[Z,Z,Y,Z,Z,Z,Y,Z,Z,Y,Z,Y,Y,Y,Y] rfl rfl (take_ofW B.out aq.out (by kernel_rfl)) (fun _ _ _ h=>h) (Or.inl ⟨by rfl,?_⟩) O ?_ ?_;rotate_left
      ·rintro w' ⟨s0,s1,s2,s3,s4,s5,s6,s7,s8,s9,az,aA⟩
       go_simp;with_reducible rfl
      rotate_left;·simp only[sP];rfl
      refine take_ (i:=11) (N:=some 22) (v:=?_) (a':=?_) #[Z,Z,Y,Z,Z,Z,Y,Z,Z,Y,Z,Z,Y,Y,Y] rfl rfl (take_ofW B.out aq.out (by kernel_rfl)) (fun _ _ _ h=>h) (Or.inl ⟨by rfl,?_⟩) O ?_ ?_;rotate_left
      ·rintro w' ⟨s0,s1,s2,s3,s4,s5,s6,s7,s8,s9,az,aA⟩
       go_simp;with_reducible rfl
      rotate_left;·simp only[sP];rfl
      refine pz 12 23 #[Z,Z,Y,Z,Z,Z,Y,Z,Z,Y,Z,Z,Z,Y,Y] B.out ?_
      refine one_ (i:=2) (N:=some 13) #[Z,Z,Z,Z,Z,Z,Y,Z,Z,Y,Z,Z,Z,Y,Y] rfl rfl (one_of B.out (by kernel_rfl)) (by decide) (fun K hK=>?_);refine Kd.R_lit_step (Kd.int .u8) _ 5 ?hg (N:=13) ?hd (xs:=([D]:List Int)) (inner:= [.int .u8 D]) (ok:=fun _=>True) (okp:=fun _=>True) ?hr ?hp (fun _ hk=>hk) trivial (Below.refl _ _) (Nat.le_refl _) (by simp) ?_;(case hd=>rfl);(case hg=>rfl);(case hr=>first|(go_simp;done)|(go_simp;rfl));(case hp=>exact (Reps.one (show Kd.M (Kd.int .u8) _ _ _ D [.int .u8 D] from rfl) (Reps.none _ _)));intro b7 i8 b5 hb aK aM;clear aK aM
      (first|rw [← aH.out]at b5|(simp only[Int.reduceToNat]at b5;rw [← aH.out]at b5))
      have aw:=Ax (Kd.R_lower b5 (below_size (bw1 HB.out R.out)));replace A:=Bx0 A hb;replace HB:=Bs1 HB hb R.out;clear hb b5;obtain⟨bN,bO,cE⟩:=Kd.R_slice aw.out
      (first|subst cE|(injection cE with f1_ f2_ f3_;have aa:=f1_.symm;have ab:=f3_.symm;clear f1_ f2_ f3_;subst aa;subst ab))
      refine hK.out _ _ (bqc12 A.out) (fun O=>?_);clear hK K;refine norm_ (a':=?_) ?_ ?_;rotate_left
      ·show Act.put _ (some 13) _=_
       simp only[sP];rfl
      refine one_ (i:=6) (N:=some 17) #[Z,Z,Z,Z,Z,Z,Z,Z,Z,Y,Z,Z,Z,Y,Y] rfl rfl (one_of B.out (by kernel_rfl)) (by decide) (fun K hK=>?_);refine goes_ Try.func45 (by kernel_rfl) rfl #[.slice bN aC.length bO,.int .u64 (IntKind.u64.wrap (U))] (by rfl) rfl rfl gS ?_;with_reducible refine (num_Add.calls k (fun k_=>some k_=(.slice bN aC.length bO:Value).ownBlock) (.slice bN aC.length bO) aC (IntKind.u64.wrap (U)) ar w _ ?side1 ?side2 A4.out).mono ?_
      (case side1=>repeat (first|(with_reducible first|exact HB.out|apply below_alloc|apply pw_below_drewN|apply below_drew1|refine below_set ?_ R.out)|exact HB.out))
      (case side2=>exact Kd.R_tight rfl aw.out)
      rintro e i9 ⟨b8,rfl,E,hb,F⟩
      refine⟨_,rfl,?_⟩;have G:=Ax (blk_kept (bf0 A.out) F (fun T=>(fun e_=>(Kd.R_ne aw.out A.out (by decide)) e_) T));have I:=Ax (Kd.R_mono (ok':=fun k_=>True) E (fun k_ aD=>trivial));have L:=Ax (hb);clear A;clear HB;clear aw;have A:=G;have ax:=I;have HB:=L;clear G I L
      (try clear hb)
      (try clear F)
      (try clear E)
      obtain⟨bP,bQ,cF⟩:=Kd.R_slice ax.out
      (first|subst cF|(injection cF with f1_ f2_ f3_;have aa:=f1_.symm;have ab:=f3_.symm;clear f1_ f2_ f3_;subst aa;subst ab))
      refine hK.out _ _ (bqc12 A.out) (fun O=>?_);clear hK K;refine norm_ (a':=?_) ?_ ?_;rotate_left
      ·show Act.put _ (some 17) _=_
       simp only[sP];rfl
      refine one_ (i:=9) (N:=some 20) #[Z,Z,Z,Z,Z,Z,Z,Z,Z,Z,Z,Z,Z,Y,Y] rfl rfl (one_of B.out (by kernel_rfl)) (by decide) (fun K hK=>?_);refine goes_ Try.func45 (by kernel_rfl) rfl #[.slice bP ar.length bQ,.int .u64 V] (by rfl) rfl rfl gS ?_;with_reducible refine (num_Add.calls k (fun k_=>some k_=(.slice bP ar.length bQ:Value).ownBlock) (.slice bP ar.length bQ) ar V au w _ ?side1 ?side2 A5.out).mono ?_
      (case side1=>repeat (first|(with_reducible first|exact HB.out|apply below_alloc|apply pw_below_drewN|apply below_drew1|refine below_set ?_ R.out)|exact HB.out))
      (case side2=>exact Kd.R_tight rfl ax.out)
      rintro e ia ⟨b9,rfl,E,hb,F⟩
      refine⟨_,rfl,?_⟩;have G:=Ax (blk_kept (bf0 A.out) F (fun T=>(fun e_=>(Kd.R_ne ax.out A.out (by decide)) e_) T));have I:=Ax (Kd.R_mono (ok':=fun k_=>True) E (fun k_ aD=>trivial));have L:=Ax (hb);clear A;clear HB;clear ax;have A:=G;have ay:=I;have HB:=L;clear G I L
      (try clear hb)
      (try clear F)
      (try clear E)
      obtain⟨bR,bS,cG⟩:=Kd.R_slice ay.out
      (first|subst cG|(injection cG with f1_ f2_ f3_;have aa:=f1_.symm;have ab:=f3_.symm;clear f1_ f2_ f3_;subst aa;subst ab))
      refine hK.out _ _ (bqc12 A.out) (fun O=>?_);clear hK K;refine norm_ (a':=?_) ?_ ?_;rotate_left
      ·show Act.put _ (some 20) _=_
       simp only[sP];rfl
      refine one_ (i:=13) (N:=some 24) #[Z,Z,Z,Z,Z,Z,Z,Z,Z,Z,Z,Z,Z,Z,Y] rfl rfl (one_of B.out (by kernel_rfl)) (by decide) (fun K hK=>?_);refine goes_ Try.func45 (by kernel_rfl) rfl #[.slice bR au.length bS,.int .u64 (IntKind.u64.wrap (X))] (by rfl) rfl rfl gS ?_;with_reducible refine (num_Add.calls k (fun k_=>some k_=(.slice bR au.length bS:Value).ownBlock) (.slice bR au.length bS) au (IntKind.u64.wrap (X)) aj w _ ?side1 ?side2 A6.out).mono ?_
      (case side1=>repeat (first|(with_reducible first|exact HB.out|apply below_alloc|apply pw_below_drewN|apply below_drew1|refine below_set ?_ R.out)|exact HB.out))
      (case side2=>exact Kd.R_tight rfl ay.out)
      rintro e ib ⟨ba,rfl,E,hb,F⟩
      refine⟨_,rfl,?_⟩;have G:=Ax (blk_kept (bf0 A.out) F (fun T=>(fun e_=>(Kd.R_ne ay.out A.out (by decide)) e_) T));have I:=Ax (Kd.R_mono (ok':=fun k_=>True) E (fun k_ aD=>trivial));have L:=Ax (hb);clear A;clear HB;clear ay;have A:=G;have av:=I;have HB:=L;clear G I L
      (try clear hb)
      (try clear F)
      (try clear E)
      refine hK.out _ _ (bqc12 A.out) (fun O=>?_);clear hK K;refine norm_ (a':=?_) ?_ ?_;rotate_left
      ·show Act.put _ (some 24) _=_
       simp only[sP];rfl
      refine pz 14 5 #[Z,Z,Z,Z,Z,Z,Z,Z,Z,Z,Z,Z,Z,Z,Z] B.out ?_
      refine done_ (done_of B.out (by kernel_rfl)) ?_;obtain⟨ic,ie,ig,ii,ij,ik,il,im,io,ip,iq,ir,iu,iv,iw,ix,iy,iz,iA,iB,iC,iD,iE,iF⟩:=cl12 A;obtain⟨bT,bU,da⟩:=Kd.R_slice av.out;subst da;try go_wp2_with (first|((with_reducible refine gate_callee (f:=45) rfl ?_);refine goesL_ (some 59) rfl rfl Try.func45 (by kernel_rfl) rfl #[.slice bT aj.length bU,.int .u64 (IntKind.u64.wrap (ah))] rfl gS ?_;(with_reducible refine (num_Add.calls k (fun k_=>some k_=(.slice bT aj.length bU:Value).ownBlock) (.slice bT aj.length bU) aj (IntKind.u64.wrap (ah)) aW w _ ?side1 ?side2 d8.out).mono ?_);(case side1=>repeat (first|(with_reducible first|exact HB.out|apply below_alloc|apply pw_below_drewN|apply below_drew1|refine below_set ?_ R.out)|exact HB.out));(case side2=>exact Kd.R_tight rfl av.out);rintro e iG ⟨iH,rfl,E,hb,F⟩;refine⟨_,rfl,?_⟩;have G:=Ax (blk_kept (bf0 A.out) F (fun T=>(fun e_=>(Kd.R_ne av.out A.out (by decide)) e_) T));have I:=Ax (Kd.R_mono (ok':=fun k_=>True) E (fun k_ aD=>trivial));have L:=Ax (hb);clear A;clear HB;clear av;have A:=G;have db:=I;have HB:=L;clear G I L;(try clear hb);(try clear F);(try clear E);have iI:=own_string (P:=Try.prog) Try.underlying67 Try.underlying5 Try.underlying9 (Kd.own_of_R db.out)))
      go_ret2;exact⟨eS,bw1 HB.out R.out⟩
     ·rw [if_neg aR]at H;have d6:(D==6)=false:=beq_eq_false_iff_ne.mpr aR;have d7:(D !=6)=true:=bne_iff_ne.mpr aR;simp only[Option.some.injEq,Prod.mk.injEq]at H;obtain⟨rfl,rfl⟩:=H;go_enter Try.func23,Try.ntmps23;try go_wp2_with (first|((with_reducible refine gate_dst (N:=1) rfl ?_);refine bX (N:=1) (cs:= #[.int .u8 D,.int .i64 U,.int .u64 V,.int .i64 X,.bool ac,.int .u64 ae,.int .u64 af,.int .i64 ag,.int .u8 al,.int .i64 am,.int .i64 ah,.int .i64 ap]) (t:=35) ?_;intro C hg iJ aE hb;have A:=Ax (aE);have aZ:=Gw0 HB hg;have R:=Gw0 HB hg;replace HB:=Bs0 HB hb;clear hb aE hg;obtain⟨iK,iL,iM,iN,iO,iP,iQ,iR,iS,iT,iU,iV,iW,iX,iY,iZ,j7,j8,j9,ja,jb,jc,jd,je⟩:=cl12 A)|((with_reducible refine gate_callee (f:=39) rfl ?_);refine goesL_ (some 7) rfl rfl Try.func39 (by kernel_rfl) rfl #[.agg #[.int .u8 D,.int .i64 U,.int .u64 V,.int .i64 X,.bool ac,.int .u64 ae,.int .u64 af,.int .i64 ag,.int .u8 al,.int .i64 am,.int .i64 ah,.int .i64 ap]] rfl gS ?_;(with_reducible refine (msg_Check.calls k D U V X ac ae af ag al am ah ap aG _ A2.out).mono ?_);rintro e dc ⟨rfl,hb⟩;refine⟨_,rfl,?_⟩;replace A:=Bx0 A hb;replace HB:=Bs1 HB hb R.out;(try clear hb)))
      replace A:=Ax (blk_drew A.out);replace HB:=Ax (below_drew1 HB.out);refine start_ (n:=15) (S:=fun w'=>w'.cell? ⟨C,0,none⟩=some (.int .u8 D)∧w'.cell? ⟨C,1,none⟩=some (.int .i64 U)∧w'.cell? ⟨C,2,none⟩=some (.int .u64 V)∧w'.cell? ⟨C,3,none⟩=some (.int .i64 X)∧w'.cell? ⟨C,4,none⟩=some (.bool ac)∧w'.cell? ⟨C,5,none⟩=some (.int .u64 ae)∧w'.cell? ⟨C,6,none⟩=some (.int .u64 af)∧w'.cell? ⟨C,7,none⟩=some (.int .i64 ag)∧w'.cell? ⟨C,8,none⟩=some (.int .u8 al)∧w'.cell? ⟨C,9,none⟩=some (.int .i64 am)∧w'.cell? ⟨C,10,none⟩=some (.int .i64 ah)∧w'.cell? ⟨C,11,none⟩=some (.int .i64 ap)) (ds:= []) #[Y,Y,Y,Y,Y,Y,Y,Y,Y,Y,Y,Y,Y,Y,Y] (by kernel_rfl) rfl rfl (bqc12 A.out) (fun O=>?_);refine with_tabW msg_Put.tab4 msg_Put.bits4 (fun B aq=>?_);generalize dc.drew=w90 at A HB O ⊢;refine pz 0 11 #[Z,Y,Y,Y,Y,Y,Y,Y,Y,Y,Y,Y,Y,Y,Y] B.out ?_
      refine pz 3 14 #[Z,Y,Y,Z,Y,Y,Y,Y,Y,Y,Y,Y,Y,Y,Y] B.out ?_
      refine pz 7 18 #[Z,Y,Y,Z,Y,Y,Y,Z,Y,Y,Y,Y,Y,Y,Y] B.out ?_
      refine pz 10 21 #[Z,Y,Y,Z,Y,Y,Y,Z,Y,Y,Z,Y,Y,Y,Y] B.out ?_
      refine take_ (i:=1) (N:=some 12) (v:=?_) (a':=?_) #[Z,Z,Y,Z,Y,Y,Y,Z,Y,Y,Z,Y,Y,Y,Y] rfl rfl (take_ofW B.out aq.out (by kernel_rfl)) (fun _ _ _ h=>h) (Or.inl ⟨by rfl,?_⟩) O ?_ ?_;rotate_left
      ·rintro w' ⟨s0,s1,s2,s3,s4,s5,s6,s7,s8,s9,az,aA⟩
       go_simp;with_reducible rfl
      rotate_left;·simp only[sP];rfl
      refine take_ (i:=4) (N:=some 15) (v:=?_) (a':=?_) #[Z,Z,Y,Z,Z,Y,Y,Z,Y,Y,Z,Y,Y,Y,Y] rfl rfl (take_ofW B.out aq.out (by kernel_rfl)) (fun _ _ _ h=>h) (Or.inl ⟨by rfl,?_⟩) O ?_ ?_;rotate_left
      ·rintro w' ⟨s0,s1,s2,s3,s4,s5,s6,s7,s8,s9,az,aA⟩
       go_simp;with_reducible rfl
      rotate_left;·simp only[sP];rfl
      refine pz 5 16 #[Z,Z,Y,Z,Z,Z,Y,Z,Y,Y,Z,Y,Y,Y,Y] B.out ?_
      refine take_ (i:=8) (N:=some 19) (v:=?_) (a':=?_) #[Z,Z,Y,Z,Z,Z,Y,Z,Z,Y,Z,Y,Y,Y,Y] rfl rfl (take_ofW B.out aq.out (by kernel_rfl)) (fun _ _ _ h=>h) (Or.inl ⟨by rfl,?_⟩) O ?_ ?_;rotate_left
      ·rintro w' ⟨s0,s1,s2,s3,s4,s5,s6,s7,s8,s9,az,aA⟩
       go_simp;with_reducible rfl
      rotate_left;·simp only[sP];rfl
      refine take_ (i:=11) (N:=some 22) (v:=?_) (a':=?_) #[Z,Z,Y,Z,Z,Z,Y,Z,Z,Y,Z,Z,Y,Y,Y] rfl rfl (take_ofW B.out aq.out (by kernel_rfl)) (fun _ _ _ h=>h) (Or.inl ⟨by rfl,?_⟩) O ?_ ?_;rotate_left
      ·rintro w' ⟨s0,s1,s2,s3,s4,s5,s6,s7,s8,s9,az,aA⟩
       go_simp;with_reducible rfl
      rotate_left;·simp only[sP];rfl
      refine pz 12 23 #[Z,Z,Y,Z,Z,Z,Y,Z,Z,Y,Z,Z,Z,Y,Y] B.out ?_
      refine one_ (i:=2) (N:=some 13) #[Z,Z,Z,Z,Z,Z,Y,Z,Z,Y,Z,Z,Z,Y,Y] rfl rfl (one_of B.out (by kernel_rfl)) (by decide) (fun K hK=>?_);refine Kd.R_lit_step (Kd.int .u8) _ 5 ?hg (N:=13) ?hd (xs:=([D]:List Int)) (inner:= [.int .u8 D]) (ok:=fun _=>True) (okp:=fun _=>True) ?hr ?hp (fun _ hk=>hk) trivial (Below.refl _ _) (Nat.le_refl _) (by simp) ?_;(case hd=>rfl);(case hg=>rfl);(case hr=>first|(go_simp;done)|(go_simp;rfl));(case hp=>exact (Reps.one (show Kd.M (Kd.int .u8) _ _ _ D [.int .u8 D] from rfl) (Reps.none _ _)));intro b7 jf b6 hb aK aM;clear aK aM
      (first|rw [← aH.out]at b6|(simp only[Int.reduceToNat]at b6;rw [← aH.out]at b6))
      have aw:=Ax (Kd.R_lower b6 (below_size (bw1 HB.out R.out)));replace A:=Bx0 A hb;replace HB:=Bs1 HB hb R.out;clear hb b6;obtain⟨bV,bW,cH⟩:=Kd.R_slice aw.out
      (first|subst cH|(injection cH with f1_ f2_ f3_;have aa:=f1_.symm;have ab:=f3_.symm;clear f1_ f2_ f3_;subst aa;subst ab))
      refine hK.out _ _ (bqc12 A.out) (fun O=>?_);clear hK K;refine norm_ (a':=?_) ?_ ?_;rotate_left
      ·show Act.put _ (some 13) _=_
       simp only[sP];rfl
      refine one_ (i:=6) (N:=some 17) #[Z,Z,Z,Z,Z,Z,Z,Z,Z,Y,Z,Z,Z,Y,Y] rfl rfl (one_of B.out (by kernel_rfl)) (by decide) (fun K hK=>?_);refine goes_ Try.func45 (by kernel_rfl) rfl #[.slice bV aC.length bW,.int .u64 (IntKind.u64.wrap (U))] (by rfl) rfl rfl gS ?_;with_reducible refine (num_Add.calls k (fun k_=>some k_=(.slice bV aC.length bW:Value).ownBlock) (.slice bV aC.length bW) aC (IntKind.u64.wrap (U)) ar w _ ?side1 ?side2 A4.out).mono ?_
      (case side1=>repeat (first|(with_reducible first|exact HB.out|apply below_alloc|apply pw_below_drewN|apply below_drew1|refine below_set ?_ R.out)|exact HB.out))
      (case side2=>exact Kd.R_tight rfl aw.out)
      rintro e jg ⟨b8,rfl,E,hb,F⟩
      refine⟨_,rfl,?_⟩;have G:=Ax (blk_kept (bf0 A.out) F (fun T=>(fun e_=>(Kd.R_ne aw.out A.out (by decide)) e_) T));have I:=Ax (Kd.R_mono (ok':=fun k_=>True) E (fun k_ aD=>trivial));have L:=Ax (hb);clear A;clear HB;clear aw;have A:=G;have ax:=I;have HB:=L;clear G I L
      (try clear hb)
      (try clear F)
      (try clear E)
      obtain⟨bY,bZ,cI⟩:=Kd.R_slice ax.out
      (first|subst cI|(injection cI with f1_ f2_ f3_;have aa:=f1_.symm;have ab:=f3_.symm;clear f1_ f2_ f3_;subst aa;subst ab))
      refine hK.out _ _ (bqc12 A.out) (fun O=>?_);clear hK K;refine norm_ (a':=?_) ?_ ?_;rotate_left
      ·show Act.put _ (some 17) _=_
       simp only[sP];rfl
      refine one_ (i:=9) (N:=some 20) #[Z,Z,Z,Z,Z,Z,Z,Z,Z,Z,Z,Z,Z,Y,Y] rfl rfl (one_of B.out (by kernel_rfl)) (by decide) (fun K hK=>?_);refine goes_ Try.func45 (by kernel_rfl) rfl #[.slice bY ar.length bZ,.int .u64 V] (by rfl) rfl rfl gS ?_;with_reducible refine (num_Add.calls k (fun k_=>some k_=(.slice bY ar.length bZ:Value).ownBlock) (.slice bY ar.length bZ) ar V au w _ ?side1 ?side2 A5.out).mono ?_
      (case side1=>repeat (first|(with_reducible first|exact HB.out|apply below_alloc|apply pw_below_drewN|apply below_drew1|refine below_set ?_ R.out)|exact HB.out))
      (case side2=>exact Kd.R_tight rfl ax.out)
      rintro e jh ⟨b9,rfl,E,hb,F⟩
      refine⟨_,rfl,?_⟩;have G:=Ax (blk_kept (bf0 A.out) F (fun T=>(fun e_=>(Kd.R_ne ax.out A.out (by decide)) e_) T));have I:=Ax (Kd.R_mono (ok':=fun k_=>True) E (fun k_ aD=>trivial));have L:=Ax (hb);clear A;clear HB;clear ax;have A:=G;have ay:=I;have HB:=L;clear G I L
      (try clear hb)
      (try clear F)
      (try clear E)
      obtain⟨cd,ce,cJ⟩:=Kd.R_slice ay.out
      (first|subst cJ|(injection cJ with f1_ f2_ f3_;have aa:=f1_.symm;have ab:=f3_.symm;clear f1_ f2_ f3_;subst aa;subst ab))
      refine hK.out _ _ (bqc12 A.out) (fun O=>?_);clear hK K;refine norm_ (a':=?_) ?_ ?_;rotate_left
      ·show Act.put _ (some 20) _=_
       simp only[sP];rfl
      refine one_ (i:=13) (N:=some 24) #[Z,Z,Z,Z,Z,Z,Z,Z,Z,Z,Z,Z,Z,Z,Y] rfl rfl (one_of B.out (by kernel_rfl)) (by decide) (fun K hK=>?_);refine goes_ Try.func45 (by kernel_rfl) rfl #[.slice cd au.length ce,.int .u64 (IntKind.u64.wrap (X))] (by rfl) rfl rfl gS ?_;with_reducible refine (num_Add.calls k (fun k_=>some k_=(.slice cd au.length ce:Value).ownBlock) (.slice cd au.length ce) au (IntKind.u64.wrap (X)) aj w _ ?side1 ?side2 A6.out).mono ?_
      (case side1=>repeat (first|(with_reducible first|exact HB.out|apply below_alloc|apply pw_below_drewN|apply below_drew1|refine below_set ?_ R.out)|exact HB.out))
      (case side2=>exact Kd.R_tight rfl ay.out)
      rintro e ji ⟨ba,rfl,E,hb,F⟩
      refine⟨_,rfl,?_⟩;have G:=Ax (blk_kept (bf0 A.out) F (fun T=>(fun e_=>(Kd.R_ne ay.out A.out (by decide)) e_) T));have I:=Ax (Kd.R_mono (ok':=fun k_=>True) E (fun k_ aD=>trivial));have L:=Ax (hb);clear A;clear HB;clear ay;have A:=G;have av:=I;have HB:=L;clear G I L
      (try clear hb)
      (try clear F)
      (try clear E)
      refine hK.out _ _ (bqc12 A.out) (fun O=>?_);clear hK K;refine norm_ (a':=?_) ?_ ?_;rotate_left
      ·show Act.put _ (some 24) _=_
       simp only[sP];rfl
      refine pz 14 5 #[Z,Z,Z,Z,Z,Z,Z,Z,Z,Z,Z,Z,Z,Z,Z] B.out ?_
      refine done_ (done_of B.out (by kernel_rfl)) ?_;obtain⟨jj,jk,jl,jm,jn,jo,jp,jq,jr,js,jt,ju,jv,jw,jx,jy,jz,jA,jB,jC,jD,jE,jF,jG⟩:=cl12 A;have jH:=own_string (P:=Try.prog) Try.underlying67 Try.underlying5 Try.underlying9 (Kd.own_of_R av.out);try go_wp2
      go_ret2;exact⟨eS,bw1 HB.out R.out⟩
 ·rw [if_neg c3]at H;have cK:(aG==0)=false:=beq_eq_false_iff_ne.mpr c3;have cL:(aG !=0)=true:=bne_iff_ne.mpr c3;simp only[Option.some.injEq,Prod.mk.injEq]at H;obtain⟨rfl,rfl⟩:=H;go_enter Try.func23,Try.ntmps23;go_wp2_with (first|((with_reducible refine gate_dst (N:=1) rfl ?_);refine bX (N:=1) (cs:= #[.int .u8 D,.int .i64 U,.int .u64 V,.int .i64 X,.bool ac,.int .u64 ae,.int .u64 af,.int .i64 ag,.int .u8 al,.int .i64 am,.int .i64 ah,.int .i64 ap]) (t:=35) ?_;intro C hg jI aE hb;have A:=Ax (aE);have aZ:=Gw0 HB hg;have R:=Gw0 HB hg;replace HB:=Bs0 HB hb;clear hb aE hg;obtain⟨jJ,jK,jL,jM,jN,jO,jP,jQ,jR,jS,jT,jU,jV,jW,jX,jY,jZ,k3,k4,k5,k6,k7,k8,k9⟩:=cl12 A)|((with_reducible refine gate_callee (f:=39) rfl ?_);refine goesL_ (some 7) rfl rfl Try.func39 (by kernel_rfl) rfl #[.agg #[.int .u8 D,.int .i64 U,.int .u64 V,.int .i64 X,.bool ac,.int .u64 ae,.int .u64 af,.int .i64 ag,.int .u8 al,.int .i64 am,.int .i64 ah,.int .i64 ap]] rfl gS ?_;(with_reducible refine (msg_Check.calls k D U V X ac ae af ag al am ah ap aG _ A2.out).mono ?_);rintro e ka ⟨rfl,hb⟩;refine⟨_,rfl,?_⟩;replace A:=Bx0 A hb;replace HB:=Bs1 HB hb R.out;(try clear hb)));go_ret2;exact⟨eS,bw1 HB.out R.out⟩
def cutter_fit.f (a0:Int):Option (Bool):=if a0 ≥ 1 then (some (decide (a0≤64))) else (some false)
set_option maxHeartbeats 8000000 in
set_option maxRecDepth 100000 in
theorem cutter_fit.calls (a0:Int) (r:Bool) (w:World) (h:cutter_fit.f a0=some r):
  Calls Try.prog 48 #[.int .i64 a0] w fun e w'=>e= .returned (.bool r)∧Drawn0 w w':=by
 have H:(if a0 ≥ 1 then (some (decide (a0≤64))) else (some false))=some r:=h;clear h;by_cases c2:a0 ≥ 1;·rw [if_pos c2]at H;have aa:decide (1≤a0)=true:=dT c2;clear c2;obtain rfl:=Option.some.inj H;go_enter Try.func48,Try.ntmps48;go_wp2;go_ret;exact⟨by first|rfl|(simp;done)|(simp [*];done),by repeat (first|exact Drawn0.refl _|apply Drawn0.step)⟩
 ·rw [if_neg c2]at H;have aa:decide (1≤a0)=false:=dF c2;clear c2;obtain rfl:=Option.some.inj H;go_enter Try.func48,Try.ntmps48;go_wp2;go_ret;exact⟨by first|rfl|(simp;done)|(simp [*];done),by repeat (first|exact Drawn0.refl _|apply Drawn0.step)⟩
def cutter_Wrap.f (a0:ByteArray):Option (ByteArray × Int):=(cutter_fit.f (a0.size:Int)).bind fun aa=>(if aa=true then ((some (([245,0,((a0.size:Int)) % 256]:List Int):List Int)).bind fun A=>(if (strOfNums A).size+a0.size≤9223372036854775807 then (some ((strOfNums A)++a0,0)) else (none))) else (some ((⟨#[]⟩:ByteArray),11)))
set_option maxHeartbeats 8000000 in
set_option maxRecDepth 100000 in
theorem cutter_Wrap.calls (a0:ByteArray) (r1:ByteArray) (r2:Int) (w:World) (h:cutter_Wrap.f a0=some (r1,r2)):
  Calls Try.prog 24 #[.string a0] w fun e w'=>e= .returned (.tuple #[.string r1,.int .i64 r2])∧Below w.heap.size w w':=by
 have HB:=Ax (Below.refl w.heap.size w);have H:((cutter_fit.f (a0.size:Int)).bind fun D=>(if D=true then ((some (([245,0,((a0.size:Int)) % 256]:List Int):List Int)).bind fun A=>(if (strOfNums A).size+a0.size≤9223372036854775807 then (some ((strOfNums A)++a0,0)) else (none))) else (some ((⟨#[]⟩:ByteArray),11))))=some (r1,r2):=h;clear h;replace H:=bI H;obtain⟨D,F,H⟩:=H;(try dsimp only at H);have A2:=Ax F;clear F;by_cases c3:D=true
 ·subst c3;have H1:((some (([245,0,((a0.size:Int)) % 256]:List Int):List Int)).bind fun A=>(if (strOfNums A).size+a0.size≤9223372036854775807 then (some ((strOfNums A)++a0,0)) else (none)))=some (r1,r2):=by rw [if_pos rfl]at H;exact H
  clear H;have H:=H1;clear H1;obtain⟨A,B⟩: ∃ y_:List Int,y_=(([245,0,((a0.size:Int)) % 256]:List Int)):=⟨_,rfl⟩;replace H:(if (strOfNums A).size+a0.size≤9223372036854775807 then (some ((strOfNums A)++a0,0)) else (none))=some (r1,r2):=by first|(rw [B];with_reducible exact H)|(have E:=(Option.bind_some _ _).symm.trans H;rw [B];with_reducible exact E)|(have E:=(Option.bind_some _ _).symm.trans H;with_reducible exact E)|with_reducible exact H|(rw [B];exact H)|exact H
  have G:=Ax B;clear B;by_cases c4:(strOfNums A).size+a0.size≤9223372036854775807
  ·rw [if_pos c4]at H;have ae:=eq_true c4;have af:decide ((strOfNums A).size+a0.size≤9223372036854775807)=true:=dT c4;try have ag:(9223372036854775807<(strOfNums A).size+a0.size)=False:=eq_false (Nat.not_lt.2 c4)
   simp only[Option.some.injEq,Prod.mk.injEq]at H;obtain⟨rfl,rfl⟩:=H;go_enter Try.func24,Try.ntmps24;go_wp2_with (first|((with_reducible refine gate_callee (f:=48) rfl ?_);refine goesL_ (some 6) rfl rfl Try.func48 (by kernel_rfl) rfl #[.int .i64 (a0.size:Int)] rfl gS ?_;(with_reducible refine (cutter_fit.calls (a0.size:Int) true _ A2.out).mono ?_);rintro e w' ⟨rfl,⟨nd,rfl⟩⟩;refine⟨_,rfl,?_⟩)|((with_reducible refine gate_dst (N:=11) rfl ?_);refine Kd.R_lit (Kd.int .u8) _ 5 ?hg (N:=11) ?hd (xs:=([245,0,((a0.size:Int)) % 256]:List Int)) (inner:= [.int .u8 245,.int .u8 0,.int .u8 (((a0.size:Int)) % 256)]) (ok:=fun _=>True) (okp:=fun _=>True) ?hr ?hp (fun _ hk=>hk) trivial (Below.refl _ _) (Nat.le_refl _) (by simp) ?_;(case hd=>rfl);(case hg=>rfl);(case hr=>first|(go_simp;done)|(go_simp;rfl));(case hp=>exact (Reps.one (show Kd.M (Kd.int .u8) _ _ _ 245 [.int .u8 245] from rfl) (Reps.one (show Kd.M (Kd.int .u8) _ _ _ 0 [.int .u8 0] from rfl) (Reps.one (show Kd.M (Kd.int .u8) _ _ _ (((a0.size:Int)) % 256) [.int .u8 (((a0.size:Int)) % 256)] from rfl) (Reps.none _ _)))));intro ah w5 C hb aa ab;clear aa ab;(first|rw [← G.out]at C|(simp only[Int.reduceToNat]at C;rw [← G.out]at C));have ac:=Ax (Kd.R_lower C (below_size (bw0 HB.out)));replace HB:=Bs0 HB hb;clear hb C;have aj:=own_string (P:=Try.prog) Try.underlying67 Try.underlying5 Try.underlying9 (Kd.own_of_R ac.out)));go_ret2;exact⟨eS,bw0 HB.out⟩
  ·rw [if_neg c4]at H;exact absurd H (by simp)
 ·replace c3:=Bool.eq_false_iff.mpr c3;subst c3;have H1:(some ((⟨#[]⟩:ByteArray),11))=some (r1,r2):=by rw [if_neg (show ¬ (false=true) by decide)]at H;exact H
  clear H;have H:=H1;clear H1;simp only[Option.some.injEq,Prod.mk.injEq]at H;obtain⟨rfl,rfl⟩:=H;go_enter Try.func24,Try.ntmps24;go_wp2_with (first|((with_reducible refine gate_callee (f:=48) rfl ?_);refine goesL_ (some 6) rfl rfl Try.func48 (by kernel_rfl) rfl #[.int .i64 (a0.size:Int)] rfl gS ?_;(with_reducible refine (cutter_fit.calls (a0.size:Int) false _ A2.out).mono ?_);rintro e w' ⟨rfl,⟨nd,rfl⟩⟩;refine⟨_,rfl,?_⟩));go_ret2;exact⟨eS,bw0 HB.out⟩
end Go.Proofs.Ythkdfojmhloofaa.Q
end
