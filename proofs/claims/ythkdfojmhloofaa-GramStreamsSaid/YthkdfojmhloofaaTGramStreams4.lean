-- Merged and trimmed by this session's program wip/tools/trim.py.
import Derived.Test.YthkdfojmhloofaaTGramStreams3
section
namespace Go.Proofs.Ythkdfojmhloofaa.Q
open Go.RowKit Go.Proofs.YthkdfojmhloofaaW.PrintWords Go.Proofs.YthkdfojmhloofaaW.PrintLast Go.Proofs.YthkdfojmhloofaaW.PrintMore
attribute [local go_sem] max2_int min2_int max_two min_two max_three min_three max_four min_four   -- for this text's walks alone
set_option linter.unusedVariables false
set_option linter.unusedSimpArgs false
def byt8 (n:Int):List Int:= [n / 72057594037927936 % 256,n / 281474976710656 % 256,n / 1099511627776 % 256,n / 4294967296 % 256,n / 16777216 % 256,n / 65536 % 256,n / 256 % 256,n % 256]
def PreI (w0 w W : World) (P0 : Nat → Prop) (v : Value) (xs : List Int) : Prop :=
  W.ownsRow w0.heap.size 5 1 v xs.length (nums .u8 xs) ∧ (∀ k, v.ownBlock = some k → P0 k ∨ w.heap.size ≤ k) ∧ Kept w W P0 ∧ Below w0.heap.size w0 W
theorem PreI.grow {w0 w W w1:World}{P0:Nat→Prop}{v v1:Value}{xs ys:List Int} (h:PreI w0 w W P0 v xs) (ho:w1.ownsRow w0.heap.size 5 1 v1 (xs++ys).length (nums .u8 (xs++ys))) (hb:Below w0.heap.size w0 w1) (hg:W.grownBy w1 v.ownBlock)
    (hat:v1.ownBlock=v.ownBlock∨ ∃ b,v1.ownBlock=some b∧W.heap.size≤b):PreI w0 w w1 P0 v1 (xs++ys):=by
  obtain⟨_,h2,h3,_⟩:=h;refine⟨ho,fun k hk=>?_,⟨Nat.le_trans h3.1 hg.size,fun i hi hn=>?_⟩,hb⟩
  · rcases hat with e|⟨b,e,hl⟩
    · exact h2 k (e▸hk)
    ·rw [e]at hk;obtain rfl:=Option.some.inj hk;exact .inr (Nat.le_trans h3.1 hl)
  · refine (hg.block i (Nat.lt_of_lt_of_le hi h3.1) (fun e=>?_)).trans (h3.2 i hi hn);rcases h2 i e.symm with hp|hp
    · exact hn hp
    · omega
theorem PreI.below {w0 w W w1 : World} {P0 : Nat → Prop} {v : Value} {xs : List Int} (h : PreI w0 w W P0 v xs) (hb : Below W.heap.size W w1) : PreI w0 w w1 P0 v xs :=
  ⟨pw_own_below h.1 hb, h.2.1, Kept.below h.2.2.1 hb, below_then h.2.2.2 h.2.2.2.size hb⟩
theorem PreI.drew {w0 w W:World}{P0:Nat→Prop}{v:Value}{xs:List Int} (h:PreI w0 w W P0 v xs):PreI w0 w W.drew P0 v xs:=⟨h.1,h.2.1,h.2.2.1,below_drew1 h.2.2.2⟩
theorem PreI.alloc {w0 w W:World}{P0:Nat→Prop}{v:Value}{xs:List Int} (h:PreI w0 w W P0 v xs) (o:Obj):PreI w0 w (W.alloc o) P0 v xs:=h.below (below_alloc (Below.refl _ _) o)
theorem blk_not_row {W:World}{B t e base size k:Nat}{cs:Array Value}{fr:Nat × Nat} (h:W.heap[B]? =some (.cells cs t fr)) (hte:t≠e) {v:Value}{xs:List Value} (hr:W.ownsRow base e size v k xs):some B≠v.ownBlock:=by
  rcases hr.2 with ⟨rfl,_⟩|⟨g,cap,cur,rfl,_,hgb,_⟩
  · simp [Value.ownBlock]
  · intro e';obtain rfl:B=g:=by simpa [Value.ownBlock] using e'
    have:=h.symm.trans hgb;simp at this;exact hte this.2.1
theorem PreI.blk0 {w0 w W w1 : World} {P0 : Nat → Prop} {v : Value} {xs : List Int} (h : PreI w0 w W P0 v xs) {B t : Nat} {cs : Array Value} (h1 : W.heap[B]? = some (.cells cs t (0, 0))) (ht : t ≠ 5) (hg : W.grownBy w1 v.ownBlock) : w1.heap[B]? = some (.cells cs t (0, 0)) :=
  (hg.block B (blk_lt h1) (blk_not_row h1 ht h.1)).trans h1
theorem PreI.blk {w0 w W w1:World}{P0:Nat→Prop}{v:Value}{xs:List Int} (h:PreI w0 w W P0 v xs) {B t:Nat}{cs:Array Value} (hB:W.heap[B]? =some (.cells cs t (0,0))) (ht:t≠5) {o:Obj} (hg:(W.alloc o).grownBy w1 v.ownBlock):w1.heap[B]? =some (.cells cs t (0,0)):=by
  have h1:=blk_alloc hB o;exact (hg.block B (blk_lt h1) (blk_not_row h1 ht (h.alloc o).1)).trans h1
theorem PreI.set {w0 w W:World}{P0:Nat→Prop}{v:Value}{xs:List Int} (h:PreI w0 w W P0 v xs) {B t:Nat}{cs:Array Value} (hB:W.heap[B]? =some (.cells cs t (0,0))) (ht:t≠5) (hw:w.heap.size≤B) (j:Nat) (u:Value) (hb0:w0.heap.size≤w.heap.size):PreI w0 w (W.setCell ⟨B,j,none⟩ u) P0 v xs:=by
  obtain⟨h1,h2,h3,h4⟩:=h;refine⟨own_setCell h1 (blk_not_row hB ht h1) u,h2,⟨by simpa [World.setCell] using h3.1,fun i hi hn=>(Below.heap_setCell W ⟨B,j,none⟩ u i (by simp;omega)).trans (h3.2 i hi hn)⟩,h4.setCell (p:=⟨B,j,none⟩) (by simp;omega) u⟩
theorem reads2 {w:World}{g:Nat}{x y:Int} (h:w.heap[g]? =some (.cells #[.int .u8 x,.int .u8 y] 5 (0,0))):ReadsInt w .u8 (some ⟨g,0,none⟩) 2 [x,y]:=by
  refine⟨rfl,by omega,fun _=>⟨_,rfl,fun j hj=>?_⟩⟩;have e:(⟨g,0,none⟩:Addr).add j=⟨g,j,none⟩:=by unfold Addr.add;split <;> simp_all
  rw [e,blk_cell h];have:j=0∨j=1:=by omega
  rcases this with rfl|rfl <;> rfl
def pre_word (six:Bool) (hi lo:Int):List Int:=if six then byt8 hi++byt8 lo else byt8 (lo * 4294967296 % 18446744073709551616)++byt8 0
def msg_prefix.f (l0 : List Int) (a1_0 : Bool) (a1_1 a1_2 a1_3 : Int) : Option (List Int) :=
  if 0 ≤ a1_3 ∧ a1_3 ≤ 128 ∧ 0 ≤ a1_1 ∧ a1_1 ≤ 18446744073709551615 ∧ 0 ≤ a1_2 ∧ a1_2 ≤ 18446744073709551615 ∧ l0.length < 140737488355000 then some (l0 ++ ([if a1_0 then 6 else 4, a1_3] ++ (pre_word a1_0 a1_1 a1_2).take ((a1_3.toNat + 7) / 8))) else none
set_option maxHeartbeats 8000000 in
set_option maxRecDepth 100000 in
theorem msg_prefix.calls (P0_:Nat→Prop) (u9000_:Value) (l0:List Int) (a1_0:Bool) (a1_1 a1_2 a1_3:Int) (r:List Int) (w0 w:World) (hB:Below w0.heap.size w0 w) (ho0:Kd.R (Kd.int .u8) 5 w w0.heap.size P0_ u9000_ l0) (h:msg_prefix.f l0 a1_0 a1_1 a1_2 a1_3=some r):
    Calls Try.prog 47 #[u9000_,.agg #[.bool a1_0,.int .u64 a1_1,.int .u64 a1_2,.int .i64 a1_3]] w fun e w'=> ∃ v0_:Value,e= .returned (v0_)∧Kd.R (Kd.int .u8) 5 w' w0.heap.size (fun k_=>(P0_ k_∨w.heap.size≤k_)) v0_ r∧Below w0.heap.size w0 w'∧Kept w w' (fun k_=>P0_ k_):=by
  unfold msg_prefix.f at h;by_cases c:0≤a1_3∧a1_3≤128∧0≤a1_1∧a1_1≤18446744073709551615∧0≤a1_2∧a1_2≤18446744073709551615∧l0.length<140737488355000
  · rw [if_pos c]at h;have HR:=Aside0.mk (Option.some.inj h);clear h;obtain⟨ln,rfl⟩: ∃ ln:Nat,a1_3=ln:=⟨a1_3.toNat,by omega⟩;obtain⟨c1,c2,c3,c4,c5,c6,c7⟩:=c;have HI0:Aside0 (PreI w0 w w P0_ u9000_ l0):=⟨Kd.own_of_R ho0,fun k hk=>.inl (ho0.1 k hk),Kept.refl _ _,hB⟩;have hw0:=hB.size;clear ho0 hB;go_enter Try.func47,Try.ntmps47;go_wp2;have bp:(w.alloc (.cells #[.bool a1_0,.int .u64 a1_1,.int .u64 a1_2,.int .i64 ln] 30)).heap[w.heap.size]? =some (.cells #[.bool a1_0,.int .u64 a1_1,.int .u64 a1_2,.int .i64 ln] 30 (0,0)):=heap_alloc_new _ _;have HI1:=Aside0.mk (HI0.out.alloc (.cells #[.bool a1_0,.int .u64 a1_1,.int .u64 a1_2,.int .i64 ln] 30));have hsz1:(w.alloc (.cells #[.bool a1_0,.int .u64 a1_1,.int .u64 a1_2,.int .i64 ln] 30)).heap.size=w.heap.size+1:=by simp
    generalize (w.alloc (.cells #[.bool a1_0,.int .u64 a1_1,.int .u64 a1_2,.int .i64 ln] 30))=w1 at bp HI1 hsz1 ⊢;obtain⟨gp,hgp⟩: ∃ gp,w.heap.size=gp:=⟨_,rfl⟩;rw [hgp]at bp hsz1 ⊢;have HGP:=Aside0.mk hgp;have HSZ1:=Aside0.mk hsz1;clear hgp hsz1 HI0;have hp2:w1.drew.cell? ⟨gp,2,none⟩=some (.int .u64 a1_2):=(blk_cell bp 2).trans rfl;have hp0:w1.cell? ⟨gp,0,none⟩=some (.bool a1_0):=(blk_cell bp 0).trans rfl;have hp2b:w1.cell? ⟨gp,2,none⟩=some (.int .u64 a1_2):=(blk_cell bp 2).trans rfl;have hp2c:(w1.alloc (.cells #[.int .u64 0,.int .u64 0] 116)).cell? ⟨gp,2,none⟩=some (.int .u64 a1_2):=(blk_cell (blk_alloc bp _) 2).trans rfl;have BP:=Aside0.mk bp;clear bp;go_region;have bw:(w1.alloc (.cells #[.int .u64 (IntKind.u64.wrap (a1_2 * 4294967296)),.int .u64 0] 116)).drew.heap[w1.heap.size]? =some (.cells #[.int .u64 (IntKind.u64.wrap (a1_2 * 4294967296)),.int .u64 0] 116 (0,0)):=heap_alloc_new w1 _;have bp2:(w1.alloc (.cells #[.int .u64 (IntKind.u64.wrap (a1_2 * 4294967296)),.int .u64 0] 116)).drew.heap[gp]? =some (.cells #[.bool a1_0,.int .u64 a1_1,.int .u64 a1_2,.int .i64 ln] 30 (0,0)):=blk_alloc BP.out _;have HI2:Aside0 (PreI w0 w (w1.alloc (.cells #[.int .u64 (IntKind.u64.wrap (a1_2 * 4294967296)),.int .u64 0] 116)).drew P0_ u9000_ l0):=⟨(HI1.out.alloc _).drew⟩;have HGW:Aside0 (w.heap.size≤w1.heap.size∧gp≠w1.heap.size):=⟨by have:=HSZ1.out;have:=HGP.out;omega⟩;clear hp2 hp0 hp2b hp2c;generalize (w1.alloc (.cells #[.int .u64 (IntKind.u64.wrap (a1_2 * 4294967296)),.int .u64 0] 116)).drew=w2 at bw bp2 HI2 ⊢;generalize w1.heap.size=gw at bw HGW ⊢;have hb0:w2.cell? ⟨gp,0,none⟩=some (.bool a1_0):=(blk_cell bp2 0).trans rfl;have hb3:w2.cell? ⟨gp,3,none⟩=some (.int .i64 ln):=(blk_cell bp2 3).trans rfl;have BW:=Aside0.mk bw;have BP2:=Aside0.mk bp2;clear bw bp2;cases a1_0
    · have BW3:=BW;have BP3:=BP2;have HI3:=HI2;obtain⟨W0,hW0⟩: ∃ W0,IntKind.u64.wrap (a1_2 * 4294967296)=W0:=⟨_,rfl⟩;have hW0':a1_2 * 4294967296 % 18446744073709551616=W0:=by rw [← hW0];simp [IntKind.wrap,IntKind.bits,IntKind.signed]
      rw [hW0]at BW3 ⊢;have HW0:=Aside0.mk hW0';clear hW0 hW0';go_wp2_with (first|((with_reducible refine gate_builtin (b:=.append) (xs:= #[.tmp 22,.tmp 27]) rfl ?_);at_builtin;refine print_append_row (w0:=w0) w0.heap.size rfl (.tmp 22) (.tmp 27) 67 5 .u8 1 rfl Try.underlying67 info5 (by decide) u9000_ l0 [4,(ln:Int)] _ 2 2 rfl rfl (HI3.out.alloc _).1 (reads2 (heap_alloc_new _ _)) (HI3.out.alloc _).2.2.2 (HI3.out.alloc _).2.2.2.size (by omega) ?_;intro v1 w4 hown hb hg hat;have HI4:=Aside0.mk ((HI3.out.alloc _).grow hown hb hg hat);have BW4:=Aside0.mk (HI3.out.blk BW3.out (by decide) hg);have BP4:=Aside0.mk (HI3.out.blk BP3.out (by decide) hg);have hp3:=(blk_cell BP4.out 3).trans rfl;clear hown hb hg hat));go_loopg [34,0] 17 (fun kq v34 v0 w'=> ∃ (i:Nat),i≤(ln+7) / 8∧kq=17 - i∧v34= .int .i64 (i:Int)∧Aside0 (PreI w0 w w' P0_ v0 (l0++ [4,(ln:Int)]++(byt8 W0++byt8 0).take i))∧Aside0 (w'.heap[gw]? =some (.cells #[.int .u64 W0,.int .u64 0] 116 (0,0))))
      case atStart=>exact⟨0,by omega,rfl,rfl,⟨by simpa using HI4.out⟩,BW4⟩
      case round=>
        obtain⟨i,hi,rfl,rfl,HI,HW⟩:=hrel;have hw00:=(blk_cell HW.out 0).trans rfl;have hw01:=(blk_cell HW.out 1).trans rfl;have hxl:Aside0 ((l0++ [4,(ln:Int)]++(byt8 W0++byt8 0).take i).length≤140737488355100):=⟨by simp [byt8];omega⟩;by_cases hlt:i<(ln+7) / 8
        · match i,hi,hlt,HI,hxl with
          |0,_,hlt,HI,hxl=>
            have hd:decide ((0:Int)<((ln:Int)+8 - 1) / 8)=true:=decide_eq_true (by omega);go_wp2_with (first|((with_reducible refine gate_builtin (b:=.append) (xs:= #[.tmp 37,.tmp 48]) rfl ?_);at_builtin;refine print_append_num (w0:=w0) w0.heap.size rfl (.tmp 37) (.tmp 48) 67 5 .u8 1 rfl Try.underlying67 info5 (by decide) _ _ _ rfl rfl HI.out.1 HI.out.2.2.2 HI.out.2.2.2.size (by have:=hxl.out;omega) ?_;intro v1 w5 hown hb hg hat;have HI5:=Aside0.mk (HI.out.grow hown hb hg hat);have HW5:=Aside0.mk (HI.out.blk0 HW.out (by decide) hg);clear hown hb hg hat));go_roundg (17 - (0+1))
            case measure=>omega
            case rel=>exact⟨0+1,by omega,rfl,rfl,⟨by have:=HI5.out;simpa [byt8] using this⟩,HW5⟩
          |1,_,hlt,HI,hxl=>
            have hd:decide ((1:Int)<((ln:Int)+8 - 1) / 8)=true:=decide_eq_true (by omega);go_wp2_with (first|((with_reducible refine gate_builtin (b:=.append) (xs:= #[.tmp 37,.tmp 48]) rfl ?_);at_builtin;refine print_append_num (w0:=w0) w0.heap.size rfl (.tmp 37) (.tmp 48) 67 5 .u8 1 rfl Try.underlying67 info5 (by decide) _ _ _ rfl rfl HI.out.1 HI.out.2.2.2 HI.out.2.2.2.size (by have:=hxl.out;omega) ?_;intro v1 w5 hown hb hg hat;have HI5:=Aside0.mk (HI.out.grow hown hb hg hat);have HW5:=Aside0.mk (HI.out.blk0 HW.out (by decide) hg);clear hown hb hg hat));go_roundg (17 - (1+1))
            case measure=>omega
            case rel=>exact⟨1+1,by omega,rfl,rfl,⟨by have:=HI5.out;simpa [byt8] using this⟩,HW5⟩
          |2,_,hlt,HI,hxl=>
            have hd:decide ((2:Int)<((ln:Int)+8 - 1) / 8)=true:=decide_eq_true (by omega);go_wp2_with (first|((with_reducible refine gate_builtin (b:=.append) (xs:= #[.tmp 37,.tmp 48]) rfl ?_);at_builtin;refine print_append_num (w0:=w0) w0.heap.size rfl (.tmp 37) (.tmp 48) 67 5 .u8 1 rfl Try.underlying67 info5 (by decide) _ _ _ rfl rfl HI.out.1 HI.out.2.2.2 HI.out.2.2.2.size (by have:=hxl.out;omega) ?_;intro v1 w5 hown hb hg hat;have HI5:=Aside0.mk (HI.out.grow hown hb hg hat);have HW5:=Aside0.mk (HI.out.blk0 HW.out (by decide) hg);clear hown hb hg hat));go_roundg (17 - (2+1))
            case measure=>omega
            case rel=>exact⟨2+1,by omega,rfl,rfl,⟨by have:=HI5.out;simpa [byt8] using this⟩,HW5⟩
          |3,_,hlt,HI,hxl=>
            have hd:decide ((3:Int)<((ln:Int)+8 - 1) / 8)=true:=decide_eq_true (by omega);go_wp2_with (first|((with_reducible refine gate_builtin (b:=.append) (xs:= #[.tmp 37,.tmp 48]) rfl ?_);at_builtin;refine print_append_num (w0:=w0) w0.heap.size rfl (.tmp 37) (.tmp 48) 67 5 .u8 1 rfl Try.underlying67 info5 (by decide) _ _ _ rfl rfl HI.out.1 HI.out.2.2.2 HI.out.2.2.2.size (by have:=hxl.out;omega) ?_;intro v1 w5 hown hb hg hat;have HI5:=Aside0.mk (HI.out.grow hown hb hg hat);have HW5:=Aside0.mk (HI.out.blk0 HW.out (by decide) hg);clear hown hb hg hat));go_roundg (17 - (3+1))
            case measure=>omega
            case rel=>exact⟨3+1,by omega,rfl,rfl,⟨by have:=HI5.out;simpa [byt8] using this⟩,HW5⟩
          |4,_,hlt,HI,hxl=>
            have hd:decide ((4:Int)<((ln:Int)+8 - 1) / 8)=true:=decide_eq_true (by omega);go_wp2_with (first|((with_reducible refine gate_builtin (b:=.append) (xs:= #[.tmp 37,.tmp 48]) rfl ?_);at_builtin;refine print_append_num (w0:=w0) w0.heap.size rfl (.tmp 37) (.tmp 48) 67 5 .u8 1 rfl Try.underlying67 info5 (by decide) _ _ _ rfl rfl HI.out.1 HI.out.2.2.2 HI.out.2.2.2.size (by have:=hxl.out;omega) ?_;intro v1 w5 hown hb hg hat;have HI5:=Aside0.mk (HI.out.grow hown hb hg hat);have HW5:=Aside0.mk (HI.out.blk0 HW.out (by decide) hg);clear hown hb hg hat));go_roundg (17 - (4+1))
            case measure=>omega
            case rel=>exact⟨4+1,by omega,rfl,rfl,⟨by have:=HI5.out;simpa [byt8] using this⟩,HW5⟩
          |5,_,hlt,HI,hxl=>
            have hd:decide ((5:Int)<((ln:Int)+8 - 1) / 8)=true:=decide_eq_true (by omega);go_wp2_with (first|((with_reducible refine gate_builtin (b:=.append) (xs:= #[.tmp 37,.tmp 48]) rfl ?_);at_builtin;refine print_append_num (w0:=w0) w0.heap.size rfl (.tmp 37) (.tmp 48) 67 5 .u8 1 rfl Try.underlying67 info5 (by decide) _ _ _ rfl rfl HI.out.1 HI.out.2.2.2 HI.out.2.2.2.size (by have:=hxl.out;omega) ?_;intro v1 w5 hown hb hg hat;have HI5:=Aside0.mk (HI.out.grow hown hb hg hat);have HW5:=Aside0.mk (HI.out.blk0 HW.out (by decide) hg);clear hown hb hg hat));go_roundg (17 - (5+1))
            case measure=>omega
            case rel=>exact⟨5+1,by omega,rfl,rfl,⟨by have:=HI5.out;simpa [byt8] using this⟩,HW5⟩
          |6,_,hlt,HI,hxl=>
            have hd:decide ((6:Int)<((ln:Int)+8 - 1) / 8)=true:=decide_eq_true (by omega);go_wp2_with (first|((with_reducible refine gate_builtin (b:=.append) (xs:= #[.tmp 37,.tmp 48]) rfl ?_);at_builtin;refine print_append_num (w0:=w0) w0.heap.size rfl (.tmp 37) (.tmp 48) 67 5 .u8 1 rfl Try.underlying67 info5 (by decide) _ _ _ rfl rfl HI.out.1 HI.out.2.2.2 HI.out.2.2.2.size (by have:=hxl.out;omega) ?_;intro v1 w5 hown hb hg hat;have HI5:=Aside0.mk (HI.out.grow hown hb hg hat);have HW5:=Aside0.mk (HI.out.blk0 HW.out (by decide) hg);clear hown hb hg hat));go_roundg (17 - (6+1))
            case measure=>omega
            case rel=>exact⟨6+1,by omega,rfl,rfl,⟨by have:=HI5.out;simpa [byt8] using this⟩,HW5⟩
          |7,_,hlt,HI,hxl=>
            have hd:decide ((7:Int)<((ln:Int)+8 - 1) / 8)=true:=decide_eq_true (by omega);go_wp2_with (first|((with_reducible refine gate_builtin (b:=.append) (xs:= #[.tmp 37,.tmp 48]) rfl ?_);at_builtin;refine print_append_num (w0:=w0) w0.heap.size rfl (.tmp 37) (.tmp 48) 67 5 .u8 1 rfl Try.underlying67 info5 (by decide) _ _ _ rfl rfl HI.out.1 HI.out.2.2.2 HI.out.2.2.2.size (by have:=hxl.out;omega) ?_;intro v1 w5 hown hb hg hat;have HI5:=Aside0.mk (HI.out.grow hown hb hg hat);have HW5:=Aside0.mk (HI.out.blk0 HW.out (by decide) hg);clear hown hb hg hat));go_roundg (17 - (7+1))
            case measure=>omega
            case rel=>exact⟨7+1,by omega,rfl,rfl,⟨by have:=HI5.out;simpa [byt8] using this⟩,HW5⟩
          |8,_,hlt,HI,hxl=>
            have hd:decide ((8:Int)<((ln:Int)+8 - 1) / 8)=true:=decide_eq_true (by omega);go_wp2_with (first|((with_reducible refine gate_builtin (b:=.append) (xs:= #[.tmp 37,.tmp 48]) rfl ?_);at_builtin;refine print_append_num (w0:=w0) w0.heap.size rfl (.tmp 37) (.tmp 48) 67 5 .u8 1 rfl Try.underlying67 info5 (by decide) _ _ _ rfl rfl HI.out.1 HI.out.2.2.2 HI.out.2.2.2.size (by have:=hxl.out;omega) ?_;intro v1 w5 hown hb hg hat;have HI5:=Aside0.mk (HI.out.grow hown hb hg hat);have HW5:=Aside0.mk (HI.out.blk0 HW.out (by decide) hg);clear hown hb hg hat));go_roundg (17 - (8+1))
            case measure=>omega
            case rel=>exact⟨8+1,by omega,rfl,rfl,⟨by have:=HI5.out;simpa [byt8] using this⟩,HW5⟩
          |9,_,hlt,HI,hxl=>
            have hd:decide ((9:Int)<((ln:Int)+8 - 1) / 8)=true:=decide_eq_true (by omega);go_wp2_with (first|((with_reducible refine gate_builtin (b:=.append) (xs:= #[.tmp 37,.tmp 48]) rfl ?_);at_builtin;refine print_append_num (w0:=w0) w0.heap.size rfl (.tmp 37) (.tmp 48) 67 5 .u8 1 rfl Try.underlying67 info5 (by decide) _ _ _ rfl rfl HI.out.1 HI.out.2.2.2 HI.out.2.2.2.size (by have:=hxl.out;omega) ?_;intro v1 w5 hown hb hg hat;have HI5:=Aside0.mk (HI.out.grow hown hb hg hat);have HW5:=Aside0.mk (HI.out.blk0 HW.out (by decide) hg);clear hown hb hg hat));go_roundg (17 - (9+1))
            case measure=>omega
            case rel=>exact⟨9+1,by omega,rfl,rfl,⟨by have:=HI5.out;simpa [byt8] using this⟩,HW5⟩
          |10,_,hlt,HI,hxl=>
            have hd:decide ((10:Int)<((ln:Int)+8 - 1) / 8)=true:=decide_eq_true (by omega);go_wp2_with (first|((with_reducible refine gate_builtin (b:=.append) (xs:= #[.tmp 37,.tmp 48]) rfl ?_);at_builtin;refine print_append_num (w0:=w0) w0.heap.size rfl (.tmp 37) (.tmp 48) 67 5 .u8 1 rfl Try.underlying67 info5 (by decide) _ _ _ rfl rfl HI.out.1 HI.out.2.2.2 HI.out.2.2.2.size (by have:=hxl.out;omega) ?_;intro v1 w5 hown hb hg hat;have HI5:=Aside0.mk (HI.out.grow hown hb hg hat);have HW5:=Aside0.mk (HI.out.blk0 HW.out (by decide) hg);clear hown hb hg hat));go_roundg (17 - (10+1))
            case measure=>omega
            case rel=>exact⟨10+1,by omega,rfl,rfl,⟨by have:=HI5.out;simpa [byt8] using this⟩,HW5⟩
          |11,_,hlt,HI,hxl=>
            have hd:decide ((11:Int)<((ln:Int)+8 - 1) / 8)=true:=decide_eq_true (by omega);go_wp2_with (first|((with_reducible refine gate_builtin (b:=.append) (xs:= #[.tmp 37,.tmp 48]) rfl ?_);at_builtin;refine print_append_num (w0:=w0) w0.heap.size rfl (.tmp 37) (.tmp 48) 67 5 .u8 1 rfl Try.underlying67 info5 (by decide) _ _ _ rfl rfl HI.out.1 HI.out.2.2.2 HI.out.2.2.2.size (by have:=hxl.out;omega) ?_;intro v1 w5 hown hb hg hat;have HI5:=Aside0.mk (HI.out.grow hown hb hg hat);have HW5:=Aside0.mk (HI.out.blk0 HW.out (by decide) hg);clear hown hb hg hat));go_roundg (17 - (11+1))
            case measure=>omega
            case rel=>exact⟨11+1,by omega,rfl,rfl,⟨by have:=HI5.out;simpa [byt8] using this⟩,HW5⟩
          |12,_,hlt,HI,hxl=>
            have hd:decide ((12:Int)<((ln:Int)+8 - 1) / 8)=true:=decide_eq_true (by omega);go_wp2_with (first|((with_reducible refine gate_builtin (b:=.append) (xs:= #[.tmp 37,.tmp 48]) rfl ?_);at_builtin;refine print_append_num (w0:=w0) w0.heap.size rfl (.tmp 37) (.tmp 48) 67 5 .u8 1 rfl Try.underlying67 info5 (by decide) _ _ _ rfl rfl HI.out.1 HI.out.2.2.2 HI.out.2.2.2.size (by have:=hxl.out;omega) ?_;intro v1 w5 hown hb hg hat;have HI5:=Aside0.mk (HI.out.grow hown hb hg hat);have HW5:=Aside0.mk (HI.out.blk0 HW.out (by decide) hg);clear hown hb hg hat));go_roundg (17 - (12+1))
            case measure=>omega
            case rel=>exact⟨12+1,by omega,rfl,rfl,⟨by have:=HI5.out;simpa [byt8] using this⟩,HW5⟩
          |13,_,hlt,HI,hxl=>
            have hd:decide ((13:Int)<((ln:Int)+8 - 1) / 8)=true:=decide_eq_true (by omega);go_wp2_with (first|((with_reducible refine gate_builtin (b:=.append) (xs:= #[.tmp 37,.tmp 48]) rfl ?_);at_builtin;refine print_append_num (w0:=w0) w0.heap.size rfl (.tmp 37) (.tmp 48) 67 5 .u8 1 rfl Try.underlying67 info5 (by decide) _ _ _ rfl rfl HI.out.1 HI.out.2.2.2 HI.out.2.2.2.size (by have:=hxl.out;omega) ?_;intro v1 w5 hown hb hg hat;have HI5:=Aside0.mk (HI.out.grow hown hb hg hat);have HW5:=Aside0.mk (HI.out.blk0 HW.out (by decide) hg);clear hown hb hg hat));go_roundg (17 - (13+1))
            case measure=>omega
            case rel=>exact⟨13+1,by omega,rfl,rfl,⟨by have:=HI5.out;simpa [byt8] using this⟩,HW5⟩
          |14,_,hlt,HI,hxl=>
            have hd:decide ((14:Int)<((ln:Int)+8 - 1) / 8)=true:=decide_eq_true (by omega);go_wp2_with (first|((with_reducible refine gate_builtin (b:=.append) (xs:= #[.tmp 37,.tmp 48]) rfl ?_);at_builtin;refine print_append_num (w0:=w0) w0.heap.size rfl (.tmp 37) (.tmp 48) 67 5 .u8 1 rfl Try.underlying67 info5 (by decide) _ _ _ rfl rfl HI.out.1 HI.out.2.2.2 HI.out.2.2.2.size (by have:=hxl.out;omega) ?_;intro v1 w5 hown hb hg hat;have HI5:=Aside0.mk (HI.out.grow hown hb hg hat);have HW5:=Aside0.mk (HI.out.blk0 HW.out (by decide) hg);clear hown hb hg hat));go_roundg (17 - (14+1))
            case measure=>omega
            case rel=>exact⟨14+1,by omega,rfl,rfl,⟨by have:=HI5.out;simpa [byt8] using this⟩,HW5⟩
          |15,_,hlt,HI,hxl=>
            have hd:decide ((15:Int)<((ln:Int)+8 - 1) / 8)=true:=decide_eq_true (by omega);go_wp2_with (first|((with_reducible refine gate_builtin (b:=.append) (xs:= #[.tmp 37,.tmp 48]) rfl ?_);at_builtin;refine print_append_num (w0:=w0) w0.heap.size rfl (.tmp 37) (.tmp 48) 67 5 .u8 1 rfl Try.underlying67 info5 (by decide) _ _ _ rfl rfl HI.out.1 HI.out.2.2.2 HI.out.2.2.2.size (by have:=hxl.out;omega) ?_;intro v1 w5 hown hb hg hat;have HI5:=Aside0.mk (HI.out.grow hown hb hg hat);have HW5:=Aside0.mk (HI.out.blk0 HW.out (by decide) hg);clear hown hb hg hat));go_roundg (17 - (15+1))
            case measure=>omega
            case rel=>exact⟨15+1,by omega,rfl,rfl,⟨by have:=HI5.out;simpa [byt8] using this⟩,HW5⟩
          |n+16,_,hlt,_,_=>exact absurd hlt (by omega)
        · have hd:decide ((i:Int)<((ln:Int)+8 - 1) / 8)=false:=decide_eq_false (by omega);go_wp2;go_ret;obtain rfl:i=(ln+7) / 8:=by omega
          have e:l0++ [4,(ln:Int)]++(byt8 W0++byt8 0).take ((ln+7) / 8)=r:=by rw [← HR.out];rw [pre_word,if_neg (by decide),HW0.out];simp [pre_word]
          have hI:=HI.out;rw [e]at hI;exact⟨_,rfl,Kd.R_of_own (enc:=Value.int .u8) (h1:=fun _=>rfl) hI.1 hI.2.1,hI.2.2.2,hI.2.2.1⟩
    · go_wp2;have hq1:w2.drew.cell? ⟨gp,1,none⟩=some (.int .u64 a1_1):=(blk_cell BP2.out 1).trans rfl;have hq2:w2.drew.cell? ⟨gp,2,none⟩=some (.int .u64 a1_2):=(blk_cell BP2.out 2).trans rfl;have hq3:w2.drew.cell? ⟨gw,0,none⟩=some (.int .u64 (IntKind.u64.wrap (a1_2 * 4294967296))):=(blk_cell BW.out 0).trans rfl;have hq4:w2.drew.cell? ⟨gw,1,none⟩=some (.int .u64 0):=(blk_cell BW.out 1).trans rfl;have hq5:w2.drew.frozen? ⟨gw,0,none⟩=false:=blk_frozen BW.out 0;have hq6:w2.drew.frozen? ⟨gw,1,none⟩=false:=blk_frozen BW.out 1;have hne:=HGW.out.2;have hq7:w2.cell? ⟨gp,1,none⟩=some (.int .u64 a1_1):=hq1;have hq8:w2.cell? ⟨gp,2,none⟩=some (.int .u64 a1_2):=hq2;have hq9:w2.cell? ⟨gw,0,none⟩=some (.int .u64 (IntKind.u64.wrap (a1_2 * 4294967296))):=hq3;have hqa:w2.cell? ⟨gw,1,none⟩=some (.int .u64 0):=hq4;have hqb:w2.frozen? ⟨gw,0,none⟩=false:=hq5;have hqc:w2.frozen? ⟨gw,1,none⟩=false:=hq6;go_region;have bw3:((w2.setCell ⟨gw,0,none⟩ (.int .u64 a1_1)).setCell ⟨gw,1,none⟩ (.int .u64 a1_2)).drew.heap[gw]? =some (.cells #[.int .u64 a1_1,.int .u64 a1_2] 116 (0,0)):=blk_drew (blk_put (blk_put BW.out 0 (.int .u64 a1_1) rfl) 1 (.int .u64 a1_2) rfl);have bp3:((w2.setCell ⟨gw,0,none⟩ (.int .u64 a1_1)).setCell ⟨gw,1,none⟩ (.int .u64 a1_2)).drew.heap[gp]? =some (.cells #[.bool true,.int .u64 a1_1,.int .u64 a1_2,.int .i64 ln] 30 (0,0)):=blk_drew (blk_far (blk_far BP2.out (p:=⟨gw,0,none⟩) (by simpa using hne) _) (p:=⟨gw,1,none⟩) (by simpa using hne) _);have hi3:PreI w0 w ((w2.setCell ⟨gw,0,none⟩ (.int .u64 a1_1)).setCell ⟨gw,1,none⟩ (.int .u64 a1_2)).drew P0_ u9000_ l0:=((HI2.out.set BW.out (by decide) HGW.out.1 0 (.int .u64 a1_1) hw0).set (blk_put BW.out 0 (.int .u64 a1_1) rfl) (by decide) HGW.out.1 1 (.int .u64 a1_2) hw0).drew;clear hq1 hq2 hq3 hq4 hq5 hq6 hq7 hq8 hq9 hqa hqb hqc hb0 hb3;generalize ((w2.setCell ⟨gw,0,none⟩ (.int .u64 a1_1)).setCell ⟨gw,1,none⟩ (.int .u64 a1_2)).drew=w3 at bw3 bp3 hi3 ⊢;have hb3:w3.cell? ⟨gp,3,none⟩=some (.int .i64 ln):=(blk_cell bp3 3).trans rfl;have BW3:=Aside0.mk bw3;have BP3:=Aside0.mk bp3;have HI3:=Aside0.mk hi3;clear bw3 bp3 hi3;go_wp2_with (first|((with_reducible refine gate_builtin (b:=.append) (xs:= #[.tmp 22,.tmp 27]) rfl ?_);at_builtin;refine print_append_row (w0:=w0) w0.heap.size rfl (.tmp 22) (.tmp 27) 67 5 .u8 1 rfl Try.underlying67 info5 (by decide) u9000_ l0 [6,(ln:Int)] _ 2 2 rfl rfl (HI3.out.alloc _).1 (reads2 (heap_alloc_new _ _)) (HI3.out.alloc _).2.2.2 (HI3.out.alloc _).2.2.2.size (by omega) ?_;intro v1 w4 hown hb hg hat;have HI4:=Aside0.mk ((HI3.out.alloc _).grow hown hb hg hat);have BW4:=Aside0.mk (HI3.out.blk BW3.out (by decide) hg);have BP4:=Aside0.mk (HI3.out.blk BP3.out (by decide) hg);have hp3:=(blk_cell BP4.out 3).trans rfl;clear hown hb hg hat));go_loopg [34,0] 17 (fun kq v34 v0 w'=> ∃ (i:Nat),i≤(ln+7) / 8∧kq=17 - i∧v34= .int .i64 (i:Int)∧Aside0 (PreI w0 w w' P0_ v0 (l0++ [6,(ln:Int)]++(byt8 a1_1++byt8 a1_2).take i))∧Aside0 (w'.heap[gw]? =some (.cells #[.int .u64 a1_1,.int .u64 a1_2] 116 (0,0))))
      case atStart=>exact⟨0,by omega,rfl,rfl,⟨by simpa using HI4.out⟩,BW4⟩
      case round=>
        obtain⟨i,hi,rfl,rfl,HI,HW⟩:=hrel;have hw00:=(blk_cell HW.out 0).trans rfl;have hw01:=(blk_cell HW.out 1).trans rfl;have hxl:Aside0 ((l0++ [6,(ln:Int)]++(byt8 a1_1++byt8 a1_2).take i).length≤140737488355100):=⟨by simp [byt8];omega⟩;by_cases hlt:i<(ln+7) / 8
        · match i,hi,hlt,HI,hxl with
          |0,_,hlt,HI,hxl=>
            have hd:decide ((0:Int)<((ln:Int)+8 - 1) / 8)=true:=decide_eq_true (by omega);go_wp2_with (first|((with_reducible refine gate_builtin (b:=.append) (xs:= #[.tmp 37,.tmp 48]) rfl ?_);at_builtin;refine print_append_num (w0:=w0) w0.heap.size rfl (.tmp 37) (.tmp 48) 67 5 .u8 1 rfl Try.underlying67 info5 (by decide) _ _ _ rfl rfl HI.out.1 HI.out.2.2.2 HI.out.2.2.2.size (by have:=hxl.out;omega) ?_;intro v1 w5 hown hb hg hat;have HI5:=Aside0.mk (HI.out.grow hown hb hg hat);have HW5:=Aside0.mk (HI.out.blk0 HW.out (by decide) hg);clear hown hb hg hat));go_roundg (17 - (0+1))
            case measure=>omega
            case rel=>exact⟨0+1,by omega,rfl,rfl,⟨by have:=HI5.out;first|simpa [byt8] using this|simpa [byt8,show a1_1 / 72057594037927936 % 256=a1_1 / 72057594037927936 from by omega] using this|simpa [byt8,show a1_2 / 72057594037927936 % 256=a1_2 / 72057594037927936 from by omega] using this⟩,HW5⟩
          |1,_,hlt,HI,hxl=>
            have hd:decide ((1:Int)<((ln:Int)+8 - 1) / 8)=true:=decide_eq_true (by omega);go_wp2_with (first|((with_reducible refine gate_builtin (b:=.append) (xs:= #[.tmp 37,.tmp 48]) rfl ?_);at_builtin;refine print_append_num (w0:=w0) w0.heap.size rfl (.tmp 37) (.tmp 48) 67 5 .u8 1 rfl Try.underlying67 info5 (by decide) _ _ _ rfl rfl HI.out.1 HI.out.2.2.2 HI.out.2.2.2.size (by have:=hxl.out;omega) ?_;intro v1 w5 hown hb hg hat;have HI5:=Aside0.mk (HI.out.grow hown hb hg hat);have HW5:=Aside0.mk (HI.out.blk0 HW.out (by decide) hg);clear hown hb hg hat));go_roundg (17 - (1+1))
            case measure=>omega
            case rel=>exact⟨1+1,by omega,rfl,rfl,⟨by have:=HI5.out;first|simpa [byt8] using this|simpa [byt8,show a1_1 / 72057594037927936 % 256=a1_1 / 72057594037927936 from by omega] using this|simpa [byt8,show a1_2 / 72057594037927936 % 256=a1_2 / 72057594037927936 from by omega] using this⟩,HW5⟩
          |2,_,hlt,HI,hxl=>
            have hd:decide ((2:Int)<((ln:Int)+8 - 1) / 8)=true:=decide_eq_true (by omega);go_wp2_with (first|((with_reducible refine gate_builtin (b:=.append) (xs:= #[.tmp 37,.tmp 48]) rfl ?_);at_builtin;refine print_append_num (w0:=w0) w0.heap.size rfl (.tmp 37) (.tmp 48) 67 5 .u8 1 rfl Try.underlying67 info5 (by decide) _ _ _ rfl rfl HI.out.1 HI.out.2.2.2 HI.out.2.2.2.size (by have:=hxl.out;omega) ?_;intro v1 w5 hown hb hg hat;have HI5:=Aside0.mk (HI.out.grow hown hb hg hat);have HW5:=Aside0.mk (HI.out.blk0 HW.out (by decide) hg);clear hown hb hg hat));go_roundg (17 - (2+1))
            case measure=>omega
            case rel=>exact⟨2+1,by omega,rfl,rfl,⟨by have:=HI5.out;first|simpa [byt8] using this|simpa [byt8,show a1_1 / 72057594037927936 % 256=a1_1 / 72057594037927936 from by omega] using this|simpa [byt8,show a1_2 / 72057594037927936 % 256=a1_2 / 72057594037927936 from by omega] using this⟩,HW5⟩
          |3,_,hlt,HI,hxl=>
            have hd:decide ((3:Int)<((ln:Int)+8 - 1) / 8)=true:=decide_eq_true (by omega);go_wp2_with (first|((with_reducible refine gate_builtin (b:=.append) (xs:= #[.tmp 37,.tmp 48]) rfl ?_);at_builtin;refine print_append_num (w0:=w0) w0.heap.size rfl (.tmp 37) (.tmp 48) 67 5 .u8 1 rfl Try.underlying67 info5 (by decide) _ _ _ rfl rfl HI.out.1 HI.out.2.2.2 HI.out.2.2.2.size (by have:=hxl.out;omega) ?_;intro v1 w5 hown hb hg hat;have HI5:=Aside0.mk (HI.out.grow hown hb hg hat);have HW5:=Aside0.mk (HI.out.blk0 HW.out (by decide) hg);clear hown hb hg hat));go_roundg (17 - (3+1))
            case measure=>omega
            case rel=>exact⟨3+1,by omega,rfl,rfl,⟨by have:=HI5.out;first|simpa [byt8] using this|simpa [byt8,show a1_1 / 72057594037927936 % 256=a1_1 / 72057594037927936 from by omega] using this|simpa [byt8,show a1_2 / 72057594037927936 % 256=a1_2 / 72057594037927936 from by omega] using this⟩,HW5⟩
          |4,_,hlt,HI,hxl=>
            have hd:decide ((4:Int)<((ln:Int)+8 - 1) / 8)=true:=decide_eq_true (by omega);go_wp2_with (first|((with_reducible refine gate_builtin (b:=.append) (xs:= #[.tmp 37,.tmp 48]) rfl ?_);at_builtin;refine print_append_num (w0:=w0) w0.heap.size rfl (.tmp 37) (.tmp 48) 67 5 .u8 1 rfl Try.underlying67 info5 (by decide) _ _ _ rfl rfl HI.out.1 HI.out.2.2.2 HI.out.2.2.2.size (by have:=hxl.out;omega) ?_;intro v1 w5 hown hb hg hat;have HI5:=Aside0.mk (HI.out.grow hown hb hg hat);have HW5:=Aside0.mk (HI.out.blk0 HW.out (by decide) hg);clear hown hb hg hat));go_roundg (17 - (4+1))
            case measure=>omega
            case rel=>exact⟨4+1,by omega,rfl,rfl,⟨by have:=HI5.out;first|simpa [byt8] using this|simpa [byt8,show a1_1 / 72057594037927936 % 256=a1_1 / 72057594037927936 from by omega] using this|simpa [byt8,show a1_2 / 72057594037927936 % 256=a1_2 / 72057594037927936 from by omega] using this⟩,HW5⟩
          |5,_,hlt,HI,hxl=>
            have hd:decide ((5:Int)<((ln:Int)+8 - 1) / 8)=true:=decide_eq_true (by omega);go_wp2_with (first|((with_reducible refine gate_builtin (b:=.append) (xs:= #[.tmp 37,.tmp 48]) rfl ?_);at_builtin;refine print_append_num (w0:=w0) w0.heap.size rfl (.tmp 37) (.tmp 48) 67 5 .u8 1 rfl Try.underlying67 info5 (by decide) _ _ _ rfl rfl HI.out.1 HI.out.2.2.2 HI.out.2.2.2.size (by have:=hxl.out;omega) ?_;intro v1 w5 hown hb hg hat;have HI5:=Aside0.mk (HI.out.grow hown hb hg hat);have HW5:=Aside0.mk (HI.out.blk0 HW.out (by decide) hg);clear hown hb hg hat));go_roundg (17 - (5+1))
            case measure=>omega
            case rel=>exact⟨5+1,by omega,rfl,rfl,⟨by have:=HI5.out;first|simpa [byt8] using this|simpa [byt8,show a1_1 / 72057594037927936 % 256=a1_1 / 72057594037927936 from by omega] using this|simpa [byt8,show a1_2 / 72057594037927936 % 256=a1_2 / 72057594037927936 from by omega] using this⟩,HW5⟩
          |6,_,hlt,HI,hxl=>
            have hd:decide ((6:Int)<((ln:Int)+8 - 1) / 8)=true:=decide_eq_true (by omega);go_wp2_with (first|((with_reducible refine gate_builtin (b:=.append) (xs:= #[.tmp 37,.tmp 48]) rfl ?_);at_builtin;refine print_append_num (w0:=w0) w0.heap.size rfl (.tmp 37) (.tmp 48) 67 5 .u8 1 rfl Try.underlying67 info5 (by decide) _ _ _ rfl rfl HI.out.1 HI.out.2.2.2 HI.out.2.2.2.size (by have:=hxl.out;omega) ?_;intro v1 w5 hown hb hg hat;have HI5:=Aside0.mk (HI.out.grow hown hb hg hat);have HW5:=Aside0.mk (HI.out.blk0 HW.out (by decide) hg);clear hown hb hg hat));go_roundg (17 - (6+1))
            case measure=>omega
            case rel=>exact⟨6+1,by omega,rfl,rfl,⟨by have:=HI5.out;first|simpa [byt8] using this|simpa [byt8,show a1_1 / 72057594037927936 % 256=a1_1 / 72057594037927936 from by omega] using this|simpa [byt8,show a1_2 / 72057594037927936 % 256=a1_2 / 72057594037927936 from by omega] using this⟩,HW5⟩
          |7,_,hlt,HI,hxl=>
            have hd:decide ((7:Int)<((ln:Int)+8 - 1) / 8)=true:=decide_eq_true (by omega);go_wp2_with (first|((with_reducible refine gate_builtin (b:=.append) (xs:= #[.tmp 37,.tmp 48]) rfl ?_);at_builtin;refine print_append_num (w0:=w0) w0.heap.size rfl (.tmp 37) (.tmp 48) 67 5 .u8 1 rfl Try.underlying67 info5 (by decide) _ _ _ rfl rfl HI.out.1 HI.out.2.2.2 HI.out.2.2.2.size (by have:=hxl.out;omega) ?_;intro v1 w5 hown hb hg hat;have HI5:=Aside0.mk (HI.out.grow hown hb hg hat);have HW5:=Aside0.mk (HI.out.blk0 HW.out (by decide) hg);clear hown hb hg hat));go_roundg (17 - (7+1))
            case measure=>omega
            case rel=>exact⟨7+1,by omega,rfl,rfl,⟨by have:=HI5.out;first|simpa [byt8] using this|simpa [byt8,show a1_1 / 72057594037927936 % 256=a1_1 / 72057594037927936 from by omega] using this|simpa [byt8,show a1_2 / 72057594037927936 % 256=a1_2 / 72057594037927936 from by omega] using this⟩,HW5⟩
          |8,_,hlt,HI,hxl=>
            have hd:decide ((8:Int)<((ln:Int)+8 - 1) / 8)=true:=decide_eq_true (by omega);go_wp2_with (first|((with_reducible refine gate_builtin (b:=.append) (xs:= #[.tmp 37,.tmp 48]) rfl ?_);at_builtin;refine print_append_num (w0:=w0) w0.heap.size rfl (.tmp 37) (.tmp 48) 67 5 .u8 1 rfl Try.underlying67 info5 (by decide) _ _ _ rfl rfl HI.out.1 HI.out.2.2.2 HI.out.2.2.2.size (by have:=hxl.out;omega) ?_;intro v1 w5 hown hb hg hat;have HI5:=Aside0.mk (HI.out.grow hown hb hg hat);have HW5:=Aside0.mk (HI.out.blk0 HW.out (by decide) hg);clear hown hb hg hat));go_roundg (17 - (8+1))
            case measure=>omega
            case rel=>exact⟨8+1,by omega,rfl,rfl,⟨by have:=HI5.out;first|simpa [byt8] using this|simpa [byt8,show a1_1 / 72057594037927936 % 256=a1_1 / 72057594037927936 from by omega] using this|simpa [byt8,show a1_2 / 72057594037927936 % 256=a1_2 / 72057594037927936 from by omega] using this⟩,HW5⟩
          |9,_,hlt,HI,hxl=>
            have hd:decide ((9:Int)<((ln:Int)+8 - 1) / 8)=true:=decide_eq_true (by omega);go_wp2_with (first|((with_reducible refine gate_builtin (b:=.append) (xs:= #[.tmp 37,.tmp 48]) rfl ?_);at_builtin;refine print_append_num (w0:=w0) w0.heap.size rfl (.tmp 37) (.tmp 48) 67 5 .u8 1 rfl Try.underlying67 info5 (by decide) _ _ _ rfl rfl HI.out.1 HI.out.2.2.2 HI.out.2.2.2.size (by have:=hxl.out;omega) ?_;intro v1 w5 hown hb hg hat;have HI5:=Aside0.mk (HI.out.grow hown hb hg hat);have HW5:=Aside0.mk (HI.out.blk0 HW.out (by decide) hg);clear hown hb hg hat));go_roundg (17 - (9+1))
            case measure=>omega
            case rel=>exact⟨9+1,by omega,rfl,rfl,⟨by have:=HI5.out;first|simpa [byt8] using this|simpa [byt8,show a1_1 / 72057594037927936 % 256=a1_1 / 72057594037927936 from by omega] using this|simpa [byt8,show a1_2 / 72057594037927936 % 256=a1_2 / 72057594037927936 from by omega] using this⟩,HW5⟩
          |10,_,hlt,HI,hxl=>
            have hd:decide ((10:Int)<((ln:Int)+8 - 1) / 8)=true:=decide_eq_true (by omega);go_wp2_with (first|((with_reducible refine gate_builtin (b:=.append) (xs:= #[.tmp 37,.tmp 48]) rfl ?_);at_builtin;refine print_append_num (w0:=w0) w0.heap.size rfl (.tmp 37) (.tmp 48) 67 5 .u8 1 rfl Try.underlying67 info5 (by decide) _ _ _ rfl rfl HI.out.1 HI.out.2.2.2 HI.out.2.2.2.size (by have:=hxl.out;omega) ?_;intro v1 w5 hown hb hg hat;have HI5:=Aside0.mk (HI.out.grow hown hb hg hat);have HW5:=Aside0.mk (HI.out.blk0 HW.out (by decide) hg);clear hown hb hg hat));go_roundg (17 - (10+1))
            case measure=>omega
            case rel=>exact⟨10+1,by omega,rfl,rfl,⟨by have:=HI5.out;first|simpa [byt8] using this|simpa [byt8,show a1_1 / 72057594037927936 % 256=a1_1 / 72057594037927936 from by omega] using this|simpa [byt8,show a1_2 / 72057594037927936 % 256=a1_2 / 72057594037927936 from by omega] using this⟩,HW5⟩
          |11,_,hlt,HI,hxl=>
            have hd:decide ((11:Int)<((ln:Int)+8 - 1) / 8)=true:=decide_eq_true (by omega);go_wp2_with (first|((with_reducible refine gate_builtin (b:=.append) (xs:= #[.tmp 37,.tmp 48]) rfl ?_);at_builtin;refine print_append_num (w0:=w0) w0.heap.size rfl (.tmp 37) (.tmp 48) 67 5 .u8 1 rfl Try.underlying67 info5 (by decide) _ _ _ rfl rfl HI.out.1 HI.out.2.2.2 HI.out.2.2.2.size (by have:=hxl.out;omega) ?_;intro v1 w5 hown hb hg hat;have HI5:=Aside0.mk (HI.out.grow hown hb hg hat);have HW5:=Aside0.mk (HI.out.blk0 HW.out (by decide) hg);clear hown hb hg hat));go_roundg (17 - (11+1))
            case measure=>omega
            case rel=>exact⟨11+1,by omega,rfl,rfl,⟨by have:=HI5.out;first|simpa [byt8] using this|simpa [byt8,show a1_1 / 72057594037927936 % 256=a1_1 / 72057594037927936 from by omega] using this|simpa [byt8,show a1_2 / 72057594037927936 % 256=a1_2 / 72057594037927936 from by omega] using this⟩,HW5⟩
          |12,_,hlt,HI,hxl=>
            have hd:decide ((12:Int)<((ln:Int)+8 - 1) / 8)=true:=decide_eq_true (by omega);go_wp2_with (first|((with_reducible refine gate_builtin (b:=.append) (xs:= #[.tmp 37,.tmp 48]) rfl ?_);at_builtin;refine print_append_num (w0:=w0) w0.heap.size rfl (.tmp 37) (.tmp 48) 67 5 .u8 1 rfl Try.underlying67 info5 (by decide) _ _ _ rfl rfl HI.out.1 HI.out.2.2.2 HI.out.2.2.2.size (by have:=hxl.out;omega) ?_;intro v1 w5 hown hb hg hat;have HI5:=Aside0.mk (HI.out.grow hown hb hg hat);have HW5:=Aside0.mk (HI.out.blk0 HW.out (by decide) hg);clear hown hb hg hat));go_roundg (17 - (12+1))
            case measure=>omega
            case rel=>exact⟨12+1,by omega,rfl,rfl,⟨by have:=HI5.out;first|simpa [byt8] using this|simpa [byt8,show a1_1 / 72057594037927936 % 256=a1_1 / 72057594037927936 from by omega] using this|simpa [byt8,show a1_2 / 72057594037927936 % 256=a1_2 / 72057594037927936 from by omega] using this⟩,HW5⟩
          |13,_,hlt,HI,hxl=>
            have hd:decide ((13:Int)<((ln:Int)+8 - 1) / 8)=true:=decide_eq_true (by omega);go_wp2_with (first|((with_reducible refine gate_builtin (b:=.append) (xs:= #[.tmp 37,.tmp 48]) rfl ?_);at_builtin;refine print_append_num (w0:=w0) w0.heap.size rfl (.tmp 37) (.tmp 48) 67 5 .u8 1 rfl Try.underlying67 info5 (by decide) _ _ _ rfl rfl HI.out.1 HI.out.2.2.2 HI.out.2.2.2.size (by have:=hxl.out;omega) ?_;intro v1 w5 hown hb hg hat;have HI5:=Aside0.mk (HI.out.grow hown hb hg hat);have HW5:=Aside0.mk (HI.out.blk0 HW.out (by decide) hg);clear hown hb hg hat));go_roundg (17 - (13+1))
            case measure=>omega
            case rel=>exact⟨13+1,by omega,rfl,rfl,⟨by have:=HI5.out;first|simpa [byt8] using this|simpa [byt8,show a1_1 / 72057594037927936 % 256=a1_1 / 72057594037927936 from by omega] using this|simpa [byt8,show a1_2 / 72057594037927936 % 256=a1_2 / 72057594037927936 from by omega] using this⟩,HW5⟩
          |14,_,hlt,HI,hxl=>
            have hd:decide ((14:Int)<((ln:Int)+8 - 1) / 8)=true:=decide_eq_true (by omega);go_wp2_with (first|((with_reducible refine gate_builtin (b:=.append) (xs:= #[.tmp 37,.tmp 48]) rfl ?_);at_builtin;refine print_append_num (w0:=w0) w0.heap.size rfl (.tmp 37) (.tmp 48) 67 5 .u8 1 rfl Try.underlying67 info5 (by decide) _ _ _ rfl rfl HI.out.1 HI.out.2.2.2 HI.out.2.2.2.size (by have:=hxl.out;omega) ?_;intro v1 w5 hown hb hg hat;have HI5:=Aside0.mk (HI.out.grow hown hb hg hat);have HW5:=Aside0.mk (HI.out.blk0 HW.out (by decide) hg);clear hown hb hg hat));go_roundg (17 - (14+1))
            case measure=>omega
            case rel=>exact⟨14+1,by omega,rfl,rfl,⟨by have:=HI5.out;first|simpa [byt8] using this|simpa [byt8,show a1_1 / 72057594037927936 % 256=a1_1 / 72057594037927936 from by omega] using this|simpa [byt8,show a1_2 / 72057594037927936 % 256=a1_2 / 72057594037927936 from by omega] using this⟩,HW5⟩
          |15,_,hlt,HI,hxl=>
            have hd:decide ((15:Int)<((ln:Int)+8 - 1) / 8)=true:=decide_eq_true (by omega);go_wp2_with (first|((with_reducible refine gate_builtin (b:=.append) (xs:= #[.tmp 37,.tmp 48]) rfl ?_);at_builtin;refine print_append_num (w0:=w0) w0.heap.size rfl (.tmp 37) (.tmp 48) 67 5 .u8 1 rfl Try.underlying67 info5 (by decide) _ _ _ rfl rfl HI.out.1 HI.out.2.2.2 HI.out.2.2.2.size (by have:=hxl.out;omega) ?_;intro v1 w5 hown hb hg hat;have HI5:=Aside0.mk (HI.out.grow hown hb hg hat);have HW5:=Aside0.mk (HI.out.blk0 HW.out (by decide) hg);clear hown hb hg hat));go_roundg (17 - (15+1))
            case measure=>omega
            case rel=>exact⟨15+1,by omega,rfl,rfl,⟨by have:=HI5.out;first|simpa [byt8] using this|simpa [byt8,show a1_1 / 72057594037927936 % 256=a1_1 / 72057594037927936 from by omega] using this|simpa [byt8,show a1_2 / 72057594037927936 % 256=a1_2 / 72057594037927936 from by omega] using this⟩,HW5⟩
          |n+16,_,hlt,_,_=>exact absurd hlt (by omega)
        · have hd:decide ((i:Int)<((ln:Int)+8 - 1) / 8)=false:=decide_eq_false (by omega);go_wp2;go_ret;obtain rfl:i=(ln+7) / 8:=by omega
          have e:l0++ [6,(ln:Int)]++(byt8 a1_1++byt8 a1_2).take ((ln+7) / 8)=r:=by rw [← HR.out];rw [pre_word,if_pos rfl];simp [pre_word]
          have hI:=HI.out;rw [e]at hI;exact⟨_,rfl,Kd.R_of_own (enc:=Value.int .u8) (h1:=fun _=>rfl) hI.1 hI.2.1,hI.2.2.2,hI.2.2.1⟩
  ·rw [if_neg c]at h;cases h
def msg_Put.f (k:Nat) (a0_0:Int) (a0_1:Int) (a0_2:Int) (a0_3:Int) (a0_4:Bool) (a0_5:Int) (a0_6:Int) (a0_7:Int) (a0_8:Int) (a0_9:Int) (a0_10:Int) (a0_11:Int):Option (ByteArray × Int):=(msg_Check.f k a0_0 a0_1 a0_2 a0_3 a0_4 a0_5 a0_6 a0_7 a0_8 a0_9 a0_10 a0_11).bind fun t221=>(if t221=0 then ((num_Add.f k (([a0_0]:List Int)) (IntKind.u64.wrap (a0_1))).bind fun t225=>((num_Add.f k t225 a0_2).bind fun t228=>((num_Add.f k t228 (IntKind.u64.wrap (a0_3))).bind fun t231=>(if a0_0=3 then ((msg_prefix.f t231 a0_4 a0_5 a0_6 a0_7).bind fun t234=>((msg_action.f k t234 a0_8 a0_9).bind fun t237=>(some (strOfNums t237,0)))) else (if a0_0=4 then ((msg_prefix.f t231 a0_4 a0_5 a0_6 a0_7).bind fun t240=>(some (strOfNums t240,0))) else (if a0_0=5 then ((num_Add.f k t231 (IntKind.u64.wrap (a0_10))).bind fun t243=>((num_Add.f k t243 (IntKind.u64.wrap (a0_11))).bind fun t246=>(some (strOfNums t246,0)))) else (if a0_0=6 then ((num_Add.f k t231 (IntKind.u64.wrap (a0_10))).bind fun t249=>(some (strOfNums t249,0))) else (some (strOfNums t231,0))))))))) else (some ((⟨#[]⟩:ByteArray),t221)))
theorem msg_Put.mono: ∀ a0 a1 a2 a3 a4 a5 a6 a7 a8 a9 a10 a11 k,LeO (msg_Put.f k a0 a1 a2 a3 a4 a5 a6 a7 a8 a9 a10 a11) (msg_Put.f (k+1) a0 a1 a2 a3 a4 a5 a6 a7 a8 a9 a10 a11):=by
 intro a0 a1 a2 a3 a4 a5 a6 a7 a8 a9 a10 a11 k;unfold msg_Put.f
 repeat' first
   | (with_reducible exact msg_Check.mono _ _ _ _ _ _ _ _ _ _ _ _ _)
   | (with_reducible exact msg_action.mono _ _ _ _)
   | (with_reducible exact num_Add.mono _ _ _)
   | (with_reducible exact LeO.refl _)
   | (with_reducible exact LeO.none _)
   | (with_reducible refine LeO.ite ?_ ?_)
   | (with_reducible refine LeO.bind ?_ (fun _ => ?_))
   | exact msg_Check.mono _ _ _ _ _ _ _ _ _ _ _ _ _
   | exact msg_action.mono _ _ _ _
   | exact num_Add.mono _ _ _
   | exact LeO.none _
   | refine LeO.ite ?_ ?_
   | refine LeO.bind ?_ (fun _ => ?_)
def msg_Put.T4:Bool × List (List Nat × List Nat):=(true, [([], []),([0], [0]),([1], [1]),([], []),([3], [3]),([4], [4]),([2,5], [2,5]),([], []),([7], [7]),([6,8,6], [6,8]),([], []),([10], [10]),([11], [11]),([9,12,9], [9,12]),([13,13,0,1,2,3,4,5,6,7,8,9,10,11,12,13], [13])])
def msg_Put.B4:List Nat:= [0,1,3,0,8,24,63,0,128,511,0,1024,3072,8191,16383]
theorem msg_Put.tab4:rtab .any (opsOf Try.f23 4)=msg_Put.T4:=by kernel_rfl
theorem msg_Put.bits4:waitsOk msg_Put.T4.2 msg_Put.B4=true:=by kernel_rfl
def msg_Put.T7:Bool × List (List Nat × List Nat):=(true, [([], []),([], []),([1], [1]),([0,2], [0,2]),([], []),([4], [4]),([3,5,3], [3,5]),([6,6,0,1,2,3,4,5,6], [0,6])])
def msg_Put.B7:List Nat:= [0,0,2,7,0,16,63,127]
theorem msg_Put.tab7:rtab .any (opsOf Try.f23 7)=msg_Put.T7:=by kernel_rfl
theorem msg_Put.bits7:waitsOk msg_Put.T7.2 msg_Put.B7=true:=by kernel_rfl
def msg_Put.T11:Bool × List (List Nat × List Nat):=(true, [([], []),([], []),([1], [1]),([2], [2]),([0,3], [0,3]),([], []),([5], [5]),([6], [6]),([4,7,4], [4,7]),([8,8,0,1,2,3,4,5,6,7,8], [0,8])])
def msg_Put.B11:List Nat:= [0,0,2,6,15,0,32,96,255,511]
theorem msg_Put.tab11:rtab .any (opsOf Try.f23 11)=msg_Put.T11:=by kernel_rfl
theorem msg_Put.bits11:waitsOk msg_Put.T11.2 msg_Put.B11=true:=by kernel_rfl
end Go.Proofs.Ythkdfojmhloofaa.Q
end
section
namespace Go.Proofs.Ythkdfojmhloofaa.Q
open Go.RowKit Go.Proofs.YthkdfojmhloofaaW.PrintWords Go.Proofs.YthkdfojmhloofaaW.PrintLast Go.Proofs.YthkdfojmhloofaaW.PrintMore
attribute [local go_sem] max2_int min2_int max_two min_two max_three min_three max_four min_four   -- for this text's walks alone
set_option linter.unusedVariables false
set_option linter.unusedSimpArgs false
set_option maxHeartbeats 8000000 in
set_option maxRecDepth 100000 in
theorem msg_Put.calls (k:Nat) (a0_0:Int) (a0_1:Int) (a0_2:Int) (a0_3:Int) (a0_4:Bool) (a0_5:Int) (a0_6:Int) (a0_7:Int) (a0_8:Int) (a0_9:Int) (a0_10:Int) (a0_11:Int) (r1:ByteArray) (r2:Int) (w:World) (h:msg_Put.f k a0_0 a0_1 a0_2 a0_3 a0_4 a0_5 a0_6 a0_7 a0_8 a0_9 a0_10 a0_11=some (r1,r2)):
  Calls Try.prog 23 #[.agg #[.int .u8 a0_0,.int .i64 a0_1,.int .u64 a0_2,.int .i64 a0_3,.bool a0_4,.int .u64 a0_5,.int .u64 a0_6,.int .i64 a0_7,.int .u8 a0_8,.int .i64 a0_9,.int .i64 a0_10,.int .i64 a0_11]] w fun e w'=>e= .returned (.tuple #[.string r1,.int .i64 r2])∧Below w.heap.size w w':=by
 have hu35:=Try.underlying35;have hu30:=Try.underlying30;have hu33:=Try.underlying33;have HB:=Ax (Below.refl w.heap.size w);have H:((msg_Check.f k a0_0 a0_1 a0_2 a0_3 a0_4 a0_5 a0_6 a0_7 a0_8 a0_9 a0_10 a0_11).bind fun t221=>(if t221=0 then ((num_Add.f k (([a0_0]:List Int)) (IntKind.u64.wrap (a0_1))).bind fun t225=>((num_Add.f k t225 a0_2).bind fun t228=>((num_Add.f k t228 (IntKind.u64.wrap (a0_3))).bind fun t231=>(if a0_0=3 then ((msg_prefix.f t231 a0_4 a0_5 a0_6 a0_7).bind fun t234=>((msg_action.f k t234 a0_8 a0_9).bind fun t237=>(some (strOfNums t237,0)))) else (if a0_0=4 then ((msg_prefix.f t231 a0_4 a0_5 a0_6 a0_7).bind fun t240=>(some (strOfNums t240,0))) else (if a0_0=5 then ((num_Add.f k t231 (IntKind.u64.wrap (a0_10))).bind fun t243=>((num_Add.f k t243 (IntKind.u64.wrap (a0_11))).bind fun t246=>(some (strOfNums t246,0)))) else (if a0_0=6 then ((num_Add.f k t231 (IntKind.u64.wrap (a0_10))).bind fun t249=>(some (strOfNums t249,0))) else (some (strOfNums t231,0))))))))) else (some ((⟨#[]⟩:ByteArray),t221))))=some (r1,r2):=h;clear h;replace H:=Option.bind_eq_some_iff.mp H;obtain⟨t221,A20,H⟩:=H;replace H:(if t221=0 then ((num_Add.f k (([a0_0]:List Int)) (IntKind.u64.wrap (a0_1))).bind fun t225=>((num_Add.f k t225 a0_2).bind fun t228=>((num_Add.f k t228 (IntKind.u64.wrap (a0_3))).bind fun t231=>(if a0_0=3 then ((msg_prefix.f t231 a0_4 a0_5 a0_6 a0_7).bind fun t234=>((msg_action.f k t234 a0_8 a0_9).bind fun t237=>(some (strOfNums t237,0)))) else (if a0_0=4 then ((msg_prefix.f t231 a0_4 a0_5 a0_6 a0_7).bind fun t240=>(some (strOfNums t240,0))) else (if a0_0=5 then ((num_Add.f k t231 (IntKind.u64.wrap (a0_10))).bind fun t243=>((num_Add.f k t243 (IntKind.u64.wrap (a0_11))).bind fun t246=>(some (strOfNums t246,0)))) else (if a0_0=6 then ((num_Add.f k t231 (IntKind.u64.wrap (a0_10))).bind fun t249=>(some (strOfNums t249,0))) else (some (strOfNums t231,0))))))))) else (some ((⟨#[]⟩:ByteArray),t221)))=some (r1,r2):=H;have A2:=Ax A20;clear A20;by_cases c3:t221=0
 ·rw [if_pos c3]at H;have c3b0:(t221==0)=true:=beq_iff_eq.mpr c3;have c3b1:(t221 !=0)=false:=bne_eq_false_iff_eq.mpr c3;clear c3;obtain⟨y222,hy222⟩: ∃ y_:List Int,y_=(([a0_0]:List Int)):=⟨_,rfl⟩;replace H:((num_Add.f k y222 (IntKind.u64.wrap (a0_1))).bind fun t225=>((num_Add.f k t225 a0_2).bind fun t228=>((num_Add.f k t228 (IntKind.u64.wrap (a0_3))).bind fun t231=>(if a0_0=3 then ((msg_prefix.f t231 a0_4 a0_5 a0_6 a0_7).bind fun t234=>((msg_action.f k t234 a0_8 a0_9).bind fun t237=>(some (strOfNums t237,0)))) else (if a0_0=4 then ((msg_prefix.f t231 a0_4 a0_5 a0_6 a0_7).bind fun t240=>(some (strOfNums t240,0))) else (if a0_0=5 then ((num_Add.f k t231 (IntKind.u64.wrap (a0_10))).bind fun t243=>((num_Add.f k t243 (IntKind.u64.wrap (a0_11))).bind fun t246=>(some (strOfNums t246,0)))) else (if a0_0=6 then ((num_Add.f k t231 (IntKind.u64.wrap (a0_10))).bind fun t249=>(some (strOfNums t249,0))) else (some (strOfNums t231,0)))))))))=some (r1,r2):=by first|(rw [hy222];with_reducible exact H)|(have H2_:=(Option.bind_some _ _).symm.trans H;rw [hy222];with_reducible exact H2_)|(have H2_:=(Option.bind_some _ _).symm.trans H;with_reducible exact H2_)|with_reducible exact H|(rw [hy222];exact H)|exact H
  have Ny222:=Ax hy222;clear hy222;replace H:=Option.bind_eq_some_iff.mp H;obtain⟨t225,A40,H⟩:=H;replace H:((num_Add.f k t225 a0_2).bind fun t228=>((num_Add.f k t228 (IntKind.u64.wrap (a0_3))).bind fun t231=>(if a0_0=3 then ((msg_prefix.f t231 a0_4 a0_5 a0_6 a0_7).bind fun t234=>((msg_action.f k t234 a0_8 a0_9).bind fun t237=>(some (strOfNums t237,0)))) else (if a0_0=4 then ((msg_prefix.f t231 a0_4 a0_5 a0_6 a0_7).bind fun t240=>(some (strOfNums t240,0))) else (if a0_0=5 then ((num_Add.f k t231 (IntKind.u64.wrap (a0_10))).bind fun t243=>((num_Add.f k t243 (IntKind.u64.wrap (a0_11))).bind fun t246=>(some (strOfNums t246,0)))) else (if a0_0=6 then ((num_Add.f k t231 (IntKind.u64.wrap (a0_10))).bind fun t249=>(some (strOfNums t249,0))) else (some (strOfNums t231,0))))))))=some (r1,r2):=H;have A4:=Ax A40;clear A40;replace H:=Option.bind_eq_some_iff.mp H;obtain⟨t228,A50,H⟩:=H;replace H:((num_Add.f k t228 (IntKind.u64.wrap (a0_3))).bind fun t231=>(if a0_0=3 then ((msg_prefix.f t231 a0_4 a0_5 a0_6 a0_7).bind fun t234=>((msg_action.f k t234 a0_8 a0_9).bind fun t237=>(some (strOfNums t237,0)))) else (if a0_0=4 then ((msg_prefix.f t231 a0_4 a0_5 a0_6 a0_7).bind fun t240=>(some (strOfNums t240,0))) else (if a0_0=5 then ((num_Add.f k t231 (IntKind.u64.wrap (a0_10))).bind fun t243=>((num_Add.f k t243 (IntKind.u64.wrap (a0_11))).bind fun t246=>(some (strOfNums t246,0)))) else (if a0_0=6 then ((num_Add.f k t231 (IntKind.u64.wrap (a0_10))).bind fun t249=>(some (strOfNums t249,0))) else (some (strOfNums t231,0)))))))=some (r1,r2):=H;have A5:=Ax A50;clear A50;replace H:=Option.bind_eq_some_iff.mp H;obtain⟨t231,A60,H⟩:=H;replace H:(if a0_0=3 then ((msg_prefix.f t231 a0_4 a0_5 a0_6 a0_7).bind fun t234=>((msg_action.f k t234 a0_8 a0_9).bind fun t237=>(some (strOfNums t237,0)))) else (if a0_0=4 then ((msg_prefix.f t231 a0_4 a0_5 a0_6 a0_7).bind fun t240=>(some (strOfNums t240,0))) else (if a0_0=5 then ((num_Add.f k t231 (IntKind.u64.wrap (a0_10))).bind fun t243=>((num_Add.f k t243 (IntKind.u64.wrap (a0_11))).bind fun t246=>(some (strOfNums t246,0)))) else (if a0_0=6 then ((num_Add.f k t231 (IntKind.u64.wrap (a0_10))).bind fun t249=>(some (strOfNums t249,0))) else (some (strOfNums t231,0))))))=some (r1,r2):=H;have A6:=Ax A60;clear A60;by_cases c7:a0_0=3
  ·rw [if_pos c7]at H;have c7b0:(a0_0==3)=true:=beq_iff_eq.mpr c7;have c7b1:(a0_0 !=3)=false:=bne_eq_false_iff_eq.mpr c7;clear c7;replace H:=Option.bind_eq_some_iff.mp H;obtain⟨t234,A80,H⟩:=H;replace H:((msg_action.f k t234 a0_8 a0_9).bind fun t237=>(some (strOfNums t237,0)))=some (r1,r2):=H;have A8:=Ax A80;clear A80;replace H:=Option.bind_eq_some_iff.mp H;obtain⟨t237,A90,H⟩:=H;replace H:(some (strOfNums t237,0))=some (r1,r2):=H;have A9:=Ax A90;clear A90;simp only[Option.some.injEq,Prod.mk.injEq]at H;obtain⟨rfl,rfl⟩:=H;go_enter Try.func23,Try.ntmps23;try go_wp2_with (first|((with_reducible refine gate_dst (N:=1) rfl ?_);refine box_event ?hg (N:=1) ?hd (cs:= #[.int .u8 a0_0,.int .i64 a0_1,.int .u64 a0_2,.int .i64 a0_3,.bool a0_4,.int .u64 a0_5,.int .u64 a0_6,.int .i64 a0_7,.int .u8 a0_8,.int .i64 a0_9,.int .i64 a0_10,.int .i64 a0_11]) (t:=35) ?hr ?_;(case hd=>rfl);(case hg=>rfl);(case hr=>first|(go_simp;done)|(go_simp;rfl));intro gb220 hg w10 hbox hb;have n0_:=Bs0 HB hb;have n1_:=Ax (hbox);have n2_:=Gw0 HB hg;have n3_:=Gw0 HB hg;clear HB;have HB:=n0_;have BK220:=n1_;have GW220:=n2_;have GE220:=n3_;clear n0_ n1_ n2_ n3_;clear hb hbox hg;obtain⟨hcz11_0,hcz11_1,hcz11_2,hcz11_3,hcz11_4,hcz11_5,hcz11_6,hcz11_7,hcz11_8,hcz11_9,hcz11_10,hcz11_11,hfz11_0,hfz11_1,hfz11_2,hfz11_3,hfz11_4,hfz11_5,hfz11_6,hfz11_7,hfz11_8,hfz11_9,hfz11_10,hfz11_11⟩:=cl12 BK220)|((with_reducible refine gate_callee (f:=39) rfl ?_);refine goesL_ (some 7) rfl rfl Try.func39 (by kernel_rfl) rfl #[.agg #[.int .u8 a0_0,.int .i64 a0_1,.int .u64 a0_2,.int .i64 a0_3,.bool a0_4,.int .u64 a0_5,.int .u64 a0_6,.int .i64 a0_7,.int .u8 a0_8,.int .i64 a0_9,.int .i64 a0_10,.int .i64 a0_11]] rfl gS ?_;(with_reducible refine (msg_Check.calls k a0_0 a0_1 a0_2 a0_3 a0_4 a0_5 a0_6 a0_7 a0_8 a0_9 a0_10 a0_11 t221 _ A2.out).mono ?_);rintro e w12 ⟨rfl,hb⟩;refine⟨_,rfl,?_⟩;replace BK220:=Bx0 BK220 hb;replace HB:=Bs1 HB hb GE220.out;(try clear hb)))
   replace BK220:=Ax (blk_drew BK220.out);replace HB:=Ax (below_drew1 HB.out);refine start_ (n:=15) (S:=fun w'=>w'.cell? ⟨gb220,0,none⟩=some (.int .u8 a0_0)∧w'.cell? ⟨gb220,1,none⟩=some (.int .i64 a0_1)∧w'.cell? ⟨gb220,2,none⟩=some (.int .u64 a0_2)∧w'.cell? ⟨gb220,3,none⟩=some (.int .i64 a0_3)∧w'.cell? ⟨gb220,4,none⟩=some (.bool a0_4)∧w'.cell? ⟨gb220,5,none⟩=some (.int .u64 a0_5)∧w'.cell? ⟨gb220,6,none⟩=some (.int .u64 a0_6)∧w'.cell? ⟨gb220,7,none⟩=some (.int .i64 a0_7)∧w'.cell? ⟨gb220,8,none⟩=some (.int .u8 a0_8)∧w'.cell? ⟨gb220,9,none⟩=some (.int .i64 a0_9)∧w'.cell? ⟨gb220,10,none⟩=some (.int .i64 a0_10)∧w'.cell? ⟨gb220,11,none⟩=some (.int .i64 a0_11)) (ds:= []) #[fa,fa,fa,fa,fa,fa,fa,fa,fa,fa,fa,fa,fa,fa,fa] (by kernel_rfl) rfl rfl ⟨(blk_cell BK220.out 0).trans rfl,(blk_cell BK220.out 1).trans rfl,(blk_cell BK220.out 2).trans rfl,(blk_cell BK220.out 3).trans rfl,(blk_cell BK220.out 4).trans rfl,(blk_cell BK220.out 5).trans rfl,(blk_cell BK220.out 6).trans rfl,(blk_cell BK220.out 7).trans rfl,(blk_cell BK220.out 8).trans rfl,(blk_cell BK220.out 9).trans rfl,(blk_cell BK220.out 10).trans rfl,(blk_cell BK220.out 11).trans rfl⟩ (fun hHeld=>?_);refine with_tabW msg_Put.tab4 msg_Put.bits4 (fun HT_ HW_=>?_);generalize w12.drew=w13 at BK220 HB hHeld ⊢;refine pz 0 11 #[tr,fa,fa,fa,fa,fa,fa,fa,fa,fa,fa,fa,fa,fa,fa] HT_.out ?_
   refine pz 3 14 #[tr,fa,fa,tr,fa,fa,fa,fa,fa,fa,fa,fa,fa,fa,fa] HT_.out ?_
   refine pz 7 18 #[tr,fa,fa,tr,fa,fa,fa,tr,fa,fa,fa,fa,fa,fa,fa] HT_.out ?_
   refine pz 10 21 #[tr,fa,fa,tr,fa,fa,fa,tr,fa,fa,tr,fa,fa,fa,fa] HT_.out ?_
   refine take_ (i:=1) (N:=some 12) (v:=?_) (a':=?_) #[tr,tr,fa,tr,fa,fa,fa,tr,fa,fa,tr,fa,fa,fa,fa] rfl rfl (take_ofW HT_.out HW_.out (by kernel_rfl)) (fun _ _ _ h=>h) (Or.inl ⟨by rfl,?_⟩) hHeld ?_ ?_;rotate_left
   ·rintro w' ⟨s0,s1,s2,s3,s4,s5,s6,s7,s8,s9,s10,s11⟩
    go_simp;with_reducible rfl
   rotate_left;·simp only[sP];rfl
   refine take_ (i:=4) (N:=some 15) (v:=?_) (a':=?_) #[tr,tr,fa,tr,tr,fa,fa,tr,fa,fa,tr,fa,fa,fa,fa] rfl rfl (take_ofW HT_.out HW_.out (by kernel_rfl)) (fun _ _ _ h=>h) (Or.inl ⟨by rfl,?_⟩) hHeld ?_ ?_;rotate_left
   ·rintro w' ⟨s0,s1,s2,s3,s4,s5,s6,s7,s8,s9,s10,s11⟩
    go_simp;with_reducible rfl
   rotate_left;·simp only[sP];rfl
   refine pz 5 16 #[tr,tr,fa,tr,tr,tr,fa,tr,fa,fa,tr,fa,fa,fa,fa] HT_.out ?_
   refine take_ (i:=8) (N:=some 19) (v:=?_) (a':=?_) #[tr,tr,fa,tr,tr,tr,fa,tr,tr,fa,tr,fa,fa,fa,fa] rfl rfl (take_ofW HT_.out HW_.out (by kernel_rfl)) (fun _ _ _ h=>h) (Or.inl ⟨by rfl,?_⟩) hHeld ?_ ?_;rotate_left
   ·rintro w' ⟨s0,s1,s2,s3,s4,s5,s6,s7,s8,s9,s10,s11⟩
    go_simp;with_reducible rfl
   rotate_left;·simp only[sP];rfl
   refine take_ (i:=11) (N:=some 22) (v:=?_) (a':=?_) #[tr,tr,fa,tr,tr,tr,fa,tr,tr,fa,tr,tr,fa,fa,fa] rfl rfl (take_ofW HT_.out HW_.out (by kernel_rfl)) (fun _ _ _ h=>h) (Or.inl ⟨by rfl,?_⟩) hHeld ?_ ?_;rotate_left
   ·rintro w' ⟨s0,s1,s2,s3,s4,s5,s6,s7,s8,s9,s10,s11⟩
    go_simp;with_reducible rfl
   rotate_left;·simp only[sP];rfl
   refine pz 12 23 #[tr,tr,fa,tr,tr,tr,fa,tr,tr,fa,tr,tr,tr,fa,fa] HT_.out ?_
   refine one_ (i:=2) (N:=some 13) #[tr,tr,tr,tr,tr,tr,fa,tr,tr,fa,tr,tr,tr,fa,fa] rfl rfl (one_of HT_.out (by kernel_rfl)) (by decide) (fun K hK=>?_);refine Kd.R_lit_step (Kd.int .u8) _ 5 ?hg (N:=13) ?hd (xs:=([a0_0]:List Int)) (inner:= [.int .u8 a0_0]) (ok:=fun _=>True) (okp:=fun _=>True) ?hr ?hp (fun _ hk=>hk) trivial (Below.refl _ _) (Nat.le_refl _) (by simp) ?_;(case hd=>rfl);(case hg=>rfl);(case hr=>first|(go_simp;done)|(go_simp;rfl));(case hp=>exact (Reps.one (show Kd.M (Kd.int .u8) _ _ _ a0_0 [.int .u8 a0_0] from rfl) (Reps.none _ _)));intro v223 w14 ho15 hb hg_ hnew_;clear hg_ hnew_
   (first|rw [← Ny222.out]at ho15|(simp only[Int.reduceToNat]at ho15;rw [← Ny222.out]at ho15))
   have HO224:=Ax (Kd.R_lower ho15 (below_size (bw1 HB.out GE220.out)));replace BK220:=Bx0 BK220 hb;replace HB:=Bs1 HB hb GE220.out;clear hb ho15;obtain⟨Ao16,co16,eo16⟩:=Kd.R_slice HO224.out
   (first|subst eo16|(injection eo16 with f1_ f2_ f3_;have f4_:=f1_.symm;have f5_:=f3_.symm;clear f1_ f2_ f3_;subst f4_;subst f5_))
   refine hK.out _ _ ⟨(blk_cell BK220.out 0).trans rfl,(blk_cell BK220.out 1).trans rfl,(blk_cell BK220.out 2).trans rfl,(blk_cell BK220.out 3).trans rfl,(blk_cell BK220.out 4).trans rfl,(blk_cell BK220.out 5).trans rfl,(blk_cell BK220.out 6).trans rfl,(blk_cell BK220.out 7).trans rfl,(blk_cell BK220.out 8).trans rfl,(blk_cell BK220.out 9).trans rfl,(blk_cell BK220.out 10).trans rfl,(blk_cell BK220.out 11).trans rfl⟩ (fun hHeld=>?_);clear hK K;refine norm_ (a':=?_) ?_ ?_;rotate_left
   ·show Act.put _ (some 13) _=_
    simp only[sP];rfl
   refine one_ (i:=6) (N:=some 17) #[tr,tr,tr,tr,tr,tr,tr,tr,tr,fa,tr,tr,tr,fa,fa] rfl rfl (one_of HT_.out (by kernel_rfl)) (by decide) (fun K hK=>?_);refine goes_ Try.func45 (by kernel_rfl) rfl #[.slice Ao16 y222.length co16,.int .u64 (IntKind.u64.wrap (a0_1))] (by rfl) rfl rfl gS ?_;with_reducible refine (num_Add.calls k (fun k_=>some k_=(.slice Ao16 y222.length co16:Value).ownBlock) (.slice Ao16 y222.length co16) y222 (IntKind.u64.wrap (a0_1)) t225 w _ ?side1 ?side2 A4.out).mono ?_
   (case side1=>repeat (first|(with_reducible first|exact HB.out|apply below_alloc|apply pw_below_drewN|apply below_drew1|refine below_set ?_ GE220.out)|exact HB.out))
   (case side2=>exact Kd.R_tight rfl HO224.out)
   rintro e w17 ⟨v226,rfl,ho0,hb,hkp⟩
   refine⟨_,rfl,?_⟩;have n0_:=Ax (blk_kept (bf0 BK220.out) hkp (fun hs_=>(fun e_=>(Kd.R_ne HO224.out BK220.out (by decide)) e_) hs_));have n1_:=Ax (Kd.R_mono (ok':=fun k_=>True) ho0 (fun k_ hk_=>trivial));have n2_:=Ax (hb);clear BK220;clear HB;clear HO224;have BK220:=n0_;have HO227:=n1_;have HB:=n2_;clear n0_ n1_ n2_
   (try clear hb)
   (try clear hkp)
   (try clear ho0)
   obtain⟨Ao18,co18,eo18⟩:=Kd.R_slice HO227.out
   (first|subst eo18|(injection eo18 with f1_ f2_ f3_;have f4_:=f1_.symm;have f5_:=f3_.symm;clear f1_ f2_ f3_;subst f4_;subst f5_))
   refine hK.out _ _ ⟨(blk_cell BK220.out 0).trans rfl,(blk_cell BK220.out 1).trans rfl,(blk_cell BK220.out 2).trans rfl,(blk_cell BK220.out 3).trans rfl,(blk_cell BK220.out 4).trans rfl,(blk_cell BK220.out 5).trans rfl,(blk_cell BK220.out 6).trans rfl,(blk_cell BK220.out 7).trans rfl,(blk_cell BK220.out 8).trans rfl,(blk_cell BK220.out 9).trans rfl,(blk_cell BK220.out 10).trans rfl,(blk_cell BK220.out 11).trans rfl⟩ (fun hHeld=>?_);clear hK K;refine norm_ (a':=?_) ?_ ?_;rotate_left
   ·show Act.put _ (some 17) _=_
    simp only[sP];rfl
   refine one_ (i:=9) (N:=some 20) #[tr,tr,tr,tr,tr,tr,tr,tr,tr,tr,tr,tr,tr,fa,fa] rfl rfl (one_of HT_.out (by kernel_rfl)) (by decide) (fun K hK=>?_);refine goes_ Try.func45 (by kernel_rfl) rfl #[.slice Ao18 t225.length co18,.int .u64 a0_2] (by rfl) rfl rfl gS ?_;with_reducible refine (num_Add.calls k (fun k_=>some k_=(.slice Ao18 t225.length co18:Value).ownBlock) (.slice Ao18 t225.length co18) t225 a0_2 t228 w _ ?side1 ?side2 A5.out).mono ?_
   (case side1=>repeat (first|(with_reducible first|exact HB.out|apply below_alloc|apply pw_below_drewN|apply below_drew1|refine below_set ?_ GE220.out)|exact HB.out))
   (case side2=>exact Kd.R_tight rfl HO227.out)
   rintro e w19 ⟨v229,rfl,ho0,hb,hkp⟩
   refine⟨_,rfl,?_⟩;have n0_:=Ax (blk_kept (bf0 BK220.out) hkp (fun hs_=>(fun e_=>(Kd.R_ne HO227.out BK220.out (by decide)) e_) hs_));have n1_:=Ax (Kd.R_mono (ok':=fun k_=>True) ho0 (fun k_ hk_=>trivial));have n2_:=Ax (hb);clear BK220;clear HB;clear HO227;have BK220:=n0_;have HO230:=n1_;have HB:=n2_;clear n0_ n1_ n2_
   (try clear hb)
   (try clear hkp)
   (try clear ho0)
   obtain⟨Ao20,co20,eo20⟩:=Kd.R_slice HO230.out
   (first|subst eo20|(injection eo20 with f1_ f2_ f3_;have f4_:=f1_.symm;have f5_:=f3_.symm;clear f1_ f2_ f3_;subst f4_;subst f5_))
   refine hK.out _ _ ⟨(blk_cell BK220.out 0).trans rfl,(blk_cell BK220.out 1).trans rfl,(blk_cell BK220.out 2).trans rfl,(blk_cell BK220.out 3).trans rfl,(blk_cell BK220.out 4).trans rfl,(blk_cell BK220.out 5).trans rfl,(blk_cell BK220.out 6).trans rfl,(blk_cell BK220.out 7).trans rfl,(blk_cell BK220.out 8).trans rfl,(blk_cell BK220.out 9).trans rfl,(blk_cell BK220.out 10).trans rfl,(blk_cell BK220.out 11).trans rfl⟩ (fun hHeld=>?_);clear hK K;refine norm_ (a':=?_) ?_ ?_;rotate_left
   ·show Act.put _ (some 20) _=_
    simp only[sP];rfl
   refine one_ (i:=13) (N:=some 24) #[tr,tr,tr,tr,tr,tr,tr,tr,tr,tr,tr,tr,tr,tr,fa] rfl rfl (one_of HT_.out (by kernel_rfl)) (by decide) (fun K hK=>?_);refine goes_ Try.func45 (by kernel_rfl) rfl #[.slice Ao20 t228.length co20,.int .u64 (IntKind.u64.wrap (a0_3))] (by rfl) rfl rfl gS ?_;with_reducible refine (num_Add.calls k (fun k_=>some k_=(.slice Ao20 t228.length co20:Value).ownBlock) (.slice Ao20 t228.length co20) t228 (IntKind.u64.wrap (a0_3)) t231 w _ ?side1 ?side2 A6.out).mono ?_
   (case side1=>repeat (first|(with_reducible first|exact HB.out|apply below_alloc|apply pw_below_drewN|apply below_drew1|refine below_set ?_ GE220.out)|exact HB.out))
   (case side2=>exact Kd.R_tight rfl HO230.out)
   rintro e w21 ⟨v232,rfl,ho0,hb,hkp⟩
   refine⟨_,rfl,?_⟩;have n0_:=Ax (blk_kept (bf0 BK220.out) hkp (fun hs_=>(fun e_=>(Kd.R_ne HO230.out BK220.out (by decide)) e_) hs_));have n1_:=Ax (Kd.R_mono (ok':=fun k_=>True) ho0 (fun k_ hk_=>trivial));have n2_:=Ax (hb);clear BK220;clear HB;clear HO230;have BK220:=n0_;have HO233:=n1_;have HB:=n2_;clear n0_ n1_ n2_
   (try clear hb)
   (try clear hkp)
   (try clear ho0)
   refine hK.out _ _ ⟨(blk_cell BK220.out 0).trans rfl,(blk_cell BK220.out 1).trans rfl,(blk_cell BK220.out 2).trans rfl,(blk_cell BK220.out 3).trans rfl,(blk_cell BK220.out 4).trans rfl,(blk_cell BK220.out 5).trans rfl,(blk_cell BK220.out 6).trans rfl,(blk_cell BK220.out 7).trans rfl,(blk_cell BK220.out 8).trans rfl,(blk_cell BK220.out 9).trans rfl,(blk_cell BK220.out 10).trans rfl,(blk_cell BK220.out 11).trans rfl⟩ (fun hHeld=>?_);clear hK K;refine norm_ (a':=?_) ?_ ?_;rotate_left
   ·show Act.put _ (some 24) _=_
    simp only[sP];rfl
   refine pz 14 5 #[tr,tr,tr,tr,tr,tr,tr,tr,tr,tr,tr,tr,tr,tr,tr] HT_.out ?_
   refine done_ (done_of HT_.out (by kernel_rfl)) ?_;obtain⟨hcz22_0,hcz22_1,hcz22_2,hcz22_3,hcz22_4,hcz22_5,hcz22_6,hcz22_7,hcz22_8,hcz22_9,hcz22_10,hcz22_11,hfz22_0,hfz22_1,hfz22_2,hfz22_3,hfz22_4,hfz22_5,hfz22_6,hfz22_7,hfz22_8,hfz22_9,hfz22_10,hfz22_11⟩:=cl12 BK220;try go_wp2
   replace HO233:=Ax (Kd.R_drew HO233.out);replace BK220:=Ax (blk_drew BK220.out);replace HB:=Ax (below_drew1 HB.out);obtain⟨Ao24,co24,eo24⟩:=Kd.R_slice HO233.out
   (first|subst eo24|(injection eo24 with f1_ f2_ f3_;have f4_:=f1_.symm;have f5_:=f3_.symm;clear f1_ f2_ f3_;subst f4_;subst f5_))
   refine start_ (n:=8) (S:=fun w'=>w'.cell? ⟨gb220,0,none⟩=some (.int .u8 a0_0)∧w'.cell? ⟨gb220,1,none⟩=some (.int .i64 a0_1)∧w'.cell? ⟨gb220,2,none⟩=some (.int .u64 a0_2)∧w'.cell? ⟨gb220,3,none⟩=some (.int .i64 a0_3)∧w'.cell? ⟨gb220,4,none⟩=some (.bool a0_4)∧w'.cell? ⟨gb220,5,none⟩=some (.int .u64 a0_5)∧w'.cell? ⟨gb220,6,none⟩=some (.int .u64 a0_6)∧w'.cell? ⟨gb220,7,none⟩=some (.int .i64 a0_7)∧w'.cell? ⟨gb220,8,none⟩=some (.int .u8 a0_8)∧w'.cell? ⟨gb220,9,none⟩=some (.int .i64 a0_9)∧w'.cell? ⟨gb220,10,none⟩=some (.int .i64 a0_10)∧w'.cell? ⟨gb220,11,none⟩=some (.int .i64 a0_11)) (ds:= []) #[fa,fa,fa,fa,fa,fa,fa,fa] (by kernel_rfl) rfl rfl ⟨(blk_cell BK220.out 0).trans rfl,(blk_cell BK220.out 1).trans rfl,(blk_cell BK220.out 2).trans rfl,(blk_cell BK220.out 3).trans rfl,(blk_cell BK220.out 4).trans rfl,(blk_cell BK220.out 5).trans rfl,(blk_cell BK220.out 6).trans rfl,(blk_cell BK220.out 7).trans rfl,(blk_cell BK220.out 8).trans rfl,(blk_cell BK220.out 9).trans rfl,(blk_cell BK220.out 10).trans rfl,(blk_cell BK220.out 11).trans rfl⟩ (fun hHeld=>?_);refine with_tabW msg_Put.tab7 msg_Put.bits7 (fun HT_ HW_=>?_);generalize w21.drew=w23 at HO233 BK220 HB hHeld ⊢;refine pz 0 29 #[tr,fa,fa,fa,fa,fa,fa,fa] HT_.out ?_
   refine pz 1 30 #[tr,tr,fa,fa,fa,fa,fa,fa] HT_.out ?_
   refine pz 4 33 #[tr,tr,fa,fa,tr,fa,fa,fa] HT_.out ?_
   refine take_ (i:=2) (N:=some 31) (v:=?_) (a':=?_) #[tr,tr,tr,fa,tr,fa,fa,fa] rfl rfl (take_ofW HT_.out HW_.out (by kernel_rfl)) (fun _ _ _ h=>h) (Or.inl ⟨by rfl,?_⟩) hHeld ?_ ?_;rotate_left
   ·rintro w' ⟨s0,s1,s2,s3,s4,s5,s6,s7,s8,s9,s10,s11⟩
    go_simp;with_reducible rfl
   rotate_left;·simp only[sP];rfl
   refine take_ (i:=5) (N:=some 34) (v:=?_) (a':=?_) #[tr,tr,tr,fa,tr,tr,fa,fa] rfl rfl (take_ofW HT_.out HW_.out (by kernel_rfl)) (fun _ _ _ h=>h) (Or.inl ⟨by rfl,?_⟩) hHeld ?_ ?_;rotate_left
   ·rintro w' ⟨s0,s1,s2,s3,s4,s5,s6,s7,s8,s9,s10,s11⟩
    go_simp;with_reducible rfl
   rotate_left;·simp only[sP];rfl
   refine one_ (i:=3) (N:=some 32) #[tr,tr,tr,tr,tr,tr,fa,fa] rfl rfl (one_of HT_.out (by kernel_rfl)) (by decide) (fun K hK=>?_);refine goes_ Try.func47 (by kernel_rfl) rfl #[.slice Ao24 t231.length co24,.agg #[.bool a0_4,.int .u64 a0_5,.int .u64 a0_6,.int .i64 a0_7]] (by rfl) rfl rfl gS ?_;with_reducible refine (msg_prefix.calls (fun k_=>some k_=(.slice Ao24 t231.length co24:Value).ownBlock) (.slice Ao24 t231.length co24) t231 a0_4 a0_5 a0_6 a0_7 t234 w _ ?side1 ?side2 A8.out).mono ?_
   (case side1=>repeat (first|(with_reducible first|exact HB.out|apply below_alloc|apply pw_below_drewN|apply below_drew1|refine below_set ?_ GE220.out)|exact HB.out))
   (case side2=>exact Kd.R_tight rfl HO233.out)
   rintro e w25 ⟨v235,rfl,ho0,hb,hkp⟩
   refine⟨_,rfl,?_⟩;have n0_:=Ax (blk_kept (bf0 BK220.out) hkp (fun hs_=>(fun e_=>(Kd.R_ne HO233.out BK220.out (by decide)) e_) hs_));have n1_:=Ax (Kd.R_mono (ok':=fun k_=>True) ho0 (fun k_ hk_=>trivial));have n2_:=Ax (hb);clear BK220;clear HB;clear HO233;have BK220:=n0_;have HO236:=n1_;have HB:=n2_;clear n0_ n1_ n2_
   (try clear hb)
   (try clear hkp)
   (try clear ho0)
   obtain⟨Ao26,co26,eo26⟩:=Kd.R_slice HO236.out
   (first|subst eo26|(injection eo26 with f1_ f2_ f3_;have f4_:=f1_.symm;have f5_:=f3_.symm;clear f1_ f2_ f3_;subst f4_;subst f5_))
   refine hK.out _ _ ⟨(blk_cell BK220.out 0).trans rfl,(blk_cell BK220.out 1).trans rfl,(blk_cell BK220.out 2).trans rfl,(blk_cell BK220.out 3).trans rfl,(blk_cell BK220.out 4).trans rfl,(blk_cell BK220.out 5).trans rfl,(blk_cell BK220.out 6).trans rfl,(blk_cell BK220.out 7).trans rfl,(blk_cell BK220.out 8).trans rfl,(blk_cell BK220.out 9).trans rfl,(blk_cell BK220.out 10).trans rfl,(blk_cell BK220.out 11).trans rfl⟩ (fun hHeld=>?_);clear hK K;refine norm_ (a':=?_) ?_ ?_;rotate_left
   ·show Act.put _ (some 32) _=_
    simp only[sP];rfl
   refine one_ (i:=6) (N:=some 35) #[tr,tr,tr,tr,tr,tr,tr,fa] rfl rfl (one_of HT_.out (by kernel_rfl)) (by decide) (fun K hK=>?_);refine goes_ Try.func46 (by kernel_rfl) rfl #[.slice Ao26 t234.length co26,.agg #[.int .u8 a0_8,.int .i64 a0_9]] (by rfl) rfl rfl gS ?_;with_reducible refine (msg_action.calls k (fun k_=>some k_=(.slice Ao26 t234.length co26:Value).ownBlock) (.slice Ao26 t234.length co26) t234 a0_8 a0_9 t237 w _ ?side1 ?side2 A9.out).mono ?_
   (case side1=>repeat (first|(with_reducible first|exact HB.out|apply below_alloc|apply pw_below_drewN|apply below_drew1|refine below_set ?_ GE220.out)|exact HB.out))
   (case side2=>exact Kd.R_tight rfl HO236.out)
   rintro e w27 ⟨v238,rfl,ho0,hb,hkp⟩
   refine⟨_,rfl,?_⟩;have n0_:=Ax (blk_kept (bf0 BK220.out) hkp (fun hs_=>(fun e_=>(Kd.R_ne HO236.out BK220.out (by decide)) e_) hs_));have n1_:=Ax (Kd.R_mono (ok':=fun k_=>True) ho0 (fun k_ hk_=>trivial));have n2_:=Ax (hb);clear BK220;clear HB;clear HO236;have BK220:=n0_;have HO239:=n1_;have HB:=n2_;clear n0_ n1_ n2_
   (try clear hb)
   (try clear hkp)
   (try clear ho0)
   refine hK.out _ _ ⟨(blk_cell BK220.out 0).trans rfl,(blk_cell BK220.out 1).trans rfl,(blk_cell BK220.out 2).trans rfl,(blk_cell BK220.out 3).trans rfl,(blk_cell BK220.out 4).trans rfl,(blk_cell BK220.out 5).trans rfl,(blk_cell BK220.out 6).trans rfl,(blk_cell BK220.out 7).trans rfl,(blk_cell BK220.out 8).trans rfl,(blk_cell BK220.out 9).trans rfl,(blk_cell BK220.out 10).trans rfl,(blk_cell BK220.out 11).trans rfl⟩ (fun hHeld=>?_);clear hK K;refine norm_ (a':=?_) ?_ ?_;rotate_left
   ·show Act.put _ (some 35) _=_
    simp only[sP];rfl
   refine pz 7 5 #[tr,tr,tr,tr,tr,tr,tr,tr] HT_.out ?_
   refine done_ (done_of HT_.out (by kernel_rfl)) ?_;have hcv28:=own_string (P:=Try.prog) Try.underlying67 Try.underlying5 Try.underlying9 (Kd.own_of_R HO239.out);try go_wp2
   go_ret2;exact⟨eS,bw1 HB.out GE220.out⟩
  ·rw [if_neg c7]at H;have c7b0:(a0_0==3)=false:=beq_eq_false_iff_ne.mpr c7;have c7b1:(a0_0 !=3)=true:=bne_iff_ne.mpr c7;by_cases c29:a0_0=4
   ·rw [if_pos c29]at H;have c29b0:(a0_0==4)=true:=beq_iff_eq.mpr c29;have c29b1:(a0_0 !=4)=false:=bne_eq_false_iff_eq.mpr c29;clear c29;replace H:=Option.bind_eq_some_iff.mp H;obtain⟨t240,A300,H⟩:=H;replace H:(some (strOfNums t240,0))=some (r1,r2):=H;have A30:=Ax A300;clear A300;simp only[Option.some.injEq,Prod.mk.injEq]at H;obtain⟨rfl,rfl⟩:=H;go_enter Try.func23,Try.ntmps23;try go_wp2_with (first|((with_reducible refine gate_dst (N:=1) rfl ?_);refine box_event ?hg (N:=1) ?hd (cs:= #[.int .u8 a0_0,.int .i64 a0_1,.int .u64 a0_2,.int .i64 a0_3,.bool a0_4,.int .u64 a0_5,.int .u64 a0_6,.int .i64 a0_7,.int .u8 a0_8,.int .i64 a0_9,.int .i64 a0_10,.int .i64 a0_11]) (t:=35) ?hr ?_;(case hd=>rfl);(case hg=>rfl);(case hr=>first|(go_simp;done)|(go_simp;rfl));intro gb220 hg w31 hbox hb;have n0_:=Bs0 HB hb;have n1_:=Ax (hbox);have n2_:=Gw0 HB hg;have n3_:=Gw0 HB hg;clear HB;have HB:=n0_;have BK220:=n1_;have GW220:=n2_;have GE220:=n3_;clear n0_ n1_ n2_ n3_;clear hb hbox hg;obtain⟨hcz32_0,hcz32_1,hcz32_2,hcz32_3,hcz32_4,hcz32_5,hcz32_6,hcz32_7,hcz32_8,hcz32_9,hcz32_10,hcz32_11,hfz32_0,hfz32_1,hfz32_2,hfz32_3,hfz32_4,hfz32_5,hfz32_6,hfz32_7,hfz32_8,hfz32_9,hfz32_10,hfz32_11⟩:=cl12 BK220)|((with_reducible refine gate_callee (f:=39) rfl ?_);refine goesL_ (some 7) rfl rfl Try.func39 (by kernel_rfl) rfl #[.agg #[.int .u8 a0_0,.int .i64 a0_1,.int .u64 a0_2,.int .i64 a0_3,.bool a0_4,.int .u64 a0_5,.int .u64 a0_6,.int .i64 a0_7,.int .u8 a0_8,.int .i64 a0_9,.int .i64 a0_10,.int .i64 a0_11]] rfl gS ?_;(with_reducible refine (msg_Check.calls k a0_0 a0_1 a0_2 a0_3 a0_4 a0_5 a0_6 a0_7 a0_8 a0_9 a0_10 a0_11 t221 _ A2.out).mono ?_);rintro e w33 ⟨rfl,hb⟩;refine⟨_,rfl,?_⟩;replace BK220:=Bx0 BK220 hb;replace HB:=Bs1 HB hb GE220.out;(try clear hb)))
    replace BK220:=Ax (blk_drew BK220.out);replace HB:=Ax (below_drew1 HB.out);refine start_ (n:=15) (S:=fun w'=>w'.cell? ⟨gb220,0,none⟩=some (.int .u8 a0_0)∧w'.cell? ⟨gb220,1,none⟩=some (.int .i64 a0_1)∧w'.cell? ⟨gb220,2,none⟩=some (.int .u64 a0_2)∧w'.cell? ⟨gb220,3,none⟩=some (.int .i64 a0_3)∧w'.cell? ⟨gb220,4,none⟩=some (.bool a0_4)∧w'.cell? ⟨gb220,5,none⟩=some (.int .u64 a0_5)∧w'.cell? ⟨gb220,6,none⟩=some (.int .u64 a0_6)∧w'.cell? ⟨gb220,7,none⟩=some (.int .i64 a0_7)∧w'.cell? ⟨gb220,8,none⟩=some (.int .u8 a0_8)∧w'.cell? ⟨gb220,9,none⟩=some (.int .i64 a0_9)∧w'.cell? ⟨gb220,10,none⟩=some (.int .i64 a0_10)∧w'.cell? ⟨gb220,11,none⟩=some (.int .i64 a0_11)) (ds:= []) #[fa,fa,fa,fa,fa,fa,fa,fa,fa,fa,fa,fa,fa,fa,fa] (by kernel_rfl) rfl rfl ⟨(blk_cell BK220.out 0).trans rfl,(blk_cell BK220.out 1).trans rfl,(blk_cell BK220.out 2).trans rfl,(blk_cell BK220.out 3).trans rfl,(blk_cell BK220.out 4).trans rfl,(blk_cell BK220.out 5).trans rfl,(blk_cell BK220.out 6).trans rfl,(blk_cell BK220.out 7).trans rfl,(blk_cell BK220.out 8).trans rfl,(blk_cell BK220.out 9).trans rfl,(blk_cell BK220.out 10).trans rfl,(blk_cell BK220.out 11).trans rfl⟩ (fun hHeld=>?_);refine with_tabW msg_Put.tab4 msg_Put.bits4 (fun HT_ HW_=>?_);generalize w33.drew=w34 at BK220 HB hHeld ⊢;refine pz 0 11 #[tr,fa,fa,fa,fa,fa,fa,fa,fa,fa,fa,fa,fa,fa,fa] HT_.out ?_
    refine pz 3 14 #[tr,fa,fa,tr,fa,fa,fa,fa,fa,fa,fa,fa,fa,fa,fa] HT_.out ?_
    refine pz 7 18 #[tr,fa,fa,tr,fa,fa,fa,tr,fa,fa,fa,fa,fa,fa,fa] HT_.out ?_
    refine pz 10 21 #[tr,fa,fa,tr,fa,fa,fa,tr,fa,fa,tr,fa,fa,fa,fa] HT_.out ?_
    refine take_ (i:=1) (N:=some 12) (v:=?_) (a':=?_) #[tr,tr,fa,tr,fa,fa,fa,tr,fa,fa,tr,fa,fa,fa,fa] rfl rfl (take_ofW HT_.out HW_.out (by kernel_rfl)) (fun _ _ _ h=>h) (Or.inl ⟨by rfl,?_⟩) hHeld ?_ ?_;rotate_left
    ·rintro w' ⟨s0,s1,s2,s3,s4,s5,s6,s7,s8,s9,s10,s11⟩
     go_simp;with_reducible rfl
    rotate_left;·simp only[sP];rfl
    refine take_ (i:=4) (N:=some 15) (v:=?_) (a':=?_) #[tr,tr,fa,tr,tr,fa,fa,tr,fa,fa,tr,fa,fa,fa,fa] rfl rfl (take_ofW HT_.out HW_.out (by kernel_rfl)) (fun _ _ _ h=>h) (Or.inl ⟨by rfl,?_⟩) hHeld ?_ ?_;rotate_left
    ·rintro w' ⟨s0,s1,s2,s3,s4,s5,s6,s7,s8,s9,s10,s11⟩
     go_simp;with_reducible rfl
    rotate_left;·simp only[sP];rfl
    refine pz 5 16 #[tr,tr,fa,tr,tr,tr,fa,tr,fa,fa,tr,fa,fa,fa,fa] HT_.out ?_
    refine take_ (i:=8) (N:=some 19) (v:=?_) (a':=?_) #[tr,tr,fa,tr,tr,tr,fa,tr,tr,fa,tr,fa,fa,fa,fa] rfl rfl (take_ofW HT_.out HW_.out (by kernel_rfl)) (fun _ _ _ h=>h) (Or.inl ⟨by rfl,?_⟩) hHeld ?_ ?_;rotate_left
    ·rintro w' ⟨s0,s1,s2,s3,s4,s5,s6,s7,s8,s9,s10,s11⟩
     go_simp;with_reducible rfl
    rotate_left;·simp only[sP];rfl
    refine take_ (i:=11) (N:=some 22) (v:=?_) (a':=?_) #[tr,tr,fa,tr,tr,tr,fa,tr,tr,fa,tr,tr,fa,fa,fa] rfl rfl (take_ofW HT_.out HW_.out (by kernel_rfl)) (fun _ _ _ h=>h) (Or.inl ⟨by rfl,?_⟩) hHeld ?_ ?_;rotate_left
    ·rintro w' ⟨s0,s1,s2,s3,s4,s5,s6,s7,s8,s9,s10,s11⟩
     go_simp;with_reducible rfl
    rotate_left;·simp only[sP];rfl
    refine pz 12 23 #[tr,tr,fa,tr,tr,tr,fa,tr,tr,fa,tr,tr,tr,fa,fa] HT_.out ?_
    refine one_ (i:=2) (N:=some 13) #[tr,tr,tr,tr,tr,tr,fa,tr,tr,fa,tr,tr,tr,fa,fa] rfl rfl (one_of HT_.out (by kernel_rfl)) (by decide) (fun K hK=>?_);refine Kd.R_lit_step (Kd.int .u8) _ 5 ?hg (N:=13) ?hd (xs:=([a0_0]:List Int)) (inner:= [.int .u8 a0_0]) (ok:=fun _=>True) (okp:=fun _=>True) ?hr ?hp (fun _ hk=>hk) trivial (Below.refl _ _) (Nat.le_refl _) (by simp) ?_;(case hd=>rfl);(case hg=>rfl);(case hr=>first|(go_simp;done)|(go_simp;rfl));(case hp=>exact (Reps.one (show Kd.M (Kd.int .u8) _ _ _ a0_0 [.int .u8 a0_0] from rfl) (Reps.none _ _)));intro v223 w35 ho36 hb hg_ hnew_;clear hg_ hnew_
    (first|rw [← Ny222.out]at ho36|(simp only[Int.reduceToNat]at ho36;rw [← Ny222.out]at ho36))
    have HO224:=Ax (Kd.R_lower ho36 (below_size (bw1 HB.out GE220.out)));replace BK220:=Bx0 BK220 hb;replace HB:=Bs1 HB hb GE220.out;clear hb ho36;obtain⟨Ao37,co37,eo37⟩:=Kd.R_slice HO224.out
    (first|subst eo37|(injection eo37 with f1_ f2_ f3_;have f4_:=f1_.symm;have f5_:=f3_.symm;clear f1_ f2_ f3_;subst f4_;subst f5_))
    refine hK.out _ _ ⟨(blk_cell BK220.out 0).trans rfl,(blk_cell BK220.out 1).trans rfl,(blk_cell BK220.out 2).trans rfl,(blk_cell BK220.out 3).trans rfl,(blk_cell BK220.out 4).trans rfl,(blk_cell BK220.out 5).trans rfl,(blk_cell BK220.out 6).trans rfl,(blk_cell BK220.out 7).trans rfl,(blk_cell BK220.out 8).trans rfl,(blk_cell BK220.out 9).trans rfl,(blk_cell BK220.out 10).trans rfl,(blk_cell BK220.out 11).trans rfl⟩ (fun hHeld=>?_);clear hK K;refine norm_ (a':=?_) ?_ ?_;rotate_left
    ·show Act.put _ (some 13) _=_
     simp only[sP];rfl
    refine one_ (i:=6) (N:=some 17) #[tr,tr,tr,tr,tr,tr,tr,tr,tr,fa,tr,tr,tr,fa,fa] rfl rfl (one_of HT_.out (by kernel_rfl)) (by decide) (fun K hK=>?_);refine goes_ Try.func45 (by kernel_rfl) rfl #[.slice Ao37 y222.length co37,.int .u64 (IntKind.u64.wrap (a0_1))] (by rfl) rfl rfl gS ?_;with_reducible refine (num_Add.calls k (fun k_=>some k_=(.slice Ao37 y222.length co37:Value).ownBlock) (.slice Ao37 y222.length co37) y222 (IntKind.u64.wrap (a0_1)) t225 w _ ?side1 ?side2 A4.out).mono ?_
    (case side1=>repeat (first|(with_reducible first|exact HB.out|apply below_alloc|apply pw_below_drewN|apply below_drew1|refine below_set ?_ GE220.out)|exact HB.out))
    (case side2=>exact Kd.R_tight rfl HO224.out)
    rintro e w38 ⟨v226,rfl,ho0,hb,hkp⟩
    refine⟨_,rfl,?_⟩;have n0_:=Ax (blk_kept (bf0 BK220.out) hkp (fun hs_=>(fun e_=>(Kd.R_ne HO224.out BK220.out (by decide)) e_) hs_));have n1_:=Ax (Kd.R_mono (ok':=fun k_=>True) ho0 (fun k_ hk_=>trivial));have n2_:=Ax (hb);clear BK220;clear HB;clear HO224;have BK220:=n0_;have HO227:=n1_;have HB:=n2_;clear n0_ n1_ n2_
    (try clear hb)
    (try clear hkp)
    (try clear ho0)
    obtain⟨Ao39,co39,eo39⟩:=Kd.R_slice HO227.out
    (first|subst eo39|(injection eo39 with f1_ f2_ f3_;have f4_:=f1_.symm;have f5_:=f3_.symm;clear f1_ f2_ f3_;subst f4_;subst f5_))
    refine hK.out _ _ ⟨(blk_cell BK220.out 0).trans rfl,(blk_cell BK220.out 1).trans rfl,(blk_cell BK220.out 2).trans rfl,(blk_cell BK220.out 3).trans rfl,(blk_cell BK220.out 4).trans rfl,(blk_cell BK220.out 5).trans rfl,(blk_cell BK220.out 6).trans rfl,(blk_cell BK220.out 7).trans rfl,(blk_cell BK220.out 8).trans rfl,(blk_cell BK220.out 9).trans rfl,(blk_cell BK220.out 10).trans rfl,(blk_cell BK220.out 11).trans rfl⟩ (fun hHeld=>?_);clear hK K;refine norm_ (a':=?_) ?_ ?_;rotate_left
    ·show Act.put _ (some 17) _=_
     simp only[sP];rfl
    refine one_ (i:=9) (N:=some 20) #[tr,tr,tr,tr,tr,tr,tr,tr,tr,tr,tr,tr,tr,fa,fa] rfl rfl (one_of HT_.out (by kernel_rfl)) (by decide) (fun K hK=>?_);refine goes_ Try.func45 (by kernel_rfl) rfl #[.slice Ao39 t225.length co39,.int .u64 a0_2] (by rfl) rfl rfl gS ?_;with_reducible refine (num_Add.calls k (fun k_=>some k_=(.slice Ao39 t225.length co39:Value).ownBlock) (.slice Ao39 t225.length co39) t225 a0_2 t228 w _ ?side1 ?side2 A5.out).mono ?_
    (case side1=>repeat (first|(with_reducible first|exact HB.out|apply below_alloc|apply pw_below_drewN|apply below_drew1|refine below_set ?_ GE220.out)|exact HB.out))
    (case side2=>exact Kd.R_tight rfl HO227.out)
    rintro e w40 ⟨v229,rfl,ho0,hb,hkp⟩
    refine⟨_,rfl,?_⟩;have n0_:=Ax (blk_kept (bf0 BK220.out) hkp (fun hs_=>(fun e_=>(Kd.R_ne HO227.out BK220.out (by decide)) e_) hs_));have n1_:=Ax (Kd.R_mono (ok':=fun k_=>True) ho0 (fun k_ hk_=>trivial));have n2_:=Ax (hb);clear BK220;clear HB;clear HO227;have BK220:=n0_;have HO230:=n1_;have HB:=n2_;clear n0_ n1_ n2_
    (try clear hb)
    (try clear hkp)
    (try clear ho0)
    obtain⟨Ao41,co41,eo41⟩:=Kd.R_slice HO230.out
    (first|subst eo41|(injection eo41 with f1_ f2_ f3_;have f4_:=f1_.symm;have f5_:=f3_.symm;clear f1_ f2_ f3_;subst f4_;subst f5_))
    refine hK.out _ _ ⟨(blk_cell BK220.out 0).trans rfl,(blk_cell BK220.out 1).trans rfl,(blk_cell BK220.out 2).trans rfl,(blk_cell BK220.out 3).trans rfl,(blk_cell BK220.out 4).trans rfl,(blk_cell BK220.out 5).trans rfl,(blk_cell BK220.out 6).trans rfl,(blk_cell BK220.out 7).trans rfl,(blk_cell BK220.out 8).trans rfl,(blk_cell BK220.out 9).trans rfl,(blk_cell BK220.out 10).trans rfl,(blk_cell BK220.out 11).trans rfl⟩ (fun hHeld=>?_);clear hK K;refine norm_ (a':=?_) ?_ ?_;rotate_left
    ·show Act.put _ (some 20) _=_
     simp only[sP];rfl
    refine one_ (i:=13) (N:=some 24) #[tr,tr,tr,tr,tr,tr,tr,tr,tr,tr,tr,tr,tr,tr,fa] rfl rfl (one_of HT_.out (by kernel_rfl)) (by decide) (fun K hK=>?_);refine goes_ Try.func45 (by kernel_rfl) rfl #[.slice Ao41 t228.length co41,.int .u64 (IntKind.u64.wrap (a0_3))] (by rfl) rfl rfl gS ?_;with_reducible refine (num_Add.calls k (fun k_=>some k_=(.slice Ao41 t228.length co41:Value).ownBlock) (.slice Ao41 t228.length co41) t228 (IntKind.u64.wrap (a0_3)) t231 w _ ?side1 ?side2 A6.out).mono ?_
    (case side1=>repeat (first|(with_reducible first|exact HB.out|apply below_alloc|apply pw_below_drewN|apply below_drew1|refine below_set ?_ GE220.out)|exact HB.out))
    (case side2=>exact Kd.R_tight rfl HO230.out)
    rintro e w42 ⟨v232,rfl,ho0,hb,hkp⟩
    refine⟨_,rfl,?_⟩;have n0_:=Ax (blk_kept (bf0 BK220.out) hkp (fun hs_=>(fun e_=>(Kd.R_ne HO230.out BK220.out (by decide)) e_) hs_));have n1_:=Ax (Kd.R_mono (ok':=fun k_=>True) ho0 (fun k_ hk_=>trivial));have n2_:=Ax (hb);clear BK220;clear HB;clear HO230;have BK220:=n0_;have HO233:=n1_;have HB:=n2_;clear n0_ n1_ n2_
    (try clear hb)
    (try clear hkp)
    (try clear ho0)
    refine hK.out _ _ ⟨(blk_cell BK220.out 0).trans rfl,(blk_cell BK220.out 1).trans rfl,(blk_cell BK220.out 2).trans rfl,(blk_cell BK220.out 3).trans rfl,(blk_cell BK220.out 4).trans rfl,(blk_cell BK220.out 5).trans rfl,(blk_cell BK220.out 6).trans rfl,(blk_cell BK220.out 7).trans rfl,(blk_cell BK220.out 8).trans rfl,(blk_cell BK220.out 9).trans rfl,(blk_cell BK220.out 10).trans rfl,(blk_cell BK220.out 11).trans rfl⟩ (fun hHeld=>?_);clear hK K;refine norm_ (a':=?_) ?_ ?_;rotate_left
    ·show Act.put _ (some 24) _=_
     simp only[sP];rfl
    refine pz 14 5 #[tr,tr,tr,tr,tr,tr,tr,tr,tr,tr,tr,tr,tr,tr,tr] HT_.out ?_
    refine done_ (done_of HT_.out (by kernel_rfl)) ?_;obtain⟨hcz43_0,hcz43_1,hcz43_2,hcz43_3,hcz43_4,hcz43_5,hcz43_6,hcz43_7,hcz43_8,hcz43_9,hcz43_10,hcz43_11,hfz43_0,hfz43_1,hfz43_2,hfz43_3,hfz43_4,hfz43_5,hfz43_6,hfz43_7,hfz43_8,hfz43_9,hfz43_10,hfz43_11⟩:=cl12 BK220;obtain⟨Ao44,co44,eo44⟩:=Kd.R_slice HO233.out;subst eo44;try go_wp2_with (first|((with_reducible refine gate_callee (f:=47) rfl ?_);refine goesL_ (some 41) rfl rfl Try.func47 (by kernel_rfl) rfl #[.slice Ao44 t231.length co44,.agg #[.bool a0_4,.int .u64 a0_5,.int .u64 a0_6,.int .i64 a0_7]] rfl gS ?_;(with_reducible refine (msg_prefix.calls (fun k_=>some k_=(.slice Ao44 t231.length co44:Value).ownBlock) (.slice Ao44 t231.length co44) t231 a0_4 a0_5 a0_6 a0_7 t240 w _ ?side1 ?side2 A30.out).mono ?_);(case side1=>repeat (first|(with_reducible first|exact HB.out|apply below_alloc|apply pw_below_drewN|apply below_drew1|refine below_set ?_ GE220.out)|exact HB.out));(case side2=>exact Kd.R_tight rfl HO233.out);rintro e w45 ⟨v241,rfl,ho0,hb,hkp⟩;refine⟨_,rfl,?_⟩;have n0_:=Ax (blk_kept (bf0 BK220.out) hkp (fun hs_=>(fun e_=>(Kd.R_ne HO233.out BK220.out (by decide)) e_) hs_));have n1_:=Ax (Kd.R_mono (ok':=fun k_=>True) ho0 (fun k_ hk_=>trivial));have n2_:=Ax (hb);clear BK220;clear HB;clear HO233;have BK220:=n0_;have HO242:=n1_;have HB:=n2_;clear n0_ n1_ n2_;(try clear hb);(try clear hkp);(try clear ho0);have hcv46:=own_string (P:=Try.prog) Try.underlying67 Try.underlying5 Try.underlying9 (Kd.own_of_R HO242.out)))
    go_ret2;exact⟨eS,bw1 HB.out GE220.out⟩
   ·rw [if_neg c29]at H;have c29b0:(a0_0==4)=false:=beq_eq_false_iff_ne.mpr c29;have c29b1:(a0_0 !=4)=true:=bne_iff_ne.mpr c29;by_cases c47:a0_0=5
    ·rw [if_pos c47]at H;have c47b0:(a0_0==5)=true:=beq_iff_eq.mpr c47;have c47b1:(a0_0 !=5)=false:=bne_eq_false_iff_eq.mpr c47;clear c47;replace H:=Option.bind_eq_some_iff.mp H;obtain⟨t243,A480,H⟩:=H;replace H:((num_Add.f k t243 (IntKind.u64.wrap (a0_11))).bind fun t246=>(some (strOfNums t246,0)))=some (r1,r2):=H;have A48:=Ax A480;clear A480;replace H:=Option.bind_eq_some_iff.mp H;obtain⟨t246,A490,H⟩:=H;replace H:(some (strOfNums t246,0))=some (r1,r2):=H;have A49:=Ax A490;clear A490;simp only[Option.some.injEq,Prod.mk.injEq]at H;obtain⟨rfl,rfl⟩:=H;go_enter Try.func23,Try.ntmps23;try go_wp2_with (first|((with_reducible refine gate_dst (N:=1) rfl ?_);refine box_event ?hg (N:=1) ?hd (cs:= #[.int .u8 a0_0,.int .i64 a0_1,.int .u64 a0_2,.int .i64 a0_3,.bool a0_4,.int .u64 a0_5,.int .u64 a0_6,.int .i64 a0_7,.int .u8 a0_8,.int .i64 a0_9,.int .i64 a0_10,.int .i64 a0_11]) (t:=35) ?hr ?_;(case hd=>rfl);(case hg=>rfl);(case hr=>first|(go_simp;done)|(go_simp;rfl));intro gb220 hg w50 hbox hb;have n0_:=Bs0 HB hb;have n1_:=Ax (hbox);have n2_:=Gw0 HB hg;have n3_:=Gw0 HB hg;clear HB;have HB:=n0_;have BK220:=n1_;have GW220:=n2_;have GE220:=n3_;clear n0_ n1_ n2_ n3_;clear hb hbox hg;obtain⟨hcz51_0,hcz51_1,hcz51_2,hcz51_3,hcz51_4,hcz51_5,hcz51_6,hcz51_7,hcz51_8,hcz51_9,hcz51_10,hcz51_11,hfz51_0,hfz51_1,hfz51_2,hfz51_3,hfz51_4,hfz51_5,hfz51_6,hfz51_7,hfz51_8,hfz51_9,hfz51_10,hfz51_11⟩:=cl12 BK220)|((with_reducible refine gate_callee (f:=39) rfl ?_);refine goesL_ (some 7) rfl rfl Try.func39 (by kernel_rfl) rfl #[.agg #[.int .u8 a0_0,.int .i64 a0_1,.int .u64 a0_2,.int .i64 a0_3,.bool a0_4,.int .u64 a0_5,.int .u64 a0_6,.int .i64 a0_7,.int .u8 a0_8,.int .i64 a0_9,.int .i64 a0_10,.int .i64 a0_11]] rfl gS ?_;(with_reducible refine (msg_Check.calls k a0_0 a0_1 a0_2 a0_3 a0_4 a0_5 a0_6 a0_7 a0_8 a0_9 a0_10 a0_11 t221 _ A2.out).mono ?_);rintro e w52 ⟨rfl,hb⟩;refine⟨_,rfl,?_⟩;replace BK220:=Bx0 BK220 hb;replace HB:=Bs1 HB hb GE220.out;(try clear hb)))
     replace BK220:=Ax (blk_drew BK220.out);replace HB:=Ax (below_drew1 HB.out);refine start_ (n:=15) (S:=fun w'=>w'.cell? ⟨gb220,0,none⟩=some (.int .u8 a0_0)∧w'.cell? ⟨gb220,1,none⟩=some (.int .i64 a0_1)∧w'.cell? ⟨gb220,2,none⟩=some (.int .u64 a0_2)∧w'.cell? ⟨gb220,3,none⟩=some (.int .i64 a0_3)∧w'.cell? ⟨gb220,4,none⟩=some (.bool a0_4)∧w'.cell? ⟨gb220,5,none⟩=some (.int .u64 a0_5)∧w'.cell? ⟨gb220,6,none⟩=some (.int .u64 a0_6)∧w'.cell? ⟨gb220,7,none⟩=some (.int .i64 a0_7)∧w'.cell? ⟨gb220,8,none⟩=some (.int .u8 a0_8)∧w'.cell? ⟨gb220,9,none⟩=some (.int .i64 a0_9)∧w'.cell? ⟨gb220,10,none⟩=some (.int .i64 a0_10)∧w'.cell? ⟨gb220,11,none⟩=some (.int .i64 a0_11)) (ds:= []) #[fa,fa,fa,fa,fa,fa,fa,fa,fa,fa,fa,fa,fa,fa,fa] (by kernel_rfl) rfl rfl ⟨(blk_cell BK220.out 0).trans rfl,(blk_cell BK220.out 1).trans rfl,(blk_cell BK220.out 2).trans rfl,(blk_cell BK220.out 3).trans rfl,(blk_cell BK220.out 4).trans rfl,(blk_cell BK220.out 5).trans rfl,(blk_cell BK220.out 6).trans rfl,(blk_cell BK220.out 7).trans rfl,(blk_cell BK220.out 8).trans rfl,(blk_cell BK220.out 9).trans rfl,(blk_cell BK220.out 10).trans rfl,(blk_cell BK220.out 11).trans rfl⟩ (fun hHeld=>?_);refine with_tabW msg_Put.tab4 msg_Put.bits4 (fun HT_ HW_=>?_);generalize w52.drew=w53 at BK220 HB hHeld ⊢;refine pz 0 11 #[tr,fa,fa,fa,fa,fa,fa,fa,fa,fa,fa,fa,fa,fa,fa] HT_.out ?_
     refine pz 3 14 #[tr,fa,fa,tr,fa,fa,fa,fa,fa,fa,fa,fa,fa,fa,fa] HT_.out ?_
     refine pz 7 18 #[tr,fa,fa,tr,fa,fa,fa,tr,fa,fa,fa,fa,fa,fa,fa] HT_.out ?_
     refine pz 10 21 #[tr,fa,fa,tr,fa,fa,fa,tr,fa,fa,tr,fa,fa,fa,fa] HT_.out ?_
     refine take_ (i:=1) (N:=some 12) (v:=?_) (a':=?_) #[tr,tr,fa,tr,fa,fa,fa,tr,fa,fa,tr,fa,fa,fa,fa] rfl rfl (take_ofW HT_.out HW_.out (by kernel_rfl)) (fun _ _ _ h=>h) (Or.inl ⟨by rfl,?_⟩) hHeld ?_ ?_;rotate_left
     ·rintro w' ⟨s0,s1,s2,s3,s4,s5,s6,s7,s8,s9,s10,s11⟩
      go_simp;with_reducible rfl
     rotate_left;·simp only[sP];rfl
     refine take_ (i:=4) (N:=some 15) (v:=?_) (a':=?_) #[tr,tr,fa,tr,tr,fa,fa,tr,fa,fa,tr,fa,fa,fa,fa] rfl rfl (take_ofW HT_.out HW_.out (by kernel_rfl)) (fun _ _ _ h=>h) (Or.inl ⟨by rfl,?_⟩) hHeld ?_ ?_;rotate_left
     ·rintro w' ⟨s0,s1,s2,s3,s4,s5,s6,s7,s8,s9,s10,s11⟩
      go_simp;with_reducible rfl
     rotate_left;·simp only[sP];rfl
     refine pz 5 16 #[tr,tr,fa,tr,tr,tr,fa,tr,fa,fa,tr,fa,fa,fa,fa] HT_.out ?_
     refine take_ (i:=8) (N:=some 19) (v:=?_) (a':=?_) #[tr,tr,fa,tr,tr,tr,fa,tr,tr,fa,tr,fa,fa,fa,fa] rfl rfl (take_ofW HT_.out HW_.out (by kernel_rfl)) (fun _ _ _ h=>h) (Or.inl ⟨by rfl,?_⟩) hHeld ?_ ?_;rotate_left
     ·rintro w' ⟨s0,s1,s2,s3,s4,s5,s6,s7,s8,s9,s10,s11⟩
      go_simp;with_reducible rfl
     rotate_left;·simp only[sP];rfl
     refine take_ (i:=11) (N:=some 22) (v:=?_) (a':=?_) #[tr,tr,fa,tr,tr,tr,fa,tr,tr,fa,tr,tr,fa,fa,fa] rfl rfl (take_ofW HT_.out HW_.out (by kernel_rfl)) (fun _ _ _ h=>h) (Or.inl ⟨by rfl,?_⟩) hHeld ?_ ?_;rotate_left
     ·rintro w' ⟨s0,s1,s2,s3,s4,s5,s6,s7,s8,s9,s10,s11⟩
      go_simp;with_reducible rfl
     rotate_left;·simp only[sP];rfl
     refine pz 12 23 #[tr,tr,fa,tr,tr,tr,fa,tr,tr,fa,tr,tr,tr,fa,fa] HT_.out ?_
     refine one_ (i:=2) (N:=some 13) #[tr,tr,tr,tr,tr,tr,fa,tr,tr,fa,tr,tr,tr,fa,fa] rfl rfl (one_of HT_.out (by kernel_rfl)) (by decide) (fun K hK=>?_);refine Kd.R_lit_step (Kd.int .u8) _ 5 ?hg (N:=13) ?hd (xs:=([a0_0]:List Int)) (inner:= [.int .u8 a0_0]) (ok:=fun _=>True) (okp:=fun _=>True) ?hr ?hp (fun _ hk=>hk) trivial (Below.refl _ _) (Nat.le_refl _) (by simp) ?_;(case hd=>rfl);(case hg=>rfl);(case hr=>first|(go_simp;done)|(go_simp;rfl));(case hp=>exact (Reps.one (show Kd.M (Kd.int .u8) _ _ _ a0_0 [.int .u8 a0_0] from rfl) (Reps.none _ _)));intro v223 w54 ho55 hb hg_ hnew_;clear hg_ hnew_
     (first|rw [← Ny222.out]at ho55|(simp only[Int.reduceToNat]at ho55;rw [← Ny222.out]at ho55))
     have HO224:=Ax (Kd.R_lower ho55 (below_size (bw1 HB.out GE220.out)));replace BK220:=Bx0 BK220 hb;replace HB:=Bs1 HB hb GE220.out;clear hb ho55;obtain⟨Ao56,co56,eo56⟩:=Kd.R_slice HO224.out
     (first|subst eo56|(injection eo56 with f1_ f2_ f3_;have f4_:=f1_.symm;have f5_:=f3_.symm;clear f1_ f2_ f3_;subst f4_;subst f5_))
     refine hK.out _ _ ⟨(blk_cell BK220.out 0).trans rfl,(blk_cell BK220.out 1).trans rfl,(blk_cell BK220.out 2).trans rfl,(blk_cell BK220.out 3).trans rfl,(blk_cell BK220.out 4).trans rfl,(blk_cell BK220.out 5).trans rfl,(blk_cell BK220.out 6).trans rfl,(blk_cell BK220.out 7).trans rfl,(blk_cell BK220.out 8).trans rfl,(blk_cell BK220.out 9).trans rfl,(blk_cell BK220.out 10).trans rfl,(blk_cell BK220.out 11).trans rfl⟩ (fun hHeld=>?_);clear hK K;refine norm_ (a':=?_) ?_ ?_;rotate_left
     ·show Act.put _ (some 13) _=_
      simp only[sP];rfl
     refine one_ (i:=6) (N:=some 17) #[tr,tr,tr,tr,tr,tr,tr,tr,tr,fa,tr,tr,tr,fa,fa] rfl rfl (one_of HT_.out (by kernel_rfl)) (by decide) (fun K hK=>?_);refine goes_ Try.func45 (by kernel_rfl) rfl #[.slice Ao56 y222.length co56,.int .u64 (IntKind.u64.wrap (a0_1))] (by rfl) rfl rfl gS ?_;with_reducible refine (num_Add.calls k (fun k_=>some k_=(.slice Ao56 y222.length co56:Value).ownBlock) (.slice Ao56 y222.length co56) y222 (IntKind.u64.wrap (a0_1)) t225 w _ ?side1 ?side2 A4.out).mono ?_
     (case side1=>repeat (first|(with_reducible first|exact HB.out|apply below_alloc|apply pw_below_drewN|apply below_drew1|refine below_set ?_ GE220.out)|exact HB.out))
     (case side2=>exact Kd.R_tight rfl HO224.out)
     rintro e w57 ⟨v226,rfl,ho0,hb,hkp⟩
     refine⟨_,rfl,?_⟩;have n0_:=Ax (blk_kept (bf0 BK220.out) hkp (fun hs_=>(fun e_=>(Kd.R_ne HO224.out BK220.out (by decide)) e_) hs_));have n1_:=Ax (Kd.R_mono (ok':=fun k_=>True) ho0 (fun k_ hk_=>trivial));have n2_:=Ax (hb);clear BK220;clear HB;clear HO224;have BK220:=n0_;have HO227:=n1_;have HB:=n2_;clear n0_ n1_ n2_
     (try clear hb)
     (try clear hkp)
     (try clear ho0)
     obtain⟨Ao58,co58,eo58⟩:=Kd.R_slice HO227.out
     (first|subst eo58|(injection eo58 with f1_ f2_ f3_;have f4_:=f1_.symm;have f5_:=f3_.symm;clear f1_ f2_ f3_;subst f4_;subst f5_))
     refine hK.out _ _ ⟨(blk_cell BK220.out 0).trans rfl,(blk_cell BK220.out 1).trans rfl,(blk_cell BK220.out 2).trans rfl,(blk_cell BK220.out 3).trans rfl,(blk_cell BK220.out 4).trans rfl,(blk_cell BK220.out 5).trans rfl,(blk_cell BK220.out 6).trans rfl,(blk_cell BK220.out 7).trans rfl,(blk_cell BK220.out 8).trans rfl,(blk_cell BK220.out 9).trans rfl,(blk_cell BK220.out 10).trans rfl,(blk_cell BK220.out 11).trans rfl⟩ (fun hHeld=>?_);clear hK K;refine norm_ (a':=?_) ?_ ?_;rotate_left
     ·show Act.put _ (some 17) _=_
      simp only[sP];rfl
     refine one_ (i:=9) (N:=some 20) #[tr,tr,tr,tr,tr,tr,tr,tr,tr,tr,tr,tr,tr,fa,fa] rfl rfl (one_of HT_.out (by kernel_rfl)) (by decide) (fun K hK=>?_);refine goes_ Try.func45 (by kernel_rfl) rfl #[.slice Ao58 t225.length co58,.int .u64 a0_2] (by rfl) rfl rfl gS ?_;with_reducible refine (num_Add.calls k (fun k_=>some k_=(.slice Ao58 t225.length co58:Value).ownBlock) (.slice Ao58 t225.length co58) t225 a0_2 t228 w _ ?side1 ?side2 A5.out).mono ?_
     (case side1=>repeat (first|(with_reducible first|exact HB.out|apply below_alloc|apply pw_below_drewN|apply below_drew1|refine below_set ?_ GE220.out)|exact HB.out))
     (case side2=>exact Kd.R_tight rfl HO227.out)
     rintro e w59 ⟨v229,rfl,ho0,hb,hkp⟩
     refine⟨_,rfl,?_⟩;have n0_:=Ax (blk_kept (bf0 BK220.out) hkp (fun hs_=>(fun e_=>(Kd.R_ne HO227.out BK220.out (by decide)) e_) hs_));have n1_:=Ax (Kd.R_mono (ok':=fun k_=>True) ho0 (fun k_ hk_=>trivial));have n2_:=Ax (hb);clear BK220;clear HB;clear HO227;have BK220:=n0_;have HO230:=n1_;have HB:=n2_;clear n0_ n1_ n2_
     (try clear hb)
     (try clear hkp)
     (try clear ho0)
     obtain⟨Ao60,co60,eo60⟩:=Kd.R_slice HO230.out
     (first|subst eo60|(injection eo60 with f1_ f2_ f3_;have f4_:=f1_.symm;have f5_:=f3_.symm;clear f1_ f2_ f3_;subst f4_;subst f5_))
     refine hK.out _ _ ⟨(blk_cell BK220.out 0).trans rfl,(blk_cell BK220.out 1).trans rfl,(blk_cell BK220.out 2).trans rfl,(blk_cell BK220.out 3).trans rfl,(blk_cell BK220.out 4).trans rfl,(blk_cell BK220.out 5).trans rfl,(blk_cell BK220.out 6).trans rfl,(blk_cell BK220.out 7).trans rfl,(blk_cell BK220.out 8).trans rfl,(blk_cell BK220.out 9).trans rfl,(blk_cell BK220.out 10).trans rfl,(blk_cell BK220.out 11).trans rfl⟩ (fun hHeld=>?_);clear hK K;refine norm_ (a':=?_) ?_ ?_;rotate_left
     ·show Act.put _ (some 20) _=_
      simp only[sP];rfl
     refine one_ (i:=13) (N:=some 24) #[tr,tr,tr,tr,tr,tr,tr,tr,tr,tr,tr,tr,tr,tr,fa] rfl rfl (one_of HT_.out (by kernel_rfl)) (by decide) (fun K hK=>?_);refine goes_ Try.func45 (by kernel_rfl) rfl #[.slice Ao60 t228.length co60,.int .u64 (IntKind.u64.wrap (a0_3))] (by rfl) rfl rfl gS ?_;with_reducible refine (num_Add.calls k (fun k_=>some k_=(.slice Ao60 t228.length co60:Value).ownBlock) (.slice Ao60 t228.length co60) t228 (IntKind.u64.wrap (a0_3)) t231 w _ ?side1 ?side2 A6.out).mono ?_
     (case side1=>repeat (first|(with_reducible first|exact HB.out|apply below_alloc|apply pw_below_drewN|apply below_drew1|refine below_set ?_ GE220.out)|exact HB.out))
     (case side2=>exact Kd.R_tight rfl HO230.out)
     rintro e w61 ⟨v232,rfl,ho0,hb,hkp⟩
     refine⟨_,rfl,?_⟩;have n0_:=Ax (blk_kept (bf0 BK220.out) hkp (fun hs_=>(fun e_=>(Kd.R_ne HO230.out BK220.out (by decide)) e_) hs_));have n1_:=Ax (Kd.R_mono (ok':=fun k_=>True) ho0 (fun k_ hk_=>trivial));have n2_:=Ax (hb);clear BK220;clear HB;clear HO230;have BK220:=n0_;have HO233:=n1_;have HB:=n2_;clear n0_ n1_ n2_
     (try clear hb)
     (try clear hkp)
     (try clear ho0)
     refine hK.out _ _ ⟨(blk_cell BK220.out 0).trans rfl,(blk_cell BK220.out 1).trans rfl,(blk_cell BK220.out 2).trans rfl,(blk_cell BK220.out 3).trans rfl,(blk_cell BK220.out 4).trans rfl,(blk_cell BK220.out 5).trans rfl,(blk_cell BK220.out 6).trans rfl,(blk_cell BK220.out 7).trans rfl,(blk_cell BK220.out 8).trans rfl,(blk_cell BK220.out 9).trans rfl,(blk_cell BK220.out 10).trans rfl,(blk_cell BK220.out 11).trans rfl⟩ (fun hHeld=>?_);clear hK K;refine norm_ (a':=?_) ?_ ?_;rotate_left
     ·show Act.put _ (some 24) _=_
      simp only[sP];rfl
     refine pz 14 5 #[tr,tr,tr,tr,tr,tr,tr,tr,tr,tr,tr,tr,tr,tr,tr] HT_.out ?_
     refine done_ (done_of HT_.out (by kernel_rfl)) ?_;obtain⟨hcz62_0,hcz62_1,hcz62_2,hcz62_3,hcz62_4,hcz62_5,hcz62_6,hcz62_7,hcz62_8,hcz62_9,hcz62_10,hcz62_11,hfz62_0,hfz62_1,hfz62_2,hfz62_3,hfz62_4,hfz62_5,hfz62_6,hfz62_7,hfz62_8,hfz62_9,hfz62_10,hfz62_11⟩:=cl12 BK220;try go_wp2
     replace HO233:=Ax (Kd.R_drew HO233.out);replace BK220:=Ax (blk_drew BK220.out);replace HB:=Ax (below_drew1 HB.out);obtain⟨Ao64,co64,eo64⟩:=Kd.R_slice HO233.out
     (first|subst eo64|(injection eo64 with f1_ f2_ f3_;have f4_:=f1_.symm;have f5_:=f3_.symm;clear f1_ f2_ f3_;subst f4_;subst f5_))
     refine start_ (n:=10) (S:=fun w'=>w'.cell? ⟨gb220,0,none⟩=some (.int .u8 a0_0)∧w'.cell? ⟨gb220,1,none⟩=some (.int .i64 a0_1)∧w'.cell? ⟨gb220,2,none⟩=some (.int .u64 a0_2)∧w'.cell? ⟨gb220,3,none⟩=some (.int .i64 a0_3)∧w'.cell? ⟨gb220,4,none⟩=some (.bool a0_4)∧w'.cell? ⟨gb220,5,none⟩=some (.int .u64 a0_5)∧w'.cell? ⟨gb220,6,none⟩=some (.int .u64 a0_6)∧w'.cell? ⟨gb220,7,none⟩=some (.int .i64 a0_7)∧w'.cell? ⟨gb220,8,none⟩=some (.int .u8 a0_8)∧w'.cell? ⟨gb220,9,none⟩=some (.int .i64 a0_9)∧w'.cell? ⟨gb220,10,none⟩=some (.int .i64 a0_10)∧w'.cell? ⟨gb220,11,none⟩=some (.int .i64 a0_11)) (ds:= []) #[fa,fa,fa,fa,fa,fa,fa,fa,fa,fa] (by kernel_rfl) rfl rfl ⟨(blk_cell BK220.out 0).trans rfl,(blk_cell BK220.out 1).trans rfl,(blk_cell BK220.out 2).trans rfl,(blk_cell BK220.out 3).trans rfl,(blk_cell BK220.out 4).trans rfl,(blk_cell BK220.out 5).trans rfl,(blk_cell BK220.out 6).trans rfl,(blk_cell BK220.out 7).trans rfl,(blk_cell BK220.out 8).trans rfl,(blk_cell BK220.out 9).trans rfl,(blk_cell BK220.out 10).trans rfl,(blk_cell BK220.out 11).trans rfl⟩ (fun hHeld=>?_);refine with_tabW msg_Put.tab11 msg_Put.bits11 (fun HT_ HW_=>?_);generalize w61.drew=w63 at HO233 BK220 HB hHeld ⊢;refine pz 0 44 #[tr,fa,fa,fa,fa,fa,fa,fa,fa,fa] HT_.out ?_
     refine pz 1 45 #[tr,tr,fa,fa,fa,fa,fa,fa,fa,fa] HT_.out ?_
     refine pz 5 49 #[tr,tr,fa,fa,fa,tr,fa,fa,fa,fa] HT_.out ?_
     refine take_ (i:=2) (N:=some 46) (v:=?_) (a':=?_) #[tr,tr,tr,fa,fa,tr,fa,fa,fa,fa] rfl rfl (take_ofW HT_.out HW_.out (by kernel_rfl)) (fun _ _ _ h=>h) (Or.inl ⟨by rfl,?_⟩) hHeld ?_ ?_;rotate_left
     ·rintro w' ⟨s0,s1,s2,s3,s4,s5,s6,s7,s8,s9,s10,s11⟩
      go_simp;with_reducible rfl
     rotate_left;·simp only[sP];rfl
     refine pz 3 47 #[tr,tr,tr,tr,fa,tr,fa,fa,fa,fa] HT_.out ?_
     refine take_ (i:=6) (N:=some 50) (v:=?_) (a':=?_) #[tr,tr,tr,tr,fa,tr,tr,fa,fa,fa] rfl rfl (take_ofW HT_.out HW_.out (by kernel_rfl)) (fun _ _ _ h=>h) (Or.inl ⟨by rfl,?_⟩) hHeld ?_ ?_;rotate_left
     ·rintro w' ⟨s0,s1,s2,s3,s4,s5,s6,s7,s8,s9,s10,s11⟩
      go_simp;with_reducible rfl
     rotate_left;·simp only[sP];rfl
     refine pz 7 51 #[tr,tr,tr,tr,fa,tr,tr,tr,fa,fa] HT_.out ?_
     refine one_ (i:=4) (N:=some 48) #[tr,tr,tr,tr,tr,tr,tr,tr,fa,fa] rfl rfl (one_of HT_.out (by kernel_rfl)) (by decide) (fun K hK=>?_);refine goes_ Try.func45 (by kernel_rfl) rfl #[.slice Ao64 t231.length co64,.int .u64 (IntKind.u64.wrap (a0_10))] (by rfl) rfl rfl gS ?_;with_reducible refine (num_Add.calls k (fun k_=>some k_=(.slice Ao64 t231.length co64:Value).ownBlock) (.slice Ao64 t231.length co64) t231 (IntKind.u64.wrap (a0_10)) t243 w _ ?side1 ?side2 A48.out).mono ?_
     (case side1=>repeat (first|(with_reducible first|exact HB.out|apply below_alloc|apply pw_below_drewN|apply below_drew1|refine below_set ?_ GE220.out)|exact HB.out))
     (case side2=>exact Kd.R_tight rfl HO233.out)
     rintro e w65 ⟨v244,rfl,ho0,hb,hkp⟩
     refine⟨_,rfl,?_⟩;have n0_:=Ax (blk_kept (bf0 BK220.out) hkp (fun hs_=>(fun e_=>(Kd.R_ne HO233.out BK220.out (by decide)) e_) hs_));have n1_:=Ax (Kd.R_mono (ok':=fun k_=>True) ho0 (fun k_ hk_=>trivial));have n2_:=Ax (hb);clear BK220;clear HB;clear HO233;have BK220:=n0_;have HO245:=n1_;have HB:=n2_;clear n0_ n1_ n2_
     (try clear hb)
     (try clear hkp)
     (try clear ho0)
     obtain⟨Ao66,co66,eo66⟩:=Kd.R_slice HO245.out
     (first|subst eo66|(injection eo66 with f1_ f2_ f3_;have f4_:=f1_.symm;have f5_:=f3_.symm;clear f1_ f2_ f3_;subst f4_;subst f5_))
     refine hK.out _ _ ⟨(blk_cell BK220.out 0).trans rfl,(blk_cell BK220.out 1).trans rfl,(blk_cell BK220.out 2).trans rfl,(blk_cell BK220.out 3).trans rfl,(blk_cell BK220.out 4).trans rfl,(blk_cell BK220.out 5).trans rfl,(blk_cell BK220.out 6).trans rfl,(blk_cell BK220.out 7).trans rfl,(blk_cell BK220.out 8).trans rfl,(blk_cell BK220.out 9).trans rfl,(blk_cell BK220.out 10).trans rfl,(blk_cell BK220.out 11).trans rfl⟩ (fun hHeld=>?_);clear hK K;refine norm_ (a':=?_) ?_ ?_;rotate_left
     ·show Act.put _ (some 48) _=_
      simp only[sP];rfl
     refine one_ (i:=8) (N:=some 52) #[tr,tr,tr,tr,tr,tr,tr,tr,tr,fa] rfl rfl (one_of HT_.out (by kernel_rfl)) (by decide) (fun K hK=>?_);refine goes_ Try.func45 (by kernel_rfl) rfl #[.slice Ao66 t243.length co66,.int .u64 (IntKind.u64.wrap (a0_11))] (by rfl) rfl rfl gS ?_;with_reducible refine (num_Add.calls k (fun k_=>some k_=(.slice Ao66 t243.length co66:Value).ownBlock) (.slice Ao66 t243.length co66) t243 (IntKind.u64.wrap (a0_11)) t246 w _ ?side1 ?side2 A49.out).mono ?_
     (case side1=>repeat (first|(with_reducible first|exact HB.out|apply below_alloc|apply pw_below_drewN|apply below_drew1|refine below_set ?_ GE220.out)|exact HB.out))
     (case side2=>exact Kd.R_tight rfl HO245.out)
     rintro e w67 ⟨v247,rfl,ho0,hb,hkp⟩
     refine⟨_,rfl,?_⟩;have n0_:=Ax (blk_kept (bf0 BK220.out) hkp (fun hs_=>(fun e_=>(Kd.R_ne HO245.out BK220.out (by decide)) e_) hs_));have n1_:=Ax (Kd.R_mono (ok':=fun k_=>True) ho0 (fun k_ hk_=>trivial));have n2_:=Ax (hb);clear BK220;clear HB;clear HO245;have BK220:=n0_;have HO248:=n1_;have HB:=n2_;clear n0_ n1_ n2_
     (try clear hb)
     (try clear hkp)
     (try clear ho0)
     refine hK.out _ _ ⟨(blk_cell BK220.out 0).trans rfl,(blk_cell BK220.out 1).trans rfl,(blk_cell BK220.out 2).trans rfl,(blk_cell BK220.out 3).trans rfl,(blk_cell BK220.out 4).trans rfl,(blk_cell BK220.out 5).trans rfl,(blk_cell BK220.out 6).trans rfl,(blk_cell BK220.out 7).trans rfl,(blk_cell BK220.out 8).trans rfl,(blk_cell BK220.out 9).trans rfl,(blk_cell BK220.out 10).trans rfl,(blk_cell BK220.out 11).trans rfl⟩ (fun hHeld=>?_);clear hK K;refine norm_ (a':=?_) ?_ ?_;rotate_left
     ·show Act.put _ (some 52) _=_
      simp only[sP];rfl
     refine pz 9 5 #[tr,tr,tr,tr,tr,tr,tr,tr,tr,tr] HT_.out ?_
     refine done_ (done_of HT_.out (by kernel_rfl)) ?_;have hcv68:=own_string (P:=Try.prog) Try.underlying67 Try.underlying5 Try.underlying9 (Kd.own_of_R HO248.out);try go_wp2
     go_ret2;exact⟨eS,bw1 HB.out GE220.out⟩
    ·rw [if_neg c47]at H;have c47b0:(a0_0==5)=false:=beq_eq_false_iff_ne.mpr c47;have c47b1:(a0_0 !=5)=true:=bne_iff_ne.mpr c47;by_cases c69:a0_0=6
     ·rw [if_pos c69]at H;have c69b0:(a0_0==6)=true:=beq_iff_eq.mpr c69;have c69b1:(a0_0 !=6)=false:=bne_eq_false_iff_eq.mpr c69;clear c69;replace H:=Option.bind_eq_some_iff.mp H;obtain⟨t249,A700,H⟩:=H;replace H:(some (strOfNums t249,0))=some (r1,r2):=H;have A70:=Ax A700;clear A700;simp only[Option.some.injEq,Prod.mk.injEq]at H;obtain⟨rfl,rfl⟩:=H;go_enter Try.func23,Try.ntmps23;try go_wp2_with (first|((with_reducible refine gate_dst (N:=1) rfl ?_);refine box_event ?hg (N:=1) ?hd (cs:= #[.int .u8 a0_0,.int .i64 a0_1,.int .u64 a0_2,.int .i64 a0_3,.bool a0_4,.int .u64 a0_5,.int .u64 a0_6,.int .i64 a0_7,.int .u8 a0_8,.int .i64 a0_9,.int .i64 a0_10,.int .i64 a0_11]) (t:=35) ?hr ?_;(case hd=>rfl);(case hg=>rfl);(case hr=>first|(go_simp;done)|(go_simp;rfl));intro gb220 hg w71 hbox hb;have n0_:=Bs0 HB hb;have n1_:=Ax (hbox);have n2_:=Gw0 HB hg;have n3_:=Gw0 HB hg;clear HB;have HB:=n0_;have BK220:=n1_;have GW220:=n2_;have GE220:=n3_;clear n0_ n1_ n2_ n3_;clear hb hbox hg;obtain⟨hcz72_0,hcz72_1,hcz72_2,hcz72_3,hcz72_4,hcz72_5,hcz72_6,hcz72_7,hcz72_8,hcz72_9,hcz72_10,hcz72_11,hfz72_0,hfz72_1,hfz72_2,hfz72_3,hfz72_4,hfz72_5,hfz72_6,hfz72_7,hfz72_8,hfz72_9,hfz72_10,hfz72_11⟩:=cl12 BK220)|((with_reducible refine gate_callee (f:=39) rfl ?_);refine goesL_ (some 7) rfl rfl Try.func39 (by kernel_rfl) rfl #[.agg #[.int .u8 a0_0,.int .i64 a0_1,.int .u64 a0_2,.int .i64 a0_3,.bool a0_4,.int .u64 a0_5,.int .u64 a0_6,.int .i64 a0_7,.int .u8 a0_8,.int .i64 a0_9,.int .i64 a0_10,.int .i64 a0_11]] rfl gS ?_;(with_reducible refine (msg_Check.calls k a0_0 a0_1 a0_2 a0_3 a0_4 a0_5 a0_6 a0_7 a0_8 a0_9 a0_10 a0_11 t221 _ A2.out).mono ?_);rintro e w73 ⟨rfl,hb⟩;refine⟨_,rfl,?_⟩;replace BK220:=Bx0 BK220 hb;replace HB:=Bs1 HB hb GE220.out;(try clear hb)))
      replace BK220:=Ax (blk_drew BK220.out);replace HB:=Ax (below_drew1 HB.out);refine start_ (n:=15) (S:=fun w'=>w'.cell? ⟨gb220,0,none⟩=some (.int .u8 a0_0)∧w'.cell? ⟨gb220,1,none⟩=some (.int .i64 a0_1)∧w'.cell? ⟨gb220,2,none⟩=some (.int .u64 a0_2)∧w'.cell? ⟨gb220,3,none⟩=some (.int .i64 a0_3)∧w'.cell? ⟨gb220,4,none⟩=some (.bool a0_4)∧w'.cell? ⟨gb220,5,none⟩=some (.int .u64 a0_5)∧w'.cell? ⟨gb220,6,none⟩=some (.int .u64 a0_6)∧w'.cell? ⟨gb220,7,none⟩=some (.int .i64 a0_7)∧w'.cell? ⟨gb220,8,none⟩=some (.int .u8 a0_8)∧w'.cell? ⟨gb220,9,none⟩=some (.int .i64 a0_9)∧w'.cell? ⟨gb220,10,none⟩=some (.int .i64 a0_10)∧w'.cell? ⟨gb220,11,none⟩=some (.int .i64 a0_11)) (ds:= []) #[fa,fa,fa,fa,fa,fa,fa,fa,fa,fa,fa,fa,fa,fa,fa] (by kernel_rfl) rfl rfl ⟨(blk_cell BK220.out 0).trans rfl,(blk_cell BK220.out 1).trans rfl,(blk_cell BK220.out 2).trans rfl,(blk_cell BK220.out 3).trans rfl,(blk_cell BK220.out 4).trans rfl,(blk_cell BK220.out 5).trans rfl,(blk_cell BK220.out 6).trans rfl,(blk_cell BK220.out 7).trans rfl,(blk_cell BK220.out 8).trans rfl,(blk_cell BK220.out 9).trans rfl,(blk_cell BK220.out 10).trans rfl,(blk_cell BK220.out 11).trans rfl⟩ (fun hHeld=>?_);refine with_tabW msg_Put.tab4 msg_Put.bits4 (fun HT_ HW_=>?_);generalize w73.drew=w74 at BK220 HB hHeld ⊢;refine pz 0 11 #[tr,fa,fa,fa,fa,fa,fa,fa,fa,fa,fa,fa,fa,fa,fa] HT_.out ?_
      refine pz 3 14 #[tr,fa,fa,tr,fa,fa,fa,fa,fa,fa,fa,fa,fa,fa,fa] HT_.out ?_
      refine pz 7 18 #[tr,fa,fa,tr,fa,fa,fa,tr,fa,fa,fa,fa,fa,fa,fa] HT_.out ?_
      refine pz 10 21 #[tr,fa,fa,tr,fa,fa,fa,tr,fa,fa,tr,fa,fa,fa,fa] HT_.out ?_
      refine take_ (i:=1) (N:=some 12) (v:=?_) (a':=?_) #[tr,tr,fa,tr,fa,fa,fa,tr,fa,fa,tr,fa,fa,fa,fa] rfl rfl (take_ofW HT_.out HW_.out (by kernel_rfl)) (fun _ _ _ h=>h) (Or.inl ⟨by rfl,?_⟩) hHeld ?_ ?_;rotate_left
      ·rintro w' ⟨s0,s1,s2,s3,s4,s5,s6,s7,s8,s9,s10,s11⟩
       go_simp;with_reducible rfl
      rotate_left;·simp only[sP];rfl
      refine take_ (i:=4) (N:=some 15) (v:=?_) (a':=?_) #[tr,tr,fa,tr,tr,fa,fa,tr,fa,fa,tr,fa,fa,fa,fa] rfl rfl (take_ofW HT_.out HW_.out (by kernel_rfl)) (fun _ _ _ h=>h) (Or.inl ⟨by rfl,?_⟩) hHeld ?_ ?_;rotate_left
      ·rintro w' ⟨s0,s1,s2,s3,s4,s5,s6,s7,s8,s9,s10,s11⟩
       go_simp;with_reducible rfl
      rotate_left;·simp only[sP];rfl
      refine pz 5 16 #[tr,tr,fa,tr,tr,tr,fa,tr,fa,fa,tr,fa,fa,fa,fa] HT_.out ?_
      refine take_ (i:=8) (N:=some 19) (v:=?_) (a':=?_) #[tr,tr,fa,tr,tr,tr,fa,tr,tr,fa,tr,fa,fa,fa,fa] rfl rfl (take_ofW HT_.out HW_.out (by kernel_rfl)) (fun _ _ _ h=>h) (Or.inl ⟨by rfl,?_⟩) hHeld ?_ ?_;rotate_left
      ·rintro w' ⟨s0,s1,s2,s3,s4,s5,s6,s7,s8,s9,s10,s11⟩
       go_simp;with_reducible rfl
      rotate_left;·simp only[sP];rfl
      refine take_ (i:=11) (N:=some 22) (v:=?_) (a':=?_) #[tr,tr,fa,tr,tr,tr,fa,tr,tr,fa,tr,tr,fa,fa,fa] rfl rfl (take_ofW HT_.out HW_.out (by kernel_rfl)) (fun _ _ _ h=>h) (Or.inl ⟨by rfl,?_⟩) hHeld ?_ ?_;rotate_left
      ·rintro w' ⟨s0,s1,s2,s3,s4,s5,s6,s7,s8,s9,s10,s11⟩
       go_simp;with_reducible rfl
      rotate_left;·simp only[sP];rfl
      refine pz 12 23 #[tr,tr,fa,tr,tr,tr,fa,tr,tr,fa,tr,tr,tr,fa,fa] HT_.out ?_
      refine one_ (i:=2) (N:=some 13) #[tr,tr,tr,tr,tr,tr,fa,tr,tr,fa,tr,tr,tr,fa,fa] rfl rfl (one_of HT_.out (by kernel_rfl)) (by decide) (fun K hK=>?_);refine Kd.R_lit_step (Kd.int .u8) _ 5 ?hg (N:=13) ?hd (xs:=([a0_0]:List Int)) (inner:= [.int .u8 a0_0]) (ok:=fun _=>True) (okp:=fun _=>True) ?hr ?hp (fun _ hk=>hk) trivial (Below.refl _ _) (Nat.le_refl _) (by simp) ?_;(case hd=>rfl);(case hg=>rfl);(case hr=>first|(go_simp;done)|(go_simp;rfl));(case hp=>exact (Reps.one (show Kd.M (Kd.int .u8) _ _ _ a0_0 [.int .u8 a0_0] from rfl) (Reps.none _ _)));intro v223 w75 ho76 hb hg_ hnew_;clear hg_ hnew_
      (first|rw [← Ny222.out]at ho76|(simp only[Int.reduceToNat]at ho76;rw [← Ny222.out]at ho76))
      have HO224:=Ax (Kd.R_lower ho76 (below_size (bw1 HB.out GE220.out)));replace BK220:=Bx0 BK220 hb;replace HB:=Bs1 HB hb GE220.out;clear hb ho76;obtain⟨Ao77,co77,eo77⟩:=Kd.R_slice HO224.out
      (first|subst eo77|(injection eo77 with f1_ f2_ f3_;have f4_:=f1_.symm;have f5_:=f3_.symm;clear f1_ f2_ f3_;subst f4_;subst f5_))
      refine hK.out _ _ ⟨(blk_cell BK220.out 0).trans rfl,(blk_cell BK220.out 1).trans rfl,(blk_cell BK220.out 2).trans rfl,(blk_cell BK220.out 3).trans rfl,(blk_cell BK220.out 4).trans rfl,(blk_cell BK220.out 5).trans rfl,(blk_cell BK220.out 6).trans rfl,(blk_cell BK220.out 7).trans rfl,(blk_cell BK220.out 8).trans rfl,(blk_cell BK220.out 9).trans rfl,(blk_cell BK220.out 10).trans rfl,(blk_cell BK220.out 11).trans rfl⟩ (fun hHeld=>?_);clear hK K;refine norm_ (a':=?_) ?_ ?_;rotate_left
      ·show Act.put _ (some 13) _=_
       simp only[sP];rfl
      refine one_ (i:=6) (N:=some 17) #[tr,tr,tr,tr,tr,tr,tr,tr,tr,fa,tr,tr,tr,fa,fa] rfl rfl (one_of HT_.out (by kernel_rfl)) (by decide) (fun K hK=>?_);refine goes_ Try.func45 (by kernel_rfl) rfl #[.slice Ao77 y222.length co77,.int .u64 (IntKind.u64.wrap (a0_1))] (by rfl) rfl rfl gS ?_;with_reducible refine (num_Add.calls k (fun k_=>some k_=(.slice Ao77 y222.length co77:Value).ownBlock) (.slice Ao77 y222.length co77) y222 (IntKind.u64.wrap (a0_1)) t225 w _ ?side1 ?side2 A4.out).mono ?_
      (case side1=>repeat (first|(with_reducible first|exact HB.out|apply below_alloc|apply pw_below_drewN|apply below_drew1|refine below_set ?_ GE220.out)|exact HB.out))
      (case side2=>exact Kd.R_tight rfl HO224.out)
      rintro e w78 ⟨v226,rfl,ho0,hb,hkp⟩
      refine⟨_,rfl,?_⟩;have n0_:=Ax (blk_kept (bf0 BK220.out) hkp (fun hs_=>(fun e_=>(Kd.R_ne HO224.out BK220.out (by decide)) e_) hs_));have n1_:=Ax (Kd.R_mono (ok':=fun k_=>True) ho0 (fun k_ hk_=>trivial));have n2_:=Ax (hb);clear BK220;clear HB;clear HO224;have BK220:=n0_;have HO227:=n1_;have HB:=n2_;clear n0_ n1_ n2_
      (try clear hb)
      (try clear hkp)
      (try clear ho0)
      obtain⟨Ao79,co79,eo79⟩:=Kd.R_slice HO227.out
      (first|subst eo79|(injection eo79 with f1_ f2_ f3_;have f4_:=f1_.symm;have f5_:=f3_.symm;clear f1_ f2_ f3_;subst f4_;subst f5_))
      refine hK.out _ _ ⟨(blk_cell BK220.out 0).trans rfl,(blk_cell BK220.out 1).trans rfl,(blk_cell BK220.out 2).trans rfl,(blk_cell BK220.out 3).trans rfl,(blk_cell BK220.out 4).trans rfl,(blk_cell BK220.out 5).trans rfl,(blk_cell BK220.out 6).trans rfl,(blk_cell BK220.out 7).trans rfl,(blk_cell BK220.out 8).trans rfl,(blk_cell BK220.out 9).trans rfl,(blk_cell BK220.out 10).trans rfl,(blk_cell BK220.out 11).trans rfl⟩ (fun hHeld=>?_);clear hK K;refine norm_ (a':=?_) ?_ ?_;rotate_left
      ·show Act.put _ (some 17) _=_
       simp only[sP];rfl
      refine one_ (i:=9) (N:=some 20) #[tr,tr,tr,tr,tr,tr,tr,tr,tr,tr,tr,tr,tr,fa,fa] rfl rfl (one_of HT_.out (by kernel_rfl)) (by decide) (fun K hK=>?_);refine goes_ Try.func45 (by kernel_rfl) rfl #[.slice Ao79 t225.length co79,.int .u64 a0_2] (by rfl) rfl rfl gS ?_;with_reducible refine (num_Add.calls k (fun k_=>some k_=(.slice Ao79 t225.length co79:Value).ownBlock) (.slice Ao79 t225.length co79) t225 a0_2 t228 w _ ?side1 ?side2 A5.out).mono ?_
      (case side1=>repeat (first|(with_reducible first|exact HB.out|apply below_alloc|apply pw_below_drewN|apply below_drew1|refine below_set ?_ GE220.out)|exact HB.out))
      (case side2=>exact Kd.R_tight rfl HO227.out)
      rintro e w80 ⟨v229,rfl,ho0,hb,hkp⟩
      refine⟨_,rfl,?_⟩;have n0_:=Ax (blk_kept (bf0 BK220.out) hkp (fun hs_=>(fun e_=>(Kd.R_ne HO227.out BK220.out (by decide)) e_) hs_));have n1_:=Ax (Kd.R_mono (ok':=fun k_=>True) ho0 (fun k_ hk_=>trivial));have n2_:=Ax (hb);clear BK220;clear HB;clear HO227;have BK220:=n0_;have HO230:=n1_;have HB:=n2_;clear n0_ n1_ n2_
      (try clear hb)
      (try clear hkp)
      (try clear ho0)
      obtain⟨Ao81,co81,eo81⟩:=Kd.R_slice HO230.out
      (first|subst eo81|(injection eo81 with f1_ f2_ f3_;have f4_:=f1_.symm;have f5_:=f3_.symm;clear f1_ f2_ f3_;subst f4_;subst f5_))
      refine hK.out _ _ ⟨(blk_cell BK220.out 0).trans rfl,(blk_cell BK220.out 1).trans rfl,(blk_cell BK220.out 2).trans rfl,(blk_cell BK220.out 3).trans rfl,(blk_cell BK220.out 4).trans rfl,(blk_cell BK220.out 5).trans rfl,(blk_cell BK220.out 6).trans rfl,(blk_cell BK220.out 7).trans rfl,(blk_cell BK220.out 8).trans rfl,(blk_cell BK220.out 9).trans rfl,(blk_cell BK220.out 10).trans rfl,(blk_cell BK220.out 11).trans rfl⟩ (fun hHeld=>?_);clear hK K;refine norm_ (a':=?_) ?_ ?_;rotate_left
      ·show Act.put _ (some 20) _=_
       simp only[sP];rfl
      refine one_ (i:=13) (N:=some 24) #[tr,tr,tr,tr,tr,tr,tr,tr,tr,tr,tr,tr,tr,tr,fa] rfl rfl (one_of HT_.out (by kernel_rfl)) (by decide) (fun K hK=>?_);refine goes_ Try.func45 (by kernel_rfl) rfl #[.slice Ao81 t228.length co81,.int .u64 (IntKind.u64.wrap (a0_3))] (by rfl) rfl rfl gS ?_;with_reducible refine (num_Add.calls k (fun k_=>some k_=(.slice Ao81 t228.length co81:Value).ownBlock) (.slice Ao81 t228.length co81) t228 (IntKind.u64.wrap (a0_3)) t231 w _ ?side1 ?side2 A6.out).mono ?_
      (case side1=>repeat (first|(with_reducible first|exact HB.out|apply below_alloc|apply pw_below_drewN|apply below_drew1|refine below_set ?_ GE220.out)|exact HB.out))
      (case side2=>exact Kd.R_tight rfl HO230.out)
      rintro e w82 ⟨v232,rfl,ho0,hb,hkp⟩
      refine⟨_,rfl,?_⟩;have n0_:=Ax (blk_kept (bf0 BK220.out) hkp (fun hs_=>(fun e_=>(Kd.R_ne HO230.out BK220.out (by decide)) e_) hs_));have n1_:=Ax (Kd.R_mono (ok':=fun k_=>True) ho0 (fun k_ hk_=>trivial));have n2_:=Ax (hb);clear BK220;clear HB;clear HO230;have BK220:=n0_;have HO233:=n1_;have HB:=n2_;clear n0_ n1_ n2_
      (try clear hb)
      (try clear hkp)
      (try clear ho0)
      refine hK.out _ _ ⟨(blk_cell BK220.out 0).trans rfl,(blk_cell BK220.out 1).trans rfl,(blk_cell BK220.out 2).trans rfl,(blk_cell BK220.out 3).trans rfl,(blk_cell BK220.out 4).trans rfl,(blk_cell BK220.out 5).trans rfl,(blk_cell BK220.out 6).trans rfl,(blk_cell BK220.out 7).trans rfl,(blk_cell BK220.out 8).trans rfl,(blk_cell BK220.out 9).trans rfl,(blk_cell BK220.out 10).trans rfl,(blk_cell BK220.out 11).trans rfl⟩ (fun hHeld=>?_);clear hK K;refine norm_ (a':=?_) ?_ ?_;rotate_left
      ·show Act.put _ (some 24) _=_
       simp only[sP];rfl
      refine pz 14 5 #[tr,tr,tr,tr,tr,tr,tr,tr,tr,tr,tr,tr,tr,tr,tr] HT_.out ?_
      refine done_ (done_of HT_.out (by kernel_rfl)) ?_;obtain⟨hcz83_0,hcz83_1,hcz83_2,hcz83_3,hcz83_4,hcz83_5,hcz83_6,hcz83_7,hcz83_8,hcz83_9,hcz83_10,hcz83_11,hfz83_0,hfz83_1,hfz83_2,hfz83_3,hfz83_4,hfz83_5,hfz83_6,hfz83_7,hfz83_8,hfz83_9,hfz83_10,hfz83_11⟩:=cl12 BK220;obtain⟨Ao84,co84,eo84⟩:=Kd.R_slice HO233.out;subst eo84;try go_wp2_with (first|((with_reducible refine gate_callee (f:=45) rfl ?_);refine goesL_ (some 59) rfl rfl Try.func45 (by kernel_rfl) rfl #[.slice Ao84 t231.length co84,.int .u64 (IntKind.u64.wrap (a0_10))] rfl gS ?_;(with_reducible refine (num_Add.calls k (fun k_=>some k_=(.slice Ao84 t231.length co84:Value).ownBlock) (.slice Ao84 t231.length co84) t231 (IntKind.u64.wrap (a0_10)) t249 w _ ?side1 ?side2 A70.out).mono ?_);(case side1=>repeat (first|(with_reducible first|exact HB.out|apply below_alloc|apply pw_below_drewN|apply below_drew1|refine below_set ?_ GE220.out)|exact HB.out));(case side2=>exact Kd.R_tight rfl HO233.out);rintro e w85 ⟨v250,rfl,ho0,hb,hkp⟩;refine⟨_,rfl,?_⟩;have n0_:=Ax (blk_kept (bf0 BK220.out) hkp (fun hs_=>(fun e_=>(Kd.R_ne HO233.out BK220.out (by decide)) e_) hs_));have n1_:=Ax (Kd.R_mono (ok':=fun k_=>True) ho0 (fun k_ hk_=>trivial));have n2_:=Ax (hb);clear BK220;clear HB;clear HO233;have BK220:=n0_;have HO251:=n1_;have HB:=n2_;clear n0_ n1_ n2_;(try clear hb);(try clear hkp);(try clear ho0);have hcv86:=own_string (P:=Try.prog) Try.underlying67 Try.underlying5 Try.underlying9 (Kd.own_of_R HO251.out)))
      go_ret2;exact⟨eS,bw1 HB.out GE220.out⟩
     ·rw [if_neg c69]at H;have c69b0:(a0_0==6)=false:=beq_eq_false_iff_ne.mpr c69;have c69b1:(a0_0 !=6)=true:=bne_iff_ne.mpr c69;simp only[Option.some.injEq,Prod.mk.injEq]at H;obtain⟨rfl,rfl⟩:=H;go_enter Try.func23,Try.ntmps23;try go_wp2_with (first|((with_reducible refine gate_dst (N:=1) rfl ?_);refine box_event ?hg (N:=1) ?hd (cs:= #[.int .u8 a0_0,.int .i64 a0_1,.int .u64 a0_2,.int .i64 a0_3,.bool a0_4,.int .u64 a0_5,.int .u64 a0_6,.int .i64 a0_7,.int .u8 a0_8,.int .i64 a0_9,.int .i64 a0_10,.int .i64 a0_11]) (t:=35) ?hr ?_;(case hd=>rfl);(case hg=>rfl);(case hr=>first|(go_simp;done)|(go_simp;rfl));intro gb220 hg w87 hbox hb;have n0_:=Bs0 HB hb;have n1_:=Ax (hbox);have n2_:=Gw0 HB hg;have n3_:=Gw0 HB hg;clear HB;have HB:=n0_;have BK220:=n1_;have GW220:=n2_;have GE220:=n3_;clear n0_ n1_ n2_ n3_;clear hb hbox hg;obtain⟨hcz88_0,hcz88_1,hcz88_2,hcz88_3,hcz88_4,hcz88_5,hcz88_6,hcz88_7,hcz88_8,hcz88_9,hcz88_10,hcz88_11,hfz88_0,hfz88_1,hfz88_2,hfz88_3,hfz88_4,hfz88_5,hfz88_6,hfz88_7,hfz88_8,hfz88_9,hfz88_10,hfz88_11⟩:=cl12 BK220)|((with_reducible refine gate_callee (f:=39) rfl ?_);refine goesL_ (some 7) rfl rfl Try.func39 (by kernel_rfl) rfl #[.agg #[.int .u8 a0_0,.int .i64 a0_1,.int .u64 a0_2,.int .i64 a0_3,.bool a0_4,.int .u64 a0_5,.int .u64 a0_6,.int .i64 a0_7,.int .u8 a0_8,.int .i64 a0_9,.int .i64 a0_10,.int .i64 a0_11]] rfl gS ?_;(with_reducible refine (msg_Check.calls k a0_0 a0_1 a0_2 a0_3 a0_4 a0_5 a0_6 a0_7 a0_8 a0_9 a0_10 a0_11 t221 _ A2.out).mono ?_);rintro e w89 ⟨rfl,hb⟩;refine⟨_,rfl,?_⟩;replace BK220:=Bx0 BK220 hb;replace HB:=Bs1 HB hb GE220.out;(try clear hb)))
      replace BK220:=Ax (blk_drew BK220.out);replace HB:=Ax (below_drew1 HB.out);refine start_ (n:=15) (S:=fun w'=>w'.cell? ⟨gb220,0,none⟩=some (.int .u8 a0_0)∧w'.cell? ⟨gb220,1,none⟩=some (.int .i64 a0_1)∧w'.cell? ⟨gb220,2,none⟩=some (.int .u64 a0_2)∧w'.cell? ⟨gb220,3,none⟩=some (.int .i64 a0_3)∧w'.cell? ⟨gb220,4,none⟩=some (.bool a0_4)∧w'.cell? ⟨gb220,5,none⟩=some (.int .u64 a0_5)∧w'.cell? ⟨gb220,6,none⟩=some (.int .u64 a0_6)∧w'.cell? ⟨gb220,7,none⟩=some (.int .i64 a0_7)∧w'.cell? ⟨gb220,8,none⟩=some (.int .u8 a0_8)∧w'.cell? ⟨gb220,9,none⟩=some (.int .i64 a0_9)∧w'.cell? ⟨gb220,10,none⟩=some (.int .i64 a0_10)∧w'.cell? ⟨gb220,11,none⟩=some (.int .i64 a0_11)) (ds:= []) #[fa,fa,fa,fa,fa,fa,fa,fa,fa,fa,fa,fa,fa,fa,fa] (by kernel_rfl) rfl rfl ⟨(blk_cell BK220.out 0).trans rfl,(blk_cell BK220.out 1).trans rfl,(blk_cell BK220.out 2).trans rfl,(blk_cell BK220.out 3).trans rfl,(blk_cell BK220.out 4).trans rfl,(blk_cell BK220.out 5).trans rfl,(blk_cell BK220.out 6).trans rfl,(blk_cell BK220.out 7).trans rfl,(blk_cell BK220.out 8).trans rfl,(blk_cell BK220.out 9).trans rfl,(blk_cell BK220.out 10).trans rfl,(blk_cell BK220.out 11).trans rfl⟩ (fun hHeld=>?_);refine with_tabW msg_Put.tab4 msg_Put.bits4 (fun HT_ HW_=>?_);generalize w89.drew=w90 at BK220 HB hHeld ⊢;refine pz 0 11 #[tr,fa,fa,fa,fa,fa,fa,fa,fa,fa,fa,fa,fa,fa,fa] HT_.out ?_
      refine pz 3 14 #[tr,fa,fa,tr,fa,fa,fa,fa,fa,fa,fa,fa,fa,fa,fa] HT_.out ?_
      refine pz 7 18 #[tr,fa,fa,tr,fa,fa,fa,tr,fa,fa,fa,fa,fa,fa,fa] HT_.out ?_
      refine pz 10 21 #[tr,fa,fa,tr,fa,fa,fa,tr,fa,fa,tr,fa,fa,fa,fa] HT_.out ?_
      refine take_ (i:=1) (N:=some 12) (v:=?_) (a':=?_) #[tr,tr,fa,tr,fa,fa,fa,tr,fa,fa,tr,fa,fa,fa,fa] rfl rfl (take_ofW HT_.out HW_.out (by kernel_rfl)) (fun _ _ _ h=>h) (Or.inl ⟨by rfl,?_⟩) hHeld ?_ ?_;rotate_left
      ·rintro w' ⟨s0,s1,s2,s3,s4,s5,s6,s7,s8,s9,s10,s11⟩
       go_simp;with_reducible rfl
      rotate_left;·simp only[sP];rfl
      refine take_ (i:=4) (N:=some 15) (v:=?_) (a':=?_) #[tr,tr,fa,tr,tr,fa,fa,tr,fa,fa,tr,fa,fa,fa,fa] rfl rfl (take_ofW HT_.out HW_.out (by kernel_rfl)) (fun _ _ _ h=>h) (Or.inl ⟨by rfl,?_⟩) hHeld ?_ ?_;rotate_left
      ·rintro w' ⟨s0,s1,s2,s3,s4,s5,s6,s7,s8,s9,s10,s11⟩
       go_simp;with_reducible rfl
      rotate_left;·simp only[sP];rfl
      refine pz 5 16 #[tr,tr,fa,tr,tr,tr,fa,tr,fa,fa,tr,fa,fa,fa,fa] HT_.out ?_
      refine take_ (i:=8) (N:=some 19) (v:=?_) (a':=?_) #[tr,tr,fa,tr,tr,tr,fa,tr,tr,fa,tr,fa,fa,fa,fa] rfl rfl (take_ofW HT_.out HW_.out (by kernel_rfl)) (fun _ _ _ h=>h) (Or.inl ⟨by rfl,?_⟩) hHeld ?_ ?_;rotate_left
      ·rintro w' ⟨s0,s1,s2,s3,s4,s5,s6,s7,s8,s9,s10,s11⟩
       go_simp;with_reducible rfl
      rotate_left;·simp only[sP];rfl
      refine take_ (i:=11) (N:=some 22) (v:=?_) (a':=?_) #[tr,tr,fa,tr,tr,tr,fa,tr,tr,fa,tr,tr,fa,fa,fa] rfl rfl (take_ofW HT_.out HW_.out (by kernel_rfl)) (fun _ _ _ h=>h) (Or.inl ⟨by rfl,?_⟩) hHeld ?_ ?_;rotate_left
      ·rintro w' ⟨s0,s1,s2,s3,s4,s5,s6,s7,s8,s9,s10,s11⟩
       go_simp;with_reducible rfl
      rotate_left;·simp only[sP];rfl
      refine pz 12 23 #[tr,tr,fa,tr,tr,tr,fa,tr,tr,fa,tr,tr,tr,fa,fa] HT_.out ?_
      refine one_ (i:=2) (N:=some 13) #[tr,tr,tr,tr,tr,tr,fa,tr,tr,fa,tr,tr,tr,fa,fa] rfl rfl (one_of HT_.out (by kernel_rfl)) (by decide) (fun K hK=>?_);refine Kd.R_lit_step (Kd.int .u8) _ 5 ?hg (N:=13) ?hd (xs:=([a0_0]:List Int)) (inner:= [.int .u8 a0_0]) (ok:=fun _=>True) (okp:=fun _=>True) ?hr ?hp (fun _ hk=>hk) trivial (Below.refl _ _) (Nat.le_refl _) (by simp) ?_;(case hd=>rfl);(case hg=>rfl);(case hr=>first|(go_simp;done)|(go_simp;rfl));(case hp=>exact (Reps.one (show Kd.M (Kd.int .u8) _ _ _ a0_0 [.int .u8 a0_0] from rfl) (Reps.none _ _)));intro v223 w91 ho92 hb hg_ hnew_;clear hg_ hnew_
      (first|rw [← Ny222.out]at ho92|(simp only[Int.reduceToNat]at ho92;rw [← Ny222.out]at ho92))
      have HO224:=Ax (Kd.R_lower ho92 (below_size (bw1 HB.out GE220.out)));replace BK220:=Bx0 BK220 hb;replace HB:=Bs1 HB hb GE220.out;clear hb ho92;obtain⟨Ao93,co93,eo93⟩:=Kd.R_slice HO224.out
      (first|subst eo93|(injection eo93 with f1_ f2_ f3_;have f4_:=f1_.symm;have f5_:=f3_.symm;clear f1_ f2_ f3_;subst f4_;subst f5_))
      refine hK.out _ _ ⟨(blk_cell BK220.out 0).trans rfl,(blk_cell BK220.out 1).trans rfl,(blk_cell BK220.out 2).trans rfl,(blk_cell BK220.out 3).trans rfl,(blk_cell BK220.out 4).trans rfl,(blk_cell BK220.out 5).trans rfl,(blk_cell BK220.out 6).trans rfl,(blk_cell BK220.out 7).trans rfl,(blk_cell BK220.out 8).trans rfl,(blk_cell BK220.out 9).trans rfl,(blk_cell BK220.out 10).trans rfl,(blk_cell BK220.out 11).trans rfl⟩ (fun hHeld=>?_);clear hK K;refine norm_ (a':=?_) ?_ ?_;rotate_left
      ·show Act.put _ (some 13) _=_
       simp only[sP];rfl
      refine one_ (i:=6) (N:=some 17) #[tr,tr,tr,tr,tr,tr,tr,tr,tr,fa,tr,tr,tr,fa,fa] rfl rfl (one_of HT_.out (by kernel_rfl)) (by decide) (fun K hK=>?_);refine goes_ Try.func45 (by kernel_rfl) rfl #[.slice Ao93 y222.length co93,.int .u64 (IntKind.u64.wrap (a0_1))] (by rfl) rfl rfl gS ?_;with_reducible refine (num_Add.calls k (fun k_=>some k_=(.slice Ao93 y222.length co93:Value).ownBlock) (.slice Ao93 y222.length co93) y222 (IntKind.u64.wrap (a0_1)) t225 w _ ?side1 ?side2 A4.out).mono ?_
      (case side1=>repeat (first|(with_reducible first|exact HB.out|apply below_alloc|apply pw_below_drewN|apply below_drew1|refine below_set ?_ GE220.out)|exact HB.out))
      (case side2=>exact Kd.R_tight rfl HO224.out)
      rintro e w94 ⟨v226,rfl,ho0,hb,hkp⟩
      refine⟨_,rfl,?_⟩;have n0_:=Ax (blk_kept (bf0 BK220.out) hkp (fun hs_=>(fun e_=>(Kd.R_ne HO224.out BK220.out (by decide)) e_) hs_));have n1_:=Ax (Kd.R_mono (ok':=fun k_=>True) ho0 (fun k_ hk_=>trivial));have n2_:=Ax (hb);clear BK220;clear HB;clear HO224;have BK220:=n0_;have HO227:=n1_;have HB:=n2_;clear n0_ n1_ n2_
      (try clear hb)
      (try clear hkp)
      (try clear ho0)
      obtain⟨Ao95,co95,eo95⟩:=Kd.R_slice HO227.out
      (first|subst eo95|(injection eo95 with f1_ f2_ f3_;have f4_:=f1_.symm;have f5_:=f3_.symm;clear f1_ f2_ f3_;subst f4_;subst f5_))
      refine hK.out _ _ ⟨(blk_cell BK220.out 0).trans rfl,(blk_cell BK220.out 1).trans rfl,(blk_cell BK220.out 2).trans rfl,(blk_cell BK220.out 3).trans rfl,(blk_cell BK220.out 4).trans rfl,(blk_cell BK220.out 5).trans rfl,(blk_cell BK220.out 6).trans rfl,(blk_cell BK220.out 7).trans rfl,(blk_cell BK220.out 8).trans rfl,(blk_cell BK220.out 9).trans rfl,(blk_cell BK220.out 10).trans rfl,(blk_cell BK220.out 11).trans rfl⟩ (fun hHeld=>?_);clear hK K;refine norm_ (a':=?_) ?_ ?_;rotate_left
      ·show Act.put _ (some 17) _=_
       simp only[sP];rfl
      refine one_ (i:=9) (N:=some 20) #[tr,tr,tr,tr,tr,tr,tr,tr,tr,tr,tr,tr,tr,fa,fa] rfl rfl (one_of HT_.out (by kernel_rfl)) (by decide) (fun K hK=>?_);refine goes_ Try.func45 (by kernel_rfl) rfl #[.slice Ao95 t225.length co95,.int .u64 a0_2] (by rfl) rfl rfl gS ?_;with_reducible refine (num_Add.calls k (fun k_=>some k_=(.slice Ao95 t225.length co95:Value).ownBlock) (.slice Ao95 t225.length co95) t225 a0_2 t228 w _ ?side1 ?side2 A5.out).mono ?_
      (case side1=>repeat (first|(with_reducible first|exact HB.out|apply below_alloc|apply pw_below_drewN|apply below_drew1|refine below_set ?_ GE220.out)|exact HB.out))
      (case side2=>exact Kd.R_tight rfl HO227.out)
      rintro e w96 ⟨v229,rfl,ho0,hb,hkp⟩
      refine⟨_,rfl,?_⟩;have n0_:=Ax (blk_kept (bf0 BK220.out) hkp (fun hs_=>(fun e_=>(Kd.R_ne HO227.out BK220.out (by decide)) e_) hs_));have n1_:=Ax (Kd.R_mono (ok':=fun k_=>True) ho0 (fun k_ hk_=>trivial));have n2_:=Ax (hb);clear BK220;clear HB;clear HO227;have BK220:=n0_;have HO230:=n1_;have HB:=n2_;clear n0_ n1_ n2_
      (try clear hb)
      (try clear hkp)
      (try clear ho0)
      obtain⟨Ao97,co97,eo97⟩:=Kd.R_slice HO230.out
      (first|subst eo97|(injection eo97 with f1_ f2_ f3_;have f4_:=f1_.symm;have f5_:=f3_.symm;clear f1_ f2_ f3_;subst f4_;subst f5_))
      refine hK.out _ _ ⟨(blk_cell BK220.out 0).trans rfl,(blk_cell BK220.out 1).trans rfl,(blk_cell BK220.out 2).trans rfl,(blk_cell BK220.out 3).trans rfl,(blk_cell BK220.out 4).trans rfl,(blk_cell BK220.out 5).trans rfl,(blk_cell BK220.out 6).trans rfl,(blk_cell BK220.out 7).trans rfl,(blk_cell BK220.out 8).trans rfl,(blk_cell BK220.out 9).trans rfl,(blk_cell BK220.out 10).trans rfl,(blk_cell BK220.out 11).trans rfl⟩ (fun hHeld=>?_);clear hK K;refine norm_ (a':=?_) ?_ ?_;rotate_left
      ·show Act.put _ (some 20) _=_
       simp only[sP];rfl
      refine one_ (i:=13) (N:=some 24) #[tr,tr,tr,tr,tr,tr,tr,tr,tr,tr,tr,tr,tr,tr,fa] rfl rfl (one_of HT_.out (by kernel_rfl)) (by decide) (fun K hK=>?_);refine goes_ Try.func45 (by kernel_rfl) rfl #[.slice Ao97 t228.length co97,.int .u64 (IntKind.u64.wrap (a0_3))] (by rfl) rfl rfl gS ?_;with_reducible refine (num_Add.calls k (fun k_=>some k_=(.slice Ao97 t228.length co97:Value).ownBlock) (.slice Ao97 t228.length co97) t228 (IntKind.u64.wrap (a0_3)) t231 w _ ?side1 ?side2 A6.out).mono ?_
      (case side1=>repeat (first|(with_reducible first|exact HB.out|apply below_alloc|apply pw_below_drewN|apply below_drew1|refine below_set ?_ GE220.out)|exact HB.out))
      (case side2=>exact Kd.R_tight rfl HO230.out)
      rintro e w98 ⟨v232,rfl,ho0,hb,hkp⟩
      refine⟨_,rfl,?_⟩;have n0_:=Ax (blk_kept (bf0 BK220.out) hkp (fun hs_=>(fun e_=>(Kd.R_ne HO230.out BK220.out (by decide)) e_) hs_));have n1_:=Ax (Kd.R_mono (ok':=fun k_=>True) ho0 (fun k_ hk_=>trivial));have n2_:=Ax (hb);clear BK220;clear HB;clear HO230;have BK220:=n0_;have HO233:=n1_;have HB:=n2_;clear n0_ n1_ n2_
      (try clear hb)
      (try clear hkp)
      (try clear ho0)
      refine hK.out _ _ ⟨(blk_cell BK220.out 0).trans rfl,(blk_cell BK220.out 1).trans rfl,(blk_cell BK220.out 2).trans rfl,(blk_cell BK220.out 3).trans rfl,(blk_cell BK220.out 4).trans rfl,(blk_cell BK220.out 5).trans rfl,(blk_cell BK220.out 6).trans rfl,(blk_cell BK220.out 7).trans rfl,(blk_cell BK220.out 8).trans rfl,(blk_cell BK220.out 9).trans rfl,(blk_cell BK220.out 10).trans rfl,(blk_cell BK220.out 11).trans rfl⟩ (fun hHeld=>?_);clear hK K;refine norm_ (a':=?_) ?_ ?_;rotate_left
      ·show Act.put _ (some 24) _=_
       simp only[sP];rfl
      refine pz 14 5 #[tr,tr,tr,tr,tr,tr,tr,tr,tr,tr,tr,tr,tr,tr,tr] HT_.out ?_
      refine done_ (done_of HT_.out (by kernel_rfl)) ?_;obtain⟨hcz99_0,hcz99_1,hcz99_2,hcz99_3,hcz99_4,hcz99_5,hcz99_6,hcz99_7,hcz99_8,hcz99_9,hcz99_10,hcz99_11,hfz99_0,hfz99_1,hfz99_2,hfz99_3,hfz99_4,hfz99_5,hfz99_6,hfz99_7,hfz99_8,hfz99_9,hfz99_10,hfz99_11⟩:=cl12 BK220;have hcv100:=own_string (P:=Try.prog) Try.underlying67 Try.underlying5 Try.underlying9 (Kd.own_of_R HO233.out);try go_wp2
      go_ret2;exact⟨eS,bw1 HB.out GE220.out⟩
 ·rw [if_neg c3]at H;have c3b0:(t221==0)=false:=beq_eq_false_iff_ne.mpr c3;have c3b1:(t221 !=0)=true:=bne_iff_ne.mpr c3;simp only[Option.some.injEq,Prod.mk.injEq]at H;obtain⟨rfl,rfl⟩:=H;go_enter Try.func23,Try.ntmps23;go_wp2_with (first|((with_reducible refine gate_dst (N:=1) rfl ?_);refine box_event ?hg (N:=1) ?hd (cs:= #[.int .u8 a0_0,.int .i64 a0_1,.int .u64 a0_2,.int .i64 a0_3,.bool a0_4,.int .u64 a0_5,.int .u64 a0_6,.int .i64 a0_7,.int .u8 a0_8,.int .i64 a0_9,.int .i64 a0_10,.int .i64 a0_11]) (t:=35) ?hr ?_;(case hd=>rfl);(case hg=>rfl);(case hr=>first|(go_simp;done)|(go_simp;rfl));intro gb220 hg w101 hbox hb;have n0_:=Bs0 HB hb;have n1_:=Ax (hbox);have n2_:=Gw0 HB hg;have n3_:=Gw0 HB hg;clear HB;have HB:=n0_;have BK220:=n1_;have GW220:=n2_;have GE220:=n3_;clear n0_ n1_ n2_ n3_;clear hb hbox hg;obtain⟨hcz102_0,hcz102_1,hcz102_2,hcz102_3,hcz102_4,hcz102_5,hcz102_6,hcz102_7,hcz102_8,hcz102_9,hcz102_10,hcz102_11,hfz102_0,hfz102_1,hfz102_2,hfz102_3,hfz102_4,hfz102_5,hfz102_6,hfz102_7,hfz102_8,hfz102_9,hfz102_10,hfz102_11⟩:=cl12 BK220)|((with_reducible refine gate_callee (f:=39) rfl ?_);refine goesL_ (some 7) rfl rfl Try.func39 (by kernel_rfl) rfl #[.agg #[.int .u8 a0_0,.int .i64 a0_1,.int .u64 a0_2,.int .i64 a0_3,.bool a0_4,.int .u64 a0_5,.int .u64 a0_6,.int .i64 a0_7,.int .u8 a0_8,.int .i64 a0_9,.int .i64 a0_10,.int .i64 a0_11]] rfl gS ?_;(with_reducible refine (msg_Check.calls k a0_0 a0_1 a0_2 a0_3 a0_4 a0_5 a0_6 a0_7 a0_8 a0_9 a0_10 a0_11 t221 _ A2.out).mono ?_);rintro e w103 ⟨rfl,hb⟩;refine⟨_,rfl,?_⟩;replace BK220:=Bx0 BK220 hb;replace HB:=Bs1 HB hb GE220.out;(try clear hb)));go_ret2;exact⟨eS,bw1 HB.out GE220.out⟩
def cutter_fit.f (a0:Int):Option (Bool):=if a0 ≥ 1 then (some (decide (a0≤64))) else (some false)
set_option maxHeartbeats 8000000 in
set_option maxRecDepth 100000 in
theorem cutter_fit.calls (a0:Int) (r:Bool) (w:World) (h:cutter_fit.f a0=some r):
  Calls Try.prog 48 #[.int .i64 a0] w fun e w'=>e= .returned (.bool r)∧Drawn0 w w':=by
 have H:(if a0 ≥ 1 then (some (decide (a0≤64))) else (some false))=some r:=h;clear h;by_cases c2:a0 ≥ 1;·rw [if_pos c2]at H;have c2b0:decide (1≤a0)=true:=decide_eq_true c2;clear c2;obtain rfl:=Option.some.inj H;go_enter Try.func48,Try.ntmps48;go_wp2;go_ret;exact⟨by first|rfl|(simp;done)|(simp [*];done),by repeat (first|exact Drawn0.refl _|apply Drawn0.step)⟩
 ·rw [if_neg c2]at H;have c2b0:decide (1≤a0)=false:=decide_eq_false c2;clear c2;obtain rfl:=Option.some.inj H;go_enter Try.func48,Try.ntmps48;go_wp2;go_ret;exact⟨by first|rfl|(simp;done)|(simp [*];done),by repeat (first|exact Drawn0.refl _|apply Drawn0.step)⟩
def cutter_Wrap.f (a0:ByteArray):Option (ByteArray × Int):=(cutter_fit.f (a0.size:Int)).bind fun t252=>(if t252=true then ((some (([245,0,((a0.size:Int)) % 256]:List Int):List Int)).bind fun y253=>(if (strOfNums y253).size+a0.size≤9223372036854775807 then (some ((strOfNums y253)++a0,0)) else (none))) else (some ((⟨#[]⟩:ByteArray),11)))
set_option maxHeartbeats 8000000 in
set_option maxRecDepth 100000 in
theorem cutter_Wrap.calls (a0:ByteArray) (r1:ByteArray) (r2:Int) (w:World) (h:cutter_Wrap.f a0=some (r1,r2)):
  Calls Try.prog 24 #[.string a0] w fun e w'=>e= .returned (.tuple #[.string r1,.int .i64 r2])∧Below w.heap.size w w':=by
 have HB:=Ax (Below.refl w.heap.size w);have H:((cutter_fit.f (a0.size:Int)).bind fun t252=>(if t252=true then ((some (([245,0,((a0.size:Int)) % 256]:List Int):List Int)).bind fun y253=>(if (strOfNums y253).size+a0.size≤9223372036854775807 then (some ((strOfNums y253)++a0,0)) else (none))) else (some ((⟨#[]⟩:ByteArray),11))))=some (r1,r2):=h;clear h;replace H:=Option.bind_eq_some_iff.mp H;obtain⟨t252,A20,H⟩:=H;replace H:(if t252=true then ((some (([245,0,((a0.size:Int)) % 256]:List Int):List Int)).bind fun y253=>(if (strOfNums y253).size+a0.size≤9223372036854775807 then (some ((strOfNums y253)++a0,0)) else (none))) else (some ((⟨#[]⟩:ByteArray),11)))=some (r1,r2):=H;have A2:=Ax A20;clear A20;by_cases c3:t252=true
 ·subst c3;have H1:((some (([245,0,((a0.size:Int)) % 256]:List Int):List Int)).bind fun y253=>(if (strOfNums y253).size+a0.size≤9223372036854775807 then (some ((strOfNums y253)++a0,0)) else (none)))=some (r1,r2):=by rw [if_pos rfl]at H;exact H
  clear H;have H:=H1;clear H1;obtain⟨y253,hy253⟩: ∃ y_:List Int,y_=(([245,0,((a0.size:Int)) % 256]:List Int)):=⟨_,rfl⟩;replace H:(if (strOfNums y253).size+a0.size≤9223372036854775807 then (some ((strOfNums y253)++a0,0)) else (none))=some (r1,r2):=by first|(rw [hy253];with_reducible exact H)|(have H2_:=(Option.bind_some _ _).symm.trans H;rw [hy253];with_reducible exact H2_)|(have H2_:=(Option.bind_some _ _).symm.trans H;with_reducible exact H2_)|with_reducible exact H|(rw [hy253];exact H)|exact H
  have Ny253:=Ax hy253;clear hy253;by_cases c4:(strOfNums y253).size+a0.size≤9223372036854775807
  ·rw [if_pos c4]at H;have c4b0:=eq_true c4;have c4b1:decide ((strOfNums y253).size+a0.size≤9223372036854775807)=true:=decide_eq_true c4;try have c4b2:(9223372036854775807<(strOfNums y253).size+a0.size)=False:=eq_false (Nat.not_lt.2 c4)
   simp only[Option.some.injEq,Prod.mk.injEq]at H;obtain⟨rfl,rfl⟩:=H;go_enter Try.func24,Try.ntmps24;go_wp2_with (first|((with_reducible refine gate_callee (f:=48) rfl ?_);refine goesL_ (some 6) rfl rfl Try.func48 (by kernel_rfl) rfl #[.int .i64 (a0.size:Int)] rfl gS ?_;(with_reducible refine (cutter_fit.calls (a0.size:Int) true _ A2.out).mono ?_);rintro e w' ⟨rfl,⟨nd,rfl⟩⟩;refine⟨_,rfl,?_⟩)|((with_reducible refine gate_dst (N:=11) rfl ?_);refine Kd.R_lit (Kd.int .u8) _ 5 ?hg (N:=11) ?hd (xs:=([245,0,((a0.size:Int)) % 256]:List Int)) (inner:= [.int .u8 245,.int .u8 0,.int .u8 (((a0.size:Int)) % 256)]) (ok:=fun _=>True) (okp:=fun _=>True) ?hr ?hp (fun _ hk=>hk) trivial (Below.refl _ _) (Nat.le_refl _) (by simp) ?_;(case hd=>rfl);(case hg=>rfl);(case hr=>first|(go_simp;done)|(go_simp;rfl));(case hp=>exact (Reps.one (show Kd.M (Kd.int .u8) _ _ _ 245 [.int .u8 245] from rfl) (Reps.one (show Kd.M (Kd.int .u8) _ _ _ 0 [.int .u8 0] from rfl) (Reps.one (show Kd.M (Kd.int .u8) _ _ _ (((a0.size:Int)) % 256) [.int .u8 (((a0.size:Int)) % 256)] from rfl) (Reps.none _ _)))));intro v254 w5 ho6 hb hg_ hnew_;clear hg_ hnew_;(first|rw [← Ny253.out]at ho6|(simp only[Int.reduceToNat]at ho6;rw [← Ny253.out]at ho6));have HO255:=Ax (Kd.R_lower ho6 (below_size (bw0 HB.out)));replace HB:=Bs0 HB hb;clear hb ho6;have hcv7:=own_string (P:=Try.prog) Try.underlying67 Try.underlying5 Try.underlying9 (Kd.own_of_R HO255.out)));go_ret2;exact⟨eS,bw0 HB.out⟩
  ·rw [if_neg c4]at H;exact absurd H (by simp)
 ·replace c3:=Bool.eq_false_iff.mpr c3;subst c3;have H1:(some ((⟨#[]⟩:ByteArray),11))=some (r1,r2):=by rw [if_neg (show ¬ (false=true) by decide)]at H;exact H
  clear H;have H:=H1;clear H1;simp only[Option.some.injEq,Prod.mk.injEq]at H;obtain⟨rfl,rfl⟩:=H;go_enter Try.func24,Try.ntmps24;go_wp2_with (first|((with_reducible refine gate_callee (f:=48) rfl ?_);refine goesL_ (some 6) rfl rfl Try.func48 (by kernel_rfl) rfl #[.int .i64 (a0.size:Int)] rfl gS ?_;(with_reducible refine (cutter_fit.calls (a0.size:Int) false _ A2.out).mono ?_);rintro e w' ⟨rfl,⟨nd,rfl⟩⟩;refine⟨_,rfl,?_⟩));go_ret2;exact⟨eS,bw0 HB.out⟩
end Go.Proofs.Ythkdfojmhloofaa.Q
end
