/- Any stream has its pieces, and comes to what it does; so does any piece: of a stream and a piece of bulk at most 1048576. -/
import Derived.Test.YthkdfojmhloofaaRows
import Derived.WalkKit
import Derived.ProofKit
import Derived.OpenShut
import Derived.ShutString
import Derived.ChangeOld
import Derived.Below
import Derived.SizedLaws
import Derived.JoinedCond
import Derived.Test.YthkdfojmhloofaaTGramReadsUpto10
section
namespace Go.Proofs.Ythkdfojmhloofaa.Msg
set_option linter.unusedVariables false
open Go.RowKit YthkdfojmhloofaaW.PrintWords YthkdfojmhloofaaW.PrintLast YthkdfojmhloofaaW.PrintMore Ythkdfojmhloofaa.Base Ythkdfojmhloofaa.Num Ythkdfojmhloofaa.Addr Ythkdfojmhloofaa.Be Ythkdfojmhloofaa.Q
def tailG (k : Nat) (s : ByteArray) (y kd ro sq ti : Int) : Option (Int × Int × Int × Int × Bool × Int × Int × Int × Int × Int × Int × Int × Int) :=
  if kd = 3 then ((api_Prefix.f k s y).bind fun A => ((api_Action.f k A.2.2.2.2.1 A.2.2.2.2.2).bind fun C => (msg_Get.j0 k C.2.2.1 C.2.2.2 kd ro sq ti A.1 A.2.1 A.2.2.1 A.2.2.2.1 C.1 C.2.1 0 0)))
  else (if kd = 4 then ((api_Prefix.f k s y).bind fun B => (msg_Get.j0 k B.2.2.2.2.1 B.2.2.2.2.2 kd ro sq ti B.1 B.2.1 B.2.2.1 B.2.2.2.1 0 0 0 0))
  else (if kd = 5 then ((num_Reader_Many.f k s y 65536).bind fun D => ((num_Reader_Many.f k D.2.1 D.2.2 1048576).bind fun E => (msg_Get.j0 k E.2.1 E.2.2 kd ro sq ti false 0 0 0 0 0 D.1 E.1)))
  else (if kd = 6 then ((num_Reader_Many.f k s y 65536).bind fun F => (msg_Get.j0 k F.2.1 F.2.2 kd ro sq ti false 0 0 0 0 0 F.1 0))
  else (msg_Get.j0 k s y kd ro sq ti false 0 0 0 0 0 0 0))))
theorem tail_bad (s:ByteArray) (hs:s.size≤281474976710656) {y:Int} (hy:y≠0) (kd ro sq ti:Int):Ev (fun k=>tailG k s y kd ro sq ti) (evS none):=by
  simp only[tailG];by_cases c3:kd=3;·refine Ev.pos c3 ?_;obtain⟨x1,x2,x3,x4,h⟩:=pre_bad s hy hs;obtain⟨z1,z2,g⟩:=act_bad s hy hs;exact Ev.bind h (Ev.bind g (gj0_bad _ hy _ _ _ _ _ _ _ _ _ _ _ _))
  refine Ev.neg c3 ?_;by_cases c4:kd=4;·refine Ev.pos c4 ?_;obtain⟨x1,x2,x3,x4,h⟩:=pre_bad s hy hs;exact Ev.bind h (gj0_bad _ hy _ _ _ _ _ _ _ _ _ _ _ _)
  refine Ev.neg c4 ?_;by_cases c5:kd=5;·refine Ev.pos c5 ?_;obtain⟨v,s1,y1,h,A,B⟩:=many_bad hs (most:=65536) (by omega) (by omega) (.inl hy);obtain⟨v2,s2,y2,g,aa,ab⟩:=many_bad B (most:=1048576) (by omega) (by omega) (.inl A);exact Ev.bind h (Ev.bind g (gj0_bad _ aa _ _ _ _ _ _ _ _ _ _ _ _))
  refine Ev.neg c5 ?_;by_cases c6:kd=6;·refine Ev.pos c6 ?_;obtain⟨v,s1,y1,h,A,B⟩:=many_bad hs (most:=65536) (by omega) (by omega) (.inl hy);exact Ev.bind h (gj0_bad _ A _ _ _ _ _ _ _ _ _ _ _ _)
  · exact Ev.neg c6 (gj0_bad _ hy _ _ _ _ _ _ _ _ _ _ _ _)
theorem pfx_lt {l r : List Int} (hb : Bytes l) {six : Bool} {n : Nat} {ln : Int} (h : getP l = some ((six, n, ln), r)) : n < 340282366920938463463374607431768211456 :=
  Nat.lt_of_lt_of_le (getP_back hb h).1.2.2.1 (wn_pow six)
def endS (o:Option (E11 × List Int)):Option E11:=o.bind fun x=>if x.2= []∧okE x.1 then some x.1 else none
theorem tail_ok (l:List Int) (hb:Bytes l) (hs:l.length≤281474976710656) (kd ro sq ti:Int) (hq:0≤sq):Ev (fun k=>tailG k (strOfNums l) 0 kd ro sq ti) (evS (endS (getEnd kd ro sq ti l))):=by
  have A:bytesOf (strOfNums l)=l:=bytes_str hb;have hz:(strOfNums l).size≤281474976710656:=by rw [strOfNums_size];exact hs
  simp only[tailG];unfold getEnd;by_cases c3:kd=3
  · refine Ev.pos c3 ?_;rw [if_pos c3];rcases pre_cases (strOfNums l) hz 0 with ⟨six,n,ln,r,_,hp,h⟩|⟨hp,x1,x2,x3,x4,s',y',h,hy,B⟩
    · rw [A]at hp;have hr:Bytes r:=by have:=(getP_back hb hp).2;rw [this]at hb;exact hb.right
      have D:r.length≤281474976710656:=by have:=(getP_back hb hp).2;rw [this,List.length_append]at hs;omega
      have C:bytesOf (strOfNums r)=r:=bytes_str hr;rw [hp];simp only[Option.bind_some];refine Ev.bind h ?_;rcases act_cases (strOfNums r) (by rw [strOfNums_size];exact D) 0 with ⟨k,i,q,_,ha,g⟩|⟨ha,z1,z2,s'',y'',g,hy,hs''⟩
      · rw [C]at ha;rw [ha];refine Ev.bind g ?_;have hq':Bytes q:=by have:=(getA_back hr ha).2;rw [this]at hr;exact hr.right
        exact gj0_ok q hq' ⟨kd,ro,sq,ti,six,n,ln,k,i,0,0⟩ (pfx_lt hb hp) hq
      · rw [C]at ha;rcases ha with ha|ha
        · exact absurd rfl ha
        rw [ha];exact Ev.bind g (gj0_bad _ hy _ _ _ _ _ _ _ _ _ _ _ _)
    · rw [A]at hp;rcases hp with hp|hp
      · exact absurd rfl hp
      rw [hp];obtain⟨z1,z2,g⟩:=act_bad s' hy B;exact Ev.bind h (Ev.bind g (gj0_bad _ hy _ _ _ _ _ _ _ _ _ _ _ _))
  refine Ev.neg c3 ?_;rw [if_neg c3];by_cases c4:kd=4
  · refine Ev.pos c4 ?_;rw [if_pos c4];rcases pre_cases (strOfNums l) hz 0 with ⟨six,n,ln,r,_,hp,h⟩|⟨hp,x1,x2,x3,x4,s',y',h,hy,B⟩
    · rw [A]at hp;have hr:Bytes r:=by have:=(getP_back hb hp).2;rw [this]at hb;exact hb.right
      rw [hp];refine Ev.bind h ?_;exact gj0_ok r hr ⟨kd,ro,sq,ti,six,n,ln,0,0,0,0⟩ (pfx_lt hb hp) hq
    · rw [A]at hp;rcases hp with hp|hp
      · exact absurd rfl hp
      rw [hp];exact Ev.bind h (gj0_bad _ hy _ _ _ _ _ _ _ _ _ _ _ _)
  refine Ev.neg c4 ?_;rw [if_neg c4];by_cases c5:kd=5
  · refine Ev.pos c5 ?_;rw [if_pos c5];rcases many_cases (strOfNums l) hz 0 (most:=65536) (by omega) (by omega) with ⟨v,r,_,hp,h⟩|⟨hp,v,s',y',h,hy,B⟩
    · rw [A]at hp;have hr:Bytes r:=by have:=(rdN_back hb hp).2.2.2;rw [this]at hb;exact hb.right
      have D:r.length≤281474976710656:=by have:=(rdN_back hb hp).2.2.2;rw [this,List.length_append]at hs;omega
      have C:bytesOf (strOfNums r)=r:=bytes_str hr;rw [hp];simp only[Option.bind_some];refine Ev.bind h ?_;rcases many_cases (strOfNums r) (by rw [strOfNums_size];exact D) 0 (most:=1048576) (by omega) (by omega) with ⟨w,q,_,ha,g⟩|⟨ha,w,s'',y'',g,hy,hs''⟩
      · rw [C]at ha;rw [ha];refine Ev.bind g ?_;have hq':Bytes q:=by have:=(rdN_back hr ha).2.2.2;rw [this]at hr;exact hr.right
        have z:=gj0_ok q hq' ⟨kd,ro,sq,ti,false,0,0,0,0,v,w⟩ (show (0:Nat)<_ by decide) hq;simp only[show hi 0=0 from rfl,show lo 0=0 from rfl]at z;exact z
      · rw [C]at ha;rcases ha with ha|ha
        · exact absurd rfl ha
        rw [ha];exact Ev.bind g (gj0_bad _ hy _ _ _ _ _ _ _ _ _ _ _ _)
    · rw [A]at hp;rcases hp with hp|hp
      · exact absurd rfl hp
      rw [hp];obtain⟨v2,s2,y2,g,aa,ab⟩:=many_bad B (most:=1048576) (by omega) (by omega) (.inl hy);exact Ev.bind h (Ev.bind g (gj0_bad _ aa _ _ _ _ _ _ _ _ _ _ _ _))
  refine Ev.neg c5 ?_;rw [if_neg c5];by_cases c6:kd=6
  · refine Ev.pos c6 ?_;rw [if_pos c6];rcases many_cases (strOfNums l) hz 0 (most:=65536) (by omega) (by omega) with ⟨v,r,_,hp,h⟩|⟨hp,v,s',y',h,hy,B⟩
    · rw [A]at hp;have hr:Bytes r:=by have:=(rdN_back hb hp).2.2.2;rw [this]at hb;exact hb.right
      rw [hp];refine Ev.bind h ?_;have z:=gj0_ok r hr ⟨kd,ro,sq,ti,false,0,0,0,0,v,0⟩ (show (0:Nat)<_ by decide) hq;simp only[show hi 0=0 from rfl,show lo 0=0 from rfl]at z;exact z
    · rw [A]at hp;rcases hp with hp|hp
      · exact absurd rfl hp
      rw [hp];exact Ev.bind h (gj0_bad _ hy _ _ _ _ _ _ _ _ _ _ _ _)
  ·refine Ev.neg c6 ?_;rw [if_neg c6];have z:=gj0_ok l hb (zE kd ro sq ti) (show (0:Nat)<_ by decide) hq;simp only[zE,show hi 0=0 from rfl,show lo 0=0 from rfl]at z;exact z
theorem rdN_le {A m v:Int}{l r:List Int} (hm:m≤A) (h:rdN A l=some (v,r)):rdN m l=if v≤m then some (v,r) else none:=by
  unfold rdN at h ⊢
  split at h
  · rename_i c
    simp only[Option.some.injEq,Prod.mk.injEq]at h;rw [h.1,h.2,c.1];by_cases g:v≤m
    · rw [if_pos ⟨rfl,g⟩,if_pos g]
    · rw [if_neg (fun x=>g x.2),if_neg g]
  · cases h
theorem rdN_none {A m:Int}{l:List Int} (hm:m≤A) (h:rdN A l=none):rdN m l=none:=by
  unfold rdN at h ⊢
  split at h
  · cases h
  · rename_i c
    rw [if_neg (fun x=>c ⟨x.1,by omega⟩)]
theorem end_none {kd ro sq ti:Int}{l:List Int} (hb:Bytes l) (h: ¬ (1≤sq∧sq≤1099511627776∧0≤ti∧ti≤1099511627776)):endS (getEnd kd ro sq ti l)=none:=by
  cases hx:getEnd kd ro sq ti l with
  |none=>rfl
  |some x=>
    obtain⟨e,r⟩:=x;obtain⟨_,_,h1,h2,_⟩:=getEnd_back hb hx;simp only[endS,Option.bind_some];rw [if_neg]
    rintro⟨_,hn,_⟩
    (try dsimp only at hn)
    rw [h1,h2]at hn;omega
theorem get_evn (s:ByteArray) (hs:s.size≤281474976710656):Ev (fun k=>msg_Get.f k s) (evS (getE (bytesOf s))):=by
  simp only[msg_Get.f]
  match hl:bytesOf s with
  | []=>exact Ev.pos ((nil_iff s).2 hl) (Ev.now _)
  |kd :: l=>
    have hz:=size_of_bytes hl;simp only[List.length_cons]at hz;have hb:Bytes (kd :: l):=by rw [← hl];exact bytesOf_bytes s
    have hr:=rest1 hl;have aa:s.extract 1 s.size=strOfNums l:=by rw [str_from,hl];rfl
    rw [bt0 hl,aa];refine Ev.neg (fun h=>by rw [nil_iff,hl]at h;cases h) (Ev.pos (by omega) (Ev.pos (by omega) ?_));simp only[getE];have ab:(strOfNums l).size≤281474976710656:=by rw [strOfNums_size];omega
    have L:bytesOf (strOfNums l)=l:=bytes_str hb.tail;have u0: ∀ x:Int × ByteArray × Int, ∀ a b c:Int,Ev (fun k=>tailG k x.2.1 x.2.2 kd a b c) (evS none)→True:=fun _ _ _ _ _=>trivial
    rcases many_cases (strOfNums l) ab 0 (most:=1048576) (by omega) (by omega) with ⟨ro,la,_,hp,h⟩|⟨hp,v,s1,y1,h,ac,ae⟩
    · rw [L]at hp;have e1:=(rdN_back hb.tail hp).2.2.2;have E:Bytes la:=by have:=hb.tail;rw [e1]at this;exact this.right
      have af:la.length≤281474976710656:=by have:=congrArg List.length e1;rw [List.length_append]at this;omega
      rw [hp];simp only[Option.bind_some];refine Ev.bind h ?_;rcases u64_cases (strOfNums la) (by rw [strOfNums_size];exact af) 0 with ⟨sq,lb,_,A,h2⟩|⟨A,v2,s2,y2,h2,G,H⟩
      · rw [bytes_str E]at A;have e2:=rdN_back E A;have F:Bytes lb:=by have:=E;rw [e2.2.2.2]at this;exact this.right
        have ag:lb.length≤281474976710656:=by have:=congrArg List.length e2.2.2.2;rw [List.length_append]at this;omega
        rw [rdN_le (by omega) A];refine Ev.bind h2 ?_;rcases u64_cases (strOfNums lb) (by rw [strOfNums_size];exact ag) 0 with ⟨ti,lc,_,B,h3⟩|⟨B,v3,s3,y3,h3,C,D⟩
        · rw [bytes_str F]at B;have e3:=rdN_back F B;have I:Bytes lc:=by have:=F;rw [e3.2.2.2]at this;exact this.right
          have ah:lc.length≤281474976710656:=by have:=congrArg List.length e3.2.2.2;rw [List.length_append]at this;omega
          refine Ev.bind h3 ?_;refine Ev.to (tail_ok lc I ah kd ro sq (wrap64 ti) e2.1) ?_;by_cases c1:sq≤1099511627776
          · rw [if_pos c1];simp only[Option.bind_some];rw [rdN_le (by omega) B];by_cases c2:ti≤1099511627776
            · rw [if_pos c2,w64 (by omega) (by omega)];rfl
            · rw [if_neg c2,end_none I]
              · rfl
              · intro g;have:wrap64 ti=ti∨wrap64 ti<0:=by unfold wrap64;omega
                omega
          · rw [if_neg c1,end_none I (by omega)];rfl
        · rcases B with B|B
          · exact absurd rfl B
          rw [bytes_str F]at B;refine Ev.bind h3 (Ev.to (tail_bad s3 D C _ _ _ _) ?_);by_cases c1:sq≤1099511627776;·rw [if_pos c1];simp only[Option.bind_some];rw [rdN_none (by omega) B];rfl
          · rw [if_neg c1];rfl
      · rcases A with A|A
        · exact absurd rfl A
        rw [bytes_str E]at A;rw [rdN_none (by omega) A];refine Ev.bind h2 ?_;rcases u64_cases s2 H y2 with ⟨_,_,hh,_⟩|⟨_,v3,s3,y3,h3,C,D⟩
        · exact absurd hh G
        · exact Ev.bind h3 (tail_bad s3 D C _ _ _ _)
    · rcases hp with hp|hp
      · exact absurd rfl hp
      rw [L]at hp;rw [hp];refine Ev.bind h ?_;rcases u64_cases s1 ae y1 with ⟨_,_,hh,_⟩|⟨_,v2,s2,y2,h2,G,H⟩
      · exact absurd hh ac
      refine Ev.bind h2 ?_;rcases u64_cases s2 H y2 with ⟨_,_,hh,_⟩|⟨_,v3,s3,y3,h3,C,D⟩
      · exact absurd hh G
      · exact Ev.bind h3 (tail_bad s3 D C _ _ _ _)
end Go.Proofs.Ythkdfojmhloofaa.Msg
end
section
namespace Go.Proofs.Ythkdfojmhloofaa.Q
open Go.RowKit YthkdfojmhloofaaW.PrintWords YthkdfojmhloofaaW.PrintLast YthkdfojmhloofaaW.PrintMore
attribute [local go_sem] max2_int min2_int max_two min_two max_three min_three max_four min_four
set_option linter.unusedVariables false
set_option linter.unusedSimpArgs false
def CutI (w0 W : World) (g : Nat) (cs : Array Value) (v : Value) (aa : List S24) : Prop :=
  W.heap[g]? = some (.cells cs 80 (0, 0)) ∧ w0.heap.size ≤ g ∧ Kd.R k24 24 W w0.heap.size (fun k => k ≠ g) v aa ∧ Below w0.heap.size w0 W
theorem CutI.set {w0 W:World}{g:Nat}{cs:Array Value}{v:Value}{A:List S24} (h:CutI w0 W g cs v A) (j:Nat) (u:Value) {B:Array Value} (e:cs.setIfInBounds j u=B):CutI w0 (W.setCell ⟨g,j,none⟩ u) g B v A:=by
  obtain⟨hb,hg,ho,hl⟩:=h;refine⟨e▸blk_set hb j u,hg,Kd.R_step ho (fun k hk _=>Below.heap_setCell W ⟨g,j,none⟩ u k hk),hl.setCell (p:=⟨g,j,none⟩) hg u⟩
theorem CutI.drewN {w0 W : World} {g : Nat} {cs : Array Value} {v : Value} {A : List S24} (h : CutI w0 W g cs v A) (n : Nat) : CutI w0 (W.drewN n) g cs v A :=
  ⟨h.1, h.2.1, Kd.R_drewN h.2.2.1 n, pw_below_drewN h.2.2.2 n⟩
theorem CutI.drew {w0 W:World}{g:Nat}{cs:Array Value}{v:Value}{A:List S24} (h:CutI w0 W g cs v A):CutI w0 W.drew g cs v A:=⟨h.1,h.2.1,Kd.R_drew h.2.2.1,below_drew1 h.2.2.2⟩
theorem CutI.drawn {w0 W W':World}{g:Nat}{cs:Array Value}{v:Value}{A:List S24} (h:CutI w0 W g cs v A) (hd:Drawn0 W W'):CutI w0 W' g cs v A:=by
  obtain⟨n,rfl⟩:=hd.out;exact h.drewN n
theorem CutI.lt {w0 W:World}{g:Nat}{cs:Array Value}{v:Value}{aa:List S24} (h:CutI w0 W g cs v aa):g<W.heap.size:=blk_lt h.1
theorem CutI.cells {w0 W:World}{g:Nat}{cs:Array Value}{v:Value}{aa:List S24} (h:CutI w0 W g cs v aa) (j:Nat):W.cell? ⟨g,j,none⟩=cs[j]? :=blk_cell h.1 j
theorem toList_nil_iff (s:ByteArray):s.toList= []↔s.size=0:=by
  rw [ByteArray.toList_eq, ← List.length_eq_zero_iff,Array.length_toList];rfl
end Go.Proofs.Ythkdfojmhloofaa.Q
end
section
namespace Go.Proofs.Ythkdfojmhloofaa.Cut
set_option linter.unusedVariables false
open Go.RowKit Ythkdfojmhloofaa.Q YthkdfojmhloofaaW.PrintWords YthkdfojmhloofaaW.PrintLast Ythkdfojmhloofaa.Base
def lenL (q:List Int):Int:=256 * rd q 1+rd q 2
def cmL (r : List Int) (b : Bool) (s x : Int) : (List Int × Bool × Int) × List S24 :=
  if 0 < s then ((r, b, s - 1), [])
  else if r = [] ∧ x ≠ 245 then ((r, true, s), if b then [] else [⟨2, ⟨#[]⟩⟩])
  else if (r ++ [x]).length < 3 then ((r ++ [x], false, s), [])
  else if lenL (r ++ [x]) < 1 ∨ 64 < lenL (r ++ [x]) then (([], false, lenL (r ++ [x])), [⟨3, ⟨#[]⟩⟩])
  else if ((r ++ [x]).length : Int) = 3 + lenL (r ++ [x]) then (([], false, 0), [⟨1, strOfNums ((r ++ [x]).drop 3)⟩])
  else ((r ++ [x], false, s), [])
def fdL : List Int → Bool → Int → List Int → (List Int × Bool × Int) × List S24
  | r, b, s, [] => ((r, b, s), [])
  | r, b, s, x :: l => ((fdL (cmL r b s x).1.1 (cmL r b s x).1.2.1 (cmL r b s x).1.2.2 l).1, (cmL r b s x).2 ++ (fdL (cmL r b s x).1.1 (cmL r b s x).1.2.1 (cmL r b s x).1.2.2 l).2)
theorem feed_skip (r:List Int) (b:Bool): ∀ (p m:List Int) (s:Int),(p.length:Int)≤s→fdL r b s (p++m)=fdL r b (s - p.length) m
  | [],m,s,h=>by simp
  |x :: p,m,s,h=>by
    simp only[List.length_cons]at h;have hc:cmL r b s x=((r,b,s - 1), []):=by unfold cmL;rw [if_pos (by omega)]
    simp only[List.cons_append,fdL,hc];rw [feed_skip r b p m (s - 1) (by omega)];simp only[List.length_cons,List.nil_append];rw [show s - 1 - (p.length:Int)=s - ((p.length+1:Nat):Int) by omega]
theorem feed_bad: ∀ (p m:List Int) (b:Bool),p≠ []→(∀ x∈p,x≠245)→fdL [] b 0 (p++m)=((fdL [] true 0 m).1,(if b then [] else [⟨2,⟨#[]⟩⟩])++(fdL [] true 0 m).2)
  | [],_,_,h,_=>absurd rfl h
  |x :: p,m,b,_,h=>by
    have hx:x≠245:=h x (by simp);have hc:cmL [] b 0 x=(([],true,0),if b then [] else [⟨2,⟨#[]⟩⟩]):=by unfold cmL;rw [if_neg (by omega),if_pos ⟨rfl,hx⟩]
    simp only[List.cons_append,fdL,hc];by_cases hp:p= [];·subst hp;rfl
    ·rw [feed_bad p m true hp (fun y hy=>h y (by simp [hy]))];simp
theorem cmB (b:Bool):cmL [] b 0 245=(([245],false,0), []):=by
  unfold cmL;rw [if_neg (by omega),if_neg (by simp),if_pos (by simp)];rfl
theorem feed_begin (b b':Bool) (m:List Int):fdL [] b 0 (245 :: m)=fdL [] b' 0 (245 :: m):=by
  simp only[fdL,cmB]
theorem comes_second (y:Int):cmL [245] false 0 y=(([245,y],false,0), []):=by
  unfold cmL;rw [if_neg (by omega),if_neg (by simp),if_pos (by simp)];rfl
theorem lenL_three (x y z:Int) (m:List Int):lenL (x :: y :: z :: m)=256 * y+z:=by
  simp [lenL,rd]
theorem comes_third_long (y z:Int) (h:256 * y+z<1∨64<256 * y+z):cmL [245,y] false 0 z=(([],false,256 * y+z), [⟨3,⟨#[]⟩⟩]):=by
  unfold cmL;have e:([245,y]++ [z]:List Int)= [245,y,z]:=rfl;rw [if_neg (by omega),if_neg (by simp),e,lenL_three,if_neg (by simp),if_pos h]
theorem comes_more (q:List Int) (x n:Int) (hq:q≠ []) (h3:3≤(q++ [x]).length) (hn:lenL (q++ [x])=n) (h1:1≤n) (h2:n≤64) (hl:((q++ [x]).length:Int)<3+n):cmL q false 0 x=((q++ [x],false,0), []):=by
  unfold cmL;rw [if_neg (by omega),if_neg (fun h=>hq h.1),if_neg (by omega),hn,if_neg (by omega),if_neg (by omega)]
theorem comes_last (q:List Int) (x n:Int) (hq:q≠ []) (h3:3≤(q++ [x]).length) (hn:lenL (q++ [x])=n) (h1:1≤n) (h2:n≤64) (hl:((q++ [x]).length:Int)=3+n):cmL q false 0 x=(([],false,0), [⟨1,strOfNums ((q++ [x]).drop 3)⟩]):=by
  unfold cmL;rw [if_neg (by omega),if_neg (fun h=>hq h.1),if_neg (by omega),hn,if_neg (by omega),if_pos hl]
theorem feed_more (y z:Int) (h1:1≤256 * y+z) (h2:256 * y+z≤64): ∀ (m q:List Int),(((245 :: y :: z :: q)++m).length:Int)<3+(256 * y+z)→fdL (245 :: y :: z :: q) false 0 m=(((245 :: y :: z :: q)++m,false,0), [])
  | [],q,_=>by simp [fdL]
  |x :: m,q,h=>by
    have hc:=comes_more (245 :: y :: z :: q) x (256 * y+z) (by simp) (by simp) (by simp only[List.cons_append];exact lenL_three _ _ _ _) h1 h2 (by simp at h ⊢;omega);simp only[fdL,hc];have:=feed_more y z h1 h2 m (q++ [x]) (by simp at h ⊢;omega);simp only[List.cons_append,List.append_assoc,List.nil_append]at this ⊢;rw [this]
theorem feed_body (y z:Int) (h1:1≤256 * y+z) (h2:256 * y+z≤64): ∀ (m q r:List Int),m≠ []→(((245 :: y :: z :: q)++m).length:Int)=3+(256 * y+z)→fdL (245 :: y :: z :: q) false 0 (m++r)=((fdL [] false 0 r).1,⟨1,strOfNums (q++m)⟩ :: (fdL [] false 0 r).2)
  | [],_,_,h,_=>absurd rfl h
  |x :: m,q,r,_,h=>by
    by_cases hm:m= [];·subst hm;have hc:=comes_last (245 :: y :: z :: q) x (256 * y+z) (by simp) (by simp) (by simp only[List.cons_append];exact lenL_three _ _ _ _) h1 h2 (by simp at h ⊢;omega);simp only[List.cons_append,List.nil_append,fdL,hc];simp
    ·have hl:0<m.length:=List.length_pos_iff.mpr hm;have hc:=comes_more (245 :: y :: z :: q) x (256 * y+z) (by simp) (by simp) (by simp only[List.cons_append];exact lenL_three _ _ _ _) h1 h2 (by simp at h ⊢;omega);simp only[List.cons_append,fdL,hc];have:=feed_body y z h1 h2 m (q++ [x]) r hm (by simp at h ⊢;omega);simp only[List.cons_append,List.append_assoc,List.nil_append]at this ⊢;rw [this]
theorem feed_message (b:Bool) (y z:Int) (h1:1≤256 * y+z) (h2:256 * y+z≤64) (m r:List Int) (h:(m.length:Int)=256 * y+z):fdL [] b 0 (245 :: y :: z :: (m++r))=((fdL [] false 0 r).1,⟨1,strOfNums m⟩ :: (fdL [] false 0 r).2):=by
  have h3:cmL [245,y] false 0 z=(([245,y,z],false,0), []):=comes_more [245,y] z (256 * y+z) (by simp) (by simp) (lenL_three _ _ _ _) h1 h2 (by simp;omega);simp only[fdL,cmB,comes_second,h3,List.nil_append];have hm:m≠ []:=fun e=>by subst e;simp at h;omega
  have:=feed_body y z h1 h2 m [] r hm (by simp;omega);rw [this];rfl
theorem feed_short (b:Bool) (y z:Int) (h1:1≤256 * y+z) (h2:256 * y+z≤64) (m:List Int) (h:(m.length:Int)<256 * y+z):fdL [] b 0 (245 :: y :: z :: m)=((245 :: y :: z :: m,false,0), []):=by
  have h3:cmL [245,y] false 0 z=(([245,y,z],false,0), []):=comes_more [245,y] z (256 * y+z) (by simp) (by simp) (lenL_three _ _ _ _) h1 h2 (by simp;omega);simp only[fdL,cmB,comes_second,h3,List.nil_append];have:=feed_more y z h1 h2 m [] (by simp;omega);rw [this];rfl
theorem feed_long (b:Bool) (y z:Int) (h:256 * y+z<1∨64<256 * y+z) (m:List Int):fdL [] b 0 (245 :: y :: z :: m)=((fdL [] false (256 * y+z) m).1,⟨3,⟨#[]⟩⟩ :: (fdL [] false (256 * y+z) m).2):=by
  simp only[fdL,cmB,comes_second,comes_third_long y z h,List.nil_append];rfl
end Go.Proofs.Ythkdfojmhloofaa.Cut
end
section
namespace Go.Proofs.Ythkdfojmhloofaa.Cut
set_option linter.unusedVariables false
open Go.RowKit Ythkdfojmhloofaa.Q YthkdfojmhloofaaW.PrintWords YthkdfojmhloofaaW.PrintLast Ythkdfojmhloofaa.Base
theorem str_nil_iff (r:List Int):(strOfNums r).toList= []↔r= []:=by rw [toList_nil_iff,strOfNums_size,List.length_eq_zero_iff]
theorem bt_str {r:List Int} (h:Bytes r) (i:Int):bt (strOfNums r) i=rd r i:=bt_of (bytes_str h) i
theorem rd_range {r:List Int} (h:Bytes r) (i:Int):0≤rd r i∧rd r i<256:=by
  rw [← bt_str h];have:=bt_range (strOfNums r) i;omega
def Keeps (r:List Int) (b:Bool) (s:Int):Prop:=Bytes r∧0≤s∧s≤65535∧(b=true→s=0∧r= [])∧(r≠ []→s=0∧rd r 0=245∧(3≤r.length→1≤lenL r∧lenL r≤64∧(r.length:Int)<3+lenL r))
theorem Keeps.none:Keeps [] false 0:=⟨Bytes.nil,by omega,by omega,by simp,by simp⟩
theorem rd_zero_app {r:List Int} (x:Int) (h:r≠ []):rd (r++ [x]) 0=rd r 0:=by
  cases r with
  |nil=>exact absurd rfl h
  |cons y t=>simp [rd]
theorem Keeps.comes {r:List Int}{b:Bool}{s:Int} (h:Keeps r b s) {x:Int} (aa:0≤x) (ab:x<256):Keeps (cmL r b s x).1.1 (cmL r b s x).1.2.1 (cmL r b s x).1.2.2:=by
  have hq:Bytes (r++ [x]):=h.1.append (Bytes.cons aa ab Bytes.nil);obtain⟨hr,ac,ae,hb,A⟩:=h;unfold cmL;by_cases h0:0<s;·rw [if_pos h0];exact⟨hr,by show 0≤s - 1;omega,by show s - 1≤65535;omega,fun e=>by have:=hb e;omega,fun e=>by have:=A e;omega⟩
  · rw [if_neg h0];obtain rfl:s=0:=by omega
    by_cases h1:r= []∧x≠245;·rw [if_pos h1];exact⟨hr,by simp,by simp,fun _=>⟨rfl,h1.1⟩,fun e=>absurd h1.1 e⟩
    · rw [if_neg h1]
      have B:rd (r++ [x]) 0=245:=by
        by_cases he:r= [];·subst he;have:x=245:=Classical.not_not.mp (fun e=>h1 ⟨rfl,e⟩);subst this;rfl
        ·rw [rd_zero_app x he];exact (A he).2.1
      by_cases h3:(r++ [x]).length<3;·rw [if_pos h3];exact⟨hq,by simp,by simp,by simp,fun _=>⟨rfl,B,fun h=>by simp only[]at h;omega⟩⟩
      · rw [if_neg h3];have hy:=rd_range hq 1;have hz:=rd_range hq 2;by_cases h4:lenL (r++ [x])<1∨64<lenL (r++ [x]);·rw [if_pos h4];exact⟨Bytes.nil,by show 0≤lenL _;unfold lenL;omega,by show lenL _≤65535;unfold lenL;omega,by simp,by simp⟩
        · rw [if_neg h4];by_cases h5:((r++ [x]).length:Int)=3+lenL (r++ [x]);·rw [if_pos h5];exact Keeps.none
          · rw [if_neg h5];refine⟨hq,by simp,by simp,by simp,fun _=>⟨rfl,B,fun h=>⟨show 1≤lenL (r++ [x]) by omega,show lenL (r++ [x])≤64 by omega,?_⟩⟩⟩
            show ((r++ [x]).length:Int)<3+lenL (r++ [x])
            by_cases hl:3≤r.length
            · have h6:=(A (fun e=>by subst e;simp at hl)).2.2 hl;have e1:lenL (r++ [x])=lenL r:=by unfold lenL rd;simp only[List.getD_eq_getElem?_getD];rw [List.getElem?_append_left (by simp;omega),List.getElem?_append_left (by simp;omega)]
              rw [e1]at h5 ⊢;simp at h5 ⊢;omega
            ·simp at h3 h5 ⊢;omega
def Begun (r:List Int):Prop:=rd r 0=245∧(3≤r.length→1≤lenL r∧lenL r≤64∧(r.length:Int)<3+lenL r)
instance (r:List Int):Decidable (Begun r):=by unfold Begun;infer_instance
def Right (r:List Int) (b:Bool) (s:Int):Prop:=0≤s∧s≤65535∧(b=true→s=0∧r= [])∧(r≠ []→s=0∧Begun r)
instance (r:List Int) (b:Bool) (s:Int):Decidable (Right r b s):=by unfold Right;infer_instance
theorem wraps_i64 (n:Int) (h₀:0≤n) (h₁:n<2 ^ 63):IntKind.i64.wrap n=n:=by rw [i64_w,w64 (by omega) (by omega)]
theorem or_len {y z:Int} (ab:0≤y) (ac:y<256) (aa:0≤z) (ae:z<256):Go.bits .or .i64 (y * 256) z=256 * y+z:=by
  rw [bits_join .i64 63 (by decide) wraps_i64 8 (y * 256) z (by omega) (by omega) (by omega) aa (by omega) (by omega)];omega
theorem idx_spec {l:List Int} (hl:Bytes l):(idxByte (strOfNums l) 245= -1∧ ∀ x∈l,x≠245)∨ ∃ p m,l=p++245 :: m∧(∀ x∈p,x≠245)∧idxByte (strOfNums l) 245=(p.length:Int):=by
  have hp: ∀ i,i<l.length→(((strOfNums l)[i]! ==(245:Int).toNat.toUInt8)=true↔rd l (i:Int)=245):=by
    intro i hi;have hs:i<(strOfNums l).size:=by rw [strOfNums_size];exact hi
    rw [getElem!_pos (strOfNums l) i hs, ← bt_str hl];have h:=bt_at (strOfNums l) (i:Int) (by simpa using hs);rw [← h];simp only[Int.toNat_natCast];constructor;·intro e;rw [eq_of_beq e];rfl
    · intro e;apply beq_iff_eq.mpr;apply UInt8.toNat_inj.mp;have:((strOfNums l)[i]'hs).toNat=245:=by omega
      rw [this];rfl
  have A: ∀ i (hi:i<l.length),rd l (i:Int)=l[i]:=fun i hi=>by simp [rd,List.getD_eq_getElem?_getD,List.getElem?_eq_getElem hi]
  unfold idxByte firstIdx
  cases hf:(List.range (strOfNums l).size).find? (fun i=>(strOfNums l)[i]! ==(245:Int).toNat.toUInt8) with
  |none=>
    refine Or.inl ⟨rfl,?_⟩;intro x hx e;obtain⟨i,hi,rfl⟩:=List.getElem_of_mem hx;have:=List.find?_eq_none.1 hf i (by rw [strOfNums_size];exact List.mem_range.2 hi);exact this ((hp i hi).2 (by rw [A i hi];exact e))
  |some i=>
    obtain⟨h1,h2,h3⟩:=List.find?_range_eq_some.1 hf;rw [strOfNums_size]at h2;have hi:=List.mem_range.1 h2;refine Or.inr ⟨l.take i,l.drop (i+1),?_,?_,?_⟩;·have e:=(hp i hi).1 h1;rw [A i hi]at e;rw [← e, ← List.drop_eq_getElem_cons hi,List.take_append_drop]
    · intro x hx e;obtain⟨j,hj,rfl⟩:=List.getElem_of_mem hx;have hj':j<i:=by simp at hj;omega
      have:=h3 j hj';rw [List.getElem_take]at e;rw [(hp j (by omega)).2 (by rw [A j (by omega)];exact e)]at this;cases this
    · show ((i:Nat):Int)=_
      simp;omega
theorem feed_two (b:Bool) (t:List Int) (h:t.length<2):fdL [] b 0 (245 :: t)=((245 :: t,false,0), []):=by
  match t,h with
  | [],_=>simp only[fdL,cmB];rfl
  | [y],_=>simp only[fdL,cmB,comes_second];rfl
def Good (p:S24):Prop:=(p.f0=1∧1≤p.f1.size∧p.f1.size≤64)∨((p.f0=2∨p.f0=3)∧p.f1=⟨#[]⟩)
theorem comes_good {r:List Int}{b:Bool}{s:Int} (x:Int): ∀ p∈(cmL r b s x).2,Good p:=by
  intro p hp;unfold cmL at hp;by_cases h0:0<s;·rw [if_pos h0]at hp;cases hp
  · rw [if_neg h0]at hp;by_cases h1:r= []∧x≠245
    · rw [if_pos h1]at hp;cases b
      · have:p=⟨2,⟨#[]⟩⟩:=by simpa using hp
        subst this;exact Or.inr ⟨Or.inl rfl,rfl⟩
      · simp at hp
    · rw [if_neg h1]at hp;by_cases h2:(r++ [x]).length<3;·rw [if_pos h2]at hp;cases hp
      · rw [if_neg h2]at hp;by_cases h3:lenL (r++ [x])<1∨64<lenL (r++ [x])
        · rw [if_pos h3]at hp;have:p=⟨3,⟨#[]⟩⟩:=by simpa using hp
          subst this;exact Or.inr ⟨Or.inr rfl,rfl⟩
        · rw [if_neg h3]at hp;by_cases h4:((r++ [x]).length:Int)=3+lenL (r++ [x])
          · rw [if_pos h4]at hp;have:p=⟨1,strOfNums ((r++ [x]).drop 3)⟩:=by simpa using hp
            subst this;refine Or.inl ⟨rfl,?_,?_⟩
            · show 1≤(strOfNums ((r++ [x]).drop 3)).size
              rw [strOfNums_size,List.length_drop];omega
            · show (strOfNums ((r++ [x]).drop 3)).size≤64
              rw [strOfNums_size,List.length_drop];omega
          ·rw [if_neg h4]at hp;cases hp
theorem feed_keeps: ∀ (l r:List Int) (b:Bool) (s:Int),Bytes l→Keeps r b s→Keeps (fdL r b s l).1.1 (fdL r b s l).1.2.1 (fdL r b s l).1.2.2∧ ∀ p∈(fdL r b s l).2,Good p
  | [],r,b,s,_,hk=>⟨hk,fun p hp=>by simp [fdL]at hp⟩
  |x :: l,r,b,s,hl,hk=>by
    have h:=feed_keeps l _ _ _ hl.tail (hk.comes hl.head.1 hl.head.2);simp only[fdL];refine⟨h.1,fun p hp=>?_⟩;rcases List.mem_append.1 hp with hp|hp
    · exact comes_good x p hp
    · exact h.2 p hp
end Go.Proofs.Ythkdfojmhloofaa.Cut
end
section
namespace Go.Proofs.Ythkdfojmhloofaa.Stream
set_option linter.unusedVariables false
open Go.RowKit Ythkdfojmhloofaa.Q YthkdfojmhloofaaW.PrintWords YthkdfojmhloofaaW.PrintLast Ythkdfojmhloofaa.Base Ythkdfojmhloofaa.Num Ythkdfojmhloofaa.Addr Ythkdfojmhloofaa.Msg Ythkdfojmhloofaa.Cut
theorem ok_n {e:E11} (h:okE e):e.n<340282366920938463463374607431768211456:=by
  obtain⟨_,h⟩:=h;have hw:=wn_pow e.six;have h0:(0:Nat)<340282366920938463463374607431768211456:=by decide
  rcases h with ⟨_,⟨_,h,_⟩,_⟩|⟨_,hp,_⟩|⟨_,hp,_⟩|⟨_,⟨_,h,_⟩,_⟩|⟨_,⟨_,h,_⟩,_⟩
  · rw [h];exact h0
  · exact Nat.lt_of_lt_of_le hp.2.2.1 hw
  · exact Nat.lt_of_lt_of_le hp.2.2.1 hw
  · rw [h];exact h0
  · rw [h];exact h0
end Go.Proofs.Ythkdfojmhloofaa.Stream
end
section
namespace Go.Proofs.Ythkdfojmhloofaa.Gram
set_option linter.unusedVariables false
open Go.RowKit Ythkdfojmhloofaa.Q YthkdfojmhloofaaW.PrintWords YthkdfojmhloofaaW.PrintLast Ythkdfojmhloofaa.Base Ythkdfojmhloofaa.Num Ythkdfojmhloofaa.Addr Ythkdfojmhloofaa.Msg Ythkdfojmhloofaa.Cut Ythkdfojmhloofaa.Stream Ythkdfojmhloofaa.Open
def nOf (x:S35):Nat:=x.f4.f1.f0.toNat * 18446744073709551616+x.f4.f1.f1.toNat
def E (x:S35):E11:=⟨x.f0,x.f1,x.f2,x.f3,x.f4.f0,nOf x,x.f4.f2,x.f5.f0,x.f5.f1,x.f6,x.f7⟩
theorem dlt {α:Type}{l:List α}{i:Nat}{c:α}{m:List α} (h:l.drop i=c :: m):i<l.length:=by
  have:=congrArg List.length h;simp at this;omega
theorem dnext {α:Type}{l:List α}{i:Nat}{x:α}{r:List α} (h:l.drop i=x :: r):l.drop (i+1)=r:=by rw [← List.drop_drop,h];rfl
theorem gm_eq {y z:Int}{r:List Int} (h:Bytes (245 :: y :: z :: r)):gm (strOfNums (245 :: y :: z :: r))=256 * y+z:=by
  have hy:=h.tail.head;have hz:=h.tail.tail.head;unfold gm;rw [bt_str h,bt_str h]
  show Go.bits .or .i64 (wrap64 (wrap64 y * 256)) (wrap64 z)=_
  rw [w64 (n:=y) (by omega) (by omega),w64 (by omega) (by omega),w64 (by omega) (by omega),or_len hy.1 hy.2 hz.1 hz.2]
def pcs (l:List Int):List S24:=(fdL [] false 0 l).2
theorem pcs_any (b:Bool) (m:List Int):(fdL [] b 0 (245 :: m)).2=pcs (245 :: m):=by rw [pcs,feed_begin b false]
theorem each_t_ev {N:Nat} (ih: ∀ l:List Int,l.length≤N→Bytes l→l.length≤4611686018427387904→Ev (fun k=>gram_each.l k (strOfNums l)) (pcs l)) (m:List Int) (hm:m.length≤N) (hb:Bytes (245 :: m)) (hl:m.length≤4611686018427387904):
    Ev (fun k=>each_t (gram_each.l k) (strOfNums (245 :: m))) (pcs (245 :: m)):=by
  unfold each_t
  match m,hm,hb,hl with
  | [],_,_,_=>exact Ev.pos (by rw [strOfNums_size];decide) (Ev.const (by rw [pcs,feed_two false [] (by simp)]))
  | [y],_,_,_=>exact Ev.pos (by rw [strOfNums_size];simp) (Ev.const (by rw [pcs,feed_two false [y] (by simp)]))
  |y :: z :: r,hm,hb,hl=>
    have hy:=hb.tail.head;have hz:=hb.tail.tail.head;have hr:=hb.tail.tail.tail;simp only[List.length_cons]at hm hl;refine Ev.neg (by rw [strOfNums_size];simp only[List.length_cons];omega) ?_;have e3:(strOfNums (245 :: y :: z :: r)).extract 3 (strOfNums (245 :: y :: z :: r)).size=strOfNums r:=by rw [str_from,bytes_str hb];rfl
    rw [gm_eq hb,e3];unfold each_u;obtain⟨n,hn⟩: ∃ n:Nat,256 * y+z=(n:Int):=⟨(256 * y+z).toNat,by omega⟩;refine Ev.neg (by omega) ?_;have aa: ∀ j:Nat,(strOfNums r).extract j (strOfNums r).size=strOfNums (r.drop j):=fun j=>by rw [str_from,bytes_str hr]
    have tk: ∀ j:Nat,(strOfNums r).extract 0 j=strOfNums (r.take j):=fun j=>by rw [str_part,bytes_str hr,List.drop_zero]
    rw [hn,Int.toNat_natCast,aa,tk];by_cases c:(n:Int)=0∨64<(n:Int)
    · refine Ev.pos c ?_;have hf:=feed_long false y z (by omega) r;have e:pcs (245 :: y :: z :: r)=⟨3,⟨#[]⟩⟩ :: (fdL [] false (256 * y+z) r).2:=by rw [pcs,hf]
      rw [e];by_cases c2:r.length<n;·refine Ev.pos (by rw [strOfNums_size];omega) (Ev.const ?_);have h:=feed_skip [] false r [] (256 * y+z) (by omega);rw [List.append_nil]at h;rw [h];rfl
      ·refine Ev.neg (by rw [strOfNums_size];omega) (Ev.bind (ih (r.drop n) (by rw [List.length_drop];omega) (hr.drop n) (by rw [List.length_drop];omega)) (Ev.const ?_));have h:=feed_skip [] false (r.take n) (r.drop n) (256 * y+z) (by rw [List.length_take];omega);rw [List.take_append_drop,List.length_take,show (256 * y+z - (min n r.length:Nat):Int)=0 by omega]at h;rw [h];rfl
    · refine Ev.neg c ?_;by_cases c2:n≤r.length;·refine Ev.pos (by rw [strOfNums_size];omega) (Ev.bind (ih (r.drop n) (by rw [List.length_drop];omega) (hr.drop n) (by rw [List.length_drop];omega)) (Ev.const ?_));have h:=feed_message false y z (by omega) (by omega) (r.take n) (r.drop n) (by rw [List.length_take];omega);rw [List.take_append_drop]at h;rw [pcs,pcs,h]
      ·refine Ev.neg (by rw [strOfNums_size];omega) (Ev.const ?_);rw [pcs,feed_short false y z (by omega) (by omega) r (by omega)]
theorem each_ev: ∀ (N:Nat) (l:List Int),l.length≤N→Bytes l→l.length≤4611686018427387904→Ev (fun k=>gram_each.l k (strOfNums l)) (pcs l):=by
  intro N
  induction N with
  |zero=>
    intro l h hb hl;obtain rfl:=List.length_eq_zero_iff.mp (Nat.le_zero.mp h);refine Ev.succ ?_;simp only[gram_each.l];have g:gbad (strOfNums [])=0:=by decide
    rw [g];exact Ev.neg (by rw [strOfNums_size];simp) (Ev.neg (by decide) (Ev.const rfl))
  |succ N ih=>
    intro l h hb hl;refine Ev.succ ?_;simp only[gram_each.l];have A:=strOfNums_size l;rcases idx_spec hb with ⟨hi,B⟩|⟨p,m,rfl,B,hi⟩
    · have g:gbad (strOfNums l)=(l.length:Int):=by unfold gbad;rw [hi,if_neg (by decide),A]
      rw [g];refine Ev.neg (by rw [A];omega) ?_;by_cases c:l= [];·subst c;exact Ev.neg (by decide) (Ev.const rfl)
      · have hp:0<l.length:=List.length_pos_iff.mpr c;have e:(strOfNums l).extract (l.length:Int).toNat (strOfNums l).size=strOfNums []:=by rw [Int.toNat_natCast,str_from,bytes_str hb,List.drop_length]
        rw [e];refine Ev.pos (by omega) (Ev.const ?_);have hf:=feed_bad l [] false c B;rw [List.append_nil]at hf;rw [pcs,hf];rfl
    · have g:gbad (strOfNums (p++245 :: m))=(p.length:Int):=by unfold gbad;rw [hi,if_pos (by omega)]
      rw [g];simp only[List.length_append,List.length_cons]at h hl;refine Ev.neg (by rw [A];simp only[List.length_append,List.length_cons];omega) ?_;by_cases c:p= [];·subst c;exact Ev.neg (by decide) (each_t_ev ih m (by simp at h;omega) hb (by omega))
      · have hp:0<p.length:=List.length_pos_iff.mpr c;have e:(strOfNums (p++245 :: m)).extract (p.length:Int).toNat (strOfNums (p++245 :: m)).size=strOfNums (245 :: m):=by rw [Int.toNat_natCast,str_from,bytes_str hb,List.drop_left]
        rw [e];refine Ev.pos (by omega) (Ev.bind (each_t_ev ih m (by omega) hb.right (by omega)) (Ev.const ?_));have hf:=feed_bad p (245 :: m) false c B
        show _=some (fdL [] false 0 (p++245 :: m)).2
        rw [hf,pcs_any];rfl
theorem pcs_good {l:List Int} (h:Bytes l): ∀ p∈pcs l,Cut.Good p:=(feed_keeps l [] false 0 h Keeps.none).2
theorem comes_one (r:List Int) (b:Bool) (s x:Int):(cmL r b s x).2.length≤1:=by
  unfold cmL
  repeat' split
  all_goals simp
theorem feed_few: ∀ (l r:List Int) (b:Bool) (s:Int),(fdL r b s l).2.length≤l.length
  | [],_,_,_=>by simp [fdL]
  |x :: l,r,b,s=>by
    have h1:=comes_one r b s x;have h2:=feed_few l (cmL r b s x).1.1 (cmL r b s x).1.2.1 (cmL r b s x).1.2.2;simp only[fdL,List.length_append,List.length_cons];omega
theorem pcs_few (l:List Int):(pcs l).length≤l.length:=feed_few l [] false 0
theorem pieces_ev (l:List Int) (hb:Bytes l) (hl:l.length≤1048576000):Ev (fun k=>gram_Pieces.f k (strOfNums l)) (pcs l):=by
  simp only[gram_Pieces.f];exact Ev.bind (each_ev _ l (Nat.le_refl _) hb (by omega)) (Ev.pos (by have:=pcs_few l;omega) (Ev.const rfl))
def gotOf (p : S24) : S38 :=
  if p.f0 = 1 then (match getE (bytesOf p.f1) with
    | some e => ⟨⟨e.kd, e.ro, e.sq, e.ti, ⟨e.six, ⟨hi e.n, lo e.n⟩, e.ln⟩, ⟨e.ak, e.ai⟩, e.ifc, e.pe⟩, 0⟩
    | none => ⟨z35, 2⟩)
  else if p.f0 = 2 then ⟨z35, 7⟩ else ⟨z35, 11⟩
def ofS (p : S24) : Int × Int × Int × Int × Bool × Int × Int × Int × Int × Int × Int × Int × Int × Int :=
  if p.f0 = 1 then (match getE (bytesOf p.f1) with
    | some e => (e.kd, e.ro, e.sq, e.ti, e.six, hi e.n, lo e.n, e.ln, e.ak, e.ai, e.ifc, e.pe, 0, 0)
    | none => (0, 0, 0, 0, false, 0, 0, 0, 0, 0, 0, 0, 2, 0))
  else if p.f0 = 2 then (0, 0, 0, 0, false, 0, 0, 0, 0, 0, 0, 0, 7, 0) else (0, 0, 0, 0, false, 0, 0, 0, 0, 0, 0, 0, 11, 0)
theorem of_ev {p:S24} (h:Cut.Good p):Ev (fun k=>gram_Of.f k p.f0 p.f1) (ofS p):=by
  simp only[gram_Of.f];unfold ofS;rcases h with ⟨h1,h2,h3⟩|⟨h1|h1,h2⟩
  · rw [if_pos h1];refine Ev.pos h1 (Ev.bind (get_evn p.f1 (by omega)) ?_)
    match getE (bytesOf p.f1) with
    |some e=>exact Ev.pos rfl (Ev.const rfl)
    |none=>exact Ev.neg (by decide) (Ev.const rfl)
  ·rw [if_neg (by omega),if_pos h1];refine Ev.neg (by omega) (Ev.pos h1 (Ev.succ ?_));simp only[gram_Of.j0];exact Ev.pos (by rw [h2];exact beq_iff_eq.mpr ((str_nil_iff []).2 rfl)) (Ev.const rfl)
  ·rw [if_neg (by omega),if_neg (by omega)];refine Ev.neg (by omega) (Ev.neg (by omega) (Ev.succ ?_));simp only[gram_Of.j0];exact Ev.neg (by decide) (Ev.pos h1 (Ev.pos (by rw [h2];exact (str_nil_iff []).2 rfl) (Ev.const rfl)))
theorem got_ev {p:S24} (h:Cut.Good p):Ev (fun k=>gram_got k p) [gotOf p]:=by
  unfold gram_got;refine Ev.bind (of_ev h) (Ev.const ?_);unfold ofS gotOf;by_cases h1:p.f0=1;·simp only[if_pos h1]<;>cases getE (bytesOf p.f1)<;>rfl
  · simp only[if_neg h1];by_cases h2:p.f0=2;·simp only[if_pos h2];rfl
    ·simp only[if_neg h2];rfl
theorem gots_ev: ∀ (ps:List S24),(∀ p∈ps,Cut.Good p)→Ev (fun k=>gram_gots k ps) (ps.map gotOf)
  | [],_=>Ev.const rfl
  |p :: ps,h=>by
    simp only[gram_gots];exact Ev.bind (got_ev (h p (by simp))) (Ev.bind (gots_ev ps fun q hq=>h q (by simp [hq])) (Ev.const rfl))
theorem gotsS_ev (l:List Int) (hb:Bytes l) (hl:l.length≤1048576000):Ev (fun k=>gram_Gots.f k (strOfNums l)) ((pcs l).map gotOf):=by
  simp only[gram_Gots.f];exact Ev.bind (each_ev _ l (Nat.le_refl _) hb (by omega)) (Ev.pos (by have:=pcs_few l;omega) (gots_ev _ (pcs_good hb)))
theorem same13_l (l:List (S38)) (hl:l.length≤4611686018427387904): ∀ (r:List (S38)) (i:Nat),l.drop i=r→Ev (fun k=>spoorref13_Same.l0 k l l (l.length:Int) (i:Int)) true
  | [],i,hd=>by
    have:l.length≤i:=List.drop_eq_nil_iff.1 hd;refine Ev.succ ?_;simp only[spoorref13_Same.l0];exact Ev.neg (by omega) (Ev.const rfl)
  |x :: r,i,hd=>by
    have aa:=dlt hd;refine Ev.succ ?_;simp only[spoorref13_Same.l0];refine Ev.pos (by omega) (Ev.pos (by omega) (Ev.pos (by omega) (Ev.pos (by omega) (Ev.neg (by simp) ?_))));rw [w64 (by omega) (by omega),show ((i:Int)+1)=((i+1:Nat):Int) by omega];exact same13_l l hl r (i+1) (dnext hd)
theorem same13_ev (l:List (S38)) (hl:l.length≤4611686018427387904):Ev (fun k=>spoorref13_Same.f k l l) true:=by
  simp only[spoorref13_Same.f];exact Ev.pos trivial (same13_l l hl l 0 rfl)
theorem same12_l (l:List (S24)) (hl:l.length≤4611686018427387904): ∀ (r:List (S24)) (i:Nat),l.drop i=r→Ev (fun k=>spoorref12_Same.l0 k l l (l.length:Int) (i:Int)) true
  | [],i,hd=>by
    have:l.length≤i:=List.drop_eq_nil_iff.1 hd;refine Ev.succ ?_;simp only[spoorref12_Same.l0];exact Ev.neg (by omega) (Ev.const rfl)
  |x :: r,i,hd=>by
    have aa:=dlt hd;refine Ev.succ ?_;simp only[spoorref12_Same.l0];refine Ev.pos (by omega) (Ev.pos (by omega) (Ev.pos (by omega) (Ev.pos (by omega) (Ev.neg (by simp) ?_))));rw [w64 (by omega) (by omega),show ((i:Int)+1)=((i+1:Nat):Int) by omega];exact same12_l l hl r (i+1) (dnext hd)
theorem same12_ev (l:List (S24)) (hl:l.length≤4611686018427387904):Ev (fun k=>spoorref12_Same.f k l l) true:=by
  simp only[spoorref12_Same.f];exact Ev.pos trivial (same12_l l hl l 0 rfl)
end Go.Proofs.Ythkdfojmhloofaa.Gram
end
section
namespace Go.Proofs.Ythkdfojmhloofaa.Msg
set_option linter.unusedVariables false
open Go.RowKit YthkdfojmhloofaaW.PrintWords YthkdfojmhloofaaW.PrintLast YthkdfojmhloofaaW.PrintMore Ythkdfojmhloofaa.Base Ythkdfojmhloofaa.Num Ythkdfojmhloofaa.Addr Ythkdfojmhloofaa.Be Ythkdfojmhloofaa.Q
theorem racts_is (k i:Int):spoorref11_Acts.f k i=some (decide (okA k i)):=by
  unfold spoorref11_Acts.f;by_cases h1:k=1
  · rw [if_pos h1];by_cases h2:i ≥ 0
    · rw [if_pos h2]
      congr 1
      apply decide_eq_decide.2;unfold okA;omega
    · rw [if_neg h2]
      congr 1
      symm
      rw [decide_eq_false_iff_not];unfold okA;omega
  rw [if_neg h1];by_cases h2:k=2
  · rw [if_pos h2]
    congr 1
    rw [Bool.eq_iff_iff];simp only[beq_iff_eq,decide_eq_true_eq];unfold okA;omega
  rw [if_neg h2];by_cases h3:k=3
  · rw [if_pos h3]
    congr 1
    rw [Bool.eq_iff_iff];simp only[beq_iff_eq,decide_eq_true_eq];unfold okA;omega
  rw [if_neg h3]
  congr 1
  rw [Bool.eq_iff_iff];simp only[decide_eq_true_eq];unfold okA;constructor
  · intro h;cases h
  · omega
theorem rj0_bad (a b c d:Int) (s:Bool) (x1 x2 x3 x4 x5 x6 x7:Int):Ev (fun k=>spoorref11_Check.j0 k true a b c d s x1 x2 x3 x4 x5 x6 x7) 2:=by
  refine Ev.succ ?_;simp only[spoorref11_Check.j0];exact Ev.pos trivial (Ev.now _)
theorem rj1_ev (e:E11) (hn:e.n<340282366920938463463374607431768211456) (hN:okN e) (b:Bool) (hb:b=true↔e.kd=1∨e.kd=2):
    Ev (fun k=>spoorref11_Check.j1 k true e.kd b e.kd e.ro e.sq e.ti e.six (hi e.n) (lo e.n) e.ln e.ak e.ai e.ifc e.pe e.kd e.ro e.sq e.ti false 0 0 0 0 0 0 0) (if okE e then 0 else 2):=by
  have h0:= @hilo0 e.n
  have A : okE e ↔ ((e.kd = 1 ∨ e.kd = 2) ∧ noP e ∧ noA e ∧ e.ifc = 0 ∧ e.pe = 0 ∨ e.kd = 3 ∧ okP e.six e.n e.ln ∧ okA e.ak e.ai ∧ e.ifc = 0 ∧ e.pe = 0 ∨ e.kd = 4 ∧ okP e.six e.n e.ln ∧ noA e ∧ e.ifc = 0 ∧ e.pe = 0 ∨
   e.kd = 5 ∧ noP e ∧ noA e ∧ (0 ≤ e.ifc ∧ e.ifc ≤ 65536) ∧ (0 ≤ e.pe ∧ e.pe ≤ 1048576) ∨ e.kd = 6 ∧ noP e ∧ noA e ∧ (0 ≤ e.ifc ∧ e.ifc ≤ 65536) ∧ e.pe = 0) := ⟨fun h => h.2, fun h => ⟨hN, h⟩⟩
  refine Ev.succ ?_;simp only[spoorref11_Check.j1];by_cases c0:e.kd=1∨e.kd=2;·refine Ev.pos (hb.2 c0) (Ev.pos trivial (Ev.const (fin ?_)));rw [A];unfold noP noA;cases hsx:e.six <;> rcases c0 with c|c <;> simp [c] <;> omega
  refine Ev.neg (fun h=>c0 (hb.1 h)) ?_;by_cases c3:e.kd=3
  · refine Ev.pos c3 (Ev.bind (rcheck_ev e.six hn e.ln) ?_);by_cases cp:okP e.six e.n e.ln
    · rw [if_pos cp];refine Ev.pos rfl ?_;rw [racts_is];simp only[Option.bind_some];by_cases ca:okA e.ak e.ai;·refine Ev.pos (dT ca) (Ev.const (fin ?_));rw [A];simp [c3,cp,ca] <;> omega
      ·refine Ev.neg (by simpa using ca) (Ev.const ?_);rw [if_neg (by rw [A];simp [c3,ca])]
    ·rw [if_neg cp];refine Ev.neg (by decide) (Ev.const ?_);rw [if_neg (by rw [A];simp [c3,cp])]
  refine Ev.neg c3 ?_;by_cases c4:e.kd=4
  · refine Ev.pos c4 (Ev.bind (rcheck_ev e.six hn e.ln) ?_);by_cases cp:okP e.six e.n e.ln;·rw [if_pos cp];refine Ev.pos rfl (Ev.const (fin ?_));rw [A];unfold noA;simp [c4,cp] <;> omega
    ·rw [if_neg cp];refine Ev.neg (by decide) (Ev.const ?_);rw [if_neg (by rw [A];simp [c4,cp])]
  refine Ev.neg c4 ?_;by_cases c5:e.kd=5
  · refine Ev.pos c5 ?_;by_cases ca:0≤e.pe∧e.pe≤1048576
    · by_cases cb:0≤e.ifc∧e.ifc≤65536;·refine Ev.pos (by omega) (Ev.pos (by omega) (Ev.pos (by omega) (Ev.pos (by omega) (Ev.const (fin ?_)))));rw [A];unfold noP noA;cases hsx:e.six <;> simp [c5,ca,cb] <;> omega
      · rw [if_neg (show ¬ okE e by rw [A];omega)];by_cases g:e.ifc ≥ 0
        · exact Ev.pos g (Ev.neg (by omega) (Ev.now _))
        · exact Ev.neg g (Ev.now _)
    · rw [if_neg (show ¬ okE e by rw [A];omega)];by_cases g:e.ifc ≥ 0
      · refine Ev.pos g ?_;by_cases g2:e.ifc≤65536
        · refine Ev.pos g2 ?_;by_cases g3:e.pe ≥ 0
          · exact Ev.pos g3 (Ev.neg (by omega) (Ev.now _))
          · exact Ev.neg g3 (Ev.now _)
        · exact Ev.neg g2 (Ev.now _)
      · exact Ev.neg g (Ev.now _)
  refine Ev.neg c5 ?_;by_cases c6:e.kd=6
  · refine Ev.pos c6 ?_;by_cases cb:0≤e.ifc∧e.ifc≤65536;·refine Ev.pos (by omega) (Ev.pos (by omega) (Ev.const (fin ?_)));rw [A];unfold noP noA;cases hsx:e.six <;> simp [c6,cb] <;> omega
    · rw [if_neg (show ¬ okE e by rw [A];omega)];by_cases g:e.ifc ≥ 0
      · exact Ev.pos g (Ev.neg (by omega) (Ev.now _))
      · exact Ev.neg g (Ev.now _)
  ·refine Ev.neg c6 (Ev.const ?_);rw [if_neg (show ¬ okE e by rw [A];omega)]
theorem recheck_ev (e:E11) (hn:e.n<340282366920938463463374607431768211456):Ev (fun k=>spoorref11_Check.f k e.kd e.ro e.sq e.ti e.six (hi e.n) (lo e.n) e.ln e.ak e.ai e.ifc e.pe) (if okE e then 0 else 2):=by
  simp only[spoorref11_Check.f];by_cases h:okN e
  · obtain⟨h1,h2,h3,h4,h5,h6⟩:=h;refine Ev.neg (by omega) (Ev.neg (by omega) (Ev.neg (by omega) (Ev.neg (by omega) (Ev.neg (by omega) ?_))));rw [dF (show ¬ e.ti > 1099511627776 by omega)];refine Ev.succ ?_;simp only[spoorref11_Check.j0];refine Ev.neg (by decide) ?_;by_cases c:e.kd=1
    · exact Ev.pos c (rj1_ev e hn ⟨h1,h2,h3,h4,h5,h6⟩ _ (by simp [c]))
    · exact Ev.neg c (rj1_ev e hn ⟨h1,h2,h3,h4,h5,h6⟩ _ (by simp [c]))
  · rw [if_neg (fun g=>h g.1)];by_cases c1:e.ro<0
    · exact Ev.pos c1 (rj0_bad _ _ _ _ _ _ _ _ _ _ _ _)
    refine Ev.neg c1 ?_;by_cases c2:e.ro > 1048576
    · exact Ev.pos c2 (rj0_bad _ _ _ _ _ _ _ _ _ _ _ _)
    refine Ev.neg c2 ?_;by_cases c2:e.sq<1
    · exact Ev.pos c2 (rj0_bad _ _ _ _ _ _ _ _ _ _ _ _)
    refine Ev.neg c2 ?_;by_cases c3:e.sq > 1099511627776
    · exact Ev.pos c3 (rj0_bad _ _ _ _ _ _ _ _ _ _ _ _)
    refine Ev.neg c3 ?_;by_cases c4:e.ti<0
    · exact Ev.pos c4 (rj0_bad _ _ _ _ _ _ _ _ _ _ _ _)
    refine Ev.neg c4 ?_;rw [dT (show e.ti > 1099511627776 by unfold okN at h;omega)];exact rj0_bad _ _ _ _ _ _ _ _ _ _ _ _
theorem e8s {n:Int}{l:List Int}{i:Int}{r:ByteArray} (h0:0≤n) (h1:n<18446744073709551616) (hi:0≤i) (aa:i≤7) (hl:l.length=8)
    (h:Ev (fun k=>spoorref05_Eight.l0 k (n / 256) (l.set i.toNat (n % 256)) (i - 1)) r):Ev (fun k=>spoorref05_Eight.l0 k n l i) r:=by
  refine Ev.succ ?_;simp only[spoorref05_Eight.l0];refine Ev.pos hi (Ev.pos hi (Ev.pos (by omega) ?_));have e1:IntKind.u64.wrap (Int.tdiv n 256)=n / 256:=by rw [Int.tdiv_eq_ediv_of_nonneg h0];exact u64w (by omega) (by omega)
  have e2:Int.tmod n 256 % 256=n % 256:=by rw [Int.tmod_eq_emod_of_nonneg h0];omega
  rw [e1,e2,w64 (by omega) (by omega)];exact h
theorem eight_ev (n:Int) (h0:0≤n) (h1:n<18446744073709551616):Ev (fun k=>spoorref05_Eight.f k n) (strOfNums (byt8 n)):=by
  simp only[spoorref05_Eight.f];refine e8s h0 h1 (by omega) (by omega) rfl ?_;refine e8s (by omega) (by omega) (by omega) (by omega) rfl ?_;refine e8s (by omega) (by omega) (by omega) (by omega) rfl ?_;refine e8s (by omega) (by omega) (by omega) (by omega) rfl ?_;refine e8s (by omega) (by omega) (by omega) (by omega) rfl ?_;refine e8s (by omega) (by omega) (by omega) (by omega) rfl ?_;refine e8s (by omega) (by omega) (by omega) (by omega) rfl ?_;refine e8s (by omega) (by omega) (by omega) (by omega) rfl ?_;refine Ev.succ ?_;simp only[spoorref05_Eight.l0];refine Ev.neg (by omega) (Ev.const ?_)
  congr 2
  simp only[List.replicate,byt8]
  show [_,_,_,_,_,_,_,_]=_
  simp only[List.cons.injEq,and_true];omega
theorem number_l0 (s:ByteArray) (hs:s.size≤8): ∀ (d i:Nat),s.size - i=d→i≤s.size→Ev (fun k=>spoorref05_Number.l0 k s ((nb ((bytesOf s).take i):Nat):Int) i) ((nb (bytesOf s):Nat):Int)
  |0,i,hd,hi=>by
    obtain rfl:i=s.size:=by omega
    refine Ev.succ ?_;simp only[spoorref05_Number.l0];rw [List.take_of_length_le (by rw [bytesOf_length];exact Nat.le_refl _)];exact Ev.neg (by omega) (Ev.now _)
  |d+1,i,hd,hi=>by
    refine Ev.succ ?_;simp only[spoorref05_Number.l0];refine Ev.pos (by omega) (Ev.pos (by omega) ?_);have aa:((bytesOf s).take i).length=i:=by rw [List.length_take,bytesOf_length];omega
    have hb:=nb_lt ((bytesOf s).take i) ((bytesOf_bytes s).take i);rw [aa]at hb;have hp:256 ^ i≤256 ^ 7:=Nat.pow_le_pow_right (by decide) (by omega);have hr:=bt_range s i;have ht:=take_rd (bytesOf s) 0 i (by rw [bytesOf_length];omega);simp only[List.drop_zero,Nat.zero_add]at ht;have ih:=number_l0 s hs d (i+1) (by omega) (by omega);rw [ht,nb_snoc, ← bt_nat]at ih;rw [u64w (n:=256 * ((nb ((bytesOf s).take i):Nat):Int)) (by omega) (by omega),u64w (n:=bt s i) (by omega) (by omega),u64w (by omega) (by omega),w64 (by omega) (by omega)];have e:(((256 * nb ((bytesOf s).take i)+(bt s i).toNat:Nat)):Int)=256 * ((nb ((bytesOf s).take i):Nat):Int)+bt s i:=by omega
    rw [e]at ih;exact ih
theorem number_ev (s:ByteArray) (hs:s.size≤8):Ev (fun k=>spoorref05_Number.f k s) ((nb (bytesOf s):Nat):Int):=by
  simp only[spoorref05_Number.f];exact number_l0 s hs _ 0 rfl (by omega)
theorem zeros_eq (n:Nat) (h:n≤281474976710656):spoorref05_Zeros.f n=some (strOfNums (List.replicate n 0)):=by
  unfold spoorref05_Zeros.f;rw [if_pos (by omega),if_pos (by omega),Int.toNat_natCast]
theorem address_ev (six:Bool) {n:Nat} (hn:n<340282366920938463463374607431768211456):Ev (fun k=>spoorref11_address.f k six (hi n) (lo n)) (strOfNums (be (Bn six) n)):=by
  have h1:=hi_range hn;have h2:=lo_range n;simp only[spoorref11_address.f];refine Ev.bind (eight_ev _ h1.1 h1.2) (Ev.bind (eight_ev _ h2.1 h2.2) ?_);have e:=word_six hn;rw [← str_append,e];refine Ev.pos (by rw [strOfNums_size,strOfNums_size];exact (by decide:8+8≤9223372036854775807)) ?_;cases six with
  |true=>exact Ev.pos rfl (Ev.now _)
  |false=>
    refine Ev.neg (by decide) (Ev.pos (by rw [strOfNums_size,be_len];decide) (Ev.const ?_));rw [str_from,bytes_str (be_bytes _ _),show 16=12+4 from rfl,be_split 4 12,List.drop_left' (be_len _ _)];rfl
theorem kn_tdiv {A:Int} (h0:0≤A) (h1:A≤128):wrap64 (Int.tdiv (wrap64 (A+7)) 8)=(Kn A:Int):=by
  rw [w64 (n:=A+7) (by omega) (by omega),Int.tdiv_eq_ediv_of_nonneg (by omega),w64 (by omega) (by omega)];unfold Kn;omega
theorem rputprefix_ev (six:Bool) {n:Nat} (hn:n<340282366920938463463374607431768211456) (A:Int):Ev (fun k=>spoorref11_PutPrefix.f k six (hi n) (lo n) A) (if okP six n A then (strOfNums (preL six n A),0) else ((⟨#[]⟩:ByteArray),2)):=by
  simp only[spoorref11_PutPrefix.f];refine Ev.bind (rcheck_ev six hn A) ?_;by_cases h:okP six n A
  · rw [if_pos h,if_pos h];have h':=h;obtain⟨h0,h1,_⟩:=h';have hw:=Wn_le six;have hk:=kn_le h1;rw [kn_tdiv h0 (by omega)];refine Ev.pos rfl ?_;have hB:Bn six≤16:=by cases six <;> simp [Bn]
    have hx:strOfNums [sixB six,A % 256]++(strOfNums (be (Bn six) n)).extract 0 (Kn A:Int).toNat=strOfNums (preL six n A):=by
      rw [str_part,bytes_str (be_bytes _ _),List.drop_zero, ← str_append,Int.toNat_natCast]
      congr 1
      show sixB six :: A % 256 :: _=_
      rw [show A % 256=A by omega];rfl
    have hz:(strOfNums [sixB six,A % 256]).size+((strOfNums (be (Bn six) n)).extract 0 (Kn A:Int).toNat).size≤9223372036854775807:=by rw [str_part,strOfNums_size,strOfNums_size,bytes_str (be_bytes _ _),List.drop_zero,List.length_take,be_len];simp only[List.length_cons,List.length_nil];omega
    cases six with
    |true=>
      refine Ev.pos rfl (Ev.bind (Ev.now _) (Ev.bind (address_ev true hn) (Ev.pos (by omega) (Ev.pos (by rw [strOfNums_size,be_len];omega) (Ev.pos hz (Ev.const ?_))))));rw [← hx];rfl
    |false=>
      refine Ev.neg (by decide) (Ev.bind (Ev.now _) (Ev.bind (address_ev false hn) (Ev.pos (by omega) (Ev.pos (by rw [strOfNums_size,be_len];omega) (Ev.pos hz (Ev.const ?_))))));rw [← hx];rfl
  ·rw [if_neg h,if_neg h];exact Ev.neg (by decide) (Ev.now _)
theorem rnum_ev {m:Int} (h0:0≤m) (h1:m<18446744073709551616):Ev (fun k=>spoorref01_Put.f k (IntKind.u64.wrap m)) (strOfNums (putL m.toNat)):=by
  rw [u64w h0 h1,show m=((m.toNat:Nat):Int) by omega];exact rput_ev _ (by omega)
theorem rnum_ev' {m:Int} (h0:0≤m) (h1:m<18446744073709551616):Ev (fun k=>spoorref01_Put.f k m) (strOfNums (putL m.toNat)):=by
  have:=rnum_ev h0 h1
  rwa [u64w h0 h1]at this
theorem rputaction_ev (k i:Int):Ev (fun q=>spoorref11_PutAction.f q k i) (if okA k i then (strOfNums (actL k i),0) else ((⟨#[]⟩:ByteArray),2)):=by
  simp only[spoorref11_PutAction.f];rw [racts_is];simp only[Option.bind_some];by_cases h:okA k i
  · rw [if_pos h];refine Ev.pos (dT h) ?_;unfold actL;rcases okA_act h with ⟨rfl,h0,h1⟩|⟨h1,h2,rfl⟩
    ·rw [if_pos rfl];have:=putL_len (n:=i.toNat) (by omega);refine Ev.pos rfl (Ev.bind (rnum_ev h0 (by omega)) (Ev.pos (by rw [strOfNums_size,strOfNums_size];simp only[List.length_cons,List.length_nil];omega) (Ev.const ?_)));rw [← str_append];rfl
    ·rw [if_neg h1];exact Ev.neg h1 (Ev.now _)
  ·rw [if_neg h];exact Ev.neg (by simpa using h) (Ev.now _)
end Go.Proofs.Ythkdfojmhloofaa.Msg
end
section
namespace Go.Proofs.Ythkdfojmhloofaa.Msg
set_option linter.unusedVariables false
open Go.RowKit YthkdfojmhloofaaW.PrintWords YthkdfojmhloofaaW.PrintLast YthkdfojmhloofaaW.PrintMore Ythkdfojmhloofaa.Base Ythkdfojmhloofaa.Num Ythkdfojmhloofaa.Addr Ythkdfojmhloofaa.Be Ythkdfojmhloofaa.Q
theorem rputev (e:E11) (hn:e.n<340282366920938463463374607431768211456):Ev (fun k=>spoorref11_Put.f k e.kd e.ro e.sq e.ti e.six (hi e.n) (lo e.n) e.ln e.ak e.ai e.ifc e.pe) (if okE e then (strOfNums (bodyL e),0) else ((⟨#[]⟩:ByteArray),2)):=by
  simp only[spoorref11_Put.f];refine Ev.bind (recheck_ev e hn) ?_;by_cases h:okE e
  · rw [if_pos h,if_pos h];have aa:=bodyL_len h;obtain⟨⟨h1,h2,h3,h4,h5,h6⟩,h7⟩:=h;have g1:=putL_len (n:=e.ro.toNat) (by omega);have g2:=putL_len (n:=e.sq.toNat) (by omega);have g3:=putL_len (n:=e.ti.toNat) (by omega);refine Ev.pos rfl (Ev.bind (Ev.now _) (Ev.bind (rnum_ev h1 (by omega)) (Ev.pos (by rw [strOfNums_size,strOfNums_size];simp only[List.length_cons,List.length_nil];omega) (Ev.bind (rnum_ev' (by omega) (by omega)) ?_))));rw [← str_append];refine Ev.pos (by rw [strOfNums_size,strOfNums_size];simp only[List.length_append,List.length_cons,List.length_nil];omega) (Ev.bind (rnum_ev h5 (by omega)) ?_);rw [← str_append];refine Ev.pos (by rw [strOfNums_size,strOfNums_size];simp only[List.length_append,List.length_cons,List.length_nil];omega) ?_;rw [← str_append];have hl:([e.kd]++putL e.ro.toNat++putL e.sq.toNat++putL e.ti.toNat).length≤31:=by simp;omega
    have hb:bodyL e= [e.kd]++putL e.ro.toNat++putL e.sq.toNat++putL e.ti.toNat++endL e:=by unfold bodyL;simp
    rw [hb];generalize [e.kd]++putL e.ro.toNat++putL e.sq.toNat++putL e.ti.toNat=L at hl ⊢;have A: ∀ (M:List Int),M.length≤100→e.kd≠5→e.kd≠6→Ev (fun k=>spoorref11_Put.j2 k (strOfNums M) e.kd e.ro e.sq e.ti e.six (hi e.n) (lo e.n) e.ln e.ak e.ai e.ifc e.pe) (strOfNums M,0):=by intro M hM c5 c6;refine Ev.succ ?_;simp only[spoorref11_Put.j2];refine Ev.neg c5 (Ev.succ ?_);simp only[spoorref11_Put.j3];exact Ev.neg (by simpa using c6) (Ev.neg c5 (Ev.now _))
    unfold endL;rcases h7 with ⟨hk,_⟩|⟨hk,hp,ha,_⟩|⟨hk,hp,_⟩|⟨hk,_,_,hi,hp⟩|⟨hk,_,_,hi,_⟩
    ·rw [if_neg (by omega),if_neg (by omega),if_neg (by omega),if_neg (by omega),List.append_nil];refine Ev.neg (by omega) (Ev.succ ?_);simp only[spoorref11_Put.j0];refine Ev.neg (by simp;omega) (Ev.succ ?_);simp only[spoorref11_Put.j1];exact Ev.neg (by omega) (A L (by omega) (by omega) (by omega))
    ·rw [if_pos hk];refine Ev.pos hk (Ev.succ ?_);simp only[spoorref11_Put.j0];have q:=rputprefix_ev e.six hn e.ln;rw [if_pos hp]at q;have l1:=preL_len hp;have l2:=actL_len ha;refine Ev.pos trivial (Ev.bind q (Ev.pos (by rw [strOfNums_size,strOfNums_size];omega) ?_));rw [← str_append];refine Ev.succ ?_;simp only[spoorref11_Put.j1];have q2:=rputaction_ev e.ak e.ai;rw [if_pos ha]at q2;refine Ev.pos hk (Ev.bind q2 (Ev.pos (by rw [strOfNums_size,strOfNums_size,List.length_append];omega) ?_));rw [← str_append,List.append_assoc];exact A _ (by rw [List.length_append,List.length_append];omega) (by omega) (by omega)
    ·rw [if_neg (by omega),if_pos hk];refine Ev.neg (by omega) (Ev.succ ?_);simp only[spoorref11_Put.j0];have q:=rputprefix_ev e.six hn e.ln;rw [if_pos hp]at q;have l1:=preL_len hp;refine Ev.pos (by simpa using hk) (Ev.bind q (Ev.pos (by rw [strOfNums_size,strOfNums_size];omega) ?_));rw [← str_append];refine Ev.succ ?_;simp only[spoorref11_Put.j1];exact Ev.neg (by omega) (A _ (by rw [List.length_append];omega) (by omega) (by omega))
    ·rw [if_neg (by omega),if_neg (by omega),if_pos hk];have l1:=putL_len (n:=e.ifc.toNat) (by omega);have l2:=putL_len (n:=e.pe.toNat) (by omega);refine Ev.neg (by omega) (Ev.succ ?_);simp only[spoorref11_Put.j0];refine Ev.neg (by simp;omega) (Ev.succ ?_);simp only[spoorref11_Put.j1];refine Ev.neg (by omega) (Ev.succ ?_);simp only[spoorref11_Put.j2];refine Ev.pos hk (Ev.succ ?_);simp only[spoorref11_Put.j3];refine Ev.pos trivial (Ev.bind (rnum_ev hi.1 (by omega)) (Ev.pos (by rw [strOfNums_size,strOfNums_size];omega) (Ev.pos hk (Ev.bind (rnum_ev hp.1 (by omega)) ?_))));rw [← str_append];refine Ev.pos (by rw [strOfNums_size,strOfNums_size,List.length_append];omega) (Ev.const ?_);rw [← str_append,List.append_assoc]
    ·rw [if_neg (by omega),if_neg (by omega),if_neg (by omega),if_pos hk];have l1:=putL_len (n:=e.ifc.toNat) (by omega);refine Ev.neg (by omega) (Ev.succ ?_);simp only[spoorref11_Put.j0];refine Ev.neg (by simp;omega) (Ev.succ ?_);simp only[spoorref11_Put.j1];refine Ev.neg (by omega) (Ev.succ ?_);simp only[spoorref11_Put.j2];refine Ev.neg (by omega) (Ev.succ ?_);simp only[spoorref11_Put.j3];refine Ev.pos (by simpa using hk) (Ev.bind (rnum_ev hi.1 (by omega)) (Ev.pos (by rw [strOfNums_size,strOfNums_size];omega) (Ev.neg (by omega) (Ev.const ?_))));rw [← str_append]
  ·rw [if_neg h,if_neg h];exact Ev.neg (by decide) (Ev.now _)
theorem nb_hi {l:List Int} (hb:Bytes l) (h:l.length=16):((nb (l.take 8):Nat):Int)=hi (nb l)∧((nb (l.drop 8):Nat):Int)=lo (nb l):=by
  have e:nb l=nb (l.take 8) * 18446744073709551616+nb (l.drop 8):=by have:=nb_append (l.take 8) (l.drop 8);rw [List.take_append_drop,List.length_drop,h]at this;exact this
  have A:=nb_lt (l.drop 8) (hb.drop 8);rw [List.length_drop,h]at A;have h2:nb (l.drop 8)<18446744073709551616:=A;unfold hi lo;rw [e];constructor <;> omega
theorem rgp_bad (s:ByteArray):Ev (fun k=>spoorref11_GetPrefix.j0 k s true) (preS none):=by
  refine Ev.succ ?_;simp only[spoorref11_GetPrefix.j0];exact Ev.pos trivial (Ev.now _)
theorem rgj1_bad (s:ByteArray) (x:Int) (six:Bool) (a b c:Int):Ev (fun k=>spoorref11_GetPrefix.j1 k s x true six a b c) (preS none):=by
  refine Ev.succ ?_;simp only[spoorref11_GetPrefix.j1];exact Ev.pos trivial (Ev.now _)
theorem rgetprefix_ev (s:ByteArray) (hs:s.size≤281474976710656):Ev (fun k=>spoorref11_GetPrefix.f k s) (preS (getP (bytesOf s))):=by
  simp only[spoorref11_GetPrefix.f]
  match hl:bytesOf s with
  | []=>
    have:=size_of_bytes hl;simp only[List.length_nil]at this;exact Ev.pos (by omega) (rgp_bad s)
  | [a]=>
    have:=size_of_bytes hl;simp only[List.length_cons,List.length_nil]at this;exact Ev.pos (by omega) (rgp_bad s)
  |a :: b :: l=>
    have hz:=size_of_bytes hl;simp only[List.length_cons]at hz;have hb:Bytes (a :: b :: l):=by rw [← hl];exact bytesOf_bytes s
    obtain⟨b0,b1⟩:=bt01 hl;have aa:=hb.tail.head;rw [b0];refine Ev.neg (by omega) (Ev.pos (by omega) ?_);simp only[getP];by_cases C:a=4∨a=6
    · have go:Ev (fun k=>spoorref11_GetPrefix.j0 k s false) (preS (if (a=4∨a=6)∧b≤ ↑(Wn (a==6))∧Kn b≤l.length∧okP (a==6) (preN (a==6) b l) b then some ((a==6,preN (a==6) b l,b),List.drop (Kn b) l) else none)):=by
        refine Ev.succ ?_;simp only[spoorref11_GetPrefix.j0];rw [b0,b1];refine Ev.neg (by decide) (Ev.pos (by omega) (Ev.pos (by omega) ?_));rw [rwide_is];simp only[Option.bind_some];generalize (a==6)=six;have e1:wrap64 b=b:=w64 (by omega) (by omega);rw [e1];by_cases c1:b > ((Wn six:Nat):Int);·rw [if_neg (fun h=>by have:=h.2.1;omega)];exact Ev.pos c1 (rgj1_bad _ _ _ _ _ _)
        refine Ev.neg c1 ?_;have hw:b≤((Wn six:Nat):Int):=by omega
        have hW:=Wn_le six;have hk:=kn_le hw;have hB:Bn six≤16:=by cases six <;> simp [Bn]
        rw [kn_tdiv aa.1 (by omega),w64 (n:=2+(Kn b:Int)) (by omega) (by omega)];by_cases c2:(s.size:Int)<2+(Kn b:Int);·rw [dT c2,if_neg (fun h=>by have:=h.2.2.1;omega)];exact rgj1_bad _ _ _ _ _ _
        rw [dF c2];refine Ev.succ ?_;simp only[spoorref11_GetPrefix.j1];rw [w64 (n:=2+(Kn b:Int)) (by omega) (by omega)];refine Ev.neg (by decide) (Ev.pos (by omega) (Ev.pos (by omega) ?_));refine Ev.bind (Ev.const (rwide_is six)) ?_;have ew:wrap64 (wrap64 (Int.tdiv ((Wn six:Nat):Int) 8) - (Kn b:Int))=((Bn six - Kn b:Nat):Int):=by rw [bn_wn,Int.tdiv_eq_ediv_of_nonneg (by omega),w64 (n:=((8 * Bn six:Nat):Int) / 8) (by omega) (by omega),w64 (by omega) (by omega)];omega
        refine Ev.bind (Ev.const (by rw [ew];exact zeros_eq _ (by omega))) ?_;have ht:(2+(Kn b:Int)).toNat=2+Kn b:=by omega
        rw [ht]
        have hx:s.extract 2 (2+Kn b)=strOfNums (l.take (Kn b)):=by
          rw [str_part,hl]
          congr 1
          rw [show 2+Kn b=Kn b+1+1 by omega];simp only[List.take_succ_cons,List.drop_succ_cons,List.drop_zero]
        rw [hx, ← str_append];have D:Kn b≤l.length:=by omega
        have ab:Bytes (l.take (Kn b)):=hb.tail.tail.take _;have F:(l.take (Kn b)++List.replicate (Bn six - Kn b) 0).length=Bn six:=by rw [List.length_append,List.length_take,List.length_replicate];omega
        have A:Bytes (l.take (Kn b)++List.replicate (Bn six - Kn b) 0):=ab.append (bytes_zeros _);have hN:preN six b l=nb (l.take (Kn b)++List.replicate (Bn six - Kn b) 0):=rfl;have B:=preN_lt hb.tail.tail hw D
        have ac:s.extract (2+Kn b) s.size=strOfNums (l.drop (Kn b)):=by
          rw [str_from,hl]
          congr 1
          rw [show 2+Kn b=Kn b+1+1 by omega];simp only[List.drop_succ_cons]
        rw [ac];refine Ev.pos (by rw [strOfNums_size,strOfNums_size,List.length_take,List.length_replicate];omega) ?_;cases six with
        |true=>
          have E:(l.take (Kn b)++List.replicate (Bn true - Kn b) 0).length=16:=F;generalize l.take (Kn b)++List.replicate (Bn true - Kn b) 0=W at E A hN ⊢;obtain⟨f1,f2⟩:=nb_hi A E;refine Ev.pos rfl (Ev.pos (by rw [strOfNums_size,E];decide) ?_);have n1:=number_ev ((strOfNums W).extract 0 8) (by rw [str_part,bytes_str A,strOfNums_size,List.drop_zero,List.length_take];omega);have n2:=number_ev ((strOfNums W).extract 8 (strOfNums W).size) (by rw [str_from,bytes_str A,strOfNums_size,List.length_drop];omega);rw [bytes_extract,bytes_str A,List.drop_zero,f1]at n1;rw [bytes_from,bytes_str A,f2]at n2;rw [hN]at B ⊢;have hc:=rcheck_ev true B b;refine Ev.bind n1 (Ev.bind n2 ?_);by_cases ok:okP true (nb W) b;·rw [if_pos ok]at hc;rw [if_pos (show (a=4∨a=6)∧b≤((Wn true:Nat):Int)∧Kn b≤l.length∧okP true (nb W) b from ⟨C,hw,D,ok⟩)];exact Ev.bind hc (Ev.pos rfl (Ev.pos (by omega) (Ev.now _)))
          ·rw [if_neg ok]at hc;rw [if_neg (show ¬ ((a=4∨a=6)∧b≤((Wn true:Nat):Int)∧Kn b≤l.length∧okP true (nb W) b) from fun h=>ok h.2.2.2)];exact Ev.bind hc (Ev.neg (by decide) (Ev.now _))
        |false=>
          have G:(l.take (Kn b)++List.replicate (Bn false - Kn b) 0).length=4:=F;generalize l.take (Kn b)++List.replicate (Bn false - Kn b) 0=W at G A hN ⊢;refine Ev.neg (by decide) ?_;have n1:=number_ev (strOfNums W) (by rw [strOfNums_size];omega);rw [bytes_str A]at n1;have H:=nb_lt W A;rw [G]at H;have ae:nb W<4294967296:=H;have f1:((nb W:Nat):Int)=lo (nb W):=by unfold lo;omega
          have f2:(0:Int)=hi (nb W):=by unfold hi;omega
          rw [f1]at n1;rw [hN]at B ⊢;have hc:=rcheck_ev false B b;rw [← f2]at hc;refine Ev.bind n1 ?_;by_cases ok:okP false (nb W) b;·rw [if_pos ok]at hc;rw [if_pos (show (a=4∨a=6)∧b≤((Wn false:Nat):Int)∧Kn b≤l.length∧okP false (nb W) b from ⟨C,hw,D,ok⟩)];refine Ev.bind hc (Ev.pos rfl (Ev.pos (by omega) (Ev.const ?_)));simp only[preS, ← f2]
          ·rw [if_neg ok]at hc;rw [if_neg (show ¬ ((a=4∨a=6)∧b≤((Wn false:Nat):Int)∧Kn b≤l.length∧okP false (nb W) b) from fun h=>ok h.2.2.2)];exact Ev.bind hc (Ev.neg (by decide) (Ev.now _))
      by_cases c4:a=4
      · exact Ev.pos c4 go
      · refine Ev.neg c4 ?_
        have : (a != 6) = false := by have : a = 6 := by omega
                                      rw [this]; rfl
        rw [this];exact go
    · rw [if_neg (fun h=>C h.1)];refine Ev.neg (by omega) ?_;have:(a !=6)=true:=by rw [bne_iff_ne];omega
      rw [this];exact rgp_bad s
theorem rgetaction_ev (s:ByteArray) (hs:s.size≤281474976710656):Ev (fun k=>spoorref11_GetAction.f k s) (actS (getA (bytesOf s))):=by
  simp only[spoorref11_GetAction.f]
  match hl:bytesOf s with
  | []=>exact Ev.pos ((nil_iff s).2 hl) (Ev.now _)
  |a :: l=>
    have hz:=size_of_bytes hl;simp only[List.length_cons]at hz;have hb:Bytes (a :: l):=by rw [← hl];exact bytesOf_bytes s
    have aa:s.extract 1 s.size=strOfNums l:=by rw [str_from,hl];rfl
    rw [bt0 hl,aa];refine Ev.neg (fun h=>by rw [nil_iff,hl]at h;cases h) (Ev.pos (by omega) (Ev.pos (by omega) ?_));simp only[getA];by_cases c1:a=1
    · refine Ev.pos c1 ?_;rw [if_pos c1];have hg:=rget_ev0 (strOfNums l) (by rw [strOfNums_size];omega);rw [bytes_str hb.tail]at hg;refine Ev.bind hg ?_;simp only[getR];have hv:=getL_val hb.tail;unfold rdN;by_cases g:(getL 0 0 l).2.2=0
      · refine Ev.pos g (Ev.succ ?_);simp only[spoorref11_GetAction.j0];by_cases g2:(getL 0 0 l).1≤65536;·have gg:(getL 0 0 l).2.2=0∧(getL 0 0 l).1≤65536:=⟨g,g2⟩;rw [if_pos gg];refine Ev.neg (by simp;omega) ?_;rw [racts_is,w64 (n:=(getL 0 0 l).1) (by omega) (by omega)];simp only[Option.bind_some];rw [c1];exact Ev.pos (dT (.inl ⟨rfl,hv.1,g2⟩)) (Ev.now _)
        · have gg: ¬ ((getL 0 0 l).2.2=0∧(getL 0 0 l).1≤65536):=fun h=>g2 h.2
          rw [if_neg gg];exact Ev.pos (by simp;omega) (Ev.now _)
      · have gg: ¬ ((getL 0 0 l).2.2=0∧(getL 0 0 l).1≤65536):=fun h=>g h.1
        rw [if_neg gg];refine Ev.neg g (Ev.succ ?_);simp only[spoorref11_GetAction.j0];exact Ev.pos trivial (Ev.now _)
    · refine Ev.neg c1 ?_;rw [if_neg c1,racts_is];simp only[Option.bind_some];by_cases c2:a=2∨a=3;·rw [if_pos c2];exact Ev.pos (dT (.inr ⟨c2,rfl⟩)) (Ev.now _)
      ·rw [if_neg c2];refine Ev.neg ?_ (Ev.now _);simp only[decide_eq_true_eq];unfold okA;omega
theorem rnum_cases (s:ByteArray) (hs:s.size≤281474976710656) (ok:Bool) {most:Int}:(∃ v r,rdN most (bytesOf s)=some (v,r)∧Ev (fun k=>spoorref11_reader_num.f k s ok most) (v,strOfNums r,ok))∨(rdN most (bytesOf s)=none∧Ev (fun k=>spoorref11_reader_num.f k s ok most) (0,s,false)):=by
  have hg:=rget_ev0 s hs;by_cases h:(getL 0 0 (bytesOf s)).2.2=0∧(getL 0 0 (bytesOf s)).1≤most;·refine .inl ⟨(getL 0 0 (bytesOf s)).1,(getL 0 0 (bytesOf s)).2.1,by unfold rdN;rw [if_pos h],?_⟩;simp only[spoorref11_reader_num.f];refine Ev.bind hg ?_;simp only[getR];exact Ev.pos h.1 (Ev.neg (by omega) (Ev.now _))
  · refine .inr ⟨by unfold rdN;rw [if_neg h],?_⟩;simp only[spoorref11_reader_num.f];refine Ev.bind hg ?_;simp only[getR];by_cases g:(getL 0 0 (bytesOf s)).2.2=0
    · exact Ev.pos g (Ev.pos (by omega) (Ev.now _))
    · exact Ev.neg g (Ev.now _)
end Go.Proofs.Ythkdfojmhloofaa.Msg
end
section
namespace Go.Proofs.Ythkdfojmhloofaa.Gram
set_option linter.unusedVariables false
open Go.RowKit Ythkdfojmhloofaa.Q YthkdfojmhloofaaW.PrintWords YthkdfojmhloofaaW.PrintLast Ythkdfojmhloofaa.Base Ythkdfojmhloofaa.Num Ythkdfojmhloofaa.Addr Ythkdfojmhloofaa.Msg Ythkdfojmhloofaa.Cut Ythkdfojmhloofaa.Stream Ythkdfojmhloofaa.Open
end Go.Proofs.Ythkdfojmhloofaa.Gram
end
section
namespace Go.Proofs.Ythkdfojmhloofaa.Msg
set_option linter.unusedVariables false
open Go.RowKit YthkdfojmhloofaaW.PrintWords YthkdfojmhloofaaW.PrintLast YthkdfojmhloofaaW.PrintMore Ythkdfojmhloofaa.Base Ythkdfojmhloofaa.Num Ythkdfojmhloofaa.Addr Ythkdfojmhloofaa.Be Ythkdfojmhloofaa.Q
theorem toList_inj {a b:ByteArray} (h:a.toList=b.toList):a=b:=by
  rw [Go.ByteArray.toList_eq,Go.ByteArray.toList_eq]at h;exact ByteArray.ext (Array.toList_inj.mp h)
def n128 (n:Nat):Prop:=n<340282366920938463463374607431768211456
def finG (k : Nat) (s : ByteArray) (ok : Bool) (kd ro sq ti : Int) (six : Bool) (h l ln ak ai A pe : Int) : Option (Int × Int × Int × Int × Bool × Int × Int × Int × Int × Int × Int × Int × Int) :=
  (spoorref11_Put.f k kd ro sq ti six h l ln ak ai A pe).bind fun B => (if ok = true then (if B.2 = 0 then (if B.1.toList = s.toList then (some (kd, ro, sq, ti, six, h, l, ln, ak, ai, A, pe, 0)) else (some (0, 0, 0, 0, false, 0, 0, 0, 0, 0, 0, 0, 7))) else (some (0, 0, 0, 0, false, 0, 0, 0, 0, 0, 0, 0, 7))) else (some (0, 0, 0, 0, false, 0, 0, 0, 0, 0, 0, 0, 7)))
theorem j5_of {s s4:ByteArray}{ok:Bool}{kd ro sq ti:Int}{six:Bool}{h l ln ak ai A pe:Int}{v:Int × Int × Int × Int × Bool × Int × Int × Int × Int × Int × Int × Int × Int} (g:Ev (fun k=>finG k s ok kd ro sq ti six h l ln ak ai A pe) v):
    Ev (fun k=>spoorref11_Get.j5 k s s4 ok kd ro sq ti six h l ln ak ai A pe) v:=by
  obtain⟨k0,hk⟩:=g;refine⟨k0+2,fun k aa=>?_⟩;obtain⟨k',rfl⟩: ∃ k',k=k'+2:=⟨k - 2,by omega⟩;have g:=hk (k'+1) (by omega);dsimp only at g ⊢;rw [← g];simp only[spoorref11_Get.j5,spoorref11_Get.j6,finG]
  congr 1
  funext b
  by_cases c1:ok=true
  · rw [if_pos c1,if_pos c1];by_cases c2:b.2=0
    · rw [if_pos c2,if_pos c2];by_cases c3:b.1.toList=s.toList
      · rw [if_neg (by simp [c3]),if_pos c3]
      · rw [if_pos (by simpa using c3),if_neg c3]
    · rw [if_neg c2,if_neg c2,if_pos trivial]
  · rw [if_neg c1,if_neg c1,if_pos trivial]
theorem fin_none {s:ByteArray} (hg:getE (bytesOf s)=none) (ok:Bool) (e:E11) (hn:n128 e.n):Ev (fun k=>finG k s ok e.kd e.ro e.sq e.ti e.six (hi e.n) (lo e.n) e.ln e.ak e.ai e.ifc e.pe) (evS none):=by
  simp only[finG];have h:=rputev e hn;by_cases c:okE e
  · rw [if_pos c]at h;refine Ev.bind h ?_;have aa: ¬ (strOfNums (bodyL e)).toList=s.toList:=fun g=>by have:=toList_inj g;rw [← this,bytes_str (bodyL_bytes c),getE_body c]at hg;cases hg
    cases ok with
    |true=>exact Ev.pos rfl (Ev.pos rfl (Ev.neg aa (Ev.now _)))
    |false=>exact Ev.neg (by decide) (Ev.now _)
  · rw [if_neg c]at h;refine Ev.bind h ?_;cases ok with
    |true=>exact Ev.pos rfl (Ev.neg (by decide) (Ev.now _))
    |false=>exact Ev.neg (by decide) (Ev.now _)
theorem fin_some {e:E11} (c:okE e) (hn:n128 e.n):Ev (fun k=>finG k (strOfNums (bodyL e)) true e.kd e.ro e.sq e.ti e.six (hi e.n) (lo e.n) e.ln e.ak e.ai e.ifc e.pe) (evS (some e)):=by
  simp only[finG];have h:=rputev e hn;rw [if_pos c]at h;exact Ev.bind h (Ev.pos trivial (Ev.pos rfl (Ev.pos rfl (Ev.now _))))
theorem j4_none {s:ByteArray} (hg:getE (bytesOf s)=none) (s4:ByteArray) (h4:s4.size≤281474976710656) (ok:Bool) (e:E11) (hn:n128 e.n):Ev (fun k=>spoorref11_Get.j4 k s s4 ok e.kd e.ro e.sq e.ti e.six (hi e.n) (lo e.n) e.ln e.ak e.ai e.ifc e.pe) (evS none):=by
  refine Ev.succ ?_;simp only[spoorref11_Get.j4];by_cases c5:e.kd=5
  · refine Ev.pos c5 ?_;rcases rnum_cases s4 h4 ok (most:=1048576) with ⟨v,r,_,h⟩|⟨_,h⟩
    · exact Ev.bind h (j5_of (fin_none hg ok ⟨e.kd,e.ro,e.sq,e.ti,e.six,e.n,e.ln,e.ak,e.ai,e.ifc,wrap64 v⟩ hn))
    · exact Ev.bind h (j5_of (fin_none hg false ⟨e.kd,e.ro,e.sq,e.ti,e.six,e.n,e.ln,e.ak,e.ai,e.ifc,wrap64 0⟩ hn))
  · exact Ev.neg c5 (j5_of (fin_none hg ok e hn))
theorem rdN_len {most v:Int}{l r:List Int} (h:rdN most l=some (v,r)):r.length≤l.length:=by
  unfold rdN at h
  split at h
  ·simp only[Option.some.injEq,Prod.mk.injEq]at h;rw [← h.2];exact getL_len l 0 0
  · cases h
theorem j3_none {s:ByteArray} (hg:getE (bytesOf s)=none) (b:Bool) (s4:ByteArray) (h4:s4.size≤281474976710656) (ok:Bool) (e:E11) (hn:n128 e.n):Ev (fun k=>spoorref11_Get.j3 k s b s4 ok e.kd e.ro e.sq e.ti e.six (hi e.n) (lo e.n) e.ln e.ak e.ai e.ifc e.pe) (evS none):=by
  refine Ev.succ ?_;simp only[spoorref11_Get.j3];cases b with
  |true=>
    refine Ev.pos rfl ?_;rcases rnum_cases s4 h4 ok (most:=65536) with ⟨v,r,hr,h⟩|⟨_,h⟩
    ·have:=rdN_len hr;rw [bytesOf_length]at this;exact Ev.bind h (j4_none hg (strOfNums r) (by rw [strOfNums_size];omega) ok ⟨e.kd,e.ro,e.sq,e.ti,e.six,e.n,e.ln,e.ak,e.ai,wrap64 v,e.pe⟩ hn)
    · exact Ev.bind h (j4_none hg s4 h4 false ⟨e.kd,e.ro,e.sq,e.ti,e.six,e.n,e.ln,e.ak,e.ai,wrap64 0,e.pe⟩ hn)
  |false=>exact Ev.neg (by decide) (j4_none hg s4 h4 ok e hn)
theorem j2_none {s:ByteArray} (hg:getE (bytesOf s)=none) (s4:ByteArray) (h4:s4.size≤281474976710656) (ok:Bool) (e:E11) (hn:n128 e.n):Ev (fun k=>spoorref11_Get.j2 k s s4 ok e.kd e.ro e.sq e.ti e.six (hi e.n) (lo e.n) e.ln e.ak e.ai e.ifc e.pe) (evS none):=by
  refine Ev.succ ?_;simp only[spoorref11_Get.j2];by_cases c5:e.kd=5
  · exact Ev.pos c5 (j3_none hg true s4 h4 ok e hn)
  · exact Ev.neg c5 (j3_none hg _ s4 h4 ok e hn)
theorem j1_none {s:ByteArray} (hg:getE (bytesOf s)=none) (s4:ByteArray) (h4:s4.size≤281474976710656) (ok:Bool) (e:E11) (hn:n128 e.n):Ev (fun k=>spoorref11_Get.j1 k s s4 ok e.kd e.ro e.sq e.ti e.six (hi e.n) (lo e.n) e.ln e.ak e.ai e.ifc e.pe) (evS none):=by
  refine Ev.succ ?_;simp only[spoorref11_Get.j1];by_cases c3:e.kd=3
  · refine Ev.pos c3 (Ev.bind (rgetaction_ev s4 h4) ?_)
    have hz:(actS (getA (bytesOf s4))).2.2.1.size≤281474976710656:=by
      cases hx:getA (bytesOf s4) with
      |none=>decide
      |some x=>
        obtain⟨⟨k,i⟩,r⟩:=x;have:=congrArg List.length (getA_back (bytesOf_bytes s4) hx).2;rw [bytesOf_length,List.length_append]at this
        show (strOfNums r).size≤_
        rw [strOfNums_size];omega
    cases ok with
    |true=>exact Ev.pos rfl (j2_none hg _ hz _ ⟨e.kd,e.ro,e.sq,e.ti,e.six,e.n,e.ln,(actS (getA (bytesOf s4))).1,(actS (getA (bytesOf s4))).2.1,e.ifc,e.pe⟩ hn)
    |false=>exact Ev.neg (by decide) (j2_none hg _ hz _ ⟨e.kd,e.ro,e.sq,e.ti,e.six,e.n,e.ln,(actS (getA (bytesOf s4))).1,(actS (getA (bytesOf s4))).2.1,e.ifc,e.pe⟩ hn)
  · exact Ev.neg c3 (j2_none hg s4 h4 ok e hn)
theorem j0_none {s:ByteArray} (hg:getE (bytesOf s)=none) (b:Bool) (s4:ByteArray) (h4:s4.size≤281474976710656) (ok:Bool) (kd ro sq ti:Int):Ev (fun k=>spoorref11_Get.j0 k s b s4 ok kd ro sq ti false 0 0 0 0 0 0 0) (evS none):=by
  refine Ev.succ ?_;simp only[spoorref11_Get.j0];have h0:n128 0:=by unfold n128;decide
  cases b with
  |true=>
    refine Ev.pos rfl (Ev.bind (rgetprefix_ev s4 h4) ?_);cases hx:getP (bytesOf s4) with
    |none=>
      have z:=fun o=>j1_none hg (⟨#[]⟩:ByteArray) (by decide) o ⟨kd,ro,sq,ti,false,0,0,0,0,0,0⟩ h0
      simp only[show hi 0=0 from rfl,show lo 0=0 from rfl]at z;cases ok with
      |true=>exact Ev.pos rfl (z _)
      |false=>exact Ev.neg (by decide) (z _)
    |some x=>
      obtain⟨⟨six,n,ln⟩,r⟩:=x;have hb:=getP_back (bytesOf_bytes s4) hx;have hl:=congrArg List.length hb.2;rw [bytesOf_length,List.length_append]at hl;have z:=fun o=>j1_none hg (strOfNums r) (by rw [strOfNums_size];omega) o ⟨kd,ro,sq,ti,six,n,ln,0,0,0,0⟩ (pfx_lt (bytesOf_bytes s4) hx)
      cases ok with
      |true=>exact Ev.pos rfl (z _)
      |false=>exact Ev.neg (by decide) (z _)
  |false=>
    have z:=j1_none hg s4 h4 ok ⟨kd,ro,sq,ti,false,0,0,0,0,0,0⟩ h0;simp only[show hi 0=0 from rfl,show lo 0=0 from rfl]at z;exact Ev.neg (by decide) z
theorem rnum_put {m most:Int}{r:List Int} (ok:Bool) (h0:0≤m) (h1:m≤most) (h2:m<18446744073709551616) (hr:Bytes r) (hl:r.length≤1000):Ev (fun k=>spoorref11_reader_num.f k (strOfNums (putL m.toNat++r)) ok most) (m,strOfNums r,ok):=by
  have hb:Bytes (putL m.toNat++r):=(putL_bytes _).append hr;have hz:(strOfNums (putL m.toNat++r)).size≤281474976710656:=by have:=putL_len (n:=m.toNat) (by omega);rw [strOfNums_size,List.length_append];omega
  rcases rnum_cases _ hz ok (most:=most) with ⟨v,q,hq,h⟩|⟨hq,_⟩
  ·rw [bytes_str hb,rdN_put r h0 h1 h2]at hq;simp only[Option.some.injEq,Prod.mk.injEq]at hq;refine Ev.to h ?_;rw [hq.1,hq.2]
  ·rw [bytes_str hb,rdN_put r h0 h1 h2]at hq;cases hq
theorem get_none {s:ByteArray} (hs:s.size≤281474976710656) (hg:getE (bytesOf s)=none):Ev (fun k=>spoorref11_Get.f k s) (evS none):=by
  simp only[spoorref11_Get.f]
  match hl:bytesOf s with
  | []=>exact Ev.pos ((nil_iff s).2 hl) (Ev.now _)
  |kd :: l=>
    have hz:=size_of_bytes hl;simp only[List.length_cons]at hz;rw [bt0 hl];refine Ev.neg (fun h=>by rw [nil_iff,hl]at h;cases h) (Ev.pos (by omega) (Ev.pos (by omega) ?_))
    have step: ∀ (s1:ByteArray) (ok:Bool) (most:Int),s1.size≤281474976710656→ ∃ v s2 aa,Ev (fun k=>spoorref11_reader_num.f k s1 ok most) (v,s2,aa)∧s2.size≤281474976710656:=by
      intro s1 ok most h1;rcases rnum_cases s1 h1 ok (most:=most) with ⟨v,r,hr,h⟩|⟨_,h⟩
      ·have:=rdN_len hr;rw [bytesOf_length]at this;exact⟨v,strOfNums r,ok,h,by rw [strOfNums_size];omega⟩
      · exact⟨0,s1,false,h,h1⟩
    obtain⟨v1,s1,o1,e1,z1⟩:=step (s.extract 1 s.size) true 1048576 (by rw [str_from,hl,strOfNums_size];simp only[List.drop_succ_cons,List.drop_zero];omega);obtain⟨v2,s2,o2,e2,z2⟩:=step s1 o1 1099511627776 z1;obtain⟨v3,s3,o3,e3,z3⟩:=step s2 o2 1099511627776 z2;refine Ev.bind e1 (Ev.bind e2 (Ev.bind e3 ?_));by_cases c:kd=3
    · exact Ev.pos c (j0_none hg true s3 z3 o3 _ _ _ _)
    · exact Ev.neg c (j0_none hg _ s3 z3 o3 _ _ _ _)
theorem ok_n {e:E11} (h:okE e):n128 e.n:=by
  obtain⟨_,h⟩:=h;have hw:=wn_pow e.six;have h0:n128 0:=by unfold n128;decide
  rcases h with ⟨_,⟨_,h,_⟩,_⟩|⟨_,hp,_⟩|⟨_,hp,_⟩|⟨_,⟨_,h,_⟩,_⟩|⟨_,⟨_,h,_⟩,_⟩
  · rw [h];exact h0
  · exact Nat.lt_of_lt_of_le hp.2.2.1 hw
  · exact Nat.lt_of_lt_of_le hp.2.2.1 hw
  · rw [h];exact h0
  · rw [h];exact h0
theorem w64r {m:Int} (h0:0≤m) (h1:m≤1099511627776):wrap64 m=m:=w64 (by omega) (by omega)
theorem get_some {e:E11} (h:okE e):Ev (fun k=>spoorref11_Get.f k (strOfNums (bodyL e))) (evS (some e)):=by
  have hn:=ok_n h;have hb:=bodyL_bytes h;have ab:=bodyL_len h;have hl:bytesOf (strOfNums (bodyL e))=e.kd :: (putL e.ro.toNat++(putL e.sq.toNat++(putL e.ti.toNat++endL e))):=bytes_str hb;have hz:(strOfNums (bodyL e)).size=(bodyL e).length:=strOfNums_size _;have aa:(strOfNums (bodyL e)).extract 1 (strOfNums (bodyL e)).size=strOfNums (putL e.ro.toNat++(putL e.sq.toNat++(putL e.ti.toNat++endL e))):=by rw [str_from,hl];rfl
  have ac:=endL_len h;have A:=endL_bytes h;have ff:=fin_some h hn;obtain⟨⟨h1,h2,h3,h4,h5,h6⟩,hk⟩:=h;have g2:=putL_len (n:=e.sq.toNat) (by omega);have g3:=putL_len (n:=e.ti.toNat) (by omega);simp only[spoorref11_Get.f];rw [bt0 hl,aa];refine Ev.neg (fun h=>by rw [nil_iff,hl]at h;cases h) (Ev.pos (by omega) (Ev.pos (by omega) ?_));refine Ev.bind (rnum_put true h1 h2 (by omega) ((putL_bytes _).append ((putL_bytes _).append A)) (by rw [List.length_append,List.length_append];omega)) ?_;refine Ev.bind (rnum_put true (by omega) h4 (by omega) ((putL_bytes _).append A) (by rw [List.length_append];omega)) ?_;refine Ev.bind (rnum_put true h5 h6 (by omega) A (by omega)) ?_;rw [w64r h1 (by omega),w64r h5 h6];generalize strOfNums (bodyL e)=s at ff;have j2: ∀ r:ByteArray,e.kd≠5→e.kd≠6→Ev (fun k=>spoorref11_Get.j2 k s r true e.kd e.ro e.sq e.ti e.six (hi e.n) (lo e.n) e.ln e.ak e.ai e.ifc e.pe) (evS (some e)):=by intro r c5 c6;refine Ev.succ ?_;simp only[spoorref11_Get.j2];refine Ev.neg c5 (Ev.succ ?_);simp only[spoorref11_Get.j3];refine Ev.neg (by simpa using c6) (Ev.succ ?_);simp only[spoorref11_Get.j4];exact Ev.neg c5 (j5_of ff)
  obtain⟨kd,ro,sq,ti,six,n,ln,ak,ai,ae,pe⟩:=e;dsimp only at *;unfold endL;dsimp only;rcases hk with ⟨hk,⟨p1,p2,p3⟩,⟨p4,p5⟩,p6,p7⟩|⟨hk,hp,ha,p6,p7⟩|⟨hk,hp,⟨p4,p5⟩,p6,p7⟩|⟨hk,⟨p1,p2,p3⟩,⟨p4,p5⟩,hi,hp⟩|⟨hk,⟨p1,p2,p3⟩,⟨p4,p5⟩,hi,p7⟩ <;> (try dsimp only at *)
  ·subst p1 p2 p3 p4 p5 p6 p7;simp only[show hi 0=0 from rfl,show lo 0=0 from rfl]at j2;refine Ev.neg (by omega) (Ev.succ ?_);simp only[spoorref11_Get.j0];refine Ev.neg (by simp;omega) (Ev.succ ?_);simp only[spoorref11_Get.j1];exact Ev.neg (by omega) (j2 _ (by omega) (by omega))
  ·subst p6 p7;rw [if_pos hk];refine Ev.pos hk (Ev.succ ?_);simp only[spoorref11_Get.j0];have B:=actL_bytes ha;have l1:=preL_len hp;have l2:=actL_len ha;have q:=rgetprefix_ev (strOfNums (preL six n ln++actL ak ai)) (by rw [strOfNums_size,List.length_append];omega);rw [bytes_str ((preL_bytes hp).append B),getP_put _ hp]at q;refine Ev.pos trivial (Ev.bind q (Ev.pos trivial (Ev.succ ?_)));simp only[spoorref11_Get.j1];have q2:=rgetaction_ev (strOfNums (actL ak ai)) (by rw [strOfNums_size];omega);have e2:=getA_put [] ha;rw [List.append_nil]at e2;rw [bytes_str B,e2]at q2;exact Ev.pos hk (Ev.bind q2 (Ev.pos rfl (j2 _ (by omega) (by omega))))
  ·subst p4 p5 p6 p7;rw [if_neg (by omega),if_pos hk];refine Ev.neg (by omega) (Ev.succ ?_);simp only[spoorref11_Get.j0];have l1:=preL_len hp;have q:=rgetprefix_ev (strOfNums (preL six n ln)) (by rw [strOfNums_size];omega);have e1:=getP_put [] hp;rw [List.append_nil]at e1;rw [bytes_str (preL_bytes hp),e1]at q;refine Ev.pos (by simpa using hk) (Ev.bind q (Ev.pos trivial (Ev.succ ?_)));simp only[spoorref11_Get.j1];exact Ev.neg (by omega) (j2 _ (by omega) (by omega))
  ·subst p1 p2 p3 p4 p5;simp only[show Addr.hi 0=0 from rfl,show lo 0=0 from rfl]at ff;rw [if_neg (by omega),if_neg (by omega),if_pos hk];refine Ev.neg (by omega) (Ev.succ ?_);simp only[spoorref11_Get.j0];refine Ev.neg (by simp;omega) (Ev.succ ?_);simp only[spoorref11_Get.j1];refine Ev.neg (by omega) (Ev.succ ?_);simp only[spoorref11_Get.j2];refine Ev.pos hk (Ev.succ ?_);simp only[spoorref11_Get.j3];have l2:=putL_len (n:=pe.toNat) (by omega);refine Ev.pos trivial (Ev.bind (rnum_put true hi.1 hi.2 (by omega) (putL_bytes _) (by omega)) ?_);rw [w64r hi.1 (by omega)];refine Ev.succ ?_;simp only[spoorref11_Get.j4];have q:=rnum_put (r:= []) true hp.1 hp.2 (by omega) Bytes.nil (by simp);rw [List.append_nil]at q;refine Ev.pos hk (Ev.bind q ?_);rw [w64r hp.1 (by omega)];exact j5_of ff
  ·subst p1 p2 p3 p4 p5 p7;simp only[show Addr.hi 0=0 from rfl,show lo 0=0 from rfl]at ff;rw [if_neg (by omega),if_neg (by omega),if_neg (by omega),if_pos hk];refine Ev.neg (by omega) (Ev.succ ?_);simp only[spoorref11_Get.j0];refine Ev.neg (by simp;omega) (Ev.succ ?_);simp only[spoorref11_Get.j1];refine Ev.neg (by omega) (Ev.succ ?_);simp only[spoorref11_Get.j2];refine Ev.neg (by omega) (Ev.succ ?_);simp only[spoorref11_Get.j3];have q:=rnum_put (r:= []) true hi.1 hi.2 (by omega) Bytes.nil (by simp);rw [List.append_nil]at q;refine Ev.pos (by simpa using hk) (Ev.bind q ?_);rw [w64r hi.1 (by omega)];refine Ev.succ ?_;simp only[spoorref11_Get.j4];exact Ev.neg (by omega) (j5_of ff)
theorem rget_evn (s:ByteArray) (hs:s.size≤281474976710656):Ev (fun k=>spoorref11_Get.f k s) (evS (getE (bytesOf s))):=by
  cases hx:getE (bytesOf s) with
  |none=>exact get_none hs hx
  |some e=>
    obtain⟨ok,he⟩:=getE_back (bytesOf_bytes s) hx;have:=get_some ok;rw [← he,str_bytes]at this;exact this
end Go.Proofs.Ythkdfojmhloofaa.Msg
end
section
namespace Go.Proofs.Ythkdfojmhloofaa.Gram
set_option linter.unusedVariables false
open Go.RowKit Ythkdfojmhloofaa.Q YthkdfojmhloofaaW.PrintWords YthkdfojmhloofaaW.PrintLast Ythkdfojmhloofaa.Base Ythkdfojmhloofaa.Num Ythkdfojmhloofaa.Addr Ythkdfojmhloofaa.Msg Ythkdfojmhloofaa.Cut Ythkdfojmhloofaa.Stream Ythkdfojmhloofaa.Open
abbrev PieceS:=S24
theorem pcs_all {p:List Int} (hp:p≠ []) (aa: ∀ x∈p,x≠245):pcs p= [⟨2,⟨#[]⟩⟩]:=by
  have hf:=feed_bad p [] false hp aa;rw [List.append_nil]at hf;rw [pcs,hf];rfl
theorem pcs_bad {p:List Int} (hp:p≠ []) (aa: ∀ x∈p,x≠245) (m:List Int):pcs (p++245 :: m)=⟨2,⟨#[]⟩⟩ :: pcs (245 :: m):=by
  have hf:=feed_bad p (245 :: m) false hp aa;rw [pcs,hf,pcs_any];rfl
theorem pcs_two {m:List Int} (h:m.length<2):pcs (245 :: m)= []:=by rw [pcs,feed_two false m h]
theorem pcs_long (y z:Int) (r:List Int) {n:Nat} (hn:256 * y+z=(n:Int)) (h:n=0∨64<n):pcs (245 :: y :: z :: r)=⟨3,⟨#[]⟩⟩ :: (if r.length<n then [] else pcs (r.drop n)):=by
  have e:pcs (245 :: y :: z :: r)=⟨3,⟨#[]⟩⟩ :: (fdL [] false (256 * y+z) r).2:=by rw [pcs,feed_long false y z (by omega) r]
  rw [e]
  congr 1
  by_cases c:r.length<n;·rw [if_pos c];have h:=feed_skip [] false r [] (256 * y+z) (by omega);rw [List.append_nil]at h;rw [h];rfl
  ·rw [if_neg c];have h:=feed_skip [] false (r.take n) (r.drop n) (256 * y+z) (by rw [List.length_take];omega);rw [List.take_append_drop,List.length_take,show (256 * y+z - (min n r.length:Nat):Int)=0 by omega]at h;rw [h];rfl
theorem pcs_body (y z:Int) (r:List Int) {n:Nat} (hn:256 * y+z=(n:Int)) (h1:1≤n) (h2:n≤64) (hr:n≤r.length):pcs (245 :: y :: z :: r)=⟨1,strOfNums (r.take n)⟩ :: pcs (r.drop n):=by
  have h:=feed_message false y z (by omega) (by omega) (r.take n) (r.drop n) (by rw [List.length_take];omega);rw [List.take_append_drop]at h;rw [pcs,pcs,h]
theorem pcs_short (y z:Int) (r:List Int) {n:Nat} (hn:256 * y+z=(n:Int)) (h1:1≤n) (h2:n≤64) (hr:r.length<n):pcs (245 :: y :: z :: r)= []:=by
  rw [pcs,feed_short false y z (by omega) (by omega) r (by omega)]
theorem rscan (l:List Int) (hb:Bytes l) (hl:l.length≤1048576000) (A:List PieceS) (F:List PieceS) (n:Nat) (hn:n≤l.length) (B: ∀ j,j<n→rd l (j:Int)≠245) (hs:n=l.length∨(n<l.length∧rd l (n:Int)=245))
    (hF:Ev (fun k=>spoorref13_Pieces.j2 k (strOfNums l) A (n:Int)) F): ∀ (d i:Nat),n - i=d→i≤n→Ev (fun k=>spoorref13_Pieces.l1 k (strOfNums l) A (i:Int)) F
  |0,i,hd,hi=>by
    obtain rfl:i=n:=by omega
    refine Ev.succ ?_;simp only[spoorref13_Pieces.l1];rw [strOfNums_size];rcases hs with hs|⟨ab,aa⟩
    · exact Ev.neg (by omega) hF
    ·refine Ev.pos (by omega) (Ev.pos (by omega) (Ev.pos ?_ hF));rw [bt_str hb];exact aa
  |d+1,i,hd,hi=>by
    refine Ev.succ ?_;simp only[spoorref13_Pieces.l1];rw [strOfNums_size];refine Ev.pos (by omega) (Ev.pos (by omega) (Ev.neg ?_ ?_));·rw [bt_str hb];exact B i (by omega)
    ·rw [w64 (by omega) (by omega),show ((i:Int)+1)=((i+1:Nat):Int) by omega];exact rscan l hb hl A F n hn B hs hF d (i+1) (by omega) (by omega)
theorem rd_mem {l:List Int}{j:Nat} (h:j<l.length):rd l (j:Int)∈l:=by
  simp [rd,List.getD_eq_getElem?_getD,h]
theorem rpieces_l: ∀ (N:Nat) (l:List Int) (A:List PieceS),l.length≤N→Bytes l→l.length≤1048576000→A.length+l.length≤1048576000→Ev (fun k=>spoorref13_Pieces.l0 k (strOfNums l) A) (A++pcs l):=by
  intro N
  induction N with
  |zero=>
    intro l A h hb hl ho;obtain rfl:=List.length_eq_zero_iff.mp (Nat.le_zero.mp h);refine Ev.succ ?_;simp only[spoorref13_Pieces.l0];exact Ev.pos ((str_nil_iff []).2 rfl) (Ev.const (by rw [show pcs []= [] from rfl,List.append_nil]))
  |succ N ih=>
    intro l A h hb hl ho;refine Ev.succ ?_;simp only[spoorref13_Pieces.l0];by_cases hn:l= [];·subst hn;exact Ev.pos ((str_nil_iff []).2 rfl) (Ev.const (by rw [show pcs []= [] from rfl,List.append_nil]))
    refine Ev.neg (fun h=>hn ((str_nil_iff l).1 h)) ?_;have aa:=List.length_pos_iff.2 hn;rcases idx_spec hb with ⟨hi,B⟩|⟨p,m,rfl,B,hi⟩
    · refine rscan l hb hl A _ l.length (Nat.le_refl _) (fun j hj=>B _ (rd_mem hj)) (.inl rfl) ?_ l.length 0 (by omega) (Nat.zero_le _);refine Ev.succ ?_;simp only[spoorref13_Pieces.j2];rw [strOfNums_size];refine Ev.pos (by omega) (Ev.pos (by omega) (Ev.pos (by omega) (Ev.pos (by omega) ?_)));have e:(strOfNums l).extract (l.length:Int).toNat l.length=strOfNums []:=by have:=str_from (strOfNums l) l.length;rw [strOfNums_size,bytes_str hb,List.drop_length]at this;rw [Int.toNat_natCast];exact this
      rw [e,pcs_all hn B];have:=ih [] (A++ [⟨2,⟨#[]⟩⟩]) (Nat.zero_le _) Bytes.nil (by simp) (by simp;omega);rw [show pcs []= [] from rfl,List.append_nil]at this;exact this
    · simp only[List.length_append,List.length_cons]at h hl ho;by_cases hp:p= []
      · subst hp;rw [List.nil_append]at hb ⊢;refine rscan (245 :: m) hb (by simp;simp at hl;omega) A _ 0 (Nat.zero_le _) (fun j hj=>by omega) (.inr ⟨by simp,rfl⟩) ?_ 0 0 rfl (Nat.le_refl _);refine Ev.succ ?_;simp only[spoorref13_Pieces.j2];refine Ev.neg (by decide) ?_;rw [strOfNums_size]
        match m,hb,h,hl,ho with
        | [],_,_,_,_=>exact Ev.pos (by simp) (Ev.const (by rw [pcs_two (by simp),List.append_nil]))
        | [y],_,_,_,_=>exact Ev.pos (by simp) (Ev.const (by rw [pcs_two (by simp),List.append_nil]))
        |y :: z :: r,hb,h,hl,ho=>
          have hy:=hb.tail.head;have hz:=hb.tail.tail.head;have hr:=hb.tail.tail.tail;simp only[List.length_cons,List.length_nil]at h hl ho ⊢;refine Ev.neg (by omega) (Ev.pos (by omega) (Ev.pos (by omega) (Ev.pos (by omega) ?_)));have e1:bt (strOfNums (245 :: y :: z :: r)) 1=y:=bt_str hb 1;have e2:bt (strOfNums (245 :: y :: z :: r)) 2=z:=bt_str hb 2;have e3:(strOfNums (245 :: y :: z :: r)).extract 3 (r.length+1+1+1)=strOfNums r:=by have:=str_from (strOfNums (245 :: y :: z :: r)) 3;rw [strOfNums_size,bytes_str hb]at this;exact this
          obtain⟨n,C⟩: ∃ n:Nat,256 * y+z=(n:Int):=⟨(256 * y+z).toNat,by omega⟩;have e4:wrap64 (wrap64 (256 * wrap64 y)+wrap64 z)=(n:Int):=by rw [w64 (n:=y) (by omega) (by omega),w64 (n:=z) (by omega) (by omega),w64 (n:=256 * y) (by omega) (by omega),w64 (by omega) (by omega)];exact C
          rw [e1,e2,e3,e4];have D:(strOfNums r).extract ((n:Int)).toNat (strOfNums r).size=strOfNums (r.drop n):=by rw [Int.toNat_natCast,str_from,bytes_str hr]
          have tk:(strOfNums r).extract 0 ((n:Int)).toNat=strOfNums (r.take n):=by rw [Int.toNat_natCast,str_part,bytes_str hr,List.drop_zero]
          have E:(n=0∨64<n)→Ev (fun k=>spoorref13_Pieces.j3 k (strOfNums r) A (n:Int) true) (A++pcs (245 :: y :: z :: r)):=fun hc=>by
            refine Ev.succ ?_;simp only[spoorref13_Pieces.j3];refine Ev.pos trivial (Ev.pos (by omega) (Ev.succ ?_));simp only[spoorref13_Pieces.j4];rw [pcs_long y z r C hc,D,strOfNums_size];by_cases d:r.length<n;·rw [if_pos d];exact Ev.pos (by omega) (Ev.const rfl)
            · rw [if_neg d];refine Ev.neg (by omega) ?_;have fin:Ev (fun k=>spoorref13_Pieces.l0 k (strOfNums (r.drop n)) (A++ [⟨3,⟨#[]⟩⟩])) (A++⟨3,⟨#[]⟩⟩ :: pcs (r.drop n)):=by have:=ih (r.drop n) (A++ [⟨3,⟨#[]⟩⟩]) (by rw [List.length_drop];omega) (hr.drop n) (by rw [List.length_drop];omega) (by rw [List.length_drop];simp;omega);rw [List.append_assoc]at this;exact this
              rcases hc with hc|hc
              · exact Ev.neg (by omega) (Ev.pos (by omega) (Ev.pos (by omega) fin))
              · exact Ev.pos (by omega) (Ev.neg (by omega) (Ev.pos (by omega) (Ev.pos (by omega) fin)))
          by_cases c0:n=0
          · exact Ev.pos (by omega) (E (.inl c0))
          refine Ev.neg (by omega) ?_;by_cases c1:(n:Int) > 64;·rw [dT c1];exact E (.inr (by omega))
          rw [dF c1];refine Ev.succ ?_;simp only[spoorref13_Pieces.j3];refine Ev.neg (by simp) (Ev.succ ?_);simp only[spoorref13_Pieces.j4];rw [D,tk,strOfNums_size];by_cases d:r.length<n;·rw [pcs_short y z r C (by omega) (by omega) d,List.append_nil];exact Ev.pos (by omega) (Ev.const rfl)
          ·rw [pcs_body y z r C (by omega) (by omega) (by omega)];refine Ev.neg (by omega) (Ev.pos (by omega) (Ev.pos (by omega) (Ev.pos (by omega) (Ev.pos (by omega) (Ev.pos (by omega) ?_)))));have:=ih (r.drop n) (A++ [⟨1,strOfNums (r.take n)⟩]) (by rw [List.length_drop];omega) (hr.drop n) (by rw [List.length_drop];omega) (by rw [List.length_drop];simp;omega);rw [List.append_assoc]at this;exact this
      · have ab:=List.length_pos_iff.2 hp;refine rscan (p++245 :: m) hb (by simp;omega) A _ p.length (by simp) (fun j hj=>?_) (.inr ⟨by simp,?_⟩) ?_ p.length 0 (by omega) (Nat.zero_le _)
        · have e:rd (p++245 :: m) (j:Int)=rd p (j:Int):=by simp [rd,List.getD_eq_getElem?_getD,List.getElem?_append,hj]
          rw [e];exact B _ (rd_mem hj)
        · simp [rd,List.getD_eq_getElem?_getD]
        refine Ev.succ ?_;simp only[spoorref13_Pieces.j2];rw [strOfNums_size];simp only[List.length_append,List.length_cons];refine Ev.pos (by omega) (Ev.pos (by omega) (Ev.pos (by omega) (Ev.pos (by omega) ?_)));have e:(strOfNums (p++245 :: m)).extract (p.length:Int).toNat (p.length+(m.length+1))=strOfNums (245 :: m):=by have:=str_from (strOfNums (p++245 :: m)) p.length;rw [strOfNums_size,bytes_str hb,List.drop_left]at this;simp only[List.length_append,List.length_cons]at this;rw [Int.toNat_natCast];exact this
        rw [e,pcs_bad hp B];have:=ih (245 :: m) (A++ [⟨2,⟨#[]⟩⟩]) (by simp;omega) hb.right (by simp;omega) (by simp;omega);rw [List.append_assoc]at this;exact this
theorem rpieces_ev (l:List Int) (hb:Bytes l) (hl:l.length≤1048576000):Ev (fun k=>spoorref13_Pieces.f k (strOfNums l)) (pcs l):=by
  simp only[spoorref13_Pieces.f];exact rpieces_l l.length l [] (Nat.le_refl _) hb hl (by simpa using hl)
def ofG (p0 : Int) (p1 : ByteArray) : Int × Int × Int × Int × Bool × Int × Int × Int × Int × Int × Int × Int × Int × Int :=
  if p0 = 1 then (match getE (bytesOf p1) with
    | some e => (e.kd, e.ro, e.sq, e.ti, e.six, hi e.n, lo e.n, e.ln, e.ak, e.ai, e.ifc, e.pe, 0, 0)
    | none => (0, 0, 0, 0, false, 0, 0, 0, 0, 0, 0, 0, 2, 0))
  else if p0 = 2 then (if p1.toList = [] then (0, 0, 0, 0, false, 0, 0, 0, 0, 0, 0, 0, 7, 0) else (0, 0, 0, 0, false, 0, 0, 0, 0, 0, 0, 0, 0, 2))
  else if p0 = 3 then (if p1.toList = [] then (0, 0, 0, 0, false, 0, 0, 0, 0, 0, 0, 0, 11, 0) else (0, 0, 0, 0, false, 0, 0, 0, 0, 0, 0, 0, 0, 2))
  else (0, 0, 0, 0, false, 0, 0, 0, 0, 0, 0, 0, 0, 2)
theorem ofG_ev (p0:Int) (p1:ByteArray) (h:p1.size≤281474976710656):Ev (fun k=>gram_Of.f k p0 p1) (ofG p0 p1):=by
  simp only[gram_Of.f];by_cases h1:p0=1
  · have e : ofG p0 p1 = match getE (bytesOf p1) with
      | some e => (e.kd, e.ro, e.sq, e.ti, e.six, hi e.n, lo e.n, e.ln, e.ak, e.ai, e.ifc, e.pe, 0, 0)
      | none => (0, 0, 0, 0, false, 0, 0, 0, 0, 0, 0, 0, 2, 0) := if_pos h1
    rw [e];refine Ev.pos h1 (Ev.bind (get_evn p1 h) ?_)
    match getE (bytesOf p1) with
    |some e=>exact Ev.pos rfl (Ev.const rfl)
    |none=>exact Ev.neg (by decide) (Ev.const rfl)
  · refine Ev.neg h1 ?_;by_cases h2:p0=2
    · have e:ofG p0 p1=if p1.toList= [] then (0,0,0,0,false,0,0,0,0,0,0,0,7,0) else (0,0,0,0,false,0,0,0,0,0,0,0,0,2):=(if_neg h1).trans (if_pos h2)
      rw [e];refine Ev.pos h2 (Ev.succ ?_);simp only[gram_Of.j0];by_cases c:p1.toList= [];·refine Ev.to (q:=_) ?_ (if_pos c).symm;exact Ev.pos (by rw [c];rfl) (Ev.const rfl)
      ·refine Ev.to (q:=_) ?_ (if_neg c).symm;exact Ev.neg (by simpa using c) (Ev.neg (by omega) (Ev.const rfl))
    · refine Ev.neg h2 (Ev.succ ?_);simp only[gram_Of.j0];refine Ev.neg (by simp) ?_;by_cases h3:p0=3
      · have e:ofG p0 p1=if p1.toList= [] then (0,0,0,0,false,0,0,0,0,0,0,0,11,0) else (0,0,0,0,false,0,0,0,0,0,0,0,0,2):=(if_neg h1).trans ((if_neg h2).trans (if_pos h3))
        rw [e];refine Ev.pos h3 ?_;by_cases c:p1.toList= []
        · exact Ev.to (Ev.pos c (Ev.const rfl)) (if_pos c).symm
        · exact Ev.to (Ev.neg c (Ev.const rfl)) (if_neg c).symm
      ·have e:ofG p0 p1=(0,0,0,0,false,0,0,0,0,0,0,0,0,2):=(if_neg h1).trans ((if_neg h2).trans (if_neg h3));rw [e];exact Ev.neg h3 (Ev.const rfl)
theorem rofG_ev (p0:Int) (p1:ByteArray) (h:p1.size≤281474976710656):Ev (fun k=>spoorref13_Of.f k p0 p1) (ofG p0 p1):=by
  simp only[spoorref13_Of.f];by_cases h1:p0=1
  · have e : ofG p0 p1 = match getE (bytesOf p1) with
      | some e => (e.kd, e.ro, e.sq, e.ti, e.six, hi e.n, lo e.n, e.ln, e.ak, e.ai, e.ifc, e.pe, 0, 0)
      | none => (0, 0, 0, 0, false, 0, 0, 0, 0, 0, 0, 0, 2, 0) := if_pos h1
    rw [e];refine Ev.pos h1 (Ev.bind (rget_evn p1 h) ?_)
    match getE (bytesOf p1) with
    |some e=>exact Ev.pos rfl (Ev.const rfl)
    |none=>exact Ev.neg (by decide) (Ev.const rfl)
  · refine Ev.neg h1 ?_;by_cases h2:p0=2
    · have e:ofG p0 p1=if p1.toList= [] then (0,0,0,0,false,0,0,0,0,0,0,0,7,0) else (0,0,0,0,false,0,0,0,0,0,0,0,0,2):=(if_neg h1).trans (if_pos h2)
      rw [e];refine Ev.pos h2 ?_;by_cases c:p1.toList= []
      · exact Ev.to (Ev.pos c (Ev.const rfl)) (if_pos c).symm
      · exact Ev.to (Ev.neg c (Ev.const rfl)) (if_neg c).symm
    · refine Ev.neg h2 ?_;by_cases h3:p0=3
      · have e:ofG p0 p1=if p1.toList= [] then (0,0,0,0,false,0,0,0,0,0,0,0,11,0) else (0,0,0,0,false,0,0,0,0,0,0,0,0,2):=(if_neg h1).trans ((if_neg h2).trans (if_pos h3))
        rw [e];refine Ev.pos h3 ?_;by_cases c:p1.toList= []
        · exact Ev.to (Ev.pos c (Ev.const rfl)) (if_pos c).symm
        · exact Ev.to (Ev.neg c (Ev.const rfl)) (if_neg c).symm
      ·have e:ofG p0 p1=(0,0,0,0,false,0,0,0,0,0,0,0,0,2):=(if_neg h1).trans ((if_neg h2).trans (if_neg h3));rw [e];exact Ev.neg h3 (Ev.const rfl)
theorem ofG_good {p:PieceS} (h:Cut.Good p):ofG p.f0 p.f1=ofS p:=by
  unfold ofG ofS;rcases h with ⟨h1,h2,h3⟩|⟨h1|h1,h2⟩
  ·simp only[if_pos h1]<;>cases getE (bytesOf p.f1)<;>rfl
  · have n1: ¬ p.f0=1:=by omega
    have e0:p.f1.toList= []:=by rw [h2,Go.ByteArray.toList_eq]
    simp only[if_neg n1,if_pos h1,if_pos e0]
  · have n1: ¬ p.f0=1:=by omega
    have n2: ¬ p.f0=2:=by omega
    have e0:p.f1.toList= []:=by rw [h2,Go.ByteArray.toList_eq]
    simp only[if_neg n1,if_neg n2,if_pos h1,if_pos e0]
def gotS (p:PieceS):S38:=⟨⟨(ofS p).1,(ofS p).2.1,(ofS p).2.2.1,(ofS p).2.2.2.1,⟨(ofS p).2.2.2.2.1,⟨(ofS p).2.2.2.2.2.1,(ofS p).2.2.2.2.2.2.1⟩,(ofS p).2.2.2.2.2.2.2.1⟩,⟨(ofS p).2.2.2.2.2.2.2.2.1,(ofS p).2.2.2.2.2.2.2.2.2.1⟩,(ofS p).2.2.2.2.2.2.2.2.2.2.1,(ofS p).2.2.2.2.2.2.2.2.2.2.2.1⟩,(ofS p).2.2.2.2.2.2.2.2.2.2.2.2.1⟩
theorem gotS_is (p:PieceS):gotS p=gotOf p:=by
  unfold gotS gotOf ofS;by_cases h1:p.f0=1;·simp only[if_pos h1]<;>cases getE (bytesOf p.f1)<;>rfl
  · simp only[if_neg h1];by_cases h2:p.f0=2;·simp only[if_pos h2];rfl
    ·simp only[if_neg h2];rfl
theorem rdP {l:List PieceS}{i:Nat}{x:PieceS}{r:List PieceS} (h:l.drop i=x :: r):rd_T24 l (i:Int)=x:=by
  have e:l[i]? =some x:=by rw [← List.head?_drop,h];rfl
  simp [rd_T24,List.getD_eq_getElem?_getD,e]
theorem rgots_l (ps:List PieceS) (hg: ∀ p∈ps,Cut.Good p) (hl:ps.length≤1048576000): ∀ (r:List PieceS) (i:Nat) (A:List S38),ps.drop i=r→A.length≤i→Ev (fun k=>spoorref13_Gots.l0 k A ps (ps.length:Int) (i:Int)) (A++r.map gotOf)
  | [],i,A,hd,ho=>by
    have:ps.length≤i:=List.drop_eq_nil_iff.1 hd;refine Ev.succ ?_;simp only[spoorref13_Gots.l0];exact Ev.neg (by omega) (Ev.const (by simp))
  |p :: r,i,A,hd,ho=>by
    have ab:=dlt hd;have hp:=hg p (List.mem_of_mem_drop (i:=i) (by rw [hd];simp))
    have aa:p.f1.size≤281474976710656:=by
      rcases hp with ⟨_,_,h⟩|⟨_,h⟩
      · omega
      · rw [h];exact Nat.zero_le _
    have B:=rofG_ev p.f0 p.f1 aa;rw [ofG_good hp]at B;refine Ev.succ ?_;simp only[spoorref13_Gots.l0,rdP hd];refine Ev.pos (by omega) (Ev.pos (by omega) (Ev.pos (by omega) (Ev.bind B (Ev.pos (by omega) ?_))));rw [w64 (by omega) (by omega),show ((i:Int)+1)=((i+1:Nat):Int) by omega];have:=rgots_l ps hg hl r (i+1) (A++ [gotS p]) (dnext hd) (by simp;omega);rw [List.append_assoc,gotS_is]at this;rw [← gotS_is]at this;refine Ev.to this ?_;rw [gotS_is];rfl
theorem rgots_ev (l:List Int) (hb:Bytes l) (hl:l.length≤1048576000):Ev (fun k=>spoorref13_Gots.f k (strOfNums l)) ((pcs l).map gotOf):=by
  simp only[spoorref13_Gots.f];have hp:=pcs_few l;exact Ev.bind (rpieces_ev l hb hl) (rgots_l (pcs l) (pcs_good hb) (by omega) (pcs l) 0 [] rfl (Nat.le_refl _))
end Go.Proofs.Ythkdfojmhloofaa.Gram
end
section
namespace Go.Proofs.Ythkdfojmhloofaa.Pure
set_option linter.unusedVariables false
open Go.RowKit Ythkdfojmhloofaa.Q YthkdfojmhloofaaW.PrintWords YthkdfojmhloofaaW.PrintLast Ythkdfojmhloofaa.Base Ythkdfojmhloofaa.Num Ythkdfojmhloofaa.Addr Ythkdfojmhloofaa.Msg Ythkdfojmhloofaa.Cut Ythkdfojmhloofaa.Stream Ythkdfojmhloofaa.Gram Ythkdfojmhloofaa.Open
theorem lives_evR:Ev spoorlaw13_lives.f true:=Ev.of spoorlaw13_lives.mono (k:=200) (by decide+kernel)
theorem GramReadsUpto:spoorlaw13_GramReads.PureUpto:=by
  intro s p0 p1 h0 h1 hB;have aa:s.size+1=muStr s:=rfl;have ab:p1.size+1≤mu24 (⟨p0,p1⟩:S24):=by unfold mu24 muStr;dsimp only;omega
  have hs:s.size≤1048576:=by omega
  have hp:p1.size≤281474976710656:=by omega
  have hb:=bytesOf_bytes s;have hl:=bytesOf_length s;refine Ev.rounds (g:=fun k=>spoorlaw13_GramReads.f k s p0 p1) (r:=true) ?_;simp only[spoorlaw13_GramReads.f];have g1:=pieces_ev (bytesOf s) hb (by omega);have g2:=rpieces_ev (bytesOf s) hb (by omega);have g3:=gotsS_ev (bytesOf s) hb (by omega);have g4:=rgots_ev (bytesOf s) hb (by omega);rw [str_bytes]at g1 g2 g3 g4;have hf:=pcs_few (bytesOf s);refine Ev.bind (ofG_ev p0 p1 hp) (Ev.bind (rofG_ev p0 p1 hp) (Ev.bind lives_evR (Ev.pos rfl (Ev.bind g1 (Ev.bind g2 (Ev.bind (same12_ev _ (by omega)) (Ev.pos rfl (Ev.bind g3 (Ev.bind g4 (Ev.bind (same13_ev _ (by rw [List.length_map];omega)) (Ev.pos rfl (Ev.pos (by simp) (Ev.const (by simp))))))))))))))
end Go.Proofs.Ythkdfojmhloofaa.Pure
end
section
namespace Go.Proofs.Ythkdfojmhloofaa.gramReadsUpto
open Go.ChangeShapes Go.WideShapes Go.ChangeAt Go.RowKit Ythkdfojmhloofaa.Open Ythkdfojmhloofaa.Q
open Go.ChangeMaps (open_string shut_string)
set_option linter.unusedVariables false
theorem own:ownKnob Try.prog.godebug=none:=by kernel_rfl
theorem laidOut:laidOutB Try.prog=true:=by kernel_rfl
set_option maxRecDepth 100000 in
theorem contract (H:Type) (enc:TypeId × Value→H) (W:World) (base:Nat) (args:Array Value) (ds gs:List (DataW H)) (aa:List MemPlace)
    (A: ∀ (j:Nat) t v,Try.f3.params[j]? =some t→args[j]? =some v→Value.okWide Try.prog W .any base t v)
    (hW:DataW.Whole enc Try.prog Try.f3.params.toList Rows.gramReadsSpec.vars false W args.toList ds gs aa) (hk:Rows.uptoSmall H (ds++gs)=true):
    Calls Try.prog 3 args W fun e W'=> ∃ v,e= .returned v∧Rows.gramReadsSpec.post enc Try.prog Try.f3 false true false false W args v W':=by
  have hW':=hW;obtain⟨p,q,ab,hV,rfl,ah,aj⟩:=hW;have hA:DataW.TrodAll enc Try.prog W 0 (fun _=>true) true Try.f3.params.toList args.toList ds p:=ab;rw [Try.params3]at hA A;obtain⟨v0,al,d0,am,p0,q0,ap,rfl,rfl,h0,r0⟩:=trodAll_cons hA;obtain⟨v1,aq,d1,ar,p1,q1,rfl,rfl,rfl,h1,r1⟩:=trodAll_cons r0;obtain⟨rfl,rfl,rfl⟩:=trodAll_nil r1;obtain rfl:args= #[v0,v1]:=by cases args;simp_all
  obtain⟨rfl,rfl⟩:=trodVars_none hV;have k0:=h0;have ac: ∀ x∈p0,x.block<W.heap.size:=by obtain⟨m,hm⟩:=k0;exact DataW.trod_lt m _ _ _ hm
  obtain⟨au,ae⟩:=h0;obtain⟨b0,K0,o0,u0⟩:=(opens_string Try.underlying9) enc W _ _ _ _ _ ae;obtain rfl:v0= .string b0:=by obtain⟨x,rfl⟩:=okWide_string Try.underlying9 (A 0 9 v0 rfl rfl);exact (List.cons.inj (show [Value.string x]= [Value.string b0] from K0)).1
  have k1:=h1;have af: ∀ x∈p1,x.block<W.heap.size:=by obtain⟨m,hm⟩:=k1;exact DataW.trod_lt m _ _ _ hm
  obtain⟨av,ag⟩:=h1;obtain⟨b1,K1,o1,u1⟩:=opn24 enc W _ _ _ _ _ ag;have z1:=k24_open K1;obtain rfl:v1= .agg #[.int .u8 b1.f0,.string b1.f1]:=by obtain⟨x,rfl,_⟩:=okWide_struct Try.underlying24 (A 1 24 v1 rfl rfl);exact congrArg Value.agg (Array.toList_inj.mp (show x.toList= [.int .u8 b1.f0,.string b1.f1] from z1))
  have hB:muStr b0+mu24 b1≤1048576:=by have z:Rows.uptoBulkAll ([d0,d1]++ [])≤1048576:=of_decide_eq_true hk;simp only[List.append_nil,Rows.uptoBulkAll]at z;have m0:muStr b0≤Rows.uptoBulk d0:=u0;have m1:mu24 b1≤Rows.uptoBulk d1:=u1;omega
  obtain⟨k,h⟩:=Pure.GramReadsUpto b0 b1.f0 b1.f1 o0 o1 hB;refine (spoorlaw13_GramReads.calls k b0 b1.f0 b1.f1 true W  h).mono fun e W' ⟨he,hd⟩=>?_
  have B:=hd;subst he;exact⟨_,rfl,_,_,_, [],_, [],hW',trodAll_mk1 (shut_bool Try.underlying4 _),(trodAll_cons_mk (Below.trod laidOut (by kernel_rfl) (of_decide_eq_true (by kernel_rfl)) k0 B ac) (trodAll_cons_mk (Below.trod laidOut (by kernel_rfl) (of_decide_eq_true (by kernel_rfl)) k1 B af) trodAll_mk0)),rfl,B.frame _,fun h=>by cases h⟩
set_option maxRecDepth 100000 in
theorem lifted (os:Os) (aa:os.Started) (H:Type) (enc:TypeId × Value→H) (F:Stop.Interp):
    ReturnsInHanded {} Try.checked os 3 .any ((Rows.OpenSpec.upto Rows.gramReadsSpec).pre6 enc Try.prog Try.f3 Rows.gramReadsUptoRow.domain false) (((Rows.OpenSpec.upto Rows.gramReadsSpec).at F).post enc Try.prog Try.f3 false true false false):=by
  refine returnsInHanded_of_cond (C := Try.checked) (s := Rows.OpenSpec.upto Rows.gramReadsSpec) (k := Rows.uptoSmall) rfl own aa (by kernel_rfl) Try.func3
    (OpenSpec.witness (enc := enc) (C := Try.checked) (s := Rows.OpenSpec.upto Rows.gramReadsSpec) (k := Rows.uptoSmall) rfl false ⟨#[], #[.string ByteArray.empty, .agg #[.int .u8 0, .string ByteArray.empty]], []⟩ 8 (by kernel_rfl) (by kernel_rfl) (by kernel_rfl)
      (x := ([.lit (.string []), .agg [.lit (.int .u8 0), .lit (.string [])]], [], [])) (by kernel_rfl) rfl (by kernel_rfl)) ?_
  intro W base args ds gs ab ac hW _ hk _;exact contract H enc W base args ds gs ab ac hW hk
theorem over : Rows.gramReadsUptoRow.holds Try.pinned (Rows.OpenSpec.upto Rows.gramReadsSpec) :=
  OpenClaim.holds_of_cond 3 Try.f3 rfl rfl rfl rfl rfl rfl rfl ⟨rfl, rfl, rfl, rfl, rfl⟩ rfl rfl rfl rfl rfl (by kernel_rfl) Try.func3 (by kernel_rfl)
    (of_decide_eq_true (by kernel_rfl)) (by unfold Func.isWrapper; first | (rw [if_pos (by decide +kernel)]; kernel_rfl) | (rw [if_neg (by decide +kernel)]; exact ⟨rfl, rfl⟩))
    (fun os aa H enc _ F => lifted os aa H enc F)
theorem proved:Rows.GramReadsUptoSaid:=over
#print axioms proved
end Go.Proofs.Ythkdfojmhloofaa.gramReadsUpto
namespace Go.Proofs.Ythkdfojmhloofaa
theorem gramReadsUpto_holds:Rows.GramReadsUptoSaid:=gramReadsUpto.proved
end Go.Proofs.Ythkdfojmhloofaa
end
