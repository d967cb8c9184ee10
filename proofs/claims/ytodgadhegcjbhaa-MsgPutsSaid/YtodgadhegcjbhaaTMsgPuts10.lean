/- Any event is right or not, and has the body, and any bytes are the body of the event, that the document says, or none; for every event and text. -/
import Derived.Test.YtodgadhegcjbhaaRows
import Derived.WalkKit
import Derived.ProofKit
import Derived.OpenShut
import Derived.ShutString
import Derived.ChangeOld
import Derived.Below
import Derived.SizedLaws
import Derived.JoinedCond
import Derived.Test.YtodgadhegcjbhaaTMsgPuts9
section
namespace Go.Proofs.Ytodgadhegcjbhaa.Msg
set_option linter.unusedVariables false
open Go.RowKit Go.Proofs.YtodgadhegcjbhaaW.PrintWords Go.Proofs.YtodgadhegcjbhaaW.PrintLast Go.Proofs.YtodgadhegcjbhaaW.PrintMore Go.Proofs.Ytodgadhegcjbhaa.Base Go.Proofs.Ytodgadhegcjbhaa.Num Go.Proofs.Ytodgadhegcjbhaa.Addr Go.Proofs.Ytodgadhegcjbhaa.Be Go.Proofs.Ytodgadhegcjbhaa.Q
theorem rputev (e:E11) (hn:e.n<340282366920938463463374607431768211456):Ev (fun k=>spoorref11_Put.f k e.kd e.ro e.sq e.ti e.six (hi e.n) (lo e.n) e.ln e.ak e.ai e.ifc e.pe) (if okE e then (strOfNums (bodyL e),0) else ((⟨#[]⟩:ByteArray),2)):=by
  simp only[spoorref11_Put.f];refine Ev.bind (recheck_ev e hn) ?_;by_cases h:okE e
  · rw [if_pos h,if_pos h];have hlen:=bodyL_len h;obtain⟨⟨h1,h2,h3,h4,h5,h6⟩,h7⟩:=h;have g1:=putL_len (n:=e.ro.toNat) (by omega);have g2:=putL_len (n:=e.sq.toNat) (by omega);have g3:=putL_len (n:=e.ti.toNat) (by omega);refine Ev.pos rfl (Ev.bind (Ev.now _) (Ev.bind (rnum_ev h1 (by omega)) (Ev.pos (by rw [strOfNums_size,strOfNums_size];simp only[List.length_cons,List.length_nil];omega) (Ev.bind (rnum_ev' (by omega) (by omega)) ?_))));rw [← str_append];refine Ev.pos (by rw [strOfNums_size,strOfNums_size];simp only[List.length_append,List.length_cons,List.length_nil];omega) (Ev.bind (rnum_ev h5 (by omega)) ?_);rw [← str_append];refine Ev.pos (by rw [strOfNums_size,strOfNums_size];simp only[List.length_append,List.length_cons,List.length_nil];omega) ?_;rw [← str_append];have hl:([e.kd]++putL e.ro.toNat++putL e.sq.toNat++putL e.ti.toNat).length≤31:=by simp;omega
    have hb:bodyL e= [e.kd]++putL e.ro.toNat++putL e.sq.toNat++putL e.ti.toNat++endL e:=by unfold bodyL;simp
    rw [hb];generalize [e.kd]++putL e.ro.toNat++putL e.sq.toNat++putL e.ti.toNat=L at hl ⊢;have none3: ∀ (M:List Int),M.length≤100→e.kd≠5→e.kd≠6→Ev (fun k=>spoorref11_Put.j2 k (strOfNums M) e.kd e.ro e.sq e.ti e.six (hi e.n) (lo e.n) e.ln e.ak e.ai e.ifc e.pe) (strOfNums M,0):=by intro M hM c5 c6;refine Ev.succ ?_;simp only[spoorref11_Put.j2];refine Ev.neg c5 (Ev.succ ?_);simp only[spoorref11_Put.j3];exact Ev.neg (by simpa using c6) (Ev.neg c5 (Ev.now _))
    unfold endL;rcases h7 with ⟨hk,_⟩|⟨hk,hp,ha,_⟩|⟨hk,hp,_⟩|⟨hk,_,_,hi,hp⟩|⟨hk,_,_,hi,_⟩
    ·rw [if_neg (by omega),if_neg (by omega),if_neg (by omega),if_neg (by omega),List.append_nil];refine Ev.neg (by omega) (Ev.succ ?_);simp only[spoorref11_Put.j0];refine Ev.neg (by simp;omega) (Ev.succ ?_);simp only[spoorref11_Put.j1];exact Ev.neg (by omega) (none3 L (by omega) (by omega) (by omega))
    ·rw [if_pos hk];refine Ev.pos hk (Ev.succ ?_);simp only[spoorref11_Put.j0];have q:=rputprefix_ev e.six hn e.ln;rw [if_pos hp]at q;have l1:=preL_len hp;have l2:=actL_len ha;refine Ev.pos trivial (Ev.bind q (Ev.pos (by rw [strOfNums_size,strOfNums_size];omega) ?_));rw [← str_append];refine Ev.succ ?_;simp only[spoorref11_Put.j1];have q2:=rputaction_ev e.ak e.ai;rw [if_pos ha]at q2;refine Ev.pos hk (Ev.bind q2 (Ev.pos (by rw [strOfNums_size,strOfNums_size,List.length_append];omega) ?_));rw [← str_append,List.append_assoc];exact none3 _ (by rw [List.length_append,List.length_append];omega) (by omega) (by omega)
    ·rw [if_neg (by omega),if_pos hk];refine Ev.neg (by omega) (Ev.succ ?_);simp only[spoorref11_Put.j0];have q:=rputprefix_ev e.six hn e.ln;rw [if_pos hp]at q;have l1:=preL_len hp;refine Ev.pos (by simpa using hk) (Ev.bind q (Ev.pos (by rw [strOfNums_size,strOfNums_size];omega) ?_));rw [← str_append];refine Ev.succ ?_;simp only[spoorref11_Put.j1];exact Ev.neg (by omega) (none3 _ (by rw [List.length_append];omega) (by omega) (by omega))
    ·rw [if_neg (by omega),if_neg (by omega),if_pos hk];have l1:=putL_len (n:=e.ifc.toNat) (by omega);have l2:=putL_len (n:=e.pe.toNat) (by omega);refine Ev.neg (by omega) (Ev.succ ?_);simp only[spoorref11_Put.j0];refine Ev.neg (by simp;omega) (Ev.succ ?_);simp only[spoorref11_Put.j1];refine Ev.neg (by omega) (Ev.succ ?_);simp only[spoorref11_Put.j2];refine Ev.pos hk (Ev.succ ?_);simp only[spoorref11_Put.j3];refine Ev.pos trivial (Ev.bind (rnum_ev hi.1 (by omega)) (Ev.pos (by rw [strOfNums_size,strOfNums_size];omega) (Ev.pos hk (Ev.bind (rnum_ev hp.1 (by omega)) ?_))));rw [← str_append];refine Ev.pos (by rw [strOfNums_size,strOfNums_size,List.length_append];omega) (Ev.const ?_);rw [← str_append,List.append_assoc]
    ·rw [if_neg (by omega),if_neg (by omega),if_neg (by omega),if_pos hk];have l1:=putL_len (n:=e.ifc.toNat) (by omega);refine Ev.neg (by omega) (Ev.succ ?_);simp only[spoorref11_Put.j0];refine Ev.neg (by simp;omega) (Ev.succ ?_);simp only[spoorref11_Put.j1];refine Ev.neg (by omega) (Ev.succ ?_);simp only[spoorref11_Put.j2];refine Ev.neg (by omega) (Ev.succ ?_);simp only[spoorref11_Put.j3];refine Ev.pos (by simpa using hk) (Ev.bind (rnum_ev hi.1 (by omega)) (Ev.pos (by rw [strOfNums_size,strOfNums_size];omega) (Ev.neg (by omega) (Ev.const ?_))));rw [← str_append]
  ·rw [if_neg h,if_neg h];exact Ev.neg (by decide) (Ev.now _)
theorem nb_hi {l:List Int} (hb:Bytes l) (h:l.length=16):((nb (l.take 8):Nat):Int)=hi (nb l)∧((nb (l.drop 8):Nat):Int)=lo (nb l):=by
  have e:nb l=nb (l.take 8) * 18446744073709551616+nb (l.drop 8):=by have:=nb_append (l.take 8) (l.drop 8);rw [List.take_append_drop,List.length_drop,h]at this;exact this
  have hlt:=nb_lt (l.drop 8) (hb.drop 8);rw [List.length_drop,h]at hlt;have h2:nb (l.drop 8)<18446744073709551616:=hlt;unfold hi lo;rw [e];constructor <;> omega
theorem rgp_bad (s:ByteArray):Ev (fun k=>spoorref11_GetPrefix.j0 k s true) (preS none):=by
  refine Ev.succ ?_;simp only[spoorref11_GetPrefix.j0];exact Ev.pos trivial (Ev.now _)
theorem rgj1_bad (s:ByteArray) (x:Int) (six:Bool) (a b c:Int):Ev (fun k=>spoorref11_GetPrefix.j1 k s x true six a b c) (preS none):=by
  refine Ev.succ ?_;simp only[spoorref11_GetPrefix.j1];exact Ev.pos trivial (Ev.now _)
theorem rgetprefix_ev (s:ByteArray) (hs:s.size≤281474976710656):Ev (fun k=>spoorref11_GetPrefix.f k s) (preS (getP (bytesOf s))):=by
  simp only[spoorref11_GetPrefix.f]
  match hl:bytesOf s with
  | []=>
    have:=size_of_bytes hl;simp only[List.length_nil]at this;exact Ev.pos (by omega) (rgp_bad s)
  | [a]=>
    have:=size_of_bytes hl;simp only[List.length_cons,List.length_nil]at this;exact Ev.pos (by omega) (rgp_bad s)
  |a :: b :: l=>
    have hz:=size_of_bytes hl;simp only[List.length_cons]at hz;have hb:Bytes (a :: b :: l):=by rw [← hl];exact bytesOf_bytes s
    obtain⟨b0,b1⟩:=bt01 hl;have hbb:=hb.tail.head;rw [b0];refine Ev.neg (by omega) (Ev.pos (by omega) ?_);simp only[getP];by_cases c46:a=4∨a=6
    · have go:Ev (fun k=>spoorref11_GetPrefix.j0 k s false) (preS (if (a=4∨a=6)∧b≤ ↑(Wn (a==6))∧Kn b≤l.length∧okP (a==6) (preN (a==6) b l) b then some ((a==6,preN (a==6) b l,b),List.drop (Kn b) l) else none)):=by
        refine Ev.succ ?_;simp only[spoorref11_GetPrefix.j0];rw [b0,b1];refine Ev.neg (by decide) (Ev.pos (by omega) (Ev.pos (by omega) ?_));rw [rwide_is];simp only[Option.bind_some];generalize (a==6)=six;have e1:wrap64 b=b:=w64 (by omega) (by omega);rw [e1];by_cases c1:b > ((Wn six:Nat):Int);·rw [if_neg (fun h=>by have:=h.2.1;omega)];exact Ev.pos c1 (rgj1_bad _ _ _ _ _ _)
        refine Ev.neg c1 ?_;have hw:b≤((Wn six:Nat):Int):=by omega
        have hW:=Wn_le six;have hk:=kn_le hw;have hB:Bn six≤16:=by cases six <;> simp [Bn]
        rw [kn_tdiv hbb.1 (by omega),w64 (n:=2+(Kn b:Int)) (by omega) (by omega)];by_cases c2:(s.size:Int)<2+(Kn b:Int);·rw [decide_eq_true c2,if_neg (fun h=>by have:=h.2.2.1;omega)];exact rgj1_bad _ _ _ _ _ _
        rw [decide_eq_false c2];refine Ev.succ ?_;simp only[spoorref11_GetPrefix.j1];rw [w64 (n:=2+(Kn b:Int)) (by omega) (by omega)];refine Ev.neg (by decide) (Ev.pos (by omega) (Ev.pos (by omega) ?_));refine Ev.bind (Ev.const (rwide_is six)) ?_;have ew:wrap64 (wrap64 (Int.tdiv ((Wn six:Nat):Int) 8) - (Kn b:Int))=((Bn six - Kn b:Nat):Int):=by rw [bn_wn,Int.tdiv_eq_ediv_of_nonneg (by omega),w64 (n:=((8 * Bn six:Nat):Int) / 8) (by omega) (by omega),w64 (by omega) (by omega)];omega
        refine Ev.bind (Ev.const (by rw [ew];exact zeros_eq _ (by omega))) ?_;have ht:(2+(Kn b:Int)).toNat=2+Kn b:=by omega
        rw [ht]
        have hx:s.extract 2 (2+Kn b)=strOfNums (l.take (Kn b)):=by
          rw [str_part,hl]
          congr 1
          rw [show 2+Kn b=Kn b+1+1 by omega];simp only[List.take_succ_cons,List.drop_succ_cons,List.drop_zero]
        rw [hx, ← str_append];have hkl:Kn b≤l.length:=by omega
        have hbt:Bytes (l.take (Kn b)):=hb.tail.tail.take _;have hlen:(l.take (Kn b)++List.replicate (Bn six - Kn b) 0).length=Bn six:=by rw [List.length_append,List.length_take,List.length_replicate];omega
        have hbw:Bytes (l.take (Kn b)++List.replicate (Bn six - Kn b) 0):=hbt.append (bytes_zeros _);have hN:preN six b l=nb (l.take (Kn b)++List.replicate (Bn six - Kn b) 0):=rfl;have hNlt:=preN_lt hb.tail.tail hw hkl
        have hrest:s.extract (2+Kn b) s.size=strOfNums (l.drop (Kn b)):=by
          rw [str_from,hl]
          congr 1
          rw [show 2+Kn b=Kn b+1+1 by omega];simp only[List.drop_succ_cons]
        rw [hrest];refine Ev.pos (by rw [strOfNums_size,strOfNums_size,List.length_take,List.length_replicate];omega) ?_;cases six with
        |true=>
          have hl16:(l.take (Kn b)++List.replicate (Bn true - Kn b) 0).length=16:=hlen;generalize l.take (Kn b)++List.replicate (Bn true - Kn b) 0=W at hl16 hbw hN ⊢;obtain⟨f1,f2⟩:=nb_hi hbw hl16;refine Ev.pos rfl (Ev.pos (by rw [strOfNums_size,hl16];decide) ?_);have n1:=number_ev ((strOfNums W).extract 0 8) (by rw [str_part,bytes_str hbw,strOfNums_size,List.drop_zero,List.length_take];omega);have n2:=number_ev ((strOfNums W).extract 8 (strOfNums W).size) (by rw [str_from,bytes_str hbw,strOfNums_size,List.length_drop];omega);rw [bytes_extract,bytes_str hbw,List.drop_zero,f1]at n1;rw [bytes_from,bytes_str hbw,f2]at n2;rw [hN]at hNlt ⊢;have hc:=rcheck_ev true hNlt b;refine Ev.bind n1 (Ev.bind n2 ?_);by_cases ok:okP true (nb W) b;·rw [if_pos ok]at hc;rw [if_pos (show (a=4∨a=6)∧b≤((Wn true:Nat):Int)∧Kn b≤l.length∧okP true (nb W) b from ⟨c46,hw,hkl,ok⟩)];exact Ev.bind hc (Ev.pos rfl (Ev.pos (by omega) (Ev.now _)))
          ·rw [if_neg ok]at hc;rw [if_neg (show ¬ ((a=4∨a=6)∧b≤((Wn true:Nat):Int)∧Kn b≤l.length∧okP true (nb W) b) from fun h=>ok h.2.2.2)];exact Ev.bind hc (Ev.neg (by decide) (Ev.now _))
        |false=>
          have hl4:(l.take (Kn b)++List.replicate (Bn false - Kn b) 0).length=4:=hlen;generalize l.take (Kn b)++List.replicate (Bn false - Kn b) 0=W at hl4 hbw hN ⊢;refine Ev.neg (by decide) ?_;have n1:=number_ev (strOfNums W) (by rw [strOfNums_size];omega);rw [bytes_str hbw]at n1;have hlt:=nb_lt W hbw;rw [hl4]at hlt;have hlt4:nb W<4294967296:=hlt;have f1:((nb W:Nat):Int)=lo (nb W):=by unfold lo;omega
          have f2:(0:Int)=hi (nb W):=by unfold hi;omega
          rw [f1]at n1;rw [hN]at hNlt ⊢;have hc:=rcheck_ev false hNlt b;rw [← f2]at hc;refine Ev.bind n1 ?_;by_cases ok:okP false (nb W) b;·rw [if_pos ok]at hc;rw [if_pos (show (a=4∨a=6)∧b≤((Wn false:Nat):Int)∧Kn b≤l.length∧okP false (nb W) b from ⟨c46,hw,hkl,ok⟩)];refine Ev.bind hc (Ev.pos rfl (Ev.pos (by omega) (Ev.const ?_)));simp only[preS, ← f2]
          ·rw [if_neg ok]at hc;rw [if_neg (show ¬ ((a=4∨a=6)∧b≤((Wn false:Nat):Int)∧Kn b≤l.length∧okP false (nb W) b) from fun h=>ok h.2.2.2)];exact Ev.bind hc (Ev.neg (by decide) (Ev.now _))
      by_cases c4:a=4
      · exact Ev.pos c4 go
      · refine Ev.neg c4 ?_
        have : (a != 6) = false := by have : a = 6 := by omega
                                      rw [this]; rfl
        rw [this];exact go
    · rw [if_neg (fun h=>c46 h.1)];refine Ev.neg (by omega) ?_;have:(a !=6)=true:=by rw [bne_iff_ne];omega
      rw [this];exact rgp_bad s
theorem rgetaction_ev (s:ByteArray) (hs:s.size≤281474976710656):Ev (fun k=>spoorref11_GetAction.f k s) (actS (getA (bytesOf s))):=by
  simp only[spoorref11_GetAction.f]
  match hl:bytesOf s with
  | []=>exact Ev.pos ((nil_iff s).2 hl) (Ev.now _)
  |a :: l=>
    have hz:=size_of_bytes hl;simp only[List.length_cons]at hz;have hb:Bytes (a :: l):=by rw [← hl];exact bytesOf_bytes s
    have hsr:s.extract 1 s.size=strOfNums l:=by rw [str_from,hl];rfl
    rw [bt0 hl,hsr];refine Ev.neg (fun h=>by rw [nil_iff,hl]at h;cases h) (Ev.pos (by omega) (Ev.pos (by omega) ?_));simp only[getA];by_cases c1:a=1
    · refine Ev.pos c1 ?_;rw [if_pos c1];have hg:=rget_ev0 (strOfNums l) (by rw [strOfNums_size];omega);rw [bytes_str hb.tail]at hg;refine Ev.bind hg ?_;simp only[getR];have hv:=getL_val hb.tail;unfold rdN;by_cases g:(getL 0 0 l).2.2=0
      · refine Ev.pos g (Ev.succ ?_);simp only[spoorref11_GetAction.j0];by_cases g2:(getL 0 0 l).1≤65536;·have gg:(getL 0 0 l).2.2=0∧(getL 0 0 l).1≤65536:=⟨g,g2⟩;rw [if_pos gg];refine Ev.neg (by simp;omega) ?_;rw [racts_is,w64 (n:=(getL 0 0 l).1) (by omega) (by omega)];simp only[Option.bind_some];rw [c1];exact Ev.pos (decide_eq_true (.inl ⟨rfl,hv.1,g2⟩)) (Ev.now _)
        · have gg: ¬ ((getL 0 0 l).2.2=0∧(getL 0 0 l).1≤65536):=fun h=>g2 h.2
          rw [if_neg gg];exact Ev.pos (by simp;omega) (Ev.now _)
      · have gg: ¬ ((getL 0 0 l).2.2=0∧(getL 0 0 l).1≤65536):=fun h=>g h.1
        rw [if_neg gg];refine Ev.neg g (Ev.succ ?_);simp only[spoorref11_GetAction.j0];exact Ev.pos trivial (Ev.now _)
    · refine Ev.neg c1 ?_;rw [if_neg c1,racts_is];simp only[Option.bind_some];by_cases c2:a=2∨a=3;·rw [if_pos c2];exact Ev.pos (decide_eq_true (.inr ⟨c2,rfl⟩)) (Ev.now _)
      ·rw [if_neg c2];refine Ev.neg ?_ (Ev.now _);simp only[decide_eq_true_eq];unfold okA;omega
theorem rnum_cases (s:ByteArray) (hs:s.size≤281474976710656) (ok:Bool) {most:Int}:(∃ v r,rdN most (bytesOf s)=some (v,r)∧Ev (fun k=>spoorref11_reader_num.f k s ok most) (v,strOfNums r,ok))∨(rdN most (bytesOf s)=none∧Ev (fun k=>spoorref11_reader_num.f k s ok most) (0,s,false)):=by
  have hg:=rget_ev0 s hs;by_cases h:(getL 0 0 (bytesOf s)).2.2=0∧(getL 0 0 (bytesOf s)).1≤most;·refine .inl ⟨(getL 0 0 (bytesOf s)).1,(getL 0 0 (bytesOf s)).2.1,by unfold rdN;rw [if_pos h],?_⟩;simp only[spoorref11_reader_num.f];refine Ev.bind hg ?_;simp only[getR];exact Ev.pos h.1 (Ev.neg (by omega) (Ev.now _))
  · refine .inr ⟨by unfold rdN;rw [if_neg h],?_⟩;simp only[spoorref11_reader_num.f];refine Ev.bind hg ?_;simp only[getR];by_cases g:(getL 0 0 (bytesOf s)).2.2=0
    · exact Ev.pos g (Ev.pos (by omega) (Ev.now _))
    · exact Ev.neg g (Ev.now _)
end Go.Proofs.Ytodgadhegcjbhaa.Msg
end
section
namespace Go.Proofs.Ytodgadhegcjbhaa.Msg
set_option linter.unusedVariables false
open Go.RowKit Go.Proofs.YtodgadhegcjbhaaW.PrintWords Go.Proofs.YtodgadhegcjbhaaW.PrintLast Go.Proofs.YtodgadhegcjbhaaW.PrintMore Go.Proofs.Ytodgadhegcjbhaa.Base Go.Proofs.Ytodgadhegcjbhaa.Num Go.Proofs.Ytodgadhegcjbhaa.Addr Go.Proofs.Ytodgadhegcjbhaa.Be Go.Proofs.Ytodgadhegcjbhaa.Q
theorem toList_inj {a b:ByteArray} (h:a.toList=b.toList):a=b:=by
  rw [Go.ByteArray.toList_eq,Go.ByteArray.toList_eq]at h;exact ByteArray.ext (Array.toList_inj.mp h)
def n128 (n:Nat):Prop:=n<340282366920938463463374607431768211456
def finG (k : Nat) (s : ByteArray) (ok : Bool) (kd ro sq ti : Int) (six : Bool) (h l ln ak ai ifc pe : Int) : Option (Int × Int × Int × Int × Bool × Int × Int × Int × Int × Int × Int × Int × Int) :=
  (spoorref11_Put.f k kd ro sq ti six h l ln ak ai ifc pe).bind fun bt351 => (if ok = true then (if bt351.2 = 0 then (if bt351.1.toList = s.toList then (some (kd, ro, sq, ti, six, h, l, ln, ak, ai, ifc, pe, 0)) else (some (0, 0, 0, 0, false, 0, 0, 0, 0, 0, 0, 0, 7))) else (some (0, 0, 0, 0, false, 0, 0, 0, 0, 0, 0, 0, 7))) else (some (0, 0, 0, 0, false, 0, 0, 0, 0, 0, 0, 0, 7)))
theorem fin_none {s:ByteArray} (hg:getE (bytesOf s)=none) (ok:Bool) (e:E11) (hn:n128 e.n):Ev (fun k=>finG k s ok e.kd e.ro e.sq e.ti e.six (hi e.n) (lo e.n) e.ln e.ak e.ai e.ifc e.pe) (evS none):=by
  simp only[finG];have h:=rputev e hn;by_cases c:okE e
  · rw [if_pos c]at h;refine Ev.bind h ?_;have hne: ¬ (strOfNums (bodyL e)).toList=s.toList:=fun g=>by have:=toList_inj g;rw [← this,bytes_str (bodyL_bytes c),getE_body c]at hg;cases hg
    cases ok with
    |true=>exact Ev.pos rfl (Ev.pos rfl (Ev.neg hne (Ev.now _)))
    |false=>exact Ev.neg (by decide) (Ev.now _)
  · rw [if_neg c]at h;refine Ev.bind h ?_;cases ok with
    |true=>exact Ev.pos rfl (Ev.neg (by decide) (Ev.now _))
    |false=>exact Ev.neg (by decide) (Ev.now _)
theorem fin_some {e:E11} (c:okE e) (hn:n128 e.n):Ev (fun k=>finG k (strOfNums (bodyL e)) true e.kd e.ro e.sq e.ti e.six (hi e.n) (lo e.n) e.ln e.ak e.ai e.ifc e.pe) (evS (some e)):=by
  simp only[finG];have h:=rputev e hn;rw [if_pos c]at h;exact Ev.bind h (Ev.pos trivial (Ev.pos rfl (Ev.pos rfl (Ev.now _))))
theorem j4_none {s:ByteArray} (hg:getE (bytesOf s)=none) (s4:ByteArray) (h4:s4.size≤281474976710656) (ok:Bool) (e:E11) (hn:n128 e.n):Ev (fun k=>spoorref11_Get.j4 k s s4 ok e.kd e.ro e.sq e.ti e.six (hi e.n) (lo e.n) e.ln e.ak e.ai e.ifc e.pe) (evS none):=by
  refine Ev.succ ?_;simp only[spoorref11_Get.j4];by_cases c5:e.kd=5
  · refine Ev.pos c5 ?_;rcases rnum_cases s4 h4 ok (most:=1048576) with ⟨v,r,_,h⟩|⟨_,h⟩
    · exact Ev.bind h (fin_none hg ok ⟨e.kd,e.ro,e.sq,e.ti,e.six,e.n,e.ln,e.ak,e.ai,e.ifc,wrap64 v⟩ hn)
    · exact Ev.bind h (fin_none hg false ⟨e.kd,e.ro,e.sq,e.ti,e.six,e.n,e.ln,e.ak,e.ai,e.ifc,wrap64 0⟩ hn)
  · exact Ev.neg c5 (fin_none hg ok e hn)
theorem rdN_len {most v:Int}{l r:List Int} (h:rdN most l=some (v,r)):r.length≤l.length:=by
  unfold rdN at h
  split at h
  ·simp only[Option.some.injEq,Prod.mk.injEq]at h;rw [← h.2];exact getL_len l 0 0
  · cases h
theorem j3_none {s:ByteArray} (hg:getE (bytesOf s)=none) (b:Bool) (s4:ByteArray) (h4:s4.size≤281474976710656) (ok:Bool) (e:E11) (hn:n128 e.n):Ev (fun k=>spoorref11_Get.j3 k s b s4 ok e.kd e.ro e.sq e.ti e.six (hi e.n) (lo e.n) e.ln e.ak e.ai e.ifc e.pe) (evS none):=by
  refine Ev.succ ?_;simp only[spoorref11_Get.j3];cases b with
  |true=>
    refine Ev.pos rfl ?_;rcases rnum_cases s4 h4 ok (most:=65536) with ⟨v,r,hr,h⟩|⟨_,h⟩
    ·have:=rdN_len hr;rw [bytesOf_length]at this;exact Ev.bind h (j4_none hg (strOfNums r) (by rw [strOfNums_size];omega) ok ⟨e.kd,e.ro,e.sq,e.ti,e.six,e.n,e.ln,e.ak,e.ai,wrap64 v,e.pe⟩ hn)
    · exact Ev.bind h (j4_none hg s4 h4 false ⟨e.kd,e.ro,e.sq,e.ti,e.six,e.n,e.ln,e.ak,e.ai,wrap64 0,e.pe⟩ hn)
  |false=>exact Ev.neg (by decide) (j4_none hg s4 h4 ok e hn)
theorem j2_none {s:ByteArray} (hg:getE (bytesOf s)=none) (s4:ByteArray) (h4:s4.size≤281474976710656) (ok:Bool) (e:E11) (hn:n128 e.n):Ev (fun k=>spoorref11_Get.j2 k s s4 ok e.kd e.ro e.sq e.ti e.six (hi e.n) (lo e.n) e.ln e.ak e.ai e.ifc e.pe) (evS none):=by
  refine Ev.succ ?_;simp only[spoorref11_Get.j2];by_cases c5:e.kd=5
  · exact Ev.pos c5 (j3_none hg true s4 h4 ok e hn)
  · exact Ev.neg c5 (j3_none hg _ s4 h4 ok e hn)
theorem j1_none {s:ByteArray} (hg:getE (bytesOf s)=none) (s4:ByteArray) (h4:s4.size≤281474976710656) (ok:Bool) (e:E11) (hn:n128 e.n):Ev (fun k=>spoorref11_Get.j1 k s s4 ok e.kd e.ro e.sq e.ti e.six (hi e.n) (lo e.n) e.ln e.ak e.ai e.ifc e.pe) (evS none):=by
  refine Ev.succ ?_;simp only[spoorref11_Get.j1];by_cases c3:e.kd=3
  · refine Ev.pos c3 (Ev.bind (rgetaction_ev s4 h4) ?_)
    have hz:(actS (getA (bytesOf s4))).2.2.1.size≤281474976710656:=by
      cases hx:getA (bytesOf s4) with
      |none=>decide
      |some x=>
        obtain⟨⟨k,i⟩,r⟩:=x;have:=congrArg List.length (getA_back (bytesOf_bytes s4) hx).2;rw [bytesOf_length,List.length_append]at this
        show (strOfNums r).size≤_
        rw [strOfNums_size];omega
    cases ok with
    |true=>exact Ev.pos rfl (j2_none hg _ hz _ ⟨e.kd,e.ro,e.sq,e.ti,e.six,e.n,e.ln,(actS (getA (bytesOf s4))).1,(actS (getA (bytesOf s4))).2.1,e.ifc,e.pe⟩ hn)
    |false=>exact Ev.neg (by decide) (j2_none hg _ hz _ ⟨e.kd,e.ro,e.sq,e.ti,e.six,e.n,e.ln,(actS (getA (bytesOf s4))).1,(actS (getA (bytesOf s4))).2.1,e.ifc,e.pe⟩ hn)
  · exact Ev.neg c3 (j2_none hg s4 h4 ok e hn)
theorem j0_none {s:ByteArray} (hg:getE (bytesOf s)=none) (b:Bool) (s4:ByteArray) (h4:s4.size≤281474976710656) (ok:Bool) (kd ro sq ti:Int):Ev (fun k=>spoorref11_Get.j0 k s b s4 ok kd ro sq ti false 0 0 0 0 0 0 0) (evS none):=by
  refine Ev.succ ?_;simp only[spoorref11_Get.j0];have h0:n128 0:=by unfold n128;decide
  cases b with
  |true=>
    refine Ev.pos rfl (Ev.bind (rgetprefix_ev s4 h4) ?_);cases hx:getP (bytesOf s4) with
    |none=>
      have z:=fun o=>j1_none hg (⟨#[]⟩:ByteArray) (by decide) o ⟨kd,ro,sq,ti,false,0,0,0,0,0,0⟩ h0
      simp only[show hi 0=0 from rfl,show lo 0=0 from rfl]at z;cases ok with
      |true=>exact Ev.pos rfl (z _)
      |false=>exact Ev.neg (by decide) (z _)
    |some x=>
      obtain⟨⟨six,n,ln⟩,r⟩:=x;have hb:=getP_back (bytesOf_bytes s4) hx;have hl:=congrArg List.length hb.2;rw [bytesOf_length,List.length_append]at hl;have z:=fun o=>j1_none hg (strOfNums r) (by rw [strOfNums_size];omega) o ⟨kd,ro,sq,ti,six,n,ln,0,0,0,0⟩ (pfx_lt (bytesOf_bytes s4) hx)
      cases ok with
      |true=>exact Ev.pos rfl (z _)
      |false=>exact Ev.neg (by decide) (z _)
  |false=>
    have z:=j1_none hg s4 h4 ok ⟨kd,ro,sq,ti,false,0,0,0,0,0,0⟩ h0;simp only[show hi 0=0 from rfl,show lo 0=0 from rfl]at z;exact Ev.neg (by decide) z
theorem rnum_put {m most:Int}{r:List Int} (ok:Bool) (h0:0≤m) (h1:m≤most) (h2:m<18446744073709551616) (hr:Bytes r) (hl:r.length≤1000):Ev (fun k=>spoorref11_reader_num.f k (strOfNums (putL m.toNat++r)) ok most) (m,strOfNums r,ok):=by
  have hb:Bytes (putL m.toNat++r):=(putL_bytes _).append hr;have hz:(strOfNums (putL m.toNat++r)).size≤281474976710656:=by have:=putL_len (n:=m.toNat) (by omega);rw [strOfNums_size,List.length_append];omega
  rcases rnum_cases _ hz ok (most:=most) with ⟨v,q,hq,h⟩|⟨hq,_⟩
  ·rw [bytes_str hb,rdN_put r h0 h1 h2]at hq;simp only[Option.some.injEq,Prod.mk.injEq]at hq;refine Ev.to h ?_;rw [hq.1,hq.2]
  ·rw [bytes_str hb,rdN_put r h0 h1 h2]at hq;cases hq
theorem get_none {s:ByteArray} (hs:s.size≤281474976710656) (hg:getE (bytesOf s)=none):Ev (fun k=>spoorref11_Get.f k s) (evS none):=by
  simp only[spoorref11_Get.f]
  match hl:bytesOf s with
  | []=>exact Ev.pos ((nil_iff s).2 hl) (Ev.now _)
  |kd :: l=>
    have hz:=size_of_bytes hl;simp only[List.length_cons]at hz;rw [bt0 hl];refine Ev.neg (fun h=>by rw [nil_iff,hl]at h;cases h) (Ev.pos (by omega) (Ev.pos (by omega) ?_))
    have step: ∀ (s1:ByteArray) (ok:Bool) (most:Int),s1.size≤281474976710656→ ∃ v s2 ok2,Ev (fun k=>spoorref11_reader_num.f k s1 ok most) (v,s2,ok2)∧s2.size≤281474976710656:=by
      intro s1 ok most h1;rcases rnum_cases s1 h1 ok (most:=most) with ⟨v,r,hr,h⟩|⟨_,h⟩
      ·have:=rdN_len hr;rw [bytesOf_length]at this;exact⟨v,strOfNums r,ok,h,by rw [strOfNums_size];omega⟩
      · exact⟨0,s1,false,h,h1⟩
    obtain⟨v1,s1,o1,e1,z1⟩:=step (s.extract 1 s.size) true 1048576 (by rw [str_from,hl,strOfNums_size];simp only[List.drop_succ_cons,List.drop_zero];omega);obtain⟨v2,s2,o2,e2,z2⟩:=step s1 o1 1099511627776 z1;obtain⟨v3,s3,o3,e3,z3⟩:=step s2 o2 1099511627776 z2;refine Ev.bind e1 (Ev.bind e2 (Ev.bind e3 ?_));by_cases c:kd=3
    · exact Ev.pos c (j0_none hg true s3 z3 o3 _ _ _ _)
    · exact Ev.neg c (j0_none hg _ s3 z3 o3 _ _ _ _)
theorem ok_n {e:E11} (h:okE e):n128 e.n:=by
  obtain⟨_,h⟩:=h;have hw:=wn_pow e.six;have h0:n128 0:=by unfold n128;decide
  rcases h with ⟨_,⟨_,h,_⟩,_⟩|⟨_,hp,_⟩|⟨_,hp,_⟩|⟨_,⟨_,h,_⟩,_⟩|⟨_,⟨_,h,_⟩,_⟩
  · rw [h];exact h0
  · exact Nat.lt_of_lt_of_le hp.2.2.1 hw
  · exact Nat.lt_of_lt_of_le hp.2.2.1 hw
  · rw [h];exact h0
  · rw [h];exact h0
theorem w64r {m:Int} (h0:0≤m) (h1:m≤1099511627776):wrap64 m=m:=w64 (by omega) (by omega)
theorem get_some {e:E11} (h:okE e):Ev (fun k=>spoorref11_Get.f k (strOfNums (bodyL e))) (evS (some e)):=by
  have hn:=ok_n h;have hb:=bodyL_bytes h;have hlen:=bodyL_len h;have hl:bytesOf (strOfNums (bodyL e))=e.kd :: (putL e.ro.toNat++(putL e.sq.toNat++(putL e.ti.toNat++endL e))):=bytes_str hb;have hz:(strOfNums (bodyL e)).size=(bodyL e).length:=strOfNums_size _;have hsr:(strOfNums (bodyL e)).extract 1 (strOfNums (bodyL e)).size=strOfNums (putL e.ro.toNat++(putL e.sq.toNat++(putL e.ti.toNat++endL e))):=by rw [str_from,hl];rfl
  have hel:=endL_len h;have heb:=endL_bytes h;have ff:=fin_some h hn;obtain⟨⟨h1,h2,h3,h4,h5,h6⟩,hk⟩:=h;have g2:=putL_len (n:=e.sq.toNat) (by omega);have g3:=putL_len (n:=e.ti.toNat) (by omega);simp only[spoorref11_Get.f];rw [bt0 hl,hsr];refine Ev.neg (fun h=>by rw [nil_iff,hl]at h;cases h) (Ev.pos (by omega) (Ev.pos (by omega) ?_));refine Ev.bind (rnum_put true h1 h2 (by omega) ((putL_bytes _).append ((putL_bytes _).append heb)) (by rw [List.length_append,List.length_append];omega)) ?_;refine Ev.bind (rnum_put true (by omega) h4 (by omega) ((putL_bytes _).append heb) (by rw [List.length_append];omega)) ?_;refine Ev.bind (rnum_put true h5 h6 (by omega) heb (by omega)) ?_;rw [w64r h1 (by omega),w64r h5 h6];generalize strOfNums (bodyL e)=s at ff;have j2: ∀ r:ByteArray,e.kd≠5→e.kd≠6→Ev (fun k=>spoorref11_Get.j2 k s r true e.kd e.ro e.sq e.ti e.six (hi e.n) (lo e.n) e.ln e.ak e.ai e.ifc e.pe) (evS (some e)):=by intro r c5 c6;refine Ev.succ ?_;simp only[spoorref11_Get.j2];refine Ev.neg c5 (Ev.succ ?_);simp only[spoorref11_Get.j3];refine Ev.neg (by simpa using c6) (Ev.succ ?_);simp only[spoorref11_Get.j4];exact Ev.neg c5 ff
  obtain⟨kd,ro,sq,ti,six,n,ln,ak,ai,ifc,pe⟩:=e;dsimp only at *;unfold endL;dsimp only;rcases hk with ⟨hk,⟨p1,p2,p3⟩,⟨p4,p5⟩,p6,p7⟩|⟨hk,hp,ha,p6,p7⟩|⟨hk,hp,⟨p4,p5⟩,p6,p7⟩|⟨hk,⟨p1,p2,p3⟩,⟨p4,p5⟩,hi,hp⟩|⟨hk,⟨p1,p2,p3⟩,⟨p4,p5⟩,hi,p7⟩ <;> (try dsimp only at *)
  ·subst p1 p2 p3 p4 p5 p6 p7;simp only[show hi 0=0 from rfl,show lo 0=0 from rfl]at j2;refine Ev.neg (by omega) (Ev.succ ?_);simp only[spoorref11_Get.j0];refine Ev.neg (by simp;omega) (Ev.succ ?_);simp only[spoorref11_Get.j1];exact Ev.neg (by omega) (j2 _ (by omega) (by omega))
  ·subst p6 p7;rw [if_pos hk];refine Ev.pos hk (Ev.succ ?_);simp only[spoorref11_Get.j0];have hab:=actL_bytes ha;have l1:=preL_len hp;have l2:=actL_len ha;have q:=rgetprefix_ev (strOfNums (preL six n ln++actL ak ai)) (by rw [strOfNums_size,List.length_append];omega);rw [bytes_str ((preL_bytes hp).append hab),getP_put _ hp]at q;refine Ev.pos trivial (Ev.bind q (Ev.pos trivial (Ev.succ ?_)));simp only[spoorref11_Get.j1];have q2:=rgetaction_ev (strOfNums (actL ak ai)) (by rw [strOfNums_size];omega);have e2:=getA_put [] ha;rw [List.append_nil]at e2;rw [bytes_str hab,e2]at q2;exact Ev.pos hk (Ev.bind q2 (Ev.pos rfl (j2 _ (by omega) (by omega))))
  ·subst p4 p5 p6 p7;rw [if_neg (by omega),if_pos hk];refine Ev.neg (by omega) (Ev.succ ?_);simp only[spoorref11_Get.j0];have l1:=preL_len hp;have q:=rgetprefix_ev (strOfNums (preL six n ln)) (by rw [strOfNums_size];omega);have e1:=getP_put [] hp;rw [List.append_nil]at e1;rw [bytes_str (preL_bytes hp),e1]at q;refine Ev.pos (by simpa using hk) (Ev.bind q (Ev.pos trivial (Ev.succ ?_)));simp only[spoorref11_Get.j1];exact Ev.neg (by omega) (j2 _ (by omega) (by omega))
  ·subst p1 p2 p3 p4 p5;simp only[show Addr.hi 0=0 from rfl,show lo 0=0 from rfl]at ff;rw [if_neg (by omega),if_neg (by omega),if_pos hk];refine Ev.neg (by omega) (Ev.succ ?_);simp only[spoorref11_Get.j0];refine Ev.neg (by simp;omega) (Ev.succ ?_);simp only[spoorref11_Get.j1];refine Ev.neg (by omega) (Ev.succ ?_);simp only[spoorref11_Get.j2];refine Ev.pos hk (Ev.succ ?_);simp only[spoorref11_Get.j3];have l2:=putL_len (n:=pe.toNat) (by omega);refine Ev.pos trivial (Ev.bind (rnum_put true hi.1 hi.2 (by omega) (putL_bytes _) (by omega)) ?_);rw [w64r hi.1 (by omega)];refine Ev.succ ?_;simp only[spoorref11_Get.j4];have q:=rnum_put (r:= []) true hp.1 hp.2 (by omega) Bytes.nil (by simp);rw [List.append_nil]at q;refine Ev.pos hk (Ev.bind q ?_);rw [w64r hp.1 (by omega)];exact ff
  ·subst p1 p2 p3 p4 p5 p7;simp only[show Addr.hi 0=0 from rfl,show lo 0=0 from rfl]at ff;rw [if_neg (by omega),if_neg (by omega),if_neg (by omega),if_pos hk];refine Ev.neg (by omega) (Ev.succ ?_);simp only[spoorref11_Get.j0];refine Ev.neg (by simp;omega) (Ev.succ ?_);simp only[spoorref11_Get.j1];refine Ev.neg (by omega) (Ev.succ ?_);simp only[spoorref11_Get.j2];refine Ev.neg (by omega) (Ev.succ ?_);simp only[spoorref11_Get.j3];have q:=rnum_put (r:= []) true hi.1 hi.2 (by omega) Bytes.nil (by simp);rw [List.append_nil]at q;refine Ev.pos (by simpa using hk) (Ev.bind q ?_);rw [w64r hi.1 (by omega)];refine Ev.succ ?_;simp only[spoorref11_Get.j4];exact Ev.neg (by omega) ff
theorem rget_evn (s:ByteArray) (hs:s.size≤281474976710656):Ev (fun k=>spoorref11_Get.f k s) (evS (getE (bytesOf s))):=by
  cases hx:getE (bytesOf s) with
  |none=>exact get_none hs hx
  |some e=>
    obtain⟨ok,he⟩:=getE_back (bytesOf_bytes s) hx;have:=get_some ok;rw [← he,str_bytes]at this;exact this
end Go.Proofs.Ytodgadhegcjbhaa.Msg
end
section
namespace Go.Proofs.Ytodgadhegcjbhaa.Pure
set_option linter.unusedVariables false
open Go.RowKit Go.Proofs.Ytodgadhegcjbhaa.Q Go.Proofs.YtodgadhegcjbhaaW.PrintWords Go.Proofs.YtodgadhegcjbhaaW.PrintLast Go.Proofs.Ytodgadhegcjbhaa.Base Go.Proofs.Ytodgadhegcjbhaa.Num Go.Proofs.Ytodgadhegcjbhaa.Addr Go.Proofs.Ytodgadhegcjbhaa.Msg
theorem lives_ev:Ev spoorlaw11_lives.f true:=Ev.of spoorlaw11_lives.mono (k:=300) (by decide+kernel)
theorem MsgPuts:spoorlaw11_MsgPuts.Pure:=by
  intro kd ro sq ti six h l ln ak ai ifc pe s hw hs hz;obtain⟨_,_,w2,_,⟨_,⟨h1,h2⟩,_⟩,_⟩:=hw;obtain⟨n,hn,rfl,rfl⟩:=of_parts (wf_u64 h1).1 (wf_u64 h1).2 (wf_u64 h2).1 (wf_u64 h2).2;have hq:=(wf_u64 w2).1;refine Ev.rounds ?_;simp only[spoorlaw11_MsgPuts.f];have e1:=put_ev ⟨kd,ro,sq,ti,six,n,ln,ak,ai,ifc,pe⟩ hn hq;have e2:=rputev ⟨kd,ro,sq,ti,six,n,ln,ak,ai,ifc,pe⟩ hn;have e3:=echeck_ev ⟨kd,ro,sq,ti,six,n,ln,ak,ai,ifc,pe⟩ hn hq;have e4:=recheck_ev ⟨kd,ro,sq,ti,six,n,ln,ak,ai,ifc,pe⟩ hn;refine Ev.bind e1 (Ev.bind e2 (Ev.bind (get_evn s (by omega)) (Ev.bind (rget_evn s (by omega)) (Ev.bind lives_ev (Ev.pos rfl (Ev.bind e3 (Ev.bind e4 ?_)))))));refine Ev.pos rfl (Ev.pos rfl (Ev.pos rfl (Ev.pos (by simp) (Ev.const ?_))));rw [beq_self_eq_true]
end Go.Proofs.Ytodgadhegcjbhaa.Pure
end
section
namespace Go.Proofs.Ytodgadhegcjbhaa.msgPuts
open Go.ChangeShapes Go.WideShapes Go.ChangeAt Go.RowKit Go.Proofs.Ytodgadhegcjbhaa.Open Go.Proofs.Ytodgadhegcjbhaa.Q
open Go.ChangeMaps (open_string shut_string)
set_option linter.unusedVariables false
theorem own:ownKnob Try.prog.godebug=none:=by kernel_rfl
theorem laidOut:laidOutB Try.prog=true:=by kernel_rfl
set_option maxRecDepth 100000 in
theorem contract (H:Type) (enc:TypeId × Value→H) (W:World) (base:Nat) (args:Array Value) (ds gs:List (DataW H)) (before:List MemPlace)
    (hval: ∀ (j:Nat) t v,Try.f3.params[j]? =some t→args[j]? =some v→Value.okWide Try.prog W .any base t v)
    (hW:DataW.Whole enc Try.prog Try.f3.params.toList Rows.msgPutsSpec.vars false W args.toList ds gs before) (hsz0:(DataW.weightsEach Try.prog (Try.f3.params.toList++Rows.msgPutsSpec.plain.varTypes Try.prog) (ds++gs)).all (· ≤reachBytes)=true):
    Calls Try.prog 3 args W fun e W'=> ∃ v,e= .returned v∧Rows.msgPutsSpec.post enc Try.prog Try.f3 false true false false W args v W':=by
  have hW':=hW;obtain⟨p,q,hA0,hV,rfl,hfz,hnd⟩:=hW;have hA:DataW.TrodAll enc Try.prog W 0 (fun _=>true) true Try.f3.params.toList args.toList ds p:=hA0;have hsz:(DataW.weightsEach Try.prog (Try.f3.params.toList++Rows.msgPutsSpec.plain.varTypes Try.prog) (ds++gs)).all (· ≤reachBytes)=true:=hsz0;rw [Try.params3]at hA hval hsz;obtain⟨v0,vs0,d0,ds0,p0,q0,hargs,rfl,rfl,h0,r0⟩:=trodAll_cons hA;obtain⟨v1,vs1,d1,ds1,p1,q1,rfl,rfl,rfl,h1,r1⟩:=trodAll_cons r0;obtain⟨rfl,rfl,rfl⟩:=trodAll_nil r1;obtain rfl:args= #[v0,v1]:=by cases args;simp_all
  obtain⟨rfl,rfl⟩:=trodVars_none hV;have k0:=h0;have lt0: ∀ x∈p0,x.block<W.heap.size:=by obtain⟨m,hm⟩:=k0;exact DataW.trod_lt m _ _ _ hm
  obtain⟨fu0,hf0⟩:=h0;obtain⟨b0,K0,o0,u0⟩:=opn32 enc W _ _ _ _ _ hf0;have z0:=k32_open K0;obtain rfl:v0= .agg #[.int .u8 b0.f0,.int .i64 b0.f1,.int .u64 b0.f2,.int .i64 b0.f3,.bool b0.f4.f0,.int .u64 b0.f4.f1.f0,.int .u64 b0.f4.f1.f1,.int .i64 b0.f4.f2,.int .u8 b0.f5.f0,.int .i64 b0.f5.f1,.int .i64 b0.f6,.int .i64 b0.f7]:=by obtain⟨x,rfl,_⟩:=okWide_struct Try.underlying32 (hval 0 32 v0 rfl rfl);exact congrArg Value.agg (Array.toList_inj.mp (show x.toList= [.int .u8 b0.f0,.int .i64 b0.f1,.int .u64 b0.f2,.int .i64 b0.f3,.bool b0.f4.f0,.int .u64 b0.f4.f1.f0,.int .u64 b0.f4.f1.f1,.int .i64 b0.f4.f2,.int .u8 b0.f5.f0,.int .i64 b0.f5.f1,.int .i64 b0.f6,.int .i64 b0.f7] from z0))
  have k1:=h1;have lt1: ∀ x∈p1,x.block<W.heap.size:=by obtain⟨m,hm⟩:=k1;exact DataW.trod_lt m _ _ _ hm
  obtain⟨fu1,hf1⟩:=h1;obtain⟨b1,K1,o1,u1⟩:=(opens_string Try.underlying9) enc W _ _ _ _ _ hf1;obtain rfl:v1= .string b1:=by obtain⟨x,rfl⟩:=okWide_string Try.underlying9 (hval 1 9 v1 rfl rfl);exact (List.cons.inj (show [Value.string x]= [Value.string b1] from K1)).1
  have sz1:b1.size≤140737488351232:=sized_text hsz (j:=1) (t:=9) rfl rfl Try.underlying9 k1;obtain⟨k,h⟩:=Pure.MsgPuts b0.f0 b0.f1 b0.f2 b0.f3 b0.f4.f0 b0.f4.f1.f0 b0.f4.f1.f1 b0.f4.f2 b0.f5.f0 b0.f5.f1 b0.f6 b0.f7 b1 o0 o1 sz1;refine (spoorlaw11_MsgPuts.calls k b0.f0 b0.f1 b0.f2 b0.f3 b0.f4.f0 b0.f4.f1.f0 b0.f4.f1.f1 b0.f4.f2 b0.f5.f0 b0.f5.f1 b0.f6 b0.f7 b1 true W  h).mono fun e W' ⟨he,hd⟩=>?_
  have bel:=hd;subst he;exact⟨_,rfl,_,_,_, [],_, [],hW',trodAll_mk1 (shut_bool Try.underlying4 _),(trodAll_cons_mk (Below.trod laidOut (by kernel_rfl) (of_decide_eq_true (by kernel_rfl)) k0 bel lt0) (trodAll_cons_mk (Below.trod laidOut (by kernel_rfl) (of_decide_eq_true (by kernel_rfl)) k1 bel lt1) trodAll_mk0)),rfl,bel.frame _,fun h=>by cases h⟩
set_option maxRecDepth 100000 in
theorem lifted (os:Os) (started:os.Started) (H:Type) (enc:TypeId × Value→H):
    ReturnsInHanded {} Try.checked os 3 .any (Rows.msgPutsSpec.pre6 enc Try.prog Try.f3 Rows.msgPutsRow.domain false) (Rows.msgPutsSpec.post enc Try.prog Try.f3 false true false false):=by
  refine returnsInHanded_of_change_sized (C := Try.checked) own started (by kernel_rfl) Try.func3
    (ChangeSpec.witness6 (enc := enc) (C := Try.checked) false ⟨#[], #[.agg #[.int .u8 0, .int .i64 0, .int .u64 0, .int .i64 0, .bool false, .int .u64 0, .int .u64 0, .int .i64 0, .int .u8 0, .int .i64 0, .int .i64 0, .int .i64 0], .string ByteArray.empty], []⟩ 8 (by kernel_rfl) (by kernel_rfl) (by kernel_rfl) (by kernel_rfl)) ?_
  intro W base args ds gs before hval hW _ hsz _;exact contract H enc W base args ds gs before hval hW hsz
theorem over : Rows.msgPutsRow.holds Try.pinned (OpenSpec.ofChange Rows.msgPutsSpec) :=
  OpenClaim.holds_of_wide 3 Try.f3 rfl rfl rfl rfl rfl rfl rfl ⟨rfl, rfl, rfl, rfl, rfl⟩ rfl rfl rfl rfl rfl (by kernel_rfl) Try.func3 (by kernel_rfl)
    (of_decide_eq_true (by kernel_rfl)) (by unfold Func.isWrapper; first | (rw [if_pos (by decide +kernel)]; kernel_rfl) | (rw [if_neg (by decide +kernel)]; exact ⟨rfl, rfl⟩))
    (fun os started H enc _ => lifted os started H enc)
theorem proved:Rows.MsgPutsSaid:=over
#print axioms proved
end Go.Proofs.Ytodgadhegcjbhaa.msgPuts
namespace Go.Proofs.Ytodgadhegcjbhaa
theorem msgPuts_holds:Rows.MsgPutsSaid:=msgPuts.proved
end Go.Proofs.Ytodgadhegcjbhaa
end
