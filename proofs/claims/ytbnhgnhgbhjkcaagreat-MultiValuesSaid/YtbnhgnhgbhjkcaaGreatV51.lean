/- Lemmas. -/
import Derived.Test.YtbnhgnhgbhjkcaaGreatV50
import Derived.Test.YtbnhgnhgbhjkcaaGreatV47
import Derived.Test.YtbnhgnhgbhjkcaaGreatV48
import Derived.Test.YtbnhgnhgbhjkcaaGreatV25
set_option linter.defProp false
set_option linter.unusedSectionVars false
set_option linter.unusedSimpArgs false
set_option linter.unusedVariables false
namespace Go.Proofs.YtbnhgnhgbhjkcaaGreat.M
open Go.RowKit
set_option maxRecDepth 20000
set_option maxHeartbeats 1000000
theorem pL (A:List TypeId) (T U:Nat) (a b:List Int) (hla:a.length≤9223372036854775807) (hlb:b.length≤9223372036854775807):Con Tryz.prog A 52 [.list T 1 (a.map (D.int .i64)),.list U 1 (b.map (D.int .i64))] (.bool (decide (a=b))):=by
 refine Con.mono (A:=[]) ?_ (by simp);by_cases hl:a.length=b.length
 ·have hlI:(a.length:Int)=(b.length:Int):=by omega
  refine qY.con rfl (by simp) ?_;(repeat first|with_reducible refine kp [0,1,10] ?_|simp only[kV,simprocAttr,ab,ax,hlI,List.length_map]|refine aN ?_);refine ulk ?_;(repeat first|simp only[kV,simprocAttr,ab]|refine aN ?_);refine kp [0,1] ?_;(repeat first|simp only[kV,simprocAttr,ab]|refine aN ?_);refine kp [0,1,5] ?_;(repeat first|simp only[kV,simprocAttr,ab]|refine aN ?_);refine aE (ι:=Nat) (fun i=>i≤a.length∧∀k,k<i→a.getD k 0=b.getD k 0) (fun i=>⟨ai [(0,.p (.list T 1 (a.map (D.int .i64)))),(1,.p (.list U 1 (b.map (D.int .i64)))),(5,.p (.int .i64 i))],aw []⟩) (fun i=>a.length-i) 0 ⟨Nat.zero_le _,fun k hk=>by omega⟩ (Sub.toG [0,1,5] []) ?_;rintro i ⟨hi,he⟩;by_cases h:i<a.length
  ·have hI:(i:Int)<(a.length:Int):=by omega
   have hI2:(i:Int)<(b.length:Int):=by omega
   have hb:i<b.length:=by omega
   have g1:=dq h;have g2:=dq hb;(repeat first|with_reducible refine kp [0,1,5,14] ?_|simp only[kV,simprocAttr,ab,hI]|refine aN ?_);(try simp only[kV,simprocAttr,ab,hI,hI2,g1,g2,h,hb]);refine ulk ?_;(repeat first|with_reducible refine kp [0,1,5,25] ?_|simp only[kV,simprocAttr,ab,hI,hI2,g1,g2,h,hb]|refine aN ?_);by_cases hc:a.getD i 0=b.getD i 0
   ·refine⟨fun h1=>absurd h1 (by rw[hc];simp),fun _ => ?_⟩;(try simp only[kV,simprocAttr,ab]);refine ulk ?_;(repeat first|with_reducible refine kp [0,1,5] ?_|simp only[kV,simprocAttr,ab]|refine aN ?_);exact⟨i+1,⟨h,fun k hk=>by
     by_cases hki:k<i
     ·exact he k hki
     ·obtain rfl:k=i:=by omega
      exact hc⟩,(Sub.toG [0,1,5] []),by omega⟩
   ·refine⟨fun _ => ?_,fun h1=>absurd h1 (by rw[decide_eq_false hc];simp)⟩;have hne:a≠b:=fun e=>hc (by rw[e])
    rw[decide_eq_false hne];(try simp only[kV,simprocAttr,ab]);refine ulk ?_;(repeat first|with_reducible refine kp [4] ?_|simp only[kV,simprocAttr,ab,ac,ah,ae,af]|refine aN ?_)
  ·have hI:¬ (i:Int)<(a.length:Int):=by omega
   have heq:a=b:=oL hl fun k hk=>he k (by omega)
   rw[decide_eq_true heq];(repeat first|with_reducible refine kp [0,1,5,14] ?_|simp only[kV,simprocAttr,ab,hI]|refine aN ?_);refine ulk ?_;(repeat first|with_reducible refine kp [4] ?_|simp only[kV,simprocAttr,ab,ac,ah,ae,af,hI]|refine aN ?_)
 ·have hlI:¬ (a.length:Int)=(b.length:Int):=by omega
  have hne:a≠b:=fun e=>hl (by rw[e])
  rw[decide_eq_false hne];refine qY.con rfl (by simp) ?_;(repeat first|with_reducible refine kp [0,1,10] ?_|simp only[kV,simprocAttr,ab,ax,hlI,List.length_map]|refine aN ?_);refine ulk ?_;(repeat first|with_reducible refine kp [4] ?_|simp only[kV,simprocAttr,ab,ac,ah,ae,af]|refine aN ?_)
theorem wC {a b:List At} (hl:a.length=b.length) (h:∀k,k<a.length→at0 a k=at0 b k):a=b:=List.ext_getElem hl fun k h1 h2=>by
 have:=h k h1;unfold at0 at this
 rwa[List.getD_eq_getElem?_getD,List.getD_eq_getElem?_getD,List.getElem?_eq_getElem h1,List.getElem?_eq_getElem h2] at this
theorem pM (A:List TypeId) (T U T' U':Nat) (a b:List At) (hla:a.length≤9223372036854775807) (hlb:b.length≤9223372036854775807) (ea:∀t∈a,t.2.length≤9223372036854775807) (eb:∀t∈b,t.2.length≤9223372036854775807):Con Tryz.prog A 15 [LTa T U a,LTa T' U' b] (.bool (decide (a=b))):=by
 refine Con.mono (A:=[]) ?_ (by simp);by_cases hl:a.length=b.length
 ·have hlI:(a.length:Int)=(b.length:Int):=by omega
  refine re.con rfl (by simp) ?_;(repeat first|with_reducible refine kp [0,1,10] ?_|simp only[kV,simprocAttr,ab,ax,hlI,List.length_map]|refine aN ?_);refine ulk ?_;(repeat first|simp only[kV,simprocAttr,ab]|refine aN ?_);refine kp [0,1] ?_;(repeat first|simp only[kV,simprocAttr,ab]|refine aN ?_);refine kp [0,1,5] ?_;(repeat first|simp only[kV,simprocAttr,ab]|refine aN ?_);refine aE (ι:=Nat) (fun i=>i≤a.length∧∀k,k<i→at0 a k=at0 b k) (fun i=>⟨ai [(0,.p (LTa T U a)),(1,.p (LTa T' U' b)),(5,.p (.int .i64 i))],aw []⟩) (fun i=>a.length-i) 0 ⟨Nat.zero_le _,fun k hk=>by omega⟩ (Sub.toG [0,1,5] []) ?_;rintro i ⟨hi,he⟩;by_cases h:i<a.length
  ·have hI:(i:Int)<(a.length:Int):=by omega
   have hI2:(i:Int)<(b.length:Int):=by omega
   have hb:i<b.length:=by omega
   have g1:=gS (U:=U) h;have g2:=gS (U:=U') hb;have l1:=ea _ (fY h);have l2:=eb _ (fY hb);have hnx:at0 a i=at0 b i→∀k,k<i+1→at0 a k=at0 b k:=fun e k hk=>by
    by_cases hki:k<i
    ·exact he k hki
    ·obtain rfl:k=i:=by omega
     exact e
   have hne:at0 a i≠at0 b i→a≠b:=fun e e2=>e (by rw[e2])
   generalize at0 a i=x at *;generalize at0 b i=y at *;obtain⟨c,e⟩:=x;obtain⟨d,f⟩:=y;simp only at g1 g2 l1 l2;by_cases hc:c=d
   ·have cs:=pL [] U U' e f l1 l2;by_cases hf:e=f
    ·rw[decide_eq_true hf] at cs;(repeat first|with_reducible refine kp [0,1,5,14] ?_|simp only[kV,simprocAttr,ab,hI]|refine aN ?_);(try simp only[kV,simprocAttr,ab,hI,hI2,g1,g2,h,hb,hc]);refine ulk ?_;(repeat first|with_reducible refine kp [0,1,5] ?_|simp only[kV,simprocAttr,ab,hI,hI2,g1,g2,h,hb,hc]|refine aN ?_);refine⟨_,cx (cs),ulc ?_⟩;(repeat first|with_reducible refine kp [0,1,5,41] ?_|simp only[kV,simprocAttr,ab,hc]|refine aN ?_);refine ulk ?_;(repeat first|with_reducible refine kp [0,1,5] ?_|simp only[kV,simprocAttr,ab]|refine aN ?_);exact⟨i+1,⟨h,hnx (by rw[hc,hf])⟩,(Sub.toG [0,1,5] []),by omega⟩
    ·rw[decide_eq_false hf] at cs;rw[decide_eq_false (hne fun e=>hf (congrArg Prod.snd e))];(repeat first|with_reducible refine kp [0,1,5,14] ?_|simp only[kV,simprocAttr,ab,hI]|refine aN ?_);(try simp only[kV,simprocAttr,ab,hI,hI2,g1,g2,h,hb,hc]);refine ulk ?_;(repeat first|with_reducible refine kp [0,1,5] ?_|simp only[kV,simprocAttr,ab,hI,hI2,g1,g2,h,hb,hc]|refine aN ?_);refine⟨_,cx (cs),ulc ?_⟩;(repeat first|with_reducible refine kp [0,1,5,41] ?_|simp only[kV,simprocAttr,ab,hc]|refine aN ?_);refine ulk ?_;(repeat first|with_reducible refine kp [4] ?_|simp only[kV,simprocAttr,ab,ac,ah,ae,af]|refine aN ?_)
   ·rw[decide_eq_false (hne fun e=>hc (congrArg Prod.fst e))];(repeat first|with_reducible refine kp [0,1,5,14] ?_|simp only[kV,simprocAttr,ab,hI]|refine aN ?_);(try simp only[kV,simprocAttr,ab,hI,hI2,g1,g2,h,hb,hc]);refine ulk ?_;(repeat first|with_reducible refine kp [0,1,5] ?_|simp only[kV,simprocAttr,ab,hI,hI2,g1,g2,h,hb,hc]|refine aN ?_);refine ulc ?_;(repeat first|with_reducible refine kp [0,1,5,41] ?_|simp only[kV,simprocAttr,ab,hc]|refine aN ?_);refine ulk ?_;(repeat first|with_reducible refine kp [4] ?_|simp only[kV,simprocAttr,ab,ac,ah,ae,af]|refine aN ?_)
  ·have hI:¬ (i:Int)<(a.length:Int):=by omega
   have heq:a=b:=wC hl fun k hk=>he k (by omega)
   rw[decide_eq_true heq];(repeat first|with_reducible refine kp [0,1,5,14] ?_|simp only[kV,simprocAttr,ab,hI]|refine aN ?_);refine ulk ?_;(repeat first|with_reducible refine kp [4] ?_|simp only[kV,simprocAttr,ab,ac,ah,ae,af,hI]|refine aN ?_)
 ·have hlI:¬ (a.length:Int)=(b.length:Int):=by omega
  have hne:a≠b:=fun e=>hl (by rw[e])
  rw[decide_eq_false hne];refine re.con rfl (by simp) ?_;(repeat first|with_reducible refine kp [0,1,10] ?_|simp only[kV,simprocAttr,ab,ax,hlI,List.length_map]|refine aN ?_);refine ulk ?_;(repeat first|with_reducible refine kp [4] ?_|simp only[kV,simprocAttr,ab,ac,ah,ae,af]|refine aN ?_)
def lenC (l:List At):Nat:=(l.map fun t=>t.1.length).sum
theorem pN {l:List At}{i:Nat} (h:i<l.length):lenC (l.take (i+1))=lenC (l.take i)+(at0 l i).1.length:=by
 unfold lenC;rw[uW h,List.map_append,List.sum_append];simp
theorem pO {l:List At}{k:Nat} (h:∀t∈l,t.1.length≤k):∀i,i≤l.length→lenC (l.take i)≤i*k
 |0,_=>by simp[lenC]
 |i+1,hi=>by
  have:=pO h i (by omega);have h2:=h _ (fY (i:=i) (by omega));rw[pN (by omega),Nat.succ_mul];omega
def g8 (l:List At) (m:Nat):Bool:=decide (m<l.length)||decide (20*m<lenC l)
theorem wD (A:List TypeId) (T U:Nat) (l:List At) (m:Nat) (hm:m≤1000) (hl:l.length≤1000) (hs:∀t∈l,t.1.length≤140737488355328):Con Tryz.prog A 16 [LTa T U l,.int .i64 m] (.bool (g8 l m)):=by
 refine Con.mono (A:=[]) ?_ (by simp);have hle:=pO hs;refine PU.con rfl (by simp) ?_;(repeat first|simp only[kV,simprocAttr,ab,ax]|refine aN ?_);refine kp [0,1] ?_;(repeat first|simp only[kV,simprocAttr,ab,ax]|refine aN ?_);refine kp [0,1,5] ?_;(repeat first|simp only[kV,simprocAttr,ab,ax]|refine aN ?_);refine kp [0,1,5,6] ?_;(repeat first|simp only[kV,simprocAttr,ab,ax]|refine aN ?_);refine aE (ι:=Nat) (fun i=>i≤l.length) (fun i=>⟨ai [(0,.p (LTa T U l)),(1,.p (.int .i64 m)),(5,.p (.int .i64 (lenC (l.take i)))),(6,.p (.int .i64 i))],aw []⟩) (fun i=>l.length-i) 0 (Nat.zero_le _) (Sub.toG [0,1,5,6] []) ?_;intro i hi;by_cases h:i<l.length
 ·have hI:(i:Int)<(l.length:Int):=by omega
  have g1:=gS (U:=U) h;have hst:=pN h;have b1:=hle (i+1) h;have e1:((lenC (l.take i):Nat):Int)+((at0 l i).1.length:Int)=((lenC (l.take (i+1)):Nat):Int):=by omega
  have b2:lenC (l.take (i+1))≤9000000000000000000:=Nat.le_trans (Nat.le_trans b1 (Nat.mul_le_mul_right _ (show i+1≤1000 by clear b1;omega))) (by decide);clear b1;(repeat first|with_reducible refine kp [0,1,5,6,10] ?_|simp only[kV,simprocAttr,ab,hI]|refine aN ?_);(try simp only[kV,simprocAttr,ab,hI,g1,h,e1]);refine ulk ?_;(repeat first|with_reducible refine kp [0,1,5,6] ?_|simp only[kV,simprocAttr,ab,hI,g1,h,e1]|refine aN ?_);exact⟨i+1,h,(Sub.toG [0,1,5,6] []),by omega⟩
 ·have hI:¬ (i:Int)<(l.length:Int):=by omega
  obtain rfl:i=l.length:=by omega
  rw[List.take_length];unfold g8;by_cases hv:m<l.length
  ·have hvI:(m:Int)<(l.length:Int):=by omega
   rw[decide_eq_true hv,Bool.true_or];(repeat first|with_reducible refine kp [0,1,5,6,10] ?_|simp only[kV,simprocAttr,ab,hI]|refine aN ?_);(try simp only[kV,simprocAttr,ab,hI,hvI]);refine ulk ?_;(repeat first|with_reducible refine kp [0,1,4,5] ?_|simp only[kV,simprocAttr,ab,ac,ah,ae,af,hI,hvI]|refine aN ?_)
  ·have hvI:¬ (m:Int)<(l.length:Int):=by omega
   rw[decide_eq_false hv,Bool.false_or];have e2:((20:Int)*(m:Int)<((lenC l:Nat):Int))=(20*m<lenC l):=propext (by omega);have b3:20*m≤20000:=by omega
   (repeat first|with_reducible refine kp [0,1,5,6,10] ?_|simp only[kV,simprocAttr,ab,hI]|refine aN ?_);(try simp only[kV,simprocAttr,ab,hI,hvI,e2]);refine ulk ?_;(repeat first|with_reducible refine kp [0,1,4,5] ?_|simp only[kV,simprocAttr,ab,ac,ah,ae,af,hI,hvI,e2]|refine aN ?_)
end Go.Proofs.YtbnhgnhgbhjkcaaGreat.M
namespace Go.Proofs.YtbnhgnhgbhjkcaaGreat.Mp
theorem Sf_pad (f:Mo→Rat) (k:Nat):∀l:TL,Sf f (l.map (padT k))=Sf (fun e=>f (pad k e)) l
 |[]=>rfl
 |x::l=>by rw[List.map_cons,Sf,Sf,Sf_pad f k l];rfl
theorem cf_pad {l m:TL} (k:Nat) (h:∀e,cf l e=cf m e) (e:Mo):cf (l.map (padT k)) e=cf (m.map (padT k)) e:=by
 unfold cf;rw[Sf_pad,Sf_pad,Sf_eq _ h]
theorem vA {x:Rat×Mo}:∀{l a:TL},x∈growL a l→(∃y∈a,y.2=x.2)∨∃y∈l,y.2=x.2
 |[],a,h => .inl ⟨x,h,rfl⟩
 |t::l,a,h=>by
  rcases vA (l:=l) (a:=grow a t) h with⟨y,hy,e⟩ | ⟨y,hy,e⟩
  ·rcases j6 hy with e2 | hy
   ·exact .inr ⟨t,List.mem_cons_self,by rw[←e2,e]⟩
   ·exact .inl ⟨y,hy,e⟩
  ·exact .inr ⟨y,List.mem_cons_of_mem _ hy,e⟩
def Ex (a b:Int) (l:TL):Prop:=∀x∈l,∀e∈x.2,a≤e∧e≤b
theorem Ex.growL {a b:Int}{l m:TL} (h:Ex a b l) (k:Ex a b m):Ex a b (growL l m):=fun x hx=>by
 rcases vA hx with⟨y,hy,e⟩ | ⟨y,hy,e⟩
 ·rw[←e];exact h y hy
 ·rw[←e];exact k y hy
theorem Ex.nil {a b:Int}:Ex a b []:=fun x hx=>by cases hx
theorem Ex.mono {a b c d:Int}{l:TL} (h:Ex a b l) (h1:c≤a) (h2:b≤d):Ex c d l:=fun x hx e he=>by
 have:=h x hx e he;omega
end Go.Proofs.YtbnhgnhgbhjkcaaGreat.Mp
namespace Go.Proofs.YtbnhgnhgbhjkcaaGreat.M
open Go.RowKit
theorem lW {e:List Int}{n k:Nat} (h:e.length=n) (hk:n+k=4):moL (rdE e)=Mp.pad k e:=by
 subst h
 match e,hk with
 |[],hk =>
       obtain rfl:k=4:=by simpa using hk
       rfl
 |[a],hk =>
        obtain rfl:k=3:=by simp at hk;omega
        rfl
 |[a,b],hk =>
         obtain rfl:k=2:=by simp at hk;omega
         rfl
 |[a,b,c],hk =>
           obtain rfl:k=1:=by simp at hk;omega
           rfl
 |[a,b,c,d],hk =>
            obtain rfl:k=0:=by simp at hk;omega
            rfl
 |_::_::_::_::_::_,hk=>simp at hk;omega
theorem zdP {x:Zm}{n k:Nat} (h:x.2.length=n) (hk:n+k=4):ofM (Mp.padT k x)=(x.1,rdE x.2):=by
 have e:rdE (Mp.pad k x.2)=rdE x.2:=by
  have h1:=lW (e:=Mp.pad k x.2) (n:=4) (k:=0) (by unfold Mp.pad;simp[h,hk]) (by omega);have h2:=lW h hk;have h3:Mp.pad 0 (Mp.pad k x.2)=Mp.pad k x.2:=by unfold Mp.pad;simp
  exact jw (by rw[h1,h2,h3])
 show ((x.1,rdE (Mp.pad k x.2)):Tm)=_
 rw[e]
theorem zdQ {l:List At}{n k:Nat} (h:∀t∈l,t.2.length=n) (hk:n+k=4):tl (rdL l)=(rzL l).map (Mp.padT k):=by
 unfold tl rdL rzL;rw[List.map_map,List.map_map];refine List.map_congr_left fun t ht => ?_
 show ((qR t.1,moL (rdE t.2)):Rat×Mp.Mo)=(qR t.1,Mp.pad k t.2)
 rw[lW (h t ht) hk]
theorem pa {n k:Nat} (hk:n+k=4) (ord:Int){L:List Tm}{Z:Mp.TL} (hZ:Mp.Wd n Z) (h:∀e,Mp.cf (tl L) e=Mp.cf (Z.map (Mp.padT k)) e):WR n (cnT ord L)=(Mp.canon ord Z).map wz:=by
 have h1:Mp.canon ord (tl L)=(Mp.canon ord Z).map (Mp.padT k):=by
  rw[←Mp.canon_pad ord k hZ];exact Mp.canon_eq (iA L) (by have:=Mp.pad_len (k:=k) hZ;rwa[hk] at this) h
 unfold WR cnT;rw[h1,List.map_map,List.map_map];refine List.map_congr_left fun x hx => ?_
 have hx2:=Mp.canon_wd (ord:=ord) hZ x hx;show wrT n (ofM (Mp.padT k x))=wz x
 rw[zdP hx2 hk];unfold wrT wz;rw[lW hx2 hk];unfold Mp.pad;rw[List.take_append_of_le_length (by omega),List.take_of_length_le (by omega)]
section
variable {a b:List At}{n ord:Int} (ha:Gd a n ord) (hb:Gd b n ord)
include ha
theorem Gd.k4:n.toNat+(4-n.toNat)=4:=by have:=ha.n4;omega
theorem Gd.tl:Go.Proofs.YtbnhgnhgbhjkcaaGreat.M.tl (rdL a)=(rzL a).map (Mp.padT (4-n.toNat)):=zdQ (fun t ht=>by have:=(iI (ha.ft t ht)).1;omega) ha.k4
theorem Gd.cf (o:Int) (e:Mp.Mo):Mp.cf (Go.Proofs.YtbnhgnhgbhjkcaaGreat.M.tl (frm a o)) e=Mp.cf ((rzL a).map (Mp.padT (4-n.toNat))) e:=by
 unfold frm;rw[iB,Mp.canon_cf,ha.tl]
theorem lX (e:Mp.Mo):Mp.cf (Mp.growL [] (rzL a)) e=Mp.cf (rzL a) e:=by rw[Mp.growL_cf,Mp.cf_nil,Rat.zero_add]
theorem iQ:Mp.Wd n.toNat (Mp.growL [] (rzL a)):=Mp.growL_wd (fun x hx=>by cases hx) ha.wd
theorem pd:Mp.Ex 0 40 (Mp.growL [] (rzL a)):=Mp.Ex.nil.growL fun x hx=>by
 obtain⟨y,hy,rfl⟩:=List.mem_map.1 hx;exact (iI (ha.ft y hy)).2.1
theorem zdR:(Mp.growL [] (rzL a)).length≤a.length:=by
 have:=Mp.growL_len (rzL a) []
 rwa[kS,List.length_nil,Nat.zero_add] at this
theorem zdS:formA a n ord=(Mp.canon ord (Mp.growL [] (rzL a))).map wz:=by
 unfold formA;rw[if_pos (by rw[ha.fm])];refine pa ha.k4 ord (L:=rdL a) (iQ ha) fun e => ?_
 rw[ha.tl];exact Mp.cf_pad _ (fun e=>(lX ha e).symm) e
include hb
end
set_option maxRecDepth 20000
set_option maxHeartbeats 1000000
theorem oT:bn [49]=(1,1,0,0):=by decide +kernel
theorem oU {t:List UInt8}{a:Int}{b:Nat} (h:bn t=(a,(b:Int),0,0)):(qR t).num=a∧(qR t).den=b∧cR t=0:=by
 have h1:=(fi t).choose_spec.1;have h2:=(fi t).choose_spec.2.1;have e:(fi t).choose=qR t:=rfl;rw[e] at h1 h2;refine⟨?_,?_,?_⟩
 ·rw[←h1,h]
 ·have:((qR t).den:Int)=(b:Int):=by rw[←h2,h]
  exact_mod_cast this
 ·unfold cR;rw[h]
theorem zcZ:qR [49]=1:=Rat.ext (oU (b:=1) oT).1 (oU (b:=1) oT).2.1
abbrev lM:List At:=[([49],[1,0,1]),([49],[0,2,0])]
theorem uU:Gd lM 3 2:=⟨by decide,by decide,by decide,by decide,by decide,fun t ht=>by
 have hc:cR [49]=0:=(oU (b:=1) oT).2.2;have key:∀e:List Int,(e.length:Int)=3→(∀x∈e,0≤x∧x≤40)→fT 3 ([49],e)=0:=fun e h1 h2=>by
  unfold fT;rw[if_pos h1,if_pos h2];exact hc
 simp only[List.mem_cons,List.not_mem_nil,or_false] at ht;rcases ht with rfl | rfl
 ·exact key _ rfl (by decide)
 ·exact key _ rfl (by decide)⟩
theorem zc0:formA lM 3 2=[(frText 1 1,[0,2,0]),(frText 1 1,[1,0,1])]:=by
 rw[zdS uU];have e1:rzL lM=[((1:Rat),[1,0,1]),(1,[0,2,0])]:=by
  show [((qR [49]:Rat),([1,0,1]:List Int)),(qR [49],[0,2,0])]=_
  rw[zcZ]
 rw[e1];have e2:Mp.canon 2 (Mp.growL [] [((1:Rat),[1,0,1]),(1,[0,2,0])])=[((1:Rat),[0,2,0]),(1,[1,0,1])]:=by decide +kernel
 rw[e2];rfl
theorem oV:Con Tryz.prog AN 14 [] (.bool true):=by
 have cf:=zcM 83 3 lM 3 2 (by decide) (by decide);rw[zc0,uU.fm] at cf;have cs:=pL AN 3 3 [0,2,0] [0,2,0] (by decide) (by decide);rw[decide_eq_true rfl] at cs;generalize frText 1 1=t at *;have r1:((((List.replicate 3 (0:Int)).set 0 1).set 1 0).set 2 1)=[1,0,1]:=rfl;have r2:((((List.replicate 3 (0:Int)).set 0 0).set 1 2).set 2 0)=[0,2,0]:=rfl;have k1:List.take 3 ([1,0,1].map (D.int .i64))=[1,0,1].map (D.int .i64):=rfl;have k2:List.take 3 ([0,2,0].map (D.int .i64))=[0,2,0].map (D.int .i64):=rfl;have z2:(0:Int)+1+1=2:=rfl;have g0:([atD 3 (t,[0,2,0]),atD 3 (t,[1,0,1])]:List D).getD 0 default = .agg [.str t,.list 3 1 ([0,2,0].map (D.int .i64))]:=rfl;have z3:(0:Int)<2:=by decide
 have z4:(0:Int).toNat=0:=rfl;refine XL.conW (A:=[]) rfl (by simp) ?_;(repeat first|with_reducible refine kp [] ?_|simp only[kV,simprocAttr,ab,zex,r1,r2,nE,Bool.true_or,List.drop_zero,k1,k2,List.length_cons,List.length_nil]|refine aN ?_);refine wq (cxw (B:=[173,3]) (cf)) (ulc ?_);(repeat first|with_reducible refine kp [1,2] ?_|simp only[kV,simprocAttr,ab,r1,r2,nE,Bool.true_or,List.drop_zero,k1,k2,List.length_cons,List.length_nil,List.map_cons,List.map_nil,z2,g0,z3,z4,decide_true]|refine aN ?_);refine wq (cxw (B:=[173,3]) (cs)) (ulc ?_);(repeat first|with_reducible refine kp [0] ?_|simp only[kV,simprocAttr,ab,ac,ah,ae,af]|refine aN ?_)
theorem kJ {x q k:Nat} (h:x≤2^q):x^k≤2^(q*k):=by rw[Nat.pow_mul];exact Nat.pow_le_pow_left h k
theorem rF (n ord:Int){v:Nat} (hv:v<4){x:Rat}{l:List Tm}{a b c q p:Nat} (h:Szd a b l) (hx:Bq q x) (gl:∀t∈l,Gx 40 t.2) (hl:l.length≤1000000) (hc:l.length≤2^c) (h1:a+q*40<p) (h2:c+(b+(q+q)*40)<p) (hqp:q≤p) (hp:p≤2048000000000) :
  Con Tryz.prog AN 57 [SmD l n ord,J v,qI x] (SmD (cnT ord (fixT v x l)) n ord)∧Szd (a+q*40) (b+(q+q)*40+c) (cnT ord (fixT v x l)):=by
 obtain⟨D,d1,d2,d3⟩:=h;have hxd:Db x.den (2^q) x:=(Db.of_self x).mono (Nat.le_of_lt hx.1);have hxe:x.den≤2^q:=Nat.le_of_lt hx.2;have hD:D*x.den^40≤2^(a+q*40):=by rw[Nat.pow_add];exact Nat.mul_le_mul d2 (kJ hxe)
 have hY:2^b*(2^q*x.den)^40≤2^(b+(q+q)*40):=by
  rw[Nat.pow_add 2 b];exact Nat.mul_le_mul_left _ (kJ (by rw[Nat.pow_add];exact Nat.mul_le_mul_left _ hxe))
 have hB:Bq p x:=⟨Nat.lt_of_lt_of_le hx.1 (pl hqp),Nat.lt_of_lt_of_le hx.2 (pl hqp)⟩
 refine⟨YR n ord v hv x l (M:=40) (G:=40) d3 hxd x.den_pos (Nat.pos_of_ne_zero (by simp)) gl (by decide) (by decide) (by decide) (by omega) (Nat.lt_of_le_of_lt hD (pw h1)) ?_ hB hp,?_⟩
 ·refine Nat.lt_of_le_of_lt (Nat.mul_le_mul hc hY) ?_;rw[←Nat.pow_add];exact pw h2
 ·refine Szd.cn n ord ⟨D*x.den^40,Nat.mul_pos d1 (Nat.pow_pos x.den_pos),hD,fun t ht=>(tA hv d3 hxd x.den_pos (Nat.pos_of_ne_zero (by simp)) gl (M:=40) (by decide) t ht).mono hY⟩ (fun t ht=>(nT hv gl (by decide) t ht).ge (by decide)) (by rw[gM];omega) (by rw[gM];exact hc)
theorem VO (n ord:Int){v:Nat} (hv:v<4){l:List Tm}{a b c p:Nat} (h:Szd a b l) (gl:∀t∈l,Gx 40 t.2) (hl:l.length≤1000000) (hc:l.length≤2^c) (h1:a<p) (h2:c+(b+6)<p) (h64:64≤p) (hp:p≤2048000000000) :
  Con Tryz.prog AN 61 [SmD l n ord,J v] (SmD (cnT ord (derT v l)) n ord)∧Szd a (b+6+c) (cnT ord (derT v l)):=by
 have hA:=h.bc h1 (show b<p by omega);obtain⟨D,d1,d2,d3⟩:=h;have hY:2^b*40≤2^(b+6):=by rw[Nat.pow_add];exact Nat.mul_le_mul_left _ (by decide)
 have hdl:=jg v l;refine⟨XB n ord v hv l (M:=40) (G:=40) d3 gl (by decide) (by decide) (by omega) (Nat.lt_of_le_of_lt d2 (pw h1)) ?_ hA h64 hp,?_⟩
 ·refine Nat.lt_of_le_of_lt (Nat.mul_le_mul hc hY) ?_;rw[←Nat.pow_add];exact pw h2
 ·refine Szd.cn n ord ⟨D,d1,d2,fun t ht=>(sI hv d3 gl (M:=40) (by decide) t ht).mono hY⟩ (fun t ht=>(sJ hv gl t ht).ge (by decide)) (by omega) (Nat.le_trans hdl hc)
noncomputable def evI (xs:List Rat) (s:List Tm):Nat→List Tm
 |0=>s
 |i+1=>cnT 0 (fixT i (xs.getD i 0) (evI xs s i))
def Zs (S:Nat→Prop) (l:List Tm):Prop:=∀t∈l,∀j,j<4→S j→exE t.2 j=0
theorem Zs.cn {S:Nat→Prop}{l:List Tm} (o:Int) (h:Zs S l):Zs S (cnT o l):=fun x hx j hj hs=>by
 have h1:(x.1,moL x.2)∈tl (cnT o l):=List.mem_map.2 ⟨x,hx,rfl⟩;rw[iB] at h1;obtain⟨y,hy,he⟩:=Mp.canon_mem h1;obtain⟨z,hz,rfl⟩:=List.mem_map.1 hy;rw[←jw he];exact h z hz j hj hs
theorem VP (e:Ex4){v j:Nat} (hv:v<4) (hj:j<4) (x:Int):exE (dQ e v x) j=if j=v then x else exE e j:=by
 unfold exE;rw[nQ e hv];have h4:(moL e).length=4:=rfl;by_cases h:j=v
 ·subst h;rw[if_pos rfl,List.getD_eq_getElem?_getD,List.getElem?_set_self (by omega)];rfl
 ·rw[if_neg h,List.getD_eq_getElem?_getD,List.getElem?_set_ne (fun e=>h e.symm),←List.getD_eq_getElem?_getD]
theorem Zs.fix {S:Nat→Prop}{l:List Tm}{v:Nat} (hv:v<4) (x:Rat) (h:Zs S l):Zs (fun j=>S j∨j=v) (fixT v x l):=fun t ht j hj hs=>by
 obtain⟨y,hy,rfl⟩:=List.mem_map.1 ht;show exE (dQ y.2 v 0) j=0
 rw[VP _ hv hj];by_cases e:j=v
 ·rw[if_pos e]
 ·rw[if_neg e];exact h y hy j hj (hs.resolve_right e)
theorem rG {S:Nat→Prop}{xs:List Rat}{s:List Tm} (h:Zs S s):∀{i:Nat},i≤4→Zs (fun j=>S j∨j<i) (evI xs s i)
 |0,_=>fun t ht j hj hs=>h t ht j hj (hs.resolve_right (by omega))
 |i+1,hi=>fun t ht j hj hs=>by
  have h1:=((rG (xs:=xs) h (i:=i) (by omega)).fix (v:=i) (by omega) (xs.getD i 0)).cn 0;exact h1 t ht j hj (by
   rcases hs with hs | hs
   ·exact .inl (.inl hs)
   ·by_cases e:j=i
    ·exact .inr e
    ·exact .inl (.inr (by omega)))
theorem rH {xs ys:List Rat}{s:List Tm} (h4:ys.length=4):∀{i:Nat},i≤4→(∀j,j<i→ys.getD j 0=xs.getD j 0)→Mp.ev ys (tl (evI xs s i))=Mp.ev ys (tl s)
 |0,_,_=>rfl
 |i+1,hi,h=>by
  rw[evI,iB,Mp.ev_canon,tx (by omega),←h i (by omega),Mp.ev_fix (iA _) (by omega) h4];exact rH h4 (by omega) fun j hj=>h j (by omega)
theorem rI {xs:List Rat}{s:List Tm}:∀i:Nat,(evI xs s i).length≤s.length
 |0=>Nat.le_refl _
 |i+1=>by
  have h1:=lj 0 (fixT i (xs.getD i 0) (evI xs s i));rw[gM] at h1;exact Nat.le_trans h1 (rI i)
theorem rJ {xs:List Rat}{s:List Tm} (h:∀t∈s,Gx 40 t.2):∀{i:Nat},i≤4→∀t∈evI xs s i,Gx 40 t.2
 |0,_=>h
 |i+1,hi=>uQ (nT (by omega) (rJ h (by omega)) (by decide))
theorem VQ {xs:List Rat}{s:List Tm}{a b c q:Nat} (h:Szd a b s) (hx:∀x∈xs,Bq q x) (hq:0<q) (hg:∀t∈s,Gx 40 t.2) (hl:s.length≤1000000) (hc:s.length≤2^c){p:Nat} (h1:a+5*(q*40)<p) (h2:c+(b+5*((q+q)*40+c))<p) (hqp:q≤p) (hp:p≤2048000000000) :
  ∀{i:Nat},i≤4→Szd (a+i*(q*40)) (b+i*((q+q)*40+c)) (evI xs s i)∧(i<4→∀n:Int,Con Tryz.prog AN 57 [SmD (evI xs s i) n 0,J i,qI (xs.getD i 0)] (SmD (evI xs s (i+1)) n 0)):=by
 have key:∀{i:Nat},i<4→Szd (a+i*(q*40)) (b+i*((q+q)*40+c)) (evI xs s i)→(∀n:Int,Con Tryz.prog AN 57 [SmD (evI xs s i) n 0,J i,qI (xs.getD i 0)] (SmD (evI xs s (i+1)) n 0))∧Szd (a+(i+1)*(q*40)) (b+(i+1)*((q+q)*40+c)) (evI xs s (i+1)):=fun {i} hi hz=>by
  have e1:i*(q*40)≤4*(q*40):=Nat.mul_le_mul_right _ (by omega);have e2:i*((q+q)*40+c)≤4*((q+q)*40+c):=Nat.mul_le_mul_right _ (by omega);have hxi:Bq q (xs.getD i 0):=by
   by_cases hk:i<xs.length
   ·have:xs.getD i 0=xs[i]:=by simp[hk]
    rw[this];exact hx _ (List.getElem_mem hk)
   ·have:xs.getD i 0=0:=by simp[List.getElem?_eq_none (Nat.le_of_not_lt hk)]
    rw[this];exact Bq.zero _ hq
  have hll:=rI (xs:=xs) (s:=s) i;have hf:=fun n:Int=>rF n 0 (v:=i) (by omega) (x:=xs.getD i 0) (p:=p) hz hxi (rJ hg (by omega)) (Nat.le_trans hll hl) (Nat.le_trans hll hc) (by omega) (by omega) hqp hp
  refine⟨fun n=>(hf n).1,?_⟩;have:=(hf 0).2;rw[Nat.succ_mul,Nat.succ_mul];rw[show a+(i*(q*40)+q*40)=a+i*(q*40)+q*40 by omega,show b+(i*((q+q)*40+c)+((q+q)*40+c))=b+i*((q+q)*40+c)+(q+q)*40+c by omega];exact this
 have all:∀{i:Nat},i≤4→Szd (a+i*(q*40)) (b+i*((q+q)*40+c)) (evI xs s i):=fun {i} hi=>by
  induction i with
  |zero=>simpa[evI] using h
  |succ i ih=>exact (key (by omega) (ih (by omega))).2
 exact fun {i} hi=>⟨all hi,fun h n=>(key h (all hi)).1 n⟩
theorem VR {o:Int}{L:List Tm} (h:∀t∈cnT o L,∀j,j<4→exE t.2 j=0) (ys:List Rat):(cnT o L=[]∧Mp.ev ys (tl (cnT o L))=0)∨∃t,cnT o L=[t]∧Mp.ev ys (tl (cnT o L))=t.1:=by
 have hz:∀t∈cnT o L,moL t.2=[0,0,0,0]:=fun t ht=>by
  have h0:=h t ht 0 (by omega);have h1:=h t ht 1 (by omega);have h2:=h t ht 2 (by omega);have h3:=h t ht 3 (by omega);obtain⟨c,e0,e1,e2,e3⟩:=t;have a0:e0=0:=h0;have a1:e1=0:=h1;have a2:e2=0:=h2;have a3:e3=0:=h3;rw[a0,a1,a2,a3]
 have hc:Mp.Can o (tl (cnT o L)):=by rw[iB];exact Mp.canon_can (iA L)
 match hm:cnT o L with
 |[]=>exact .inl ⟨rfl,rfl⟩
 |[t] =>
  refine .inr ⟨t,rfl,?_⟩;have e1:=hz t (by rw[hm];simp);show t.1*Mp.pv ys (moL t.2)+0=t.1
  rw[e1,Mp.pv_zero ys _ (by simp),Rat.mul_one,Rat.add_zero]
 |t::u::r =>
  exfalso
  rw[hm] at hc;have h1:=(List.pairwise_cons.1 hc.so).1 (u.1,moL u.2) (by simp[tl]);have e1:=hz t (by rw[hm];simp);have e2:=hz u (by rw[hm];simp);simp only[e1,e2] at h1;rw[Mp.ahead_self] at h1;cases h1
theorem SzZ.P {a b c:Nat}{l:Mp.TL} (h:SzZ a b l) (hl:l.length≤2^c):SzZ a (b+c) (Mp.growL [] l):=by
 obtain⟨D,h1,h2,h3⟩:=h;refine⟨D,h1,h2,(jt h3 (Dz.nil (X:=0))).mono ?_⟩;rw[Nat.zero_add,Nat.pow_add,Nat.mul_comm];exact Nat.mul_le_mul_left _ hl
theorem SzZ.bq {a b p:Nat}{l:Mp.TL} (h:SzZ a b l) (ha:a<p) (hb:b<p):∀x∈l,Bq p x.1:=fun x hx=>by
 obtain⟨D,h1,h2,h3⟩:=h;exact (h3 x hx).Bq (Nat.lt_of_le_of_lt h2 (pw ha)) (pw hb)
theorem tW {n:Nat}{Z:Mp.TL} (hw:Mp.Wd n Z) (hn:n≤4) (ord:Int):(∀t∈(Mp.canon ord Z).map wz,t.2.length≤9223372036854775807)∧((Mp.canon ord Z).map wz).length≤Z.length:=by
 refine⟨fun t ht => ?_,by rw[List.length_map];exact Mp.canon_len ord Z⟩;obtain⟨y,hy,rfl⟩:=List.mem_map.1 ht;have:=Mp.canon_wd (ord:=ord) hw y hy;show y.2.length≤_
 omega
theorem zbq {l:List At}{m:Nat} (h:¬ g8 l m=true):l.length≤m∧lenC l≤20*m:=by
 unfold g8 at h;simp only[Bool.or_eq_true,decide_eq_true_eq,not_or] at h;omega
structure Ar (l:List At):Prop where
 len:l.length*40≤140737488355328
 str:∀t∈l,t.1.length≤140737488355328
 ex:∀t∈l,t.2.length≤17592186044416
theorem Ar.l9 {l:List At} (h:Ar l):l.length≤9223372036854775807:=by have:=h.len;omega
theorem Ar.s9 {l:List At} (h:Ar l):∀t∈l,t.1.length≤9223372036854775807:=fun t ht=>by have:=h.str t ht;omega
theorem zbr (a b:Int):aO [.int .i64 a,.int .i64 b]=some ([.i64,.i64],[a,b]):=rfl
theorem zbs:([IntKind.i64,IntKind.i64]:List IntKind).length=2:=rfl
theorem zbt:((0:Int)<0)=False:=by decide
theorem zbu:(0:Int)+0=0:=rfl
def au:=an zbt (an zbu (an @decide_false (an @decide_true (an @zbr (an zbs ab)))))
section
variable (T U T' U':Nat) (a b:List At) (n ord:Int) (hA:Ar a) (hB:Ar b)
include hA hB
end
end Go.Proofs.YtbnhgnhgbhjkcaaGreat.M
