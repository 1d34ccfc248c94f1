/- Lemmas. -/
import Derived.Test.YtbnhgnhgbhjkcaaGreatL48
import Derived.Test.YtbnhgnhgbhjkcaaGreatL47
import Derived.Test.YtbnhgnhgbhjkcaaGreatL27
import Derived.Test.YtbnhgnhgbhjkcaaGreatL25
import Derived.Test.YtbnhgnhgbhjkcaaGreatL46
import Derived.Test.YtbnhgnhgbhjkcaaGreatL32
set_option linter.defProp false
set_option linter.unusedSectionVars false
set_option linter.unusedSimpArgs false
set_option linter.unusedVariables false
namespace Go.Proofs.YtbnhgnhgbhjkcaaGreat.M
open Go.RowKit
set_option maxRecDepth 20000
set_option maxHeartbeats 1000000
theorem pY (A:List TypeId) (T U:Nat) (a b:List Int) (hla:a.length≤9223372036854775807) (hlb:b.length≤9223372036854775807):Con Tryz.prog A 52 [.list T 1 (a.map (D.int .i64)),.list U 1 (b.map (D.int .i64))] (.bool (decide (a=b))):=by
 refine Con.mono (A:=[]) ?_ (by simp);by_cases hl:a.length=b.length
 ·have hlI:(a.length:Int)=(b.length:Int):=by omega
  refine rq.con rfl (by simp) ?_;(repeat first|with_reducible refine kp [0,1,10] ?_|simp only[kV,simprocAttr,a6,aB,hlI,List.length_map]|refine aN ?_);refine ulk ?_;(repeat first|simp only[kV,simprocAttr,a6]|refine aN ?_);refine kp [0,1] ?_;(repeat first|simp only[kV,simprocAttr,a6]|refine aN ?_);refine kp [0,1,5] ?_;(repeat first|simp only[kV,simprocAttr,a6]|refine aN ?_);refine aL (ι:=Nat) (fun i=>i≤a.length∧∀k,k<i→a.getD k 0=b.getD k 0) (fun i=>⟨ar [(0,.p (.list T 1 (a.map (D.int .i64)))),(1,.p (.list U 1 (b.map (D.int .i64)))),(5,.p (.int .i64 i))],ay []⟩) (fun i=>a.length-i) 0 ⟨Nat.zero_le _,fun k hk=>by omega⟩ (Sub.toG [0,1,5] []) ?_;rintro i ⟨hi,he⟩;by_cases h:i<a.length
  ·have hI:(i:Int)<(a.length:Int):=by omega
   have hI2:(i:Int)<(b.length:Int):=by omega
   have hb:i<b.length:=by omega
   have g1:=vk h;have g2:=vk hb;(repeat first|with_reducible refine kp [0,1,5,14] ?_|simp only[kV,simprocAttr,a6,hI]|refine aN ?_);(try simp only[kV,simprocAttr,a6,hI,hI2,g1,g2,h,hb]);refine ulk ?_;(repeat first|with_reducible refine kp [0,1,5,25] ?_|simp only[kV,simprocAttr,a6,hI,hI2,g1,g2,h,hb]|refine aN ?_);by_cases hc:a.getD i 0=b.getD i 0
   ·refine⟨fun h1=>absurd h1 (by rw[hc];simp),fun _ => ?_⟩;(try simp only[kV,simprocAttr,a6]);refine ulk ?_;(repeat first|with_reducible refine kp [0,1,5] ?_|simp only[kV,simprocAttr,a6]|refine aN ?_);exact⟨i+1,⟨h,fun k hk=>by
     by_cases hki:k<i
     ·exact he k hki
     ·obtain rfl:k=i:=by omega
      exact hc⟩,(Sub.toG [0,1,5] []),by omega⟩
   ·refine⟨fun _ => ?_,fun h1=>absurd h1 (by rw[decide_eq_false hc];simp)⟩;have hne:a≠b:=fun e=>hc (by rw[e])
    rw[decide_eq_false hne];(try simp only[kV,simprocAttr,a6]);refine ulk ?_;(repeat first|with_reducible refine kp [4] ?_|simp only[kV,simprocAttr,a6,ae,ai,ah,af]|refine aN ?_)
  ·have hI:¬ (i:Int)<(a.length:Int):=by omega
   have heq:a=b:=Z7 hl fun k hk=>he k (by omega)
   rw[decide_eq_true heq];(repeat first|with_reducible refine kp [0,1,5,14] ?_|simp only[kV,simprocAttr,a6,hI]|refine aN ?_);refine ulk ?_;(repeat first|with_reducible refine kp [4] ?_|simp only[kV,simprocAttr,a6,ae,ai,ah,af,hI]|refine aN ?_)
 ·have hlI:¬ (a.length:Int)=(b.length:Int):=by omega
  have hne:a≠b:=fun e=>hl (by rw[e])
  rw[decide_eq_false hne];refine rq.con rfl (by simp) ?_;(repeat first|with_reducible refine kp [0,1,10] ?_|simp only[kV,simprocAttr,a6,aB,hlI,List.length_map]|refine aN ?_);refine ulk ?_;(repeat first|with_reducible refine kp [4] ?_|simp only[kV,simprocAttr,a6,ae,ai,ah,af]|refine aN ?_)
theorem wT {a b:List At} (hl:a.length=b.length) (h:∀k,k<a.length→at0 a k=at0 b k):a=b:=List.ext_getElem hl fun k h1 h2=>by
 have:=h k h1;unfold at0 at this
 rwa[List.getD_eq_getElem?_getD,List.getD_eq_getElem?_getD,List.getElem?_eq_getElem h1,List.getElem?_eq_getElem h2] at this
theorem wU (A:List TypeId) (T U T' U':Nat) (a b:List At) (hla:a.length≤9223372036854775807) (hlb:b.length≤9223372036854775807) (ea:∀t∈a,t.2.length≤9223372036854775807) (eb:∀t∈b,t.2.length≤9223372036854775807):Con Tryz.prog A 15 [LTa T U a,LTa T' U' b] (.bool (decide (a=b))):=by
 refine Con.mono (A:=[]) ?_ (by simp);by_cases hl:a.length=b.length
 ·have hlI:(a.length:Int)=(b.length:Int):=by omega
  refine rt.con rfl (by simp) ?_;(repeat first|with_reducible refine kp [0,1,10] ?_|simp only[kV,simprocAttr,a6,aB,hlI,List.length_map]|refine aN ?_);refine ulk ?_;(repeat first|simp only[kV,simprocAttr,a6]|refine aN ?_);refine kp [0,1] ?_;(repeat first|simp only[kV,simprocAttr,a6]|refine aN ?_);refine kp [0,1,5] ?_;(repeat first|simp only[kV,simprocAttr,a6]|refine aN ?_);refine aL (ι:=Nat) (fun i=>i≤a.length∧∀k,k<i→at0 a k=at0 b k) (fun i=>⟨ar [(0,.p (LTa T U a)),(1,.p (LTa T' U' b)),(5,.p (.int .i64 i))],ay []⟩) (fun i=>a.length-i) 0 ⟨Nat.zero_le _,fun k hk=>by omega⟩ (Sub.toG [0,1,5] []) ?_;rintro i ⟨hi,he⟩;by_cases h:i<a.length
  ·have hI:(i:Int)<(a.length:Int):=by omega
   have hI2:(i:Int)<(b.length:Int):=by omega
   have hb:i<b.length:=by omega
   have g1:=jQ (U:=U) h;have g2:=jQ (U:=U') hb;have l1:=ea _ (gZ h);have l2:=eb _ (gZ hb);have hnx:at0 a i=at0 b i→∀k,k<i+1→at0 a k=at0 b k:=fun e k hk=>by
    by_cases hki:k<i
    ·exact he k hki
    ·obtain rfl:k=i:=by omega
     exact e
   have hne:at0 a i≠at0 b i→a≠b:=fun e e2=>e (by rw[e2])
   generalize at0 a i=x at *;generalize at0 b i=y at *;obtain⟨c,e⟩:=x;obtain⟨d,f⟩:=y;simp only at g1 g2 l1 l2;by_cases hc:c=d
   ·have cs:=pY [] U U' e f l1 l2;by_cases hf:e=f
    ·rw[decide_eq_true hf] at cs;(repeat first|with_reducible refine kp [0,1,5,14] ?_|simp only[kV,simprocAttr,a6,hI]|refine aN ?_);(try simp only[kV,simprocAttr,a6,hI,hI2,g1,g2,h,hb,hc]);refine ulk ?_;(repeat first|with_reducible refine kp [0,1,5] ?_|simp only[kV,simprocAttr,a6,hI,hI2,g1,g2,h,hb,hc]|refine aN ?_);refine⟨_,cx (cs),ulc ?_⟩;(repeat first|with_reducible refine kp [0,1,5,41] ?_|simp only[kV,simprocAttr,a6,hc]|refine aN ?_);refine ulk ?_;(repeat first|with_reducible refine kp [0,1,5] ?_|simp only[kV,simprocAttr,a6]|refine aN ?_);exact⟨i+1,⟨h,hnx (by rw[hc,hf])⟩,(Sub.toG [0,1,5] []),by omega⟩
    ·rw[decide_eq_false hf] at cs;rw[decide_eq_false (hne fun e=>hf (congrArg Prod.snd e))];(repeat first|with_reducible refine kp [0,1,5,14] ?_|simp only[kV,simprocAttr,a6,hI]|refine aN ?_);(try simp only[kV,simprocAttr,a6,hI,hI2,g1,g2,h,hb,hc]);refine ulk ?_;(repeat first|with_reducible refine kp [0,1,5] ?_|simp only[kV,simprocAttr,a6,hI,hI2,g1,g2,h,hb,hc]|refine aN ?_);refine⟨_,cx (cs),ulc ?_⟩;(repeat first|with_reducible refine kp [0,1,5,41] ?_|simp only[kV,simprocAttr,a6,hc]|refine aN ?_);refine ulk ?_;(repeat first|with_reducible refine kp [4] ?_|simp only[kV,simprocAttr,a6,ae,ai,ah,af]|refine aN ?_)
   ·rw[decide_eq_false (hne fun e=>hc (congrArg Prod.fst e))];(repeat first|with_reducible refine kp [0,1,5,14] ?_|simp only[kV,simprocAttr,a6,hI]|refine aN ?_);(try simp only[kV,simprocAttr,a6,hI,hI2,g1,g2,h,hb,hc]);refine ulk ?_;(repeat first|with_reducible refine kp [0,1,5] ?_|simp only[kV,simprocAttr,a6,hI,hI2,g1,g2,h,hb,hc]|refine aN ?_);refine ulc ?_;(repeat first|with_reducible refine kp [0,1,5,41] ?_|simp only[kV,simprocAttr,a6,hc]|refine aN ?_);refine ulk ?_;(repeat first|with_reducible refine kp [4] ?_|simp only[kV,simprocAttr,a6,ae,ai,ah,af]|refine aN ?_)
  ·have hI:¬ (i:Int)<(a.length:Int):=by omega
   have heq:a=b:=wT hl fun k hk=>he k (by omega)
   rw[decide_eq_true heq];(repeat first|with_reducible refine kp [0,1,5,14] ?_|simp only[kV,simprocAttr,a6,hI]|refine aN ?_);refine ulk ?_;(repeat first|with_reducible refine kp [4] ?_|simp only[kV,simprocAttr,a6,ae,ai,ah,af,hI]|refine aN ?_)
 ·have hlI:¬ (a.length:Int)=(b.length:Int):=by omega
  have hne:a≠b:=fun e=>hl (by rw[e])
  rw[decide_eq_false hne];refine rt.con rfl (by simp) ?_;(repeat first|with_reducible refine kp [0,1,10] ?_|simp only[kV,simprocAttr,a6,aB,hlI,List.length_map]|refine aN ?_);refine ulk ?_;(repeat first|with_reducible refine kp [4] ?_|simp only[kV,simprocAttr,a6,ae,ai,ah,af]|refine aN ?_)
end Go.Proofs.YtbnhgnhgbhjkcaaGreat.M
namespace Go.Proofs.YtbnhgnhgbhjkcaaGreat.Mp
theorem pC (f:Mo→Rat) (k:Nat):∀l:TL,Sf f (l.map (padT k))=Sf (fun e=>f (pad k e)) l
 |[]=>rfl
 |x::l=>by rw[List.map_cons,Sf,Sf,pC f k l];rfl
theorem cf_pad {l m:TL} (k:Nat) (h:∀e,cf l e=cf m e) (e:Mo):cf (l.map (padT k)) e=cf (m.map (padT k)) e:=by
 unfold cf;rw[pC,pC,jH _ h]
end Go.Proofs.YtbnhgnhgbhjkcaaGreat.Mp
namespace Go.Proofs.YtbnhgnhgbhjkcaaGreat.M
open Go.RowKit
theorem lY {e:List Int}{n k:Nat} (h:e.length=n) (hk:n+k=4):moL (rdE e)=Mp.pad k e:=by
 subst h
 match e,hk with
 |[],hk =>
       obtain rfl:k=4:=by simpa using hk
       rfl
 |[a],hk =>
        obtain rfl:k=3:=by simp at hk;omega
        rfl
 |[a,b],hk =>
         obtain rfl:k=2:=by simp at hk;omega
         rfl
 |[a,b,c],hk =>
           obtain rfl:k=1:=by simp at hk;omega
           rfl
 |[a,b,c,d],hk =>
            obtain rfl:k=0:=by simp at hk;omega
            rfl
 |_::_::_::_::_::_,hk=>simp at hk;omega
theorem zbm {x:Zm}{n k:Nat} (h:x.2.length=n) (hk:n+k=4):ofM (Mp.padT k x)=(x.1,rdE x.2):=by
 have e:rdE (Mp.pad k x.2)=rdE x.2:=by
  have h1:=lY (e:=Mp.pad k x.2) (n:=4) (k:=0) (by unfold Mp.pad;simp[h,hk]) (by omega);have h2:=lY h hk;have h3:Mp.pad 0 (Mp.pad k x.2)=Mp.pad k x.2:=by unfold Mp.pad;simp
  exact jI (by rw[h1,h2,h3])
 show ((x.1,rdE (Mp.pad k x.2)):Tm)=_
 rw[e]
theorem zbn {l:List At}{n k:Nat} (h:∀t∈l,t.2.length=n) (hk:n+k=4):tl (rdL l)=(rzL l).map (Mp.padT k):=by
 unfold tl rdL rzL;rw[List.map_map,List.map_map];refine List.map_congr_left fun t ht => ?_
 show ((qR t.1,moL (rdE t.2)):Rat×Mp.Mo)=(qR t.1,Mp.pad k t.2)
 rw[lY (h t ht) hk]
theorem zbo {n k:Nat} (hk:n+k=4) (ord:Int){L:List Tm}{Z:Mp.TL} (hZ:Mp.Wd n Z) (h:∀e,Mp.cf (tl L) e=Mp.cf (Z.map (Mp.padT k)) e):WR n (cnT ord L)=(Mp.canon ord Z).map wz:=by
 have h1:Mp.canon ord (tl L)=(Mp.canon ord Z).map (Mp.padT k):=by
  rw[←Mp.canon_pad ord k hZ];exact Mp.canon_eq (dY L) (by have:=Mp.pad_len (k:=k) hZ;rwa[hk] at this) h
 unfold WR cnT;rw[h1,List.map_map,List.map_map];refine List.map_congr_left fun x hx => ?_
 have hx2:=Mp.canon_wd (ord:=ord) hZ x hx;show wrT n (ofM (Mp.padT k x))=wz x
 rw[zbm hx2 hk];unfold wrT wz;rw[lY hx2 hk];unfold Mp.pad;rw[List.take_append_of_le_length (by omega),List.take_of_length_le (by omega)]
section
variable {a b:List At}{n ord:Int} (ha:Gd a n ord) (hb:Gd b n ord)
include ha
theorem Gd.k4:n.toNat+(4-n.toNat)=4:=by have:=ha.n4;omega
theorem Gd.tl:Go.Proofs.YtbnhgnhgbhjkcaaGreat.M.tl (rdL a)=(rzL a).map (Mp.padT (4-n.toNat)):=zbn (fun t ht=>by have:=(iT (ha.ft t ht)).1;omega) ha.k4
theorem zbp (e:Mp.Mo):Mp.cf (Mp.growL [] (rzL a)) e=Mp.cf (rzL a) e:=by rw[Mp.growL_cf,Mp.cf_nil,Rat.zero_add]
theorem zbq:Mp.Wd n.toNat (Mp.growL [] (rzL a)):=Mp.growL_wd (fun x hx=>by cases hx) ha.wd
theorem zbr:formA a n ord=(Mp.canon ord (Mp.growL [] (rzL a))).map wz:=by
 unfold formA;rw[if_pos (by rw[ha.fm])];refine zbo ha.k4 ord (L:=rdL a) (zbq ha) fun e => ?_
 rw[ha.tl];exact Mp.cf_pad _ (fun e=>(zbp ha e).symm) e
include hb
theorem i5:f2M a b n ord=(0,0):=by
 unfold f2M;rw[ha.fm,if_pos rfl,hb.fm]
end
set_option maxRecDepth 20000
set_option maxHeartbeats 1000000
theorem pg:bF [49]=(1,1,0,0):=by decide +kernel
theorem ph {t:List UInt8}{a:Int}{b:Nat} (h:bF t=(a,(b:Int),0,0)):(qR t).num=a∧(qR t).den=b∧cR t=0:=by
 have h1:=(d9 t).choose_spec.1;have h2:=(d9 t).choose_spec.2.1;have e:(d9 t).choose=qR t:=rfl;rw[e] at h1 h2;refine⟨?_,?_,?_⟩
 ·rw[←h1,h]
 ·have:((qR t).den:Int)=(b:Int):=by rw[←h2,h]
  exact_mod_cast this
 ·unfold cR;rw[h]
theorem zaA:qR [49]=1:=Rat.ext (ph (b:=1) pg).1 (ph (b:=1) pg).2.1
abbrev lQ:List At:=[([49],[1,0,1]),([49],[0,2,0])]
theorem u3:Gd lQ 3 2:=⟨by decide,by decide,by decide,by decide,by decide,fun t ht=>by
 have hc:cR [49]=0:=(ph (b:=1) pg).2.2;have key:∀e:List Int,(e.length:Int)=3→(∀x∈e,0≤x∧x≤40)→fT 3 ([49],e)=0:=fun e h1 h2=>by
  unfold fT;rw[if_pos h1,if_pos h2];exact hc
 simp only[List.mem_cons,List.not_mem_nil,or_false] at ht;rcases ht with rfl | rfl
 ·exact key _ rfl (by decide)
 ·exact key _ rfl (by decide)⟩
theorem zaB:formA lQ 3 2=[(frText 1 1,[0,2,0]),(frText 1 1,[1,0,1])]:=by
 rw[zbr u3];have e1:rzL lQ=[((1:Rat),[1,0,1]),(1,[0,2,0])]:=by
  show [((qR [49]:Rat),([1,0,1]:List Int)),(qR [49],[0,2,0])]=_
  rw[zaA]
 rw[e1];have e2:Mp.canon 2 (Mp.growL [] [((1:Rat),[1,0,1]),(1,[0,2,0])])=[((1:Rat),[0,2,0]),(1,[1,0,1])]:=by decide +kernel
 rw[e2];rfl
theorem u4:Con Tryz.prog AN 14 [] (.bool true):=by
 have cf:=zav 83 3 lQ 3 2 (by decide) (by decide);rw[zaB,u3.fm] at cf;have cs:=pY AN 3 3 [0,2,0] [0,2,0] (by decide) (by decide);rw[decide_eq_true rfl] at cs;generalize frText 1 1=t at *;have r1:((((List.replicate 3 (0:Int)).set 0 1).set 1 0).set 2 1)=[1,0,1]:=rfl;have r2:((((List.replicate 3 (0:Int)).set 0 0).set 1 2).set 2 0)=[0,2,0]:=rfl;have k1:List.take 3 ([1,0,1].map (D.int .i64))=[1,0,1].map (D.int .i64):=rfl;have k2:List.take 3 ([0,2,0].map (D.int .i64))=[0,2,0].map (D.int .i64):=rfl;have z2:(0:Int)+1+1=2:=rfl;have g0:([atD 3 (t,[0,2,0]),atD 3 (t,[1,0,1])]:List D).getD 0 default = .agg [.str t,.list 3 1 ([0,2,0].map (D.int .i64))]:=rfl;have z3:(0:Int)<2:=by decide
 have z4:(0:Int).toNat=0:=rfl;refine Vc.conW (A:=[]) rfl (by simp) ?_;(repeat first|with_reducible refine kp [] ?_|simp only[kV,simprocAttr,a6,zb6,r1,r2,sW,Bool.true_or,List.drop_zero,k1,k2,List.length_cons,List.length_nil]|refine aN ?_);refine wq (cxw (B:=[173,3]) (cf)) (ulc ?_);(repeat first|with_reducible refine kp [1,2] ?_|simp only[kV,simprocAttr,a6,r1,r2,sW,Bool.true_or,List.drop_zero,k1,k2,List.length_cons,List.length_nil,List.map_cons,List.map_nil,z2,g0,z3,z4,decide_true]|refine aN ?_);refine wq (cxw (B:=[173,3]) (cs)) (ulc ?_);(repeat first|with_reducible refine kp [0] ?_|simp only[kV,simprocAttr,a6,ae,ai,ah,af]|refine aN ?_)
theorem rQ {x q k:Nat} (h:x≤2^q):x^k≤2^(q*k):=by rw[Nat.pow_mul];exact Nat.pow_le_pow_left h k
theorem Tc (n ord:Int){v:Nat} (hv:v<4){x:Rat}{l:List Tm}{a b c q p:Nat} (h:Szd a b l) (hx:Bq q x) (gl:∀t∈l,Gx 40 t.2) (hl:l.length≤1000000) (hc:l.length≤2^c) (h1:a+q*40<p) (h2:c+(b+(q+q)*40)<p) (hqp:q≤p) (hp:p≤2048000000000) :
  Con Tryz.prog AN 57 [SmD l n ord,J v,qI x] (SmD (cnT ord (fixT v x l)) n ord)∧Szd (a+q*40) (b+(q+q)*40+c) (cnT ord (fixT v x l)):=by
 obtain⟨D,d1,d2,d3⟩:=h;have hxd:Db x.den (2^q) x:=(Db.of_self x).mono (Nat.le_of_lt hx.1);have hxe:x.den≤2^q:=Nat.le_of_lt hx.2;have hD:D*x.den^40≤2^(a+q*40):=by rw[Nat.pow_add];exact Nat.mul_le_mul d2 (rQ hxe)
 have hY:2^b*(2^q*x.den)^40≤2^(b+(q+q)*40):=by
  rw[Nat.pow_add 2 b];exact Nat.mul_le_mul_left _ (rQ (by rw[Nat.pow_add];exact Nat.mul_le_mul_left _ hxe))
 have hB:Bq p x:=⟨Nat.lt_of_lt_of_le hx.1 (pl hqp),Nat.lt_of_lt_of_le hx.2 (pl hqp)⟩
 refine⟨Wn n ord v hv x l (M:=40) (G:=40) d3 hxd x.den_pos (Nat.pos_of_ne_zero (by simp)) gl (by decide) (by decide) (by decide) (by omega) (Nat.lt_of_le_of_lt hD (pw h1)) ?_ hB hp,?_⟩
 ·refine Nat.lt_of_le_of_lt (Nat.mul_le_mul hc hY) ?_;rw[←Nat.pow_add];exact pw h2
 ·refine Szd.cn n ord ⟨D*x.den^40,Nat.mul_pos d1 (Nat.pow_pos x.den_pos),hD,fun t ht=>(tG hv d3 hxd x.den_pos (Nat.pos_of_ne_zero (by simp)) gl (M:=40) (by decide) t ht).mono hY⟩ (fun t ht=>(oh hv gl (by decide) t ht).ge (by decide)) (by rw[iK];omega) (by rw[iK];exact hc)
theorem Td (n ord:Int){v:Nat} (hv:v<4){l:List Tm}{a b c p:Nat} (h:Szd a b l) (gl:∀t∈l,Gx 40 t.2) (hl:l.length≤1000000) (hc:l.length≤2^c) (h1:a<p) (h2:c+(b+6)<p) (h64:64≤p) (hp:p≤2048000000000) :
  Con Tryz.prog AN 61 [SmD l n ord,J v] (SmD (cnT ord (derT v l)) n ord)∧Szd a (b+6+c) (cnT ord (derT v l)):=by
 have hA:=h.bc h1 (show b<p by omega);obtain⟨D,d1,d2,d3⟩:=h;have hY:2^b*40≤2^(b+6):=by rw[Nat.pow_add];exact Nat.mul_le_mul_left _ (by decide)
 have hdl:=ju v l;refine⟨U5 n ord v hv l (M:=40) (G:=40) d3 gl (by decide) (by decide) (by omega) (Nat.lt_of_le_of_lt d2 (pw h1)) ?_ hA h64 hp,?_⟩
 ·refine Nat.lt_of_le_of_lt (Nat.mul_le_mul hc hY) ?_;rw[←Nat.pow_add];exact pw h2
 ·refine Szd.cn n ord ⟨D,d1,d2,fun t ht=>(sP hv d3 gl (M:=40) (by decide) t ht).mono hY⟩ (fun t ht=>(nM hv gl t ht).ge (by decide)) (by omega) (Nat.le_trans hdl hc)
noncomputable def evI (xs:List Rat) (s:List Tm):Nat→List Tm
 |0=>s
 |i+1=>cnT 0 (fixT i (xs.getD i 0) (evI xs s i))
def Zs (S:Nat→Prop) (l:List Tm):Prop:=∀t∈l,∀j,j<4→S j→exE t.2 j=0
theorem Zs.cn {S:Nat→Prop}{l:List Tm} (o:Int) (h:Zs S l):Zs S (cnT o l):=fun x hx j hj hs=>by
 have h1:(x.1,moL x.2)∈tl (cnT o l):=List.mem_map.2 ⟨x,hx,rfl⟩;rw[fC] at h1;obtain⟨y,hy,he⟩:=Mp.canon_mem h1;obtain⟨z,hz,rfl⟩:=List.mem_map.1 hy;rw[←jI he];exact h z hz j hj hs
theorem rR (e:Ex4){v j:Nat} (hv:v<4) (hj:j<4) (x:Int):exE (dX e v x) j=if j=v then x else exE e j:=by
 unfold exE;rw[oe e hv];have h4:(moL e).length=4:=rfl;by_cases h:j=v
 ·subst h;rw[if_pos rfl,List.getD_eq_getElem?_getD,List.getElem?_set_self (by omega)];rfl
 ·rw[if_neg h,List.getD_eq_getElem?_getD,List.getElem?_set_ne (fun e=>h e.symm),←List.getD_eq_getElem?_getD]
theorem Zs.fix {S:Nat→Prop}{l:List Tm}{v:Nat} (hv:v<4) (x:Rat) (h:Zs S l):Zs (fun j=>S j∨j=v) (fixT v x l):=fun t ht j hj hs=>by
 obtain⟨y,hy,rfl⟩:=List.mem_map.1 ht;show exE (dX y.2 v 0) j=0
 rw[rR _ hv hj];by_cases e:j=v
 ·rw[if_pos e]
 ·rw[if_neg e];exact h y hy j hj (hs.resolve_right e)
theorem rS {S:Nat→Prop}{xs:List Rat}{s:List Tm} (h:Zs S s):∀{i:Nat},i≤4→Zs (fun j=>S j∨j<i) (evI xs s i)
 |0,_=>fun t ht j hj hs=>h t ht j hj (hs.resolve_right (by omega))
 |i+1,hi=>fun t ht j hj hs=>by
  have h1:=((rS (xs:=xs) h (i:=i) (by omega)).fix (v:=i) (by omega) (xs.getD i 0)).cn 0;exact h1 t ht j hj (by
   rcases hs with hs | hs
   ·exact .inl (.inl hs)
   ·by_cases e:j=i
    ·exact .inr e
    ·exact .inl (.inr (by omega)))
theorem rT {xs ys:List Rat}{s:List Tm} (h4:ys.length=4):∀{i:Nat},i≤4→(∀j,j<i→ys.getD j 0=xs.getD j 0)→Mp.ev ys (tl (evI xs s i))=Mp.ev ys (tl s)
 |0,_,_=>rfl
 |i+1,hi,h=>by
  rw[evI,fC,Mp.ev_canon,Wj (by omega),←h i (by omega),Mp.ev_fix (dY _) (by omega) h4];exact rT h4 (by omega) fun j hj=>h j (by omega)
theorem rU {xs:List Rat}{s:List Tm}:∀i:Nat,(evI xs s i).length≤s.length
 |0=>Nat.le_refl _
 |i+1=>by
  have h1:=jJ 0 (fixT i (xs.getD i 0) (evI xs s i));rw[iK] at h1;exact Nat.le_trans h1 (rU i)
theorem rV {xs:List Rat}{s:List Tm} (h:∀t∈s,Gx 40 t.2):∀{i:Nat},i≤4→∀t∈evI xs s i,Gx 40 t.2
 |0,_=>h
 |i+1,hi=>jO (oh (by omega) (rV h (by omega)) (by decide))
theorem Te {xs:List Rat}{s:List Tm}{a b c q:Nat} (h:Szd a b s) (hx:∀x∈xs,Bq q x) (hq:0<q) (hg:∀t∈s,Gx 40 t.2) (hl:s.length≤1000000) (hc:s.length≤2^c){p:Nat} (h1:a+5*(q*40)<p) (h2:c+(b+5*((q+q)*40+c))<p) (hqp:q≤p) (hp:p≤2048000000000) :
  ∀{i:Nat},i≤4→Szd (a+i*(q*40)) (b+i*((q+q)*40+c)) (evI xs s i)∧(i<4→∀n:Int,Con Tryz.prog AN 57 [SmD (evI xs s i) n 0,J i,qI (xs.getD i 0)] (SmD (evI xs s (i+1)) n 0)):=by
 have key:∀{i:Nat},i<4→Szd (a+i*(q*40)) (b+i*((q+q)*40+c)) (evI xs s i)→(∀n:Int,Con Tryz.prog AN 57 [SmD (evI xs s i) n 0,J i,qI (xs.getD i 0)] (SmD (evI xs s (i+1)) n 0))∧Szd (a+(i+1)*(q*40)) (b+(i+1)*((q+q)*40+c)) (evI xs s (i+1)):=fun {i} hi hz=>by
  have e1:i*(q*40)≤4*(q*40):=Nat.mul_le_mul_right _ (by omega);have e2:i*((q+q)*40+c)≤4*((q+q)*40+c):=Nat.mul_le_mul_right _ (by omega);have hxi:Bq q (xs.getD i 0):=by
   by_cases hk:i<xs.length
   ·have:xs.getD i 0=xs[i]:=by simp[hk]
    rw[this];exact hx _ (List.getElem_mem hk)
   ·have:xs.getD i 0=0:=by simp[List.getElem?_eq_none (Nat.le_of_not_lt hk)]
    rw[this];exact Bq.zero _ hq
  have hll:=rU (xs:=xs) (s:=s) i;have hf:=fun n:Int=>Tc n 0 (v:=i) (by omega) (x:=xs.getD i 0) (p:=p) hz hxi (rV hg (by omega)) (Nat.le_trans hll hl) (Nat.le_trans hll hc) (by omega) (by omega) hqp hp
  refine⟨fun n=>(hf n).1,?_⟩;have:=(hf 0).2;rw[Nat.succ_mul,Nat.succ_mul];rw[show a+(i*(q*40)+q*40)=a+i*(q*40)+q*40 by omega,show b+(i*((q+q)*40+c)+((q+q)*40+c))=b+i*((q+q)*40+c)+(q+q)*40+c by omega];exact this
 have all:∀{i:Nat},i≤4→Szd (a+i*(q*40)) (b+i*((q+q)*40+c)) (evI xs s i):=fun {i} hi=>by
  induction i with
  |zero=>simpa[evI] using h
  |succ i ih=>exact (key (by omega) (ih (by omega))).2
 exact fun {i} hi=>⟨all hi,fun h n=>(key h (all hi)).1 n⟩
theorem Tf {o:Int}{L:List Tm} (h:∀t∈cnT o L,∀j,j<4→exE t.2 j=0) (ys:List Rat):(cnT o L=[]∧Mp.ev ys (tl (cnT o L))=0)∨∃t,cnT o L=[t]∧Mp.ev ys (tl (cnT o L))=t.1:=by
 have hz:∀t∈cnT o L,moL t.2=[0,0,0,0]:=fun t ht=>by
  have h0:=h t ht 0 (by omega);have h1:=h t ht 1 (by omega);have h2:=h t ht 2 (by omega);have h3:=h t ht 3 (by omega);obtain⟨c,e0,e1,e2,e3⟩:=t;have a0:e0=0:=h0;have a1:e1=0:=h1;have a2:e2=0:=h2;have a3:e3=0:=h3;rw[a0,a1,a2,a3]
 have hc:Mp.Can o (tl (cnT o L)):=by rw[fC];exact Mp.canon_can (dY L)
 match hm:cnT o L with
 |[]=>exact .inl ⟨rfl,rfl⟩
 |[t] =>
  refine .inr ⟨t,rfl,?_⟩;have e1:=hz t (by rw[hm];simp);show t.1*Mp.pv ys (moL t.2)+0=t.1
  rw[e1,Mp.pv_zero ys _ (by simp),Rat.mul_one,Rat.add_zero]
 |t::u::r =>
  exfalso
  rw[hm] at hc;have h1:=(List.pairwise_cons.1 hc.so).1 (u.1,moL u.2) (by simp[tl]);have e1:=hz t (by rw[hm];simp);have e2:=hz u (by rw[hm];simp);simp only[e1,e2] at h1;rw[Mp.ahead_self] at h1;cases h1
structure Ar (l:List At):Prop where
 len:l.length*40≤140737488355328
 str:∀t∈l,t.1.length≤140737488355328
 ex:∀t∈l,t.2.length≤17592186044416
theorem Ar.l9 {l:List At} (h:Ar l):l.length≤9223372036854775807:=by have:=h.len;omega
theorem Ar.s9 {l:List At} (h:Ar l):∀t∈l,t.1.length≤9223372036854775807:=fun t ht=>by have:=h.str t ht;omega
theorem Y1 (a b:Int):aQ [.int .i64 a,.int .i64 b]=some ([.i64,.i64],[a,b]):=rfl
theorem Y2:([IntKind.i64,IntKind.i64]:List IntKind).length=2:=rfl
theorem Y3:((0:Int)<0)=False:=by decide
theorem Y4:(0:Int)+0=0:=rfl
def au:=an Y3 (an Y4 (an @decide_false (an @decide_true (an @Y1 (an Y2 a6)))))
section
variable (T U T' U':Nat) (a b:List At) (n ord:Int) (hA:Ar a) (hB:Ar b)
include hA hB
end
set_option maxHeartbeats 2000000
abbrev LSt (T:Nat) (l:List (List UInt8)):D:=.list T 1 (l.map D.str)
abbrev FI:Nat:=88
abbrev LQ (l:List Rat):D:=.list FI 4 (l.map qI)
noncomputable def pF:Nat→List (List UInt8)→Int×Int
 |_,[]=>(0,0)
 |i,t::l=>if cR t=0 then pF (i+1) l else (cR t,(i:Int))
noncomputable def ptF (ts:List (List UInt8)) (n:Int):Int×Int:=if (ts.length:Int)=n then pF 0 ts else (8,0)
noncomputable def ptL (ts:List (List UInt8)):List Rat:=ts.map qR
theorem i4 (ts:List (List UInt8)):(ptL ts).length=ts.length:=List.length_map _
theorem zbj {l:List (List UInt8)}{i:Nat} (h:i<l.length):(l.map D.str).getD i default = .str (st0 l i):=by simp[st0,h]
theorem vD:∀{l:List (List UInt8)}{i:Nat},(pF i l).1=0→pF i l=(0,0)∧∀t∈l,cR t=0
 |[],_,_=>⟨rfl,fun _ h=>by cases h⟩
 |t::l,i,h=>by
  rw[pF] at h ⊢;split at h
  ·rename_i h0;rw[if_pos h0];obtain⟨h1,h2⟩:=vD h;exact⟨h1,fun x hx=>by
    rcases List.mem_cons.1 hx with rfl | hx
    ·exact h0
    ·exact h2 x hx⟩
  ·rename_i h0;exact absurd h h0
theorem vF {ts:List (List UInt8)}{n:Int} (h:(ptF ts n).1=0):(ts.length:Int)=n∧ptF ts n=(0,0):=by
 unfold ptF at h ⊢;split at h
 ·rename_i h0;rw[if_pos h0];exact⟨h0,(vD h).1⟩
 ·cases h
noncomputable def ptA (ts:List (List UInt8)) (n:Int):List Rat:=if (ptF ts n).1=0 then ptL ts else []
theorem aY (x:Rat):cW (List.map AV.p (qI x).cells)=some (qI x).cells:=rfl
theorem zbk (T:Nat) (ts:List (List UInt8)) (n:Int) (hl:ts.length≤17592186044416) (hs:∀t∈ts,t.length≤9223372036854775807) (hn:n≤4) :
  Con Tryz.prog AN 56 [LSt T ts,J n] (.tup [LQ (ptA ts n),flt (ptF ts n).1 (ptF ts n).2]):=by
 by_cases hn:(ts.length:Int)=n
 ·have e:ptF ts n=pF 0 ts:=if_pos hn;refine qP.con rfl (by simp) ?_;(repeat first|with_reducible refine kp [0,1,5,14] ?_|simp only[kV,simprocAttr,aa,aY,aB,hn]|refine aN ?_);refine ulk ?_;(repeat first|simp only[kV,simprocAttr,aa,aY,hn]|refine aN ?_);refine kp [0,5] ?_;(repeat first|simp only[kV,simprocAttr,aa,aY,hn]|refine aN ?_);refine kp [0,5,6] ?_;(repeat first|simp only[kV,simprocAttr,aa,aY,hn]|refine aN ?_);refine kp [5,6,16,17,18] ?_;(repeat first|simp only[kV,simprocAttr,aa,aY,hn]|refine aN ?_);refine aL (ι:=Nat) (fun i=>i≤ts.length∧pF i (ts.drop i)=pF 0 ts) (fun i=>⟨ar [(5,.ptr 5 0 0),(6,.slice 206 0 i),(16,.p (LSt T ts)),(17,.p (J n)),(18,.p (J i))],
   ay [(5,⟨25,2,.box (.p (flt 0 0)),false⟩),(206,⟨FI,4,.row ((ptL (ts.take i)).map qI),false⟩)]⟩) (fun i=>ts.length-i) 0 ⟨Nat.zero_le _,rfl⟩ (Sub.tr (Sub.nilG 6 206 FI 4) (Sub.toG [5,6,16,17,18] [9,10,37])) ?_
  rintro i ⟨hi,he⟩;by_cases h:i<ts.length
  ·have hI:(i:Int)<n:=by omega
   have hI2:(i:Int)<(ts.length:Int):=by omega
   have g1:=zbj h;have hst:=hs _ (SN h);have htk:=SP h;have hlen:(ptL (ts.take i)).length=i:=by rw[i4,List.length_take,Nat.min_eq_left hi]
   rw[SO h,pF] at he;have f1:(ptL (ts.take (i+1))).map qI=(ptL (ts.take i)).map qI++[qI (qR (st0 ts i))]:=by rw[htk];simp[ptL]
   generalize st0 ts i=t at *;generalize ptL (ts.take i)=q at *;have hb:(i+1)*32≤140737488355328*8:=by omega
   (repeat first|with_reducible refine kp [5,6,16,17,18,19] ?_|simp only[kV,simprocAttr,aa,aY,hI]|refine aN ?_);(try simp only[kV,simprocAttr,aa,aY,hI,hI2,g1,h]);refine ulk ?_;(repeat first|with_reducible refine kp [5,6,7,8,16,17,18] ?_|simp only[kV,simprocAttr,aa,aY,hI,hI2,g1,h]|refine aN ?_);refine⟨_,cx (oU t hst),ulc ?_⟩;(repeat first|with_reducible refine kp [5,6,7,9,10,16,17,18,30] ?_|simp only[kV,simprocAttr,aa,aY,hlen]|refine aN ?_);by_cases hc:cR t=0
   ·rw[if_pos hc] at he;refine⟨fun h1=>absurd h1 (by rw[hc];simp),fun _ => ?_⟩;(try simp only[kV,simprocAttr,aa,aY,hlen]);refine ulk ?_;(repeat first|with_reducible refine kp [5,6,9,16,17,18] ?_|simp only[kV,simprocAttr,aa,aY,hlen]|refine aN ?_);exact⟨i+1,⟨h,he⟩,by rw[f1];exact (Sub.toG [5,6,16,17,18] [9,10,37]),by omega⟩
   ·rw[if_neg hc] at he;refine⟨fun _ => ?_,fun h1=>absurd h1 (by rw[decide_eq_false hc];simp)⟩;have ea:ptA ts n=[]:=by unfold ptA;rw[e,←he,if_neg hc]
    rw[ea,e,←he];(try simp only[kV,simprocAttr,aa,aY]);refine ulk ?_;(repeat first|simp only[kV,simprocAttr,aa,aY]|refine aN ?_);refine⟨_,cx (dK (cR t) i),ulc ?_⟩;(repeat first|with_reducible refine kp [4,5] ?_|simp only[kV,simprocAttr,aa,aY,ae,ai,ah,af]|refine aN ?_);rfl
  ·have hI:¬ (i:Int)<n:=by omega
   obtain rfl:i=ts.length:=by omega
   have htk:List.take ts.length ((ptL ts).map qI)=(ptL ts).map qI:=List.take_of_length_le (by rw[List.length_map,i4];exact Nat.le_refl _);rw[List.drop_length,pF] at he;have ea:ptA ts n=ptL ts:=by unfold ptA;rw[e,←he];exact if_pos rfl
   rw[ea,e,←he,List.take_length];(repeat first|with_reducible refine kp [5,6,16,17,18,19] ?_|simp only[kV,simprocAttr,aa,aY,hI]|refine aN ?_);(try simp only[kV,simprocAttr,aa,aY,hI,i4]);refine ulk ?_;(repeat first|simp only[kV,simprocAttr,aa,aY,hI,i4]|refine aN ?_);refine jt 206 _ [5,6] (by rfl) ?_;refine ulk ?_;(repeat first|with_reducible refine kp [4,5] ?_|simp only[kV,simprocAttr,aa,aY,ae,ai,ah,af,hI,i4]|refine aN ?_);simp only[Bool.true_or,if_true];rw[htk]
 ·have e:ptF ts n=(8,0):=if_neg hn;have ea:ptA ts n=[]:=by unfold ptA;rw[e];exact if_neg (by decide)
  rw[e,ea];refine qP.con rfl (by simp) ?_;(repeat first|with_reducible refine kp [0,1,5,14] ?_|simp only[kV,simprocAttr,aa,aY,aB,hn]|refine aN ?_);refine ulk ?_;(repeat first|simp only[kV,simprocAttr,aa,aY,hn]|refine aN ?_);refine⟨_,cx (dK 8 0),ulc ?_⟩;(repeat first|with_reducible refine kp [4,5] ?_|simp only[kV,simprocAttr,aa,aY,ae,ai,ah,af]|refine aN ?_);rfl
noncomputable def fK (a:List At) (n v ord:Int):Int×Int:=if (fM a n ord).1=0 then (if 0≤v∧v<n then (0,0) else (10,0)) else fM a n ord
noncomputable def dM (a:List At) (v:Nat) (ord:Int):List Tm:=cnT ord (derT v (frm a ord))
noncomputable def cN (a:List At) (n v ord:Int):List At:=if (fK a n v ord).1=0 then WR n.toNat (dM a v.toNat ord) else []
section
variable (a:List At) (n ord:Int) (ha:Gd a n ord) (v:Nat) (hv:v<4)
include ha hv
theorem zbl:(frm a ord).length≤400:=Nat.le_trans (gY a ord) ha.len
theorem vG:Con Tryz.prog AN 61 [SmD (frm a ord) n ord,J v] (SmD (dM a v ord) n ord)∧Bc 4000000 (dM a v ord)∧(dM a v ord).length≤400:=by
 have hl:=zbl a n ord ha v hv;obtain⟨h1,h2⟩:=Td n ord hv (ha.sz ord) (ha.fx ord) (Nat.le_trans hl (by decide)) (c:=9) (Nat.le_trans hl (by decide)) (p:=4000000) (by decide) (by decide) (by decide) (by decide);exact⟨h1,h2.bc (by decide) (by decide),Nat.le_trans (jJ _ _) (Nat.le_trans (ju v _) hl)⟩
end
section
variable (T U:Nat) (a:List At) (n v ord:Int) (hl:a.length≤9223372036854775807) (hs:∀t∈a,t.1.length≤9223372036854775807)
include hl hs
theorem pB:Con Tryz.prog AN 23 [LTa T U a,J n,J v,J ord] (.tup [LTa 83 3 (cN a n v ord),flt (fK a n v ord).1 (fK a n v ord).2]):=by
 by_cases h:(fM a n ord).1=0
 ·have hg:=du h;have rc:=iw T U a n ord hg hl hs;by_cases hv:0≤v∧v<n
  ·have hd:fK a n v ord=(0,0):=by unfold fK;rw[if_pos h,if_pos hv]
   have he:cN a n v ord=WR n.toNat (dM a v.toNat ord):=if_pos (by rw[hd]);have h4:=hg.n4;obtain⟨c1,c2,c3⟩:=vG a n ord hg v.toNat (by omega);have tc:=lR n.toNat (by omega) ord _ c2 (by decide) (by omega);rw[show ((n.toNat:Nat):Int)=n by omega] at tc;rw[show ((v.toNat:Nat):Int)=v by omega] at c1;rw[hd,he];generalize WR n.toNat (dM a v.toNat ord)=r at *;have v1:¬ v<0:=by omega
   have v2:¬ n≤v:=by omega
   refine ku.con rfl (by simp) ?_;(repeat first|with_reducible refine kp [0,1,2,3,9] ?_|simp only[kV,simprocAttr,aa,aY,aa,ed]|refine aN ?_);refine⟨_,cx (rc),ulc ?_⟩;(repeat first|with_reducible refine kp [1,2,9,10,11,21] ?_|simp only[kV,simprocAttr,aa,aY,aa]|refine aN ?_);(try simp only[kV,simprocAttr,aa,aY,aa,v1,v2]);refine ulk ?_;(repeat first|with_reducible refine kp [1,2,9,10,11,29] ?_|simp only[kV,simprocAttr,aa,aY,aa,v1,v2]|refine aN ?_);refine ulk ?_;(repeat first|with_reducible refine kp [2,9,10,11] ?_|simp only[kV,simprocAttr,aa,aY,aa,v1,v2]|refine aN ?_);refine⟨_,cx (c1),ulc ?_⟩;(repeat first|simp only[kV,simprocAttr,aa,aY,aa]|refine aN ?_);refine⟨_,cx (tc),ulc ?_⟩;(repeat first|with_reducible refine kp [8,9] ?_|simp only[kV,simprocAttr,aa,aY,aa,ae,ai,ah,af]|refine aN ?_)
  ·have hd:fK a n v ord=(10,0):=by unfold fK;rw[if_pos h,if_neg hv]
   have he:cN a n v ord=[]:=if_neg (by rw[hd];decide);rw[hd,he];by_cases v1:v<0
   ·refine ku.con rfl (by simp) ?_;(repeat first|with_reducible refine kp [0,1,2,3,9] ?_|simp only[kV,simprocAttr,aa,aY,aa,ed]|refine aN ?_);refine⟨_,cx (rc),ulc ?_⟩;(repeat first|with_reducible refine kp [1,2,9,10,11,21] ?_|simp only[kV,simprocAttr,aa,aY,aa]|refine aN ?_);(try simp only[kV,simprocAttr,aa,aY,aa,v1]);refine ulk ?_;(repeat first|with_reducible refine kp [1,2,9,10,11,29] ?_|simp only[kV,simprocAttr,aa,aY,aa,v1]|refine aN ?_);refine ulk ?_;(repeat first|simp only[kV,simprocAttr,aa,aY,aa,v1]|refine aN ?_);refine⟨_,cx (dK 10 0),ulc ?_⟩;(repeat first|with_reducible refine kp [8,9] ?_|simp only[kV,simprocAttr,aa,aY,aa,ae,ai,ah,af]|refine aN ?_);rfl
   ·have v2:n≤v:=by omega
    refine ku.con rfl (by simp) ?_;(repeat first|with_reducible refine kp [0,1,2,3,9] ?_|simp only[kV,simprocAttr,aa,aY,aa,ed]|refine aN ?_);refine⟨_,cx (rc),ulc ?_⟩;(repeat first|with_reducible refine kp [1,2,9,10,11,21] ?_|simp only[kV,simprocAttr,aa,aY,aa]|refine aN ?_);(try simp only[kV,simprocAttr,aa,aY,aa,v1,v2]);refine ulk ?_;(repeat first|with_reducible refine kp [1,2,9,10,11,29] ?_|simp only[kV,simprocAttr,aa,aY,aa,v1,v2]|refine aN ?_);refine ulk ?_;(repeat first|simp only[kV,simprocAttr,aa,aY,aa,v1,v2]|refine aN ?_);refine⟨_,cx (dK 10 0),ulc ?_⟩;(repeat first|with_reducible refine kp [8,9] ?_|simp only[kV,simprocAttr,aa,aY,aa,ae,ai,ah,af]|refine aN ?_);rfl
 ·have hd:fK a n v ord=fM a n ord:=if_neg h;have he:cN a n v ord=[]:=if_neg (by rw[hd];exact h);have rb:=ky T U a n ord h hl hs;rw[hd,he];generalize fM a n ord=f at *;refine ku.con rfl (by simp) ?_;(repeat first|with_reducible refine kp [0,1,2,3,9] ?_|simp only[kV,simprocAttr,aa,aY,aa,ed]|refine aN ?_);refine⟨_,cx (rb),ulc ?_⟩;(repeat first|with_reducible refine kp [1,2,9,10,11,21] ?_|simp only[kV,simprocAttr,aa,aY,aa,h]|refine aN ?_);refine ulk ?_;(repeat first|with_reducible refine kp [8,9] ?_|simp only[kV,simprocAttr,aa,aY,aa,ae,ai,ah,af,h]|refine aN ?_);rfl
end
end Go.Proofs.YtbnhgnhgbhjkcaaGreat.M
