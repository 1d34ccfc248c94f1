/- Lemmas. -/
import Derived.Test.YtbnhgnhgbhjkcaaGreatV40
import Derived.Test.YtbnhgnhgbhjkcaaGreatV47
import Derived.Test.YtbnhgnhgbhjkcaaGreatV48
import Derived.Test.YtbnhgnhgbhjkcaaGreatV25
set_option linter.defProp false
set_option linter.unusedSectionVars false
set_option linter.unusedSimpArgs false
set_option linter.unusedVariables false
namespace Go.Proofs.YtbnhgnhgbhjkcaaGreat.M
open Go.RowKit
set_option maxRecDepth 20000
set_option maxHeartbeats 2000000
noncomputable def rzA (t:At):Zm:=(qR t.1,t.2)
noncomputable def rzL (l:List At):Mp.TL:=l.map rzA
theorem kS (l:List At):(rzL l).length=l.length:=List.length_map _
theorem X6 {l:List At}{i:Nat} (h:i<l.length):zt (rzL l) i=(qR (at0 l i).1,(at0 l i).2):=by simp[zt,rzL,rzA,at0,h]
theorem Gd.wd {l:List At}{n ord:Int} (h:Gd l n ord):Mp.Wd n.toNat (rzL l):=fun x hx=>by
 obtain⟨y,hy,rfl⟩:=List.mem_map.1 hx;have:=(iI (h.ft y hy)).1;show y.2.length=_
 omega
def SzZ (a b:Nat) (l:Mp.TL):Prop:=∃D,0<D∧D≤2^a∧Dz D (2^b) l
theorem sR (l:List At){k:Nat} (h:l.length≤k):SzZ (4000*k) (4000+4000*k) (rzL l):=by
 obtain⟨D,h1,h2,h3⟩:=mH l h;refine⟨D,h1,h2,fun x hx => ?_⟩;obtain⟨y,hy,rfl⟩:=List.mem_map.1 hx;exact h3 (rdA y) (List.mem_map.2 ⟨y,hy,rfl⟩)
def ab:=an @za5 (an @za6 csZ)
theorem gL (any:Bool) (M:Mem) (a b c d:D) (id off len:Nat):AV.toD any M 20 (.agg [.p a,.p b,.p c,.p d,.slice id off len])=(match M id with
  |some o=>match o.cont with
   |.row l=>if (o.frz||any)&&decide (off+len≤l.length) then some (.agg [a,b,c,d,.list o.T o.sz ((l.drop off).take len)]) else none
   |_=>none
  |none=>none):=by
 simp only[AV.toD,cU];cases M id with
 |none=>rfl
 |some o =>
  obtain⟨T,sz,cont,frz⟩:=o;cases cont with
  |row l=>by_cases hc:((frz||any)&&decide (off+len≤l.length))=true<;>simp only[hc]<;>rfl
  |box v=>rfl
  |junk=>rfl
theorem nE (any:Bool) (M:Mem) (a:D) (id off len:Nat):AV.toD any M 20 (.agg [.p a,.slice id off len])=(match M id with
  |some o=>match o.cont with
   |.row l=>if (o.frz||any)&&decide (off+len≤l.length) then some (.agg [a,.list o.T o.sz ((l.drop off).take len)]) else none
   |_=>none
  |none=>none):=by
 simp only[AV.toD,cU];cases M id with
 |none=>rfl
 |some o =>
  obtain⟨T,sz,cont,frz⟩:=o;cases cont with
  |row l=>by_cases hc:((frz||any)&&decide (off+len≤l.length))=true<;>simp only[hc]<;>rfl
  |box v=>rfl
  |junk=>rfl
theorem fL (e:List Int):List.take e.length (e.map (D.int .i64))=e.map (D.int .i64):=by rw[List.take_of_length_le (by simp)]
theorem X7 (T U:Nat) (l:List At){n ord:Int} (h:Gd l n ord) (hs:∀t∈l,t.1.length≤9223372036854775807){a b p:Nat} (hz:SzZ a b (rzL l)) (h1:a<p) (h2:b+10<p) (hp:p≤2048000000000) :
  Con Tryz.prog AN 17 [LTa T U l] (MZ (Mp.growL [] (rzL l))):=by
 obtain⟨D,hD0,hD,hdb⟩:=hz;have hDp:D<2^p:=Nat.lt_of_le_of_lt hD (Nat.pow_lt_pow_right (by omega) h1);have h400:=h.len;have hXp:∀i,i≤401→i*2^b<2^p:=fun i hi=>by
  refine Nat.lt_of_le_of_lt (Nat.mul_le_mul_right _ (Nat.le_trans hi (show 401≤2^10 by decide))) ?_;rw[←Nat.pow_add];exact Nat.pow_lt_pow_right (by omega) (by omega)
 have hwd:=h.wd;have hn4:=h.n4;refine MN.conW (A:=[]) rfl (by simp) ?_;(repeat first|simp only[kV,simprocAttr,ab,bf]|refine aN ?_);refine kp [0] ?_;(repeat first|simp only[kV,simprocAttr,ab,bf]|refine aN ?_);refine kp [0,3] ?_;(repeat first|simp only[kV,simprocAttr,ab,bf]|refine aN ?_);refine kp [0,3,4] ?_;(repeat first|simp only[kV,simprocAttr,ab,bf]|refine aN ?_);refine aE (ι:=Nat) (fun i=>i≤l.length) (fun i=>⟨ai [(0,.p (LTa T U l)),(3,.p (MZ (Mp.growL [] ((rzL l).take i)))),(4,.p (.int .i64 i))],aw []⟩) (fun i=>l.length-i) 0 (Nat.zero_le _) ((Sub.revG 3 (MZ []) (by rfl)).tr (Sub.toG [0,3,4] [5,6,29])) ?_;intro i hi;by_cases h':i<l.length
 ·have hI:(i:Int)<(l.length:Int):=by omega
  have g1:=gS (U:=U) h';have hst:=hs _ (fY h');have hii:i<(rzL l).length:=by rw[kS];exact h'
  have hgr:=za7 (a:=[]) hii;have hgl:=Mp.growL_len ((rzL l).take i) [];rw[List.length_take,Nat.min_eq_left (by omega)] at hgl;have hgd:=jt (hdb.take i) (Dz.nil (X:=0));rw[List.length_take,Nat.min_eq_left (by omega)] at hgd;have hgw:=Mp.growL_wd (a:=[]) (fun x hx=>by cases hx) (za8 hwd i);have hbd:=hdb _ (dn hii);have hbw:=hwd _ (dn hii);rw[X6 h'] at hgr hbd hbw;have hxi:=hXp (i+1) (by omega);rw[Nat.succ_mul] at hxi;generalize Mp.growL [] ((rzL l).take i)=q at *;generalize at0 l i=t at *;obtain⟨c,e⟩:=t;simp only at hgr hbd hbw hst;have c1:=nY q (qR c,e) hgw hbw hgd hbd (by simp only[List.length_nil] at hgl;omega) (by omega) hDp (by omega) hp;have c0:=lK c hst;have hlen:e.length*8≤140737488355328:=by omega
  have hlen2:e.length≤9223372036854775807:=by omega
  have hlen3:e.length≤1000000000:=by omega
  (repeat first|with_reducible refine kp [0,3,4,10] ?_|simp only[kV,simprocAttr,ab,hI]|refine aN ?_);(try simp only[kV,simprocAttr,ab,hI,g1,h']);refine ulk ?_;(repeat first|with_reducible refine kp [0,3,4] ?_|simp only[kV,simprocAttr,ab,hI,g1,h']|refine aN ?_);refine wq (cxw (B:=[173,3]) (c0)) (ulc ?_);(repeat first|with_reducible refine kp [0,3,4,5] ?_|simp only[kV,simprocAttr,ab,az,aA,hI,g1,h',hlen,hlen2,gL,nZ,fL,Bool.true_or,List.drop_zero]|refine aN ?_);refine wq (cxw (B:=[173,3]) (c1)) (ulc ?_);(repeat first|with_reducible refine kp [0,3,4] ?_|simp only[kV,simprocAttr,ab]|refine aN ?_);exact⟨i+1,h',by rw[hgr];exact (Sub.toG [0,3,4] [5,6,29]),by omega⟩
 ·have hI:¬ (i:Int)<(l.length:Int):=by omega
  obtain rfl:i=l.length:=by omega
  rw[List.take_of_length_le (by rw[kS];omega)];(repeat first|with_reducible refine kp [0,3,4,10] ?_|simp only[kV,simprocAttr,ab,hI]|refine aN ?_);refine ulk ?_;(repeat first|with_reducible refine kp [2,3] ?_|simp only[kV,simprocAttr,ab,ac,ah,ae,af,hI]|refine aN ?_)
theorem vh (l:List Int) (i:Nat) (x:Int):(l.map (D.int .i64)).set i (.int .i64 x)=(l.set i x).map (D.int .i64):=List.map_set.symm
theorem oK:∀{i:Nat}{l m:List Int},l.length=m.length→i<l.length→(∀k,k<i→l.getD k 0=m.getD k 0)→l.getD i 0≠m.getD i 0→Mp.gtL l m=decide (m.getD i 0<l.getD i 0)
 |_,[],_,_,h,_,_=>by simp at h
 |_,_::_,[],hl,_,_,_=>by simp at hl
 |0,a::l,b::m,_,_,_,hne=>by
  have hne':¬ a=b:=hne;rw[Mp.gtL,if_neg hne'];rfl
 |i+1,a::l,b::m,hl,h,hk,hne=>by
  have h0:a=b:=hk 0 (by omega);rw[Mp.gtL,if_pos h0];exact oK (i:=i) (by simpa using hl) (by simpa using h) (fun k hki=>hk (k+1) (by omega)) hne
theorem oL {a b:List Int} (hl:a.length=b.length) (h:∀k,k<a.length→a.getD k 0=b.getD k 0):a=b:=List.ext_getElem hl fun k h1 h2=>by
 have:=h k h1
 rwa[List.getD_eq_getElem?_getD,List.getD_eq_getElem?_getD,List.getElem?_eq_getElem h1,List.getElem?_eq_getElem h2] at this
theorem lL {a:List Int}{k:Nat} (h:k<a.length):(a.reverse.map fun x => -x).getD k 0 = -(a.getD (a.length-1-k) 0):=by
 rw[List.getD_eq_getElem?_getD,List.getElem?_map,List.getElem?_reverse h,List.getD_eq_getElem?_getD,List.getElem?_eq_getElem (by omega)];rfl
theorem zco {i:Nat}{a b:List Int} (hl:a.length=b.length) (h:i<a.length) (hk:∀k,i<k→k<a.length→a.getD k 0=b.getD k 0) (hne:a.getD i 0≠b.getD i 0) :
  Mp.gtL (a.reverse.map fun x => -x) (b.reverse.map fun x => -x)=decide (a.getD i 0<b.getD i 0):=by
 have e1:(a.reverse.map fun x => -x).getD (a.length-1-i) 0 = -(a.getD i 0):=by rw[lL (by omega),show a.length-1-(a.length-1-i)=i by omega]
 have e2:(b.reverse.map fun x => -x).getD (a.length-1-i) 0 = -(b.getD i 0):=by rw[lL (by omega),show b.length-1-(a.length-1-i)=i by omega]
 rw[oK (i:=a.length-1-i) (by simp[hl]) (by simp;omega) (fun k hki=>by
  rw[lL (by omega),lL (by omega),←hl,hk (a.length-1-k) (by omega) (by omega)]) (by rw[e1,e2];omega),e1,e2]
 congr 1
 apply propext;omega
theorem oM {l:List Int}{i:Nat} (h:i<l.length):(l.take (i+1)).sum=(l.take i).sum+l.getD i 0:=by
 rw[List.take_succ_eq_append_getElem h,List.sum_append];simp[h]
theorem jC {l:List Int} (h:∀k,-1000000000≤l.getD k 0∧l.getD k 0≤1000000000):∀{i:Nat},i≤l.length→-1000000000*(i:Int)≤(l.take i).sum∧(l.take i).sum≤1000000000*(i:Int)
 |0,_=>by simp
 |i+1,hi=>by
  have:=jC h (i:=i) (by omega);have h2:=h i;rw[oM (by omega)];omega
theorem zcp {a b:List Int}:Mp.ahead 0 a b=Mp.gtL a b:=by unfold Mp.ahead Mp.key;rw[if_pos rfl,if_pos rfl]
theorem zcq {ord:Int}{a b:List Int} (h:ord≠0) (hs:a.sum≠b.sum):Mp.ahead ord a b=decide (b.sum<a.sum):=by
 unfold Mp.ahead Mp.key;rw[if_neg h,if_neg h];split<;>(rw[Mp.gtL,if_neg hs])
theorem zcr {ord:Int}{a b:List Int} (h:ord≠0) (h2:ord≠2) (hs:a.sum=b.sum):Mp.ahead ord a b=Mp.gtL a b:=by
 unfold Mp.ahead Mp.key;rw[if_neg h,if_neg h,if_neg h2,if_neg h2,Mp.gtL,if_pos hs]
theorem zcs {a b:List Int} (hs:a.sum=b.sum):Mp.ahead 2 a b=Mp.gtL (a.reverse.map fun x => -x) (b.reverse.map fun x => -x):=by
 unfold Mp.ahead Mp.key;rw[if_neg (show ¬ (2:Int)=0 by decide),if_neg (show ¬ (2:Int)=0 by decide),if_pos rfl,if_pos rfl,Mp.gtL,if_pos hs]
section
variable (T U:Nat) (ord:Int) (a b:List Int) (hl:a.length=b.length) (hn:a.length≤1000)
include hl hn
theorem zct (hv:Mp.ahead ord a b=Mp.gtL a b) :
  cw [] (ConX Tryz.prog []) qV (ac (.bool (Mp.ahead ord a b)) [(6,none)]) ⟨ai [(0,.p (.list T 1 (a.map (D.int .i64)))),(1,.p (.list U 1 (b.map (D.int .i64))))],aw []⟩:=by
 rw[hv];skip
 (repeat first|simp only[kV,simprocAttr,ab]|refine aN ?_);refine kp [0,1,10] ?_;(repeat first|simp only[kV,simprocAttr,ab]|refine aN ?_);refine aE (ι:=Nat) (fun i=>i≤a.length∧∀k,k<i→a.getD k 0=b.getD k 0) (fun i=>⟨ai [(0,.p (.list T 1 (a.map (D.int .i64)))),(1,.p (.list U 1 (b.map (D.int .i64)))),(10,.p (.int .i64 i))],aw []⟩) (fun i=>a.length-i) 0 ⟨Nat.zero_le _,fun k hk=>by omega⟩ (Sub.toG [0,1,10] []) ?_;rintro i ⟨hi,he⟩;by_cases h:i<a.length
 ·have hI:(i:Int)<(a.length:Int):=by omega
  have hI2:(i:Int)<(b.length:Int):=by omega
  have hb:i<b.length:=by omega
  have g1:=dq h;have g2:=dq hb;(repeat first|with_reducible refine kp [0,1,10,64] ?_|simp only[kV,simprocAttr,ab,hI]|refine aN ?_);(try simp only[kV,simprocAttr,ab,hI,hI2,g1,g2,h,hb]);refine ulk ?_;(repeat first|with_reducible refine kp [0,1,10,75] ?_|simp only[kV,simprocAttr,ab,hI,hI2,g1,g2,h,hb]|refine aN ?_);by_cases hc:a.getD i 0=b.getD i 0
  ·refine⟨fun h1=>absurd h1 (by rw[hc];simp),fun _ => ?_⟩;(try simp only[kV,simprocAttr,ab]);refine ulk ?_;(repeat first|with_reducible refine kp [0,1,10] ?_|simp only[kV,simprocAttr,ab]|refine aN ?_);exact⟨i+1,⟨h,fun k hk=>by
    by_cases hki:k<i
    ·exact he k hki
    ·obtain rfl:k=i:=by omega
     exact hc⟩,(Sub.toG [0,1,10] []),by omega⟩
  ·refine⟨fun _ => ?_,fun h1=>absurd h1 (by rw[decide_eq_false hc];simp)⟩;rw[oK hl h he hc];(try simp only[kV,simprocAttr,ab,hI,hI2,g1,g2,h,hb]);refine ulk ?_;(repeat first|with_reducible refine kp [6] ?_|simp only[kV,simprocAttr,ab,ac,ah,ae,af,hI,hI2,g1,g2,h,hb]|refine aN ?_)
 ·have hI:¬ (i:Int)<(a.length:Int):=by omega
  have heq:a=b:=oL hl fun k hk=>he k (by omega)
  have hf:Mp.gtL a b=false:=by rw[heq];exact Mp.gtL_self _
  rw[hf];(repeat first|with_reducible refine kp [0,1,10,64] ?_|simp only[kV,simprocAttr,ab,hI]|refine aN ?_);refine ulk ?_;(repeat first|with_reducible refine kp [6] ?_|simp only[kV,simprocAttr,ab,ac,ah,ae,af,hI]|refine aN ?_)
theorem uI (ho:ord=0∨a.sum=b.sum) :
  cw [] (ConX Tryz.prog []) qW (ac (.bool (Mp.ahead ord a b)) [(6,none)]) ⟨ai [(0,.p (.list T 1 (a.map (D.int .i64)))),(1,.p (.list U 1 (b.map (D.int .i64)))),(2,.p (.int .i64 ord))],aw []⟩:=by
 by_cases h2:ord=2
 ·subst h2;have hs:a.sum=b.sum:=ho.resolve_left (by decide);rw[zcs hs];skip
  (repeat first|with_reducible refine kp [0,1,35] ?_|simp only[kV,simprocAttr,ab]|refine aN ?_);refine ulk ?_;(repeat first|simp only[kV,simprocAttr,ab]|refine aN ?_);refine kp [0,1,9] ?_;(repeat first|simp only[kV,simprocAttr,ab]|refine aN ?_);refine aE (ι:=Nat) (fun i=>i≤a.length∧∀k,i≤k→k<a.length→a.getD k 0=b.getD k 0) (fun i=>⟨ai [(0,.p (.list T 1 (a.map (D.int .i64)))),(1,.p (.list U 1 (b.map (D.int .i64)))),(9,.p (.int .i64 ((i:Int)-1)))],aw []⟩) (fun i=>i) a.length ⟨Nat.le_refl _,fun k hk hk2=>by omega⟩ (Sub.toG [0,1,9] []) ?_;rintro i ⟨hi,he⟩;cases i with
  |zero =>
   have hI:decide ((0:Int)≤0-1)=false:=by decide
   have heq:a=b:=oL hl fun k hk=>he k (by omega) hk
   have hf:Mp.gtL (a.reverse.map fun x => -x) (b.reverse.map fun x => -x)=false:=by rw[heq];exact Mp.gtL_self _
   rw[hf];(repeat first|with_reducible refine kp [0,1,9,40] ?_|simp only[kV,simprocAttr,ab,hI]|refine aN ?_);refine ulk ?_;(repeat first|with_reducible refine kp [6] ?_|simp only[kV,simprocAttr,ab,ac,ah,ae,af,hI]|refine aN ?_)
  |succ i =>
   have e0:((i+1:Nat):Int)-1=(i:Int):=by omega
   have e1:(0:Int)≤(i:Int):=by omega
   have e2:(i:Int).toNat=i:=by omega
   have h:i<a.length:=by omega
   have hb:i<b.length:=by omega
   have hI:(i:Int)<(a.length:Int):=by omega
   have hI2:(i:Int)<(b.length:Int):=by omega
   have g1:=dq h;have g2:=dq hb;rw[e0];(repeat first|with_reducible refine kp [0,1,9,40] ?_|simp only[kV,simprocAttr,ab,e0,e1]|refine aN ?_);(try simp only[kV,simprocAttr,ab,e0,e1,e2,hI,hI2,g1,g2,h,hb]);refine ulk ?_;(repeat first|with_reducible refine kp [0,1,9,51] ?_|simp only[kV,simprocAttr,ab,e0,e1,e2,hI,hI2,g1,g2,h,hb]|refine aN ?_);by_cases hc:a.getD i 0=b.getD i 0
   ·refine⟨fun h1=>absurd h1 (by rw[hc];simp),fun _ => ?_⟩;(try simp only[kV,simprocAttr,ab]);refine ulk ?_;(repeat first|with_reducible refine kp [0,1,9] ?_|simp only[kV,simprocAttr,ab]|refine aN ?_);exact⟨i,⟨by omega,fun k hk hk2=>by
     by_cases hki:i<k
     ·exact he k (by omega) hk2
     ·obtain rfl:k=i:=by omega
      exact hc⟩,(Sub.toG [0,1,9] []),by omega⟩
   ·refine⟨fun _ => ?_,fun h1=>absurd h1 (by rw[decide_eq_false hc];simp)⟩;rw[zco hl h (fun k hk hk2=>he k (by omega) hk2) hc];(try simp only[kV,simprocAttr,ab,e0,e1,e2,hI,hI2,g1,g2,h,hb]);refine ulk ?_;(repeat first|with_reducible refine kp [6] ?_|simp only[kV,simprocAttr,ab,ac,ah,ae,af,e0,e1,e2,hI,hI2,g1,g2,h,hb]|refine aN ?_)
 ·have hv:Mp.ahead ord a b=Mp.gtL a b:=by
   by_cases h0:ord=0
   ·rw[h0,zcp]
   ·exact zcr h0 h2 (ho.resolve_left h0)
  have ht:=zct T U ord a b hl hn hv;skip
  (repeat first|with_reducible refine kp [0,1,35] ?_|simp only[kV,simprocAttr,ab,h2]|refine aN ?_);refine ulk ?_;(repeat first|simp only[kV,simprocAttr,ab,h2]|refine aN ?_);exact⟨_,(Sub.toG [0,1] []),ht⟩
theorem zcu (A:List TypeId) (ho:0≤ord) (ha:∀k,-1000000000≤a.getD k 0∧a.getD k 0≤1000000000) (hb:∀k,-1000000000≤b.getD k 0∧b.getD k 0≤1000000000):Con Tryz.prog A 89 [.list T 1 (a.map (D.int .i64)),.list U 1 (b.map (D.int .i64)),.int .i64 ord] (.bool (Mp.ahead ord a b)):=by
 refine Con.mono (A:=[]) ?_ (by simp);by_cases h0:ord=0
 ·have ht:=uI T U ord a b hl hn (.inl h0);have h0':¬ 0<ord:=by omega
  refine qX.con rfl (by simp) ?_;(repeat first|with_reducible refine kp [0,1,2,12] ?_|simp only[kV,simprocAttr,ab,bh,h0']|refine aN ?_);refine ulk ?_;(repeat first|simp only[kV,simprocAttr,ab,h0']|refine aN ?_);exact⟨_,(Sub.toG [0,1,2] []),ht⟩
 ·have h0':0<ord:=by omega
  refine qX.con rfl (by simp) ?_;(repeat first|with_reducible refine kp [0,1,2,12] ?_|simp only[kV,simprocAttr,ab,bh,h0']|refine aN ?_);refine ulk ?_;(repeat first|simp only[kV,simprocAttr,ab,h0']|refine aN ?_);refine kp [0,1,2,7] ?_;(repeat first|simp only[kV,simprocAttr,ab,h0']|refine aN ?_);refine kp [0,1,2,7,8] ?_;(repeat first|simp only[kV,simprocAttr,ab,h0']|refine aN ?_);refine aE (ι:=Nat) (fun i=>i≤a.length) (fun i=>⟨ai [(0,.p (.list T 1 (a.map (D.int .i64)))),(1,.p (.list U 1 (b.map (D.int .i64)))),(2,.p (.int .i64 ord)),(7,.p (.int .i64 ((a.take i).sum-(b.take i).sum))),(8,.p (.int .i64 i))],aw []⟩) (fun i=>a.length-i) 0 (Nat.zero_le _) (Sub.toG [0,1,2,7,8] []) ?_;intro i hi;by_cases h:i<a.length
  ·have hI:(i:Int)<(a.length:Int):=by omega
   have hI2:(i:Int)<(b.length:Int):=by omega
   have hbb:i<b.length:=by omega
   have g1:=dq h;have g2:=dq hbb;have b1:=ha i;have b2:=hb i;have b3:=jC ha hi;have b4:=jC hb (i:=i) (by omega);have e1:(a.take i).sum-(b.take i).sum+(a.getD i 0-b.getD i 0)=(a.take (i+1)).sum-(b.take (i+1)).sum:=by rw[oM h,oM hbb];omega
   have b5:=jC ha (i:=i+1) (by omega);have b6:=jC hb (i:=i+1) (by omega);(repeat first|with_reducible refine kp [0,1,2,7,8,16] ?_|simp only[kV,simprocAttr,ab,hI]|refine aN ?_);(try simp only[kV,simprocAttr,ab,hI,hI2,g1,g2,h,hbb,e1]);refine ulk ?_;(repeat first|with_reducible refine kp [0,1,2,7,8] ?_|simp only[kV,simprocAttr,ab,hI,hI2,g1,g2,h,hbb,e1]|refine aN ?_);exact⟨i+1,h,(Sub.toG [0,1,2,7,8] []),by omega⟩
  ·have hI:¬ (i:Int)<(a.length:Int):=by omega
   obtain rfl:i=a.length:=by omega
   rw[List.take_length,hl,List.take_length];rw[←hl];(repeat first|with_reducible refine kp [0,1,2,7,8,16] ?_|simp only[kV,simprocAttr,ab,hI]|refine aN ?_);refine ulk ?_;(repeat first|with_reducible refine kp [0,1,2,7,31] ?_|simp only[kV,simprocAttr,ab,hI]|refine aN ?_);by_cases hs:a.sum=b.sum
   ·have hs0:a.sum-b.sum=0:=by omega
    have ht:=uI T U ord a b hl hn (.inr hs);refine⟨fun h1=>absurd h1 (by simp[hs0]),fun _ => ?_⟩;(try simp only[kV,simprocAttr,ab]);refine ulk ?_;(repeat first|simp only[kV,simprocAttr,ab]|refine aN ?_);exact⟨_,(Sub.toG [0,1,2] []),ht⟩
   ·have hs0:¬ a.sum-b.sum=0:=by omega
    refine⟨fun _ => ?_,fun h1=>absurd h1 (by simp[hs0])⟩;have e5:(0<a.sum-b.sum)=(b.sum<a.sum):=propext (by omega);rw[zcq h0 hs];(try simp only[kV,simprocAttr,ab,e5]);refine ulk ?_;(repeat first|with_reducible refine kp [6] ?_|simp only[kV,simprocAttr,ab,ac,ah,ae,af,e5]|refine aN ?_)
end
theorem qz {n m:Nat}{x y:Rat} (h:Bq n x) (k:Bq m y):Bq (n+m) (x*y):=by
 have p1:=Nat.pow_pos (n:=n) (show 0<2 by omega);have p2:=Nat.pow_pos (n:=m) (show 0<2 by omega);refine ((Db.of_self x).mul (Db.of_self y)).Bq ?_ ?_<;>rw[Nat.pow_add]
 ·exact Nat.mul_lt_mul'' h.2 k.2
 ·exact Nat.mul_lt_mul'' h.1 k.1
theorem IP {n m:Nat}{x y:Rat} (h:Bq n x) (k:Bq m y):Bq (n+m+1) (x+y):=by
 have h1:=(Db.of_self x).up y.den_pos;have h2:=(Db.of_self y).up x.den_pos;rw[Nat.mul_comm y.den] at h2;have e1:x.num.natAbs*y.den<2^(n+m):=by rw[Nat.pow_add];exact Nat.mul_lt_mul'' h.1 k.2
 have e2:y.num.natAbs*x.den<2^(n+m):=by rw[Nat.pow_add,Nat.mul_comm];exact Nat.mul_lt_mul'' h.2 k.1
 have e3:x.den*y.den<2^(n+m):=by rw[Nat.pow_add];exact Nat.mul_lt_mul'' h.2 k.2
 refine (h1.add h2).Bq ?_ ?_<;>rw[Nat.pow_succ]<;>omega
namespace P
set_option maxRecDepth 20000
set_option maxHeartbeats 2000000
open Mp
theorem pv_take:∀(xs:List Rat) (e:Mo) (j:Nat),j<xs.length→j<e.length→pv (xs.take (j+1)) (e.take (j+1))=pv (xs.take j) (e.take j)*xs.getD j 0^(e.getD j 0).toNat
 |x::xs,a::e,0,_,_=>by simp[pv,Rat.mul_one,Rat.one_mul]
 |x::xs,a::e,j+1,h1,h2=>by
  simp only[List.take_succ_cons,pv,List.getD_cons_succ];rw[pv_take xs e j (by simpa using h1) (by simpa using h2)];grind
 |[],_,_,h,_=>by simp at h
 |_::_,[],_,_,h=>by simp at h
theorem ev_snoc (xs:List Rat) (l:TL) (x:Rat×Mo):Mp.ev xs (l++[x])=Mp.ev xs l+x.1*Mp.pv xs x.2:=by
 unfold Mp.ev;rw[ju,zbe,zbd,Rat.add_zero]
end P
abbrev FZt:Nat:=50
abbrev LZ (l:List Rat):D:=.list FZt 4 (l.map qZ)
abbrev zF0:D:=.agg [.bool false,.list 3 1 [],.bool false,.list 3 1 []]
theorem IQ {l:List Rat}{i:Nat} (h:i<l.length):(l.map qZ).getD i default = .agg [hZ (l.getD i 0).num,lZ (l.getD i 0).num,hZ ((l.getD i 0).den:Int),lZ ((l.getD i 0).den:Int)]:=by
 simp only[List.getD_eq_getElem?_getD,List.getElem?_map,List.getElem?_eq_getElem h];rfl
theorem qA (i:Int) (hi:0≤i∧i≤9223372036854775807):Con Tryz.prog AN 37 [J i] (qZ (i:Rat)):=by
 refine zdw.con rfl (by simp) ?_;(repeat first|with_reducible refine kp [0,2] ?_|simp only[kV,simprocAttr,ab,bf]|refine aN ?_);refine⟨_,cx (jN i hi),ulc ?_⟩;(repeat first|simp only[kV,simprocAttr,ab]|refine aN ?_);refine⟨_,cx (jN 1 (by omega)),ulc ?_⟩;(repeat first|with_reducible refine kp [2] ?_|simp only[kV,simprocAttr,ab,ac,ah,ae,af]|refine aN ?_);rfl
theorem IR (l:Mp.TL) (xs:List Rat){a q p:Nat} (hw:Mp.Wd xs.length l) (he:∀x∈l,∀e∈x.2,0≤e∧e≤40) (hb:∀x∈l,Bq a x.1) (hx:∀x∈xs,Bq q x) (h4:xs.length≤4) (hl:l.length≤12) (hq:0<q) (hp:13*(a+160*q+2)≤p) (hp2:p≤2048000000000) :
  Con Tryz.prog AN 28 [MZ l,LZ xs] (qZ (Mp.ev xs l)):=by
 have c0:=qA 0 (by omega);rw[show ((0:Int):Rat)=0 from rfl] at c0;have hxi:∀j,Bq q (xs.getD j 0):=fun j=>by
  by_cases hk:j<xs.length
  ·have:xs.getD j 0=xs[j]:=by simp[hk]
   rw[this];exact hx _ (List.getElem_mem hk)
  ·have:xs.getD j 0=0:=by simp[List.getElem?_eq_none (Nat.le_of_not_lt hk)]
   rw[this];exact Bq.zero _ hq
 refine Ow.con rfl (by simp) ?_;(repeat first|with_reducible refine kp [0,1,4] ?_|simp only[kV,simprocAttr,ab,ax]|refine aN ?_);refine⟨_,cx (c0),ulc ?_⟩;(repeat first|simp only[kV,simprocAttr,ab]|refine aN ?_);refine kp [0,1,4,5] ?_;(repeat first|simp only[kV,simprocAttr,ab]|refine aN ?_);refine kp [0,1,4,5,6] ?_;(repeat first|simp only[kV,simprocAttr,ab]|refine aN ?_);refine aE (ι:=Nat) (fun i=>i≤l.length∧Bq (i*(a+160*q+1)+1) (Mp.ev xs (l.take i))) (fun i=>⟨ai [(0,.p (MZ l)),(1,.p (LZ xs)),(4,.ptr 4 0 0),(5,.ptr 5 0 0),(6,.p (J i))],aw [(4,⟨FZt,4,.box (.p zF0),false⟩),(5,⟨FZt,4,.box (.p (qZ (Mp.ev xs (l.take i)))),false⟩)]⟩) (fun i=>l.length-i) 0 ⟨Nat.zero_le _,Bq.zero _ (by omega)⟩ (Sub.toG [0,1,4,5,6] [7]) ?_;rintro i ⟨hi,hs⟩;by_cases h:i<l.length
 ·have hI:(i:Int)<(l.length:Int):=by omega
  have g1:=gT h;have hxm:=dn h;have hbx:=hb _ hxm;have hwx:=hw _ hxm;have hex:∀k,0≤(zt l i).2.getD k 0∧(zt l i).2.getD k 0≤40:=fun k=>by
   by_cases hk:k<(zt l i).2.length
   ·have:(zt l i).2.getD k 0=(zt l i).2[k]:=by simp[hk]
    rw[this];exact he _ hxm _ (List.getElem_mem hk)
   ·have:(zt l i).2.getD k 0=0:=by simp[List.getElem?_eq_none (Nat.le_of_not_lt hk)]
    rw[this];omega
  have hst:Mp.ev xs (l.take (i+1))=Mp.ev xs (l.take i)+(zt l i).1*Mp.pv xs (zt l i).2:=by rw[jG h,P.ev_snoc]
  generalize Mp.ev xs (l.take i)=sm at *;generalize zt l i=x at *;obtain⟨c,e⟩:=x;simp only at hbx hwx hex hst;have key:∀j k:Nat,j≤4→k≤40→(j<4∨k=0)→a+q*(40*j+k)≤a+160*q:=fun j k h1 h2 h3=>by
   have:q*(40*j+k)≤q*160:=Nat.mul_le_mul_left _ (by omega);omega
  (repeat first|with_reducible refine kp [0,1,4,5,6,14] ?_|simp only[kV,simprocAttr,ab,hI]|refine aN ?_);(try simp only[kV,simprocAttr,ab,hI,g1,h]);refine ulk ?_;(repeat first|simp only[kV,simprocAttr,ab,hI,g1,h]|refine aN ?_);refine kp [0,1,4,5,6] ?_;(repeat first|simp only[kV,simprocAttr,ab,hI,g1,h]|refine aN ?_);refine kp [0,1,4,5,6,7] ?_;(repeat first|simp only[kV,simprocAttr,ab,hI,g1,h]|refine aN ?_);refine kp [0,1,4,5,6,7,8] ?_;(repeat first|simp only[kV,simprocAttr,ab,hI,g1,h]|refine aN ?_);refine aE (ι:=Nat) (fun j=>j≤xs.length∧Bq (a+q*(40*j)) (c*Mp.pv (xs.take j) (e.take j))) (fun j=>⟨ai [(0,.p (MZ l)),(1,.p (LZ xs)),(4,.ptr 4 0 0),(5,.ptr 5 0 0),(6,.p (J i)),(7,.ptr 7 0 0),(8,.p (J j))],aw [(4,⟨FZt,4,.box (.p zF0),false⟩),(5,⟨FZt,4,.box (.p (qZ sm)),false⟩),(7,⟨FZt,4,.box (.p (qZ (c*Mp.pv (xs.take j) (e.take j)))),false⟩)]⟩) (fun j=>xs.length-j) 0 ⟨Nat.zero_le _,by simpa[Mp.pv,Rat.mul_one] using hbx⟩ (by rw[show c*Mp.pv (xs.take 0) (e.take 0)=c by simp[Mp.pv,Rat.mul_one]];exact (Sub.toG [0,1,4,5,6,7,8] [])) ?_;rintro j ⟨hj,hbj⟩;by_cases h':j<xs.length
  ·have hJ:(j:Int)<(xs.length:Int):=by omega
   have hje:j<e.length:=by omega
   have hJe:(j:Int)<(e.length:Int):=by omega
   have g2:=dq hje;have g3:=IQ h';have hxj:=hxi j;have hej:=hex j;have hpt:=P.pv_take xs e j h' hje;generalize Mp.pv (xs.take j) (e.take j)=w at *;generalize hxx:xs.getD j 0=z at *;generalize hee:e.getD j 0=n at *;(repeat first|with_reducible refine kp [0,1,4,5,6,7,8,25] ?_|simp only[kV,simprocAttr,ab,hJ]|refine aN ?_);refine ulk ?_;(repeat first|simp only[kV,simprocAttr,ab,hJ]|refine aN ?_);refine kp [0,1,4,5,6,7,8] ?_;(repeat first|simp only[kV,simprocAttr,ab,hJ]|refine aN ?_);refine kp [0,1,4,5,6,7,8,9] ?_;(repeat first|simp only[kV,simprocAttr,ab,hJ]|refine aN ?_);refine aE (ι:=Nat) (fun k=>(k:Int)≤n∧Bq (a+q*(40*j+k)) (c*w*z^k)) (fun k=>⟨ai [(0,.p (MZ l)),(1,.p (LZ xs)),(4,.ptr 4 0 0),(5,.ptr 5 0 0),(6,.p (J i)),(7,.ptr 7 0 0),(8,.p (J j)),(9,.p (J k))],aw [(4,⟨FZt,4,.box (.p zF0),false⟩),(5,⟨FZt,4,.box (.p (qZ sm)),false⟩),(7,⟨FZt,4,.box (.p (qZ (c*w*z^k))),false⟩)]⟩) (fun k=>(n-k).toNat) 0 ⟨by omega,by simpa[Rat.pow_zero,Rat.mul_one] using hbj⟩ (by rw[Rat.pow_zero,Rat.mul_one];exact (Sub.toG [0,1,4,5,6,7,8,9] [])) ?_;rintro k ⟨hk,hbk⟩;by_cases h2:(k:Int)<n
   ·have hk1:=key j k (by omega) (by omega) (.inl (by omega));have hbn:Bq (a+q*(40*j+(k+1))) (c*w*z^(k+1)):=by
     rw[Rat.pow_succ,←Rat.mul_assoc,show a+q*(40*j+(k+1))=a+q*(40*j+k)+q by rw[←Nat.add_assoc (40*j),Nat.mul_succ,←Nat.add_assoc]];exact qz hbk hxj
    have cm:=oH (c*w*z^k) z p (hbk.mono (by omega)) (hxj.mono (by omega)) hp2;have hps:c*w*z^k*z=c*w*z^(k+1):=by rw[Rat.pow_succ,←Rat.mul_assoc]
    rw[hps] at cm;(repeat first|with_reducible refine kp [0,1,4,5,6,7,8,9,37] ?_|simp only[kV,simprocAttr,ab,hI,g1,h,hJe,g2,hje,h2]|refine aN ?_);(try simp only[kV,simprocAttr,ab,hI,g1,h,hJ,g3,h',oJ]);refine ulk ?_;(repeat first|with_reducible refine kp [0,1,4,5,6,7,8,9] ?_|simp only[kV,simprocAttr,ab,hI,g1,h,hJ,g3,h',oJ]|refine aN ?_);refine⟨_,cx (cm),ulc ?_⟩;(repeat first|with_reducible refine kp [0,1,4,5,6,7,8,9] ?_|simp only[kV,simprocAttr,ab]|refine aN ?_);exact⟨k+1,⟨by omega,hbn⟩,(Sub.toG [0,1,4,5,6,7,8,9] []),by omega⟩
   ·obtain rfl:n=(k:Int):=by omega
    have hk1:=key j k (by omega) (by omega) (.inl (by omega));have hnx:c*Mp.pv (xs.take (j+1)) (e.take (j+1))=c*w*z^k:=by rw[hpt,Int.toNat_natCast,←Rat.mul_assoc]
    (repeat first|with_reducible refine kp [0,1,4,5,6,7,8,9,37] ?_|simp only[kV,simprocAttr,ab,hI,g1,h,hJe,g2,hje,h2]|refine aN ?_);refine ulk ?_;(repeat first|with_reducible refine kp [0,1,4,5,6,7,8] ?_|simp only[kV,simprocAttr,ab,h2]|refine aN ?_);refine⟨j+1,⟨h',?_⟩,by rw[hnx];exact (Sub.toG [0,1,4,5,6,7,8] []),by omega⟩;rw[hnx];refine hbk.mono ?_;have:q*(40*j+k)≤q*(40*(j+1)):=Nat.mul_le_mul_left _ (by omega);omega
  ·have hJ:¬ (j:Int)<(xs.length:Int):=by omega
   obtain rfl:j=xs.length:=by omega
   rw[List.take_length,List.take_of_length_le (by omega)] at hbj;have hk1:=key xs.length 0 h4 (by omega) (.inr rfl);have hbt:Bq (a+160*q) (c*Mp.pv xs e):=hbj.mono hk1;have hin:(i+1)*(a+160*q+1)≤12*(a+160*q+1):=Nat.mul_le_mul_right _ (by omega);rw[Nat.succ_mul] at hin;have cs:=uF sm (c*Mp.pv xs e) p (hs.mono (by omega)) (hbt.mono (by omega)) hp2;have hsn:=IP hs hbt;rw[←hst] at cs hsn;rw[List.take_length,List.take_of_length_le (by omega)];generalize c*Mp.pv xs e=ce at *;(repeat first|with_reducible refine kp [0,1,4,5,6,7,8,25] ?_|simp only[kV,simprocAttr,ab,hJ]|refine aN ?_);refine ulk ?_;(repeat first|with_reducible refine kp [0,1,4,5,6,7] ?_|simp only[kV,simprocAttr,ab,hJ]|refine aN ?_);refine⟨_,cx (cs),ulc ?_⟩;(repeat first|with_reducible refine kp [0,1,4,5,6] ?_|simp only[kV,simprocAttr,ab]|refine aN ?_);exact⟨i+1,⟨h,hsn.mono (by rw[Nat.succ_mul i (a+160*q+1)];omega)⟩,(Sub.toG [0,1,4,5,6] [7]),by omega⟩
 ·have hI:¬ (i:Int)<(l.length:Int):=by omega
  obtain rfl:i=l.length:=by omega
  rw[List.take_length];(repeat first|with_reducible refine kp [0,1,4,5,6,14] ?_|simp only[kV,simprocAttr,ab,hI]|refine aN ?_);refine ulk ?_;(repeat first|with_reducible refine kp [4,5] ?_|simp only[kV,simprocAttr,ab,ac,ah,ae,af,hI]|refine aN ?_)
end Go.Proofs.YtbnhgnhgbhjkcaaGreat.M
