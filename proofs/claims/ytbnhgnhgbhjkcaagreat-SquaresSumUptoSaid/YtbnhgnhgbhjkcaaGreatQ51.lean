/- Lemmas. -/
import Derived.Test.YtbnhgnhgbhjkcaaGreatQ50
import Derived.Test.YtbnhgnhgbhjkcaaGreatQ5
import Derived.Test.YtbnhgnhgbhjkcaaGreatQ48
import Derived.Test.YtbnhgnhgbhjkcaaGreatQ49
import Derived.Test.YtbnhgnhgbhjkcaaGreatQ23
import Derived.Test.YtbnhgnhgbhjkcaaGreatQ45
import Derived.Test.YtbnhgnhgbhjkcaaGreatQ32
import Derived.Test.YtbnhgnhgbhjkcaaGreatQ21
import Derived.ProofKit
set_option linter.defProp false
set_option linter.unusedSectionVars false
set_option linter.unusedSimpArgs false
set_option linter.unusedVariables false
namespace Go.Proofs.YtbnhgnhgbhjkcaaGreat.M
set_option linter.unusedSimpArgs false
set_option maxRecDepth 20000
set_option maxHeartbeats 4000000
open Go.RowKit
theorem Sub.rowP {OT:List TypeId} (t i T sz n:Nat) (l:List D){R:List (Nat×AV)}{M:List (Nat×AObj)} (ht:ar R t = .slice i 0 n) (hm:au M i=some ⟨T,sz,.row l,false⟩) (hn:n=l.length) (hi:i≠aF:=by decide) :
  Sub OT ⟨ar R,au M⟩ ⟨ar (ej t (.p (.list T sz l)) R),au (bR i ⟨T,sz,.row l,true⟩ M)⟩:=by
 have h1:Sub OT ⟨ar R,au M⟩ ⟨ar R,au (bR i ⟨T,sz,.row l,true⟩ M)⟩:=by
  rw[←dn];exact Sub.freeze (ob:=⟨T,sz,.row l,false⟩) hi hm
 refine h1.tr (Sub.revG t (.list T sz l) ?_);rw[ht];subst hn;have e:au (bR i ⟨T,sz,.row l,true⟩ M) i=some ⟨T,sz,.row l,true⟩:=by rw[←dn,aD]
 simp[AV.toD,e]
def Bst (ord:Int) (q:Mp.TL) (i k:Nat):Prop:=k<i∧i≤q.length∧∀j,j<i→j≠k→Mp.ahead ord (zt q k).2 (zt q j).2=true
theorem Bst.step {ord:Int}{n:Nat}{q:Mp.TL} (hd:Mp.Dst q) (hw:Mp.Wd n q){i k:Nat} (h:Bst ord q i k) (hi:i<q.length):Bst ord q (i+1) (if Mp.ahead ord (zt q i).2 (zt q k).2=true then i else k):=by
 obtain⟨h1,h2,h3⟩:=h;by_cases c:Mp.ahead ord (zt q i).2 (zt q k).2=true
 ·rw[if_pos c];refine⟨by omega,by omega,fun j hj hne => ?_⟩;by_cases hjk:j=k
  ·rw[hjk];exact c
  ·exact Mp.ahead_trans c (h3 j (by omega) hjk)
 ·rw[if_neg c];refine⟨by omega,by omega,fun j hj hne => ?_⟩;by_cases hji:j=i
  ·subst hji;cases hb:Mp.ahead ord (zt q k).2 (zt q j).2 with
   |true=>rfl
   |false =>
    have e:=Mp.ahead_tot (ord:=ord) (by rw[hw _ (cO (i:=k) (by omega)),hw _ (cO hi)]) hb (Bool.eq_false_iff.2 c);have hne2:=List.pairwise_iff_getElem.1 hd.ne k j (by omega) hi h1;rw[fF (by omega),fF hi] at e;exact absurd e hne2
  ·exact h3 j (by omega) hne
theorem Bst.pick {ord:Int}{n:Nat}{q:Mp.TL} (hd:Mp.Dst q) (hw:Mp.Wd n q){k:Nat} (h:Bst ord q q.length k):Mp.canon ord q=zt q k::Mp.canon ord (q.take k++q.drop (k+1)):=by
 obtain⟨h1,h2,h3⟩:=h;refine Mp.canon_pick hw hd (by rw[z9P h1,fF h1]) fun j y hne hj => ?_
 obtain⟨hjl,rfl⟩:=z98.1 hj;have:=h3 j hjl hne
 rwa[fF hjl] at this
theorem U4 {n:Nat}{q:Mp.TL} (h:Mp.Wd n q) (k:Nat):Mp.Wd n (q.take k++q.drop (k+1)):=fun x hx=>by
 rcases z9y.1 hx with hx | hx
 ·exact h x (z9M hx)
 ·exact h x (z9r hx)
theorem U5 {q:Mp.TL}{k:Nat}{x:Zm} (hx:x∈q.take k++q.drop (k+1)):x∈q:=by
 rcases z9y.1 hx with hx | hx
 ·exact z9M hx
 ·exact z9r hx
theorem sJ {l:List Int} (h:∀e∈l,-1000000000≤e∧e≤1000000000) (k:Nat):-1000000000≤l.getD k 0∧l.getD k 0≤1000000000:=by
 by_cases hk:k<l.length
 ·have:l.getD k 0=l[k]:=by simp[hk]
  rw[this];exact h _ (z9a hk)
 ·have:l.getD k 0=0:=by simp[z80 (Nat.le_of_not_lt hk)]
  rw[this];omega
theorem sK (t:Zm):(tZ t).cells.all D.one=true:=rfl
theorem U6 (m:Mp.TL){n:Nat} (ord:Int) (ho:0≤ord) (hd:Mp.Dst m) (hw:Mp.Wd n m) (hn:n≤1000) (hl:m.length≤1000000) (he:∀x∈m,∀e∈x.2,-1000000000≤e∧e≤1000000000) :
  Con Tryz.prog AN 54 [MZ m,.int .i64 ord] (MZ (Mp.canon ord m)):=by
 refine Rt.con rfl (by simp) ?_;(repeat first|simp only[kV,simprocAttr,ab,ax,hl,z9V]|refine aN ?_);refine kp [0,1] ?_;(repeat first|simp only[kV,simprocAttr,ab,ax,hl,z9V]|refine aN ?_);refine kp [1,5] ?_;(repeat first|simp only[kV,simprocAttr,ab,ax,hl,z9V]|refine aN ?_);refine kp [1,5,6] ?_;(repeat first|simp only[kV,simprocAttr,ab,ax,hl,z9V]|refine aN ?_);refine aB (ι:=Mp.TL×Mp.TL) (fun s=>Mp.Dst s.1∧Mp.Wd n s.1∧(∀x∈s.1,x∈m)∧s.2++Mp.canon ord s.1=Mp.canon ord m∧s.1.length+s.2.length=m.length) (fun s=>⟨ar [(1,.p (.int .i64 ord)),(5,.p (MZ s.1)),(6,.slice 206 0 s.2.length)],au [(206,⟨TZ,5,.row (s.2.map tZ),false⟩)]⟩) (fun s=>s.1.length) (m,[]) ⟨hd,hw,fun x hx=>hx,rfl,rfl⟩ ((Sub.rowP 5 10 TZ 5 _ (m.map tZ) (by rfl) (by rfl) (by simp)).tr (Sub.tr (Sub.nilG 6 206 TZ 5) (Sub.toG [1,5,6] [10,38,43]))) ?_;rintro⟨q,out⟩ ⟨hdq,hwq,hsub,hcan,hlen⟩;simp only at hdq hwq hsub hcan hlen;by_cases h:0<q.length
 ·have hI:(0:Int)<(q.length:Int):=by omega
  (repeat first|with_reducible refine kp [1,5,6,13] ?_|simp only[kV,simprocAttr,ab,hI,z9V]|refine aN ?_);refine ulk ?_;(repeat first|simp only[kV,simprocAttr,ab,hI]|refine aN ?_);refine kp [1,5,6] ?_;(repeat first|simp only[kV,simprocAttr,ab,hI]|refine aN ?_);refine kp [1,5,6,7] ?_;(repeat first|simp only[kV,simprocAttr,ab,hI]|refine aN ?_);refine kp [1,5,6,7,8] ?_;(repeat first|simp only[kV,simprocAttr,ab,hI]|refine aN ?_);refine aB (ι:=Nat×Nat) (fun s=>Bst ord q s.1 s.2) (fun s=>⟨ar [(1,.p (.int .i64 ord)),(5,.p (MZ q)),(6,.slice 206 0 out.length),(7,.p (.int .i64 s.2)),(8,.p (.int .i64 s.1))],au [(206,⟨TZ,5,.row (out.map tZ),false⟩)]⟩) (fun s=>q.length-s.1) (1,0) ⟨by simp only;omega,by simp only;omega,fun j hj hne=>absurd (show j=0 by simp only at hj;omega) hne⟩ (Sub.toG [1,5,6,7,8] [10,38,43]) ?_;rintro⟨i,k⟩ hB;simp only at hB;have hki:=hB.1;have hkl:k<q.length:=by have:=hB.2.1;omega
  have hK:(k:Int)<(q.length:Int):=by omega
  have g2:=fG hkl;by_cases h':i<q.length
  ·have hJ:(i:Int)<(q.length:Int):=by omega
   have g1:=fG h';have hst:=hB.step hdq hwq h';have mi:=hsub _ (cO h');have mk:=hsub _ (cO hkl);have c1:=zbr 3 3 ord (zt q i).2 (zt q k).2 (by rw[hw _ mi,hw _ mk]) (by rw[hw _ mi];exact hn) AN ho (sJ (he _ mi)) (sJ (he _ mk));by_cases hc:Mp.ahead ord (zt q i).2 (zt q k).2=true
   ·rw[if_pos hc] at hst;rw[hc] at c1;(repeat first|with_reducible refine kp [1,5,6,7,8,17] ?_|simp only[kV,simprocAttr,ab,hJ,z9V]|refine aN ?_);(try simp only[kV,simprocAttr,ab,hJ,hK,g1,g2,h',hkl,z9V]);refine ulk ?_;(repeat first|with_reducible refine kp [1,5,6,7,8] ?_|simp only[kV,simprocAttr,ab,hJ,hK,g1,g2,h',hkl,z9V]|refine aN ?_);refine⟨_,cx (c1),?_⟩;(repeat first|with_reducible refine kp [1,5,6,7,8,31] ?_|simp only[kV,simprocAttr,ab]|refine aN ?_);refine ulk ?_;(repeat first|with_reducible refine kp [1,5,6,7,8] ?_|simp only[kV,simprocAttr,ab]|refine aN ?_);exact⟨(i+1,i),hst,(Sub.toG [1,5,6,7,8] [10,38,43]),by simp only;omega⟩
   ·rw[if_neg hc] at hst;rw[Bool.eq_false_iff.2 hc] at c1;(repeat first|with_reducible refine kp [1,5,6,7,8,17] ?_|simp only[kV,simprocAttr,ab,hJ,z9V]|refine aN ?_);(try simp only[kV,simprocAttr,ab,hJ,hK,g1,g2,h',hkl,z9V]);refine ulk ?_;(repeat first|with_reducible refine kp [1,5,6,7,8] ?_|simp only[kV,simprocAttr,ab,hJ,hK,g1,g2,h',hkl,z9V]|refine aN ?_);refine⟨_,cx (c1),?_⟩;(repeat first|with_reducible refine kp [1,5,6,7,8,31] ?_|simp only[kV,simprocAttr,ab]|refine aN ?_);refine ulk ?_;(repeat first|with_reducible refine kp [1,5,6,7,8] ?_|simp only[kV,simprocAttr,ab]|refine aN ?_);exact⟨(i+1,k),hst,(Sub.toG [1,5,6,7,8] [10,38,43]),by simp only;omega⟩
  ·have hJ:¬ (i:Int)<(q.length:Int):=by omega
   obtain rfl:i=q.length:=by have:=hB.2.1;omega
   have hp:=hB.pick hdq hwq;have hle:(k:Int)≤(q.length:Int):=by omega
   have hle1:(k:Int)+1≤(q.length:Int):=by omega
   have e1:List.take k (q.map tZ)=(q.take k).map tZ:=List.map_take.symm;have e2:List.take (q.length-(k+1)) (List.drop (k+1) (q.map tZ))=(q.drop (k+1)).map tZ:=by rw[←List.map_drop,z93 (by simp)]
   have l1:(q.take k).length=k:=by rw[z9N,z9f (by omega)]
   have l2:(q.drop (k+1)).length=q.length-(k+1):=z86;have hd2:=hdq.less k;have hw2:=U4 hwq k;have hm2:∀x∈q.take k++q.drop (k+1),x∈m:=fun x hx=>hsub x (U5 hx)
   have hll:(q.take k++q.drop (k+1)).length+1=q.length:=by rw[z96,l1,l2];omega
   have ft:=lH (zt q k).1 (zt q k).2;(repeat first|with_reducible refine kp [1,5,6,7,8,17] ?_|simp only[kV,simprocAttr,ab,hJ,z9V]|refine aN ?_);(try simp only[kV,simprocAttr,ab,hJ,hK,hle,hle1,g2,hkl,z9V,e1,e2,l1,l2,z96,List.length_cons,List.length_nil,ft,sK]);refine ulk ?_;(repeat first|with_reducible refine kp [1,5,6,7] ?_|simp only[kV,simprocAttr,ab,hJ,hK,hle,hle1,g2,hkl,z9V,e1,e2,l1,l2,z96,List.length_cons,List.length_nil,ft,sK]|refine aN ?_);have f1:(out++[zt q k]).map tZ=out.map tZ++[tZ ((zt q k).1,(zt q k).2)]:=by rw[z9U];rfl
   have f2:(out++[zt q k]).length=out.length+1:=by rw[z96];rfl
   have f3:=md (q.take k) (q.drop (k+1));refine⟨(q.take k++q.drop (k+1),out++[zt q k]),⟨hd2,hw2,hm2,?_,?_⟩,?_,?_⟩
   ·simp only;rw[z9A,List.singleton_append,←hp,hcan]
   ·simp only;rw[f2];omega
   ·simp only;rw[f1,f2,f3];exact (Sub.rowP 5 43 TZ 5 _ (List.map tZ (q.take k)++List.map tZ (q.drop (k+1))) (by rfl) (by rfl) (by rw[z96,z9V,z9V,l1,l2])).tr (Sub.toG [1,5,6] [10,38,43])
   ·simp only;omega
 ·have hI:¬ (0:Int)<(q.length:Int):=by omega
  have hq:q=[]:=z9Z (by omega);have hout:out=Mp.canon ord m:=by rw[←hcan,hq,show Mp.canon ord []=[] from rfl,List.append_nil]
  (repeat first|with_reducible refine kp [1,5,6,13] ?_|simp only[kV,simprocAttr,ab,hI,z9V,List.length_nil]|refine aN ?_);refine ulk ?_;(repeat first|with_reducible refine kp [4,6] ?_|simp only[kV,simprocAttr,ab,af,ai,aq,ah,hI]|refine aN ?_);rw[←hout];simp only[Bool.or_true,if_true,z9V,z95];rw[z93 (by simp)]
end Go.Proofs.YtbnhgnhgbhjkcaaGreat.M
namespace Go.Proofs.YtbnhgnhgbhjkcaaGreat.Mp
set_option linter.unusedSimpArgs false
set_option maxRecDepth 20000
set_option maxHeartbeats 4000000
theorem qg {e:Mo}:∀{l:TL},(∀y∈l,y.2≠e)→cf l e=0
 |[],_=>rfl
 |x::l,h=>by rw[cf_cons,if_neg (h x z9X),qg fun y hy=>h y (z9T _ hy),Rat.add_zero]
theorem mz:∀{l:TL}{x:Rat×Mo},(l.Pairwise fun x y=>x.2≠y.2)→x∈l→cf l x.2=x.1
 |y::l,x,h,hx=>by
  obtain⟨h1,h2⟩:=z9g.1 h;rcases z9L.1 hx with rfl | hx
  ·rw[cf_cons,if_pos rfl,qg fun z hz e=>h1 z hz e.symm,Rat.add_zero]
  ·rw[cf_cons,if_neg (h1 x hx),mz h2 hx,Rat.zero_add]
theorem Can.ne {ord:Int}{l:TL} (h:Can ord l):l.Pairwise fun x y=>x.2≠y.2:=h.so.imp fun {x y} hxy e=>by rw[e,uq] at hxy;cases hxy
theorem canon_sub {ord:Int}{n:Nat}{m:TL} (hd:Dst m) (hw:Wd n m):∀y∈canon ord m,y∈m:=fun y hy=>by
 obtain⟨x,hx,e⟩:=canon_mem hy;have h1:=mz (i7 (ord:=ord) hw).ne hy;have h2:=mz hd.ne hx;rw[canon_cf,←e,h2] at h1
 rwa[show y=x from Prod.ext h1.symm e.symm]
end Go.Proofs.YtbnhgnhgbhjkcaaGreat.Mp
namespace Go.Proofs.YtbnhgnhgbhjkcaaGreat.M
open Go.RowKit
set_option maxRecDepth 20000
set_option maxHeartbeats 4000000
def wz (x:Zm):At:=(cN x.1.num x.1.den,x.2)
theorem xg (m:Mp.TL){n p:Nat} (ord:Int) (ho:0≤ord) (hd:Mp.Dst m) (hw:Mp.Wd n m) (hn:n≤1000) (hl:m.length≤1000000) (he:∀x∈m,∀e∈x.2,-1000000000≤e∧e≤1000000000) (hb:∀x∈m,Bq p x.1) (hp:p≤2048000000000) :
  Con Tryz.prog AN 18 [MZ m,.int .i64 ord] (LTa 83 3 ((Mp.canon ord m).map wz)):=by
 have cs:=U6 m ord ho hd hw hn hl he;have hcl:=Mp.canon_len ord m;have hcw:=Mp.canon_wd (ord:=ord) hw;have hcb:∀x∈Mp.canon ord m,Bq p x.1:=fun x hx=>hb x (Mp.canon_sub hd hw x hx)
 generalize Mp.canon ord m=s at *;refine RJ.conW (A:=[]) rfl (by simp) ?_;(repeat first|with_reducible refine kp [0,1] ?_|simp only[kV,simprocAttr,ab,ax]|refine aN ?_);refine wq (cxw (B:=[173,3]) (cs)) (ulc ?_);(repeat first|simp only[kV,simprocAttr,ab]|refine aN ?_);refine kp [0] ?_;(repeat first|simp only[kV,simprocAttr,ab]|refine aN ?_);refine kp [0,5] ?_;(repeat first|simp only[kV,simprocAttr,ab]|refine aN ?_);refine kp [0,5,6] ?_;(repeat first|simp only[kV,simprocAttr,ab]|refine aN ?_);refine aB (ι:=Nat) (fun i=>i≤s.length) (fun i=>⟨ar [(0,.p (MZ s)),(5,.slice 205 0 i),(6,.p (.int .i64 i))],
  au [(205,⟨83,2,.row (((s.take i).map wz).map (atD 3)),false⟩)]⟩) (fun i=>s.length-i) 0 (z9O _) (Sub.tr (Sub.nilG 5 205 83 2) (Sub.toG [0,5,6] [28,30])) ?_
 intro i hi;by_cases h:i<s.length
 ·have hI:(i:Int)<(s.length:Int):=by omega
  have g1:=fG h;have hbx:=hcb _ (cO h);have hwx:=hcw _ (cO h);have hst:=jN h;have hlen:(((s.take i).map wz).map (atD 3)).length=i:=by rw[z9V,z9V,z9N,z9f hi]
  generalize zt s i=x at *;obtain⟨c,e⟩:=x;simp only at hbx hwx;have c1:=zbg c p hbx hp;have f1:((s.take (i+1)).map wz).map (atD 3)=((s.take i).map wz).map (atD 3)++[.agg [.str (cN c.num c.den),.list 3 1 (e.map (D.int .i64))]]:=by rw[hst,z9U,z9U];rfl
  have hl8:e.length*8≤140737488355328:=by omega
  have hl9:e.length≤9223372036854775807:=by omega
  have hi8:i≤1000000:=by omega
  (repeat first|with_reducible refine kp [0,5,6,13] ?_|simp only[kV,simprocAttr,ab,hI]|refine aN ?_);(try simp only[kV,simprocAttr,ab,hI,g1,h]);refine ulk ?_;(repeat first|with_reducible refine kp [0,5,6] ?_|simp only[kV,simprocAttr,ab,hI,g1,h]|refine aN ?_);refine wq (cxw (B:=[173,3]) (c1)) (ulc ?_);(repeat first|with_reducible refine kp [0,5,6] ?_|simp only[kV,simprocAttr,ab,hI,g1,h,hl8,hl9,W1,og,Bool.true_or,z9u,hlen]|refine aN ?_);exact⟨i+1,h,by rw[f1];exact (Sub.toG [0,5,6] [28,30]),by omega⟩
 ·have hI:¬ (i:Int)<(s.length:Int):=by omega
  obtain rfl:i=s.length:=by omega
  rw[z9x];(repeat first|with_reducible refine kp [0,5,6,13] ?_|simp only[kV,simprocAttr,ab,hI]|refine aN ?_);refine ulk ?_;(repeat first|with_reducible refine kp [4,5] ?_|simp only[kV,simprocAttr,ab,af,ai,aq,ah,hI]|refine aN ?_);simp only[Bool.or_true,if_true];rw[z93 (by simp)]
set_option linter.unusedSimpArgs false
set_option maxRecDepth 20000
set_option maxHeartbeats 1000000
open Go.RowKit
theorem xa (A:List TypeId) (T U:Nat) (a b:List Int) (hla:a.length≤9223372036854775807) (hlb:b.length≤9223372036854775807):Con Tryz.prog A 52 [.list T 1 (a.map (D.int .i64)),.list U 1 (b.map (D.int .i64))] (.bool (decide (a=b))):=by
 refine Con.mono (A:=[]) ?_ (by simp);by_cases hl:a.length=b.length
 ·have hlI:(a.length:Int)=(b.length:Int):=by omega
  refine rN.con rfl (by simp) ?_;(repeat first|with_reducible refine kp [0,1,10] ?_|simp only[kV,simprocAttr,ab,ax,hlI,z9V]|refine aN ?_);refine ulk ?_;(repeat first|simp only[kV,simprocAttr,ab]|refine aN ?_);refine kp [0,1] ?_;(repeat first|simp only[kV,simprocAttr,ab]|refine aN ?_);refine kp [0,1,5] ?_;(repeat first|simp only[kV,simprocAttr,ab]|refine aN ?_);refine aB (ι:=Nat) (fun i=>i≤a.length∧∀k,k<i→a.getD k 0=b.getD k 0) (fun i=>⟨ar [(0,.p (.list T 1 (a.map (D.int .i64)))),(1,.p (.list U 1 (b.map (D.int .i64)))),(5,.p (.int .i64 i))],au []⟩) (fun i=>a.length-i) 0 ⟨z9O _,fun k hk=>by omega⟩ (Sub.toG [0,1,5] []) ?_;rintro i ⟨hi,he⟩;by_cases h:i<a.length
  ·have hI:(i:Int)<(a.length:Int):=by omega
   have hI2:(i:Int)<(b.length:Int):=by omega
   have hb:i<b.length:=by omega
   have g1:=dO h;have g2:=dO hb;(repeat first|with_reducible refine kp [0,1,5,14] ?_|simp only[kV,simprocAttr,ab,hI]|refine aN ?_);(try simp only[kV,simprocAttr,ab,hI,hI2,g1,g2,h,hb]);refine ulk ?_;(repeat first|with_reducible refine kp [0,1,5,25] ?_|simp only[kV,simprocAttr,ab,hI,hI2,g1,g2,h,hb]|refine aN ?_);by_cases hc:a.getD i 0=b.getD i 0
   ·refine⟨fun h1=>absurd h1 (by rw[hc];simp),fun _ => ?_⟩;(try simp only[kV,simprocAttr,ab]);refine ulk ?_;(repeat first|with_reducible refine kp [0,1,5] ?_|simp only[kV,simprocAttr,ab]|refine aN ?_);exact⟨i+1,⟨h,fun k hk=>by
     by_cases hki:k<i
     ·exact he k hki
     ·obtain rfl:k=i:=by omega
      exact hc⟩,(Sub.toG [0,1,5] []),by omega⟩
   ·refine⟨fun _ => ?_,fun h1=>absurd h1 (by rw[z8R hc];simp)⟩;have hne:a≠b:=fun e=>hc (by rw[e])
    rw[z8R hne];(try simp only[kV,simprocAttr,ab]);refine ulk ?_;(repeat first|with_reducible refine kp [4] ?_|simp only[kV,simprocAttr,ab,af,ai,aq,ah]|refine aN ?_)
  ·have hI:¬ (i:Int)<(a.length:Int):=by omega
   have heq:a=b:=pq hl fun k hk=>he k (by omega)
   rw[decide_eq_true heq];(repeat first|with_reducible refine kp [0,1,5,14] ?_|simp only[kV,simprocAttr,ab,hI]|refine aN ?_);refine ulk ?_;(repeat first|with_reducible refine kp [4] ?_|simp only[kV,simprocAttr,ab,af,ai,aq,ah,hI]|refine aN ?_)
 ·have hlI:¬ (a.length:Int)=(b.length:Int):=by omega
  have hne:a≠b:=fun e=>hl (by rw[e])
  rw[z8R hne];refine rN.con rfl (by simp) ?_;(repeat first|with_reducible refine kp [0,1,10] ?_|simp only[kV,simprocAttr,ab,ax,hlI,z9V]|refine aN ?_);refine ulk ?_;(repeat first|with_reducible refine kp [4] ?_|simp only[kV,simprocAttr,ab,af,ai,aq,ah]|refine aN ?_)
theorem xc {a b:List At} (hl:a.length=b.length) (h:∀k,k<a.length→at0 a k=at0 b k):a=b:=List.ext_getElem hl fun k h1 h2=>by
 have:=h k h1;unfold at0 at this
 rwa[z91,z91,z9P h1,z9P h2] at this
theorem xd (A:List TypeId) (T U T' U':Nat) (a b:List At) (hla:a.length≤9223372036854775807) (hlb:b.length≤9223372036854775807) (ea:∀t∈a,t.2.length≤9223372036854775807) (eb:∀t∈b,t.2.length≤9223372036854775807):Con Tryz.prog A 15 [LTa T U a,LTa T' U' b] (.bool (decide (a=b))):=by
 refine Con.mono (A:=[]) ?_ (by simp);by_cases hl:a.length=b.length
 ·have hlI:(a.length:Int)=(b.length:Int):=by omega
  refine rO.con rfl (by simp) ?_;(repeat first|with_reducible refine kp [0,1,10] ?_|simp only[kV,simprocAttr,ab,ax,hlI,z9V]|refine aN ?_);refine ulk ?_;(repeat first|simp only[kV,simprocAttr,ab]|refine aN ?_);refine kp [0,1] ?_;(repeat first|simp only[kV,simprocAttr,ab]|refine aN ?_);refine kp [0,1,5] ?_;(repeat first|simp only[kV,simprocAttr,ab]|refine aN ?_);refine aB (ι:=Nat) (fun i=>i≤a.length∧∀k,k<i→at0 a k=at0 b k) (fun i=>⟨ar [(0,.p (LTa T U a)),(1,.p (LTa T' U' b)),(5,.p (.int .i64 i))],au []⟩) (fun i=>a.length-i) 0 ⟨z9O _,fun k hk=>by omega⟩ (Sub.toG [0,1,5] []) ?_;rintro i ⟨hi,he⟩;by_cases h:i<a.length
  ·have hI:(i:Int)<(a.length:Int):=by omega
   have hI2:(i:Int)<(b.length:Int):=by omega
   have hb:i<b.length:=by omega
   have g1:=gS (U:=U) h;have g2:=gS (U:=U') hb;have l1:=ea _ (gg h);have l2:=eb _ (gg hb);have hnx:at0 a i=at0 b i→∀k,k<i+1→at0 a k=at0 b k:=fun e k hk=>by
    by_cases hki:k<i
    ·exact he k hki
    ·obtain rfl:k=i:=by omega
     exact e
   have hne:at0 a i≠at0 b i→a≠b:=fun e e2=>e (by rw[e2])
   generalize at0 a i=x at *;generalize at0 b i=y at *;obtain⟨c,e⟩:=x;obtain⟨d,f⟩:=y;simp only at g1 g2 l1 l2;by_cases hc:c=d
   ·have cs:=xa [] U U' e f l1 l2;by_cases hf:e=f
    ·rw[decide_eq_true hf] at cs;(repeat first|with_reducible refine kp [0,1,5,14] ?_|simp only[kV,simprocAttr,ab,hI]|refine aN ?_);(try simp only[kV,simprocAttr,ab,hI,hI2,g1,g2,h,hb,hc]);refine ulk ?_;(repeat first|with_reducible refine kp [0,1,5] ?_|simp only[kV,simprocAttr,ab,hI,hI2,g1,g2,h,hb,hc]|refine aN ?_);refine⟨_,cx (cs),ulc ?_⟩;(repeat first|with_reducible refine kp [0,1,5,41] ?_|simp only[kV,simprocAttr,ab,hc]|refine aN ?_);refine ulk ?_;(repeat first|with_reducible refine kp [0,1,5] ?_|simp only[kV,simprocAttr,ab]|refine aN ?_);exact⟨i+1,⟨h,hnx (by rw[hc,hf])⟩,(Sub.toG [0,1,5] []),by omega⟩
    ·rw[z8R hf] at cs;rw[z8R (hne fun e=>hf (congrArg Prod.snd e))];(repeat first|with_reducible refine kp [0,1,5,14] ?_|simp only[kV,simprocAttr,ab,hI]|refine aN ?_);(try simp only[kV,simprocAttr,ab,hI,hI2,g1,g2,h,hb,hc]);refine ulk ?_;(repeat first|with_reducible refine kp [0,1,5] ?_|simp only[kV,simprocAttr,ab,hI,hI2,g1,g2,h,hb,hc]|refine aN ?_);refine⟨_,cx (cs),ulc ?_⟩;(repeat first|with_reducible refine kp [0,1,5,41] ?_|simp only[kV,simprocAttr,ab,hc]|refine aN ?_);refine ulk ?_;(repeat first|with_reducible refine kp [4] ?_|simp only[kV,simprocAttr,ab,af,ai,aq,ah]|refine aN ?_)
   ·rw[z8R (hne fun e=>hc (congrArg Prod.fst e))];(repeat first|with_reducible refine kp [0,1,5,14] ?_|simp only[kV,simprocAttr,ab,hI]|refine aN ?_);(try simp only[kV,simprocAttr,ab,hI,hI2,g1,g2,h,hb,hc]);refine ulk ?_;(repeat first|with_reducible refine kp [0,1,5] ?_|simp only[kV,simprocAttr,ab,hI,hI2,g1,g2,h,hb,hc]|refine aN ?_);refine ulc ?_;(repeat first|with_reducible refine kp [0,1,5,41] ?_|simp only[kV,simprocAttr,ab,hc]|refine aN ?_);refine ulk ?_;(repeat first|with_reducible refine kp [4] ?_|simp only[kV,simprocAttr,ab,af,ai,aq,ah]|refine aN ?_)
  ·have hI:¬ (i:Int)<(a.length:Int):=by omega
   have heq:a=b:=xc hl fun k hk=>he k (by omega)
   rw[decide_eq_true heq];(repeat first|with_reducible refine kp [0,1,5,14] ?_|simp only[kV,simprocAttr,ab,hI]|refine aN ?_);refine ulk ?_;(repeat first|with_reducible refine kp [4] ?_|simp only[kV,simprocAttr,ab,af,ai,aq,ah,hI]|refine aN ?_)
 ·have hlI:¬ (a.length:Int)=(b.length:Int):=by omega
  have hne:a≠b:=fun e=>hl (by rw[e])
  rw[z8R hne];refine rO.con rfl (by simp) ?_;(repeat first|with_reducible refine kp [0,1,10] ?_|simp only[kV,simprocAttr,ab,ax,hlI,z9V]|refine aN ?_);refine ulk ?_;(repeat first|with_reducible refine kp [4] ?_|simp only[kV,simprocAttr,ab,af,ai,aq,ah]|refine aN ?_)
def lenC (l:List At):Nat:=(l.map fun t=>t.1.length).sum
theorem qe {l:List At}{i:Nat} (h:i<l.length):lenC (l.take (i+1))=lenC (l.take i)+(at0 l i).1.length:=by
 unfold lenC;rw[vG h,z9U,List.sum_append];simp
theorem qf {l:List At}{k:Nat} (h:∀t∈l,t.1.length≤k):∀i,i≤l.length→lenC (l.take i)≤i*k
 |0,_=>by simp[lenC]
 |i+1,hi=>by
  have:=qf h i (by omega);have h2:=h _ (gg (i:=i) (by omega));rw[qe (by omega),z8Z];omega
def gZ (l:List At) (m:Nat):Bool:=decide (m<l.length)||decide (20*m<lenC l)
theorem xe (A:List TypeId) (T U:Nat) (l:List At) (m:Nat) (hm:m≤1000) (hl:l.length≤1000) (hs:∀t∈l,t.1.length≤140737488355328):Con Tryz.prog A 16 [LTa T U l,.int .i64 m] (.bool (gZ l m)):=by
 refine Con.mono (A:=[]) ?_ (by simp);have hle:=qf hs;refine SX.con rfl (by simp) ?_;(repeat first|simp only[kV,simprocAttr,ab,ax]|refine aN ?_);refine kp [0,1] ?_;(repeat first|simp only[kV,simprocAttr,ab,ax]|refine aN ?_);refine kp [0,1,5] ?_;(repeat first|simp only[kV,simprocAttr,ab,ax]|refine aN ?_);refine kp [0,1,5,6] ?_;(repeat first|simp only[kV,simprocAttr,ab,ax]|refine aN ?_);refine aB (ι:=Nat) (fun i=>i≤l.length) (fun i=>⟨ar [(0,.p (LTa T U l)),(1,.p (.int .i64 m)),(5,.p (.int .i64 (lenC (l.take i)))),(6,.p (.int .i64 i))],au []⟩) (fun i=>l.length-i) 0 (z9O _) (Sub.toG [0,1,5,6] []) ?_;intro i hi;by_cases h:i<l.length
 ·have hI:(i:Int)<(l.length:Int):=by omega
  have g1:=gS (U:=U) h;have hst:=qe h;have b1:=hle (i+1) h;have e1:((lenC (l.take i):Nat):Int)+((at0 l i).1.length:Int)=((lenC (l.take (i+1)):Nat):Int):=by omega
  have b2:lenC (l.take (i+1))≤9000000000000000000:=z9E (z9E b1 (z92 _ (show i+1≤1000 by clear b1;omega))) (by decide);clear b1;(repeat first|with_reducible refine kp [0,1,5,6,10] ?_|simp only[kV,simprocAttr,ab,hI]|refine aN ?_);(try simp only[kV,simprocAttr,ab,hI,g1,h,e1]);refine ulk ?_;(repeat first|with_reducible refine kp [0,1,5,6] ?_|simp only[kV,simprocAttr,ab,hI,g1,h,e1]|refine aN ?_);exact⟨i+1,h,(Sub.toG [0,1,5,6] []),by omega⟩
 ·have hI:¬ (i:Int)<(l.length:Int):=by omega
  obtain rfl:i=l.length:=by omega
  rw[z9x];unfold gZ;by_cases hv:m<l.length
  ·have hvI:(m:Int)<(l.length:Int):=by omega
   rw[decide_eq_true hv,Bool.true_or];(repeat first|with_reducible refine kp [0,1,5,6,10] ?_|simp only[kV,simprocAttr,ab,hI]|refine aN ?_);(try simp only[kV,simprocAttr,ab,hI,hvI]);refine ulk ?_;(repeat first|with_reducible refine kp [0,1,4,5] ?_|simp only[kV,simprocAttr,ab,af,ai,aq,ah,hI,hvI]|refine aN ?_)
  ·have hvI:¬ (m:Int)<(l.length:Int):=by omega
   rw[z8R hv,Bool.false_or];have e2:((20:Int)*(m:Int)<((lenC l:Nat):Int))=(20*m<lenC l):=propext (by omega);have b3:20*m≤20000:=by omega
   (repeat first|with_reducible refine kp [0,1,5,6,10] ?_|simp only[kV,simprocAttr,ab,hI]|refine aN ?_);(try simp only[kV,simprocAttr,ab,hI,hvI,e2]);refine ulk ?_;(repeat first|with_reducible refine kp [0,1,4,5] ?_|simp only[kV,simprocAttr,ab,af,ai,aq,ah,hI,hvI,e2]|refine aN ?_)
end Go.Proofs.YtbnhgnhgbhjkcaaGreat.M
namespace Go.Proofs.YtbnhgnhgbhjkcaaGreat.Mp
set_option linter.unusedSimpArgs false
theorem pN (f:Mo→Rat) (k:Nat):∀l:TL,Sf f (l.map (padT k))=Sf (fun e=>f (pad k e)) l
 |[]=>rfl
 |x::l=>by rw[z89,Sf,Sf,pN f k l];rfl
theorem cf_pad {l m:TL} (k:Nat) (h:∀e,cf l e=cf m e) (e:Mo):cf (l.map (padT k)) e=cf (m.map (padT k)) e:=by
 unfold cf;rw[pN,pN,Sf_eq _ h]
theorem wh {x:Rat×Mo}:∀{l a:TL},x∈growL a l→(∃y∈a,y.2=x.2)∨∃y∈l,y.2=x.2
 |[],a,h => .inl ⟨x,h,rfl⟩
 |t::l,a,h=>by
  rcases wh (l:=l) (a:=grow a t) h with⟨y,hy,e⟩ | ⟨y,hy,e⟩
  ·rcases kq hy with e2 | hy
   ·exact .inr ⟨t,z9X,by rw[←e2,e]⟩
   ·exact .inl ⟨y,hy,e⟩
  ·exact .inr ⟨y,z9T _ hy,e⟩
def Ex (a b:Int) (l:TL):Prop:=∀x∈l,∀e∈x.2,a≤e∧e≤b
theorem Ex.growL {a b:Int}{l m:TL} (h:Ex a b l) (k:Ex a b m):Ex a b (growL l m):=fun x hx=>by
 rcases wh hx with⟨y,hy,e⟩ | ⟨y,hy,e⟩
 ·rw[←e];exact h y hy
 ·rw[←e];exact k y hy
theorem Ex.nil {a b:Int}:Ex a b []:=fun x hx=>by cases hx
theorem Ex.mono {a b c d:Int}{l:TL} (h:Ex a b l) (h1:c≤a) (h2:b≤d):Ex c d l:=fun x hx e he=>by
 have:=h x hx e he;omega
theorem Ex.mulL {a b c d:Int}{l m:TL} (h:Ex a b l) (k:Ex c d m):Ex (a+c) (b+d) (mulL l m):=fun x hx e he=>by
 obtain⟨y,hy,hx⟩:=List.mem_flatMap.1 hx;obtain⟨z,hz,rfl⟩:=z9Q.1 hx;obtain⟨i,hi,rfl⟩:=z85.1 he;unfold addM at hi;simp only[List.length_zipWith] at hi;have h1:=h y hy _ (z9a (l:=y.2) (n:=i) (by omega));have h2:=k z hz _ (z9a (l:=z.2) (n:=i) (by omega));simp only[addM,List.getElem_zipWith];omega
end Go.Proofs.YtbnhgnhgbhjkcaaGreat.Mp
namespace Go.Proofs.YtbnhgnhgbhjkcaaGreat.M
open Go.RowKit
theorem ml {e:List Int}{n k:Nat} (h:e.length=n) (hk:n+k=4):moL (rdE e)=Mp.pad k e:=by
 subst h
 match e,hk with
 |[],hk =>
       obtain rfl:k=4:=by simpa using hk
       rfl
 |[a],hk =>
        obtain rfl:k=3:=by simp at hk;omega
        rfl
 |[a,b],hk =>
         obtain rfl:k=2:=by simp at hk;omega
         rfl
 |[a,b,c],hk =>
           obtain rfl:k=1:=by simp at hk;omega
           rfl
 |[a,b,c,d],hk =>
            obtain rfl:k=0:=by simp at hk;omega
            rfl
 |_::_::_::_::_::_,hk=>simp at hk;omega
theorem zcO {x:Zm}{n k:Nat} (h:x.2.length=n) (hk:n+k=4):ofM (Mp.padT k x)=(x.1,rdE x.2):=by
 have e:rdE (Mp.pad k x.2)=rdE x.2:=by
  have h1:=ml (e:=Mp.pad k x.2) (n:=4) (k:=0) (by unfold Mp.pad;simp[h,hk]) (by omega);have h2:=ml h hk;have h3:Mp.pad 0 (Mp.pad k x.2)=Mp.pad k x.2:=by unfold Mp.pad;simp
  exact lK (by rw[h1,h2,h3])
 show ((x.1,rdE (Mp.pad k x.2)):Tm)=_
 rw[e]
theorem zcP {l:List At}{n k:Nat} (h:∀t∈l,t.2.length=n) (hk:n+k=4):tl (rdL l)=(rzL l).map (Mp.padT k):=by
 unfold tl rdL rzL;rw[List.map_map,List.map_map];refine List.map_congr_left fun t ht => ?_
 show ((qR t.1,moL (rdE t.2)):Rat×Mp.Mo)=(qR t.1,Mp.pad k t.2)
 rw[ml (h t ht) hk]
theorem zcQ {n k:Nat} (hk:n+k=4) (ord:Int){L:List Tm}{Z:Mp.TL} (hZ:Mp.Wd n Z) (h:∀e,Mp.cf (tl L) e=Mp.cf (Z.map (Mp.padT k)) e):WR n (cnT ord L)=(Mp.canon ord Z).map wz:=by
 have h1:Mp.canon ord (tl L)=(Mp.canon ord Z).map (Mp.padT k):=by
  rw[←Mp.canon_pad ord k hZ];exact Mp.canon_eq (lJ L) (by have:=Mp.pad_len (k:=k) hZ;rwa[hk] at this) h
 unfold WR cnT;rw[h1,List.map_map,List.map_map];refine List.map_congr_left fun x hx => ?_
 have hx2:=Mp.canon_wd (ord:=ord) hZ x hx;show wrT n (ofM (Mp.padT k x))=wz x
 rw[zcO hx2 hk];unfold wrT wz;rw[ml hx2 hk];unfold Mp.pad;rw[List.take_append_of_le_length (by omega),z93 (by omega)]
section
variable {a b:List At}{n ord:Int} (ha:Gd a n ord) (hb:Gd b n ord)
include ha
theorem Gd.k4:n.toNat+(4-n.toNat)=4:=by have:=ha.n4;omega
theorem Gd.tl:Go.Proofs.YtbnhgnhgbhjkcaaGreat.M.tl (rdL a)=(rzL a).map (Mp.padT (4-n.toNat)):=zcP (fun t ht=>by have:=(jJ (ha.ft t ht)).1;omega) ha.k4
theorem Gd.cf (o:Int) (e:Mp.Mo):Mp.cf (Go.Proofs.YtbnhgnhgbhjkcaaGreat.M.tl (frm a o)) e=Mp.cf ((rzL a).map (Mp.padT (4-n.toNat))) e:=by
 unfold frm;rw[iF,Mp.canon_cf,ha.tl]
theorem wj (e:Mp.Mo):Mp.cf (Mp.growL [] (rzL a)) e=Mp.cf (rzL a) e:=by rw[Mp.growL_cf,Mp.cf_nil,Rat.zero_add]
theorem jP:Mp.Wd n.toNat (Mp.growL [] (rzL a)):=Mp.growL_wd (fun x hx=>by cases hx) ha.wd
theorem jQ:Mp.Ex 0 40 (Mp.growL [] (rzL a)):=Mp.Ex.nil.growL fun x hx=>by
 obtain⟨y,hy,rfl⟩:=z9Q.1 hx;exact (jJ (ha.ft y hy)).2.1
theorem zcR:(Mp.growL [] (rzL a)).length≤a.length:=by
 have:=Mp.growL_len (rzL a) []
 rwa[lj,List.length_nil,z9o] at this
include hb
end
set_option linter.unusedSimpArgs false
open Go.RowKit
theorem SzZ.P {a b c:Nat}{l:Mp.TL} (h:SzZ a b l) (hl:l.length≤2^c):SzZ a (b+c) (Mp.growL [] l):=by
 obtain⟨D,h1,h2,h3⟩:=h;refine⟨D,h1,h2,(fp h3 (Dz.nil (X:=0))).mono ?_⟩;rw[z9o,z9p,z8U];exact z9d _ hl
theorem SzZ.bq {a b p:Nat}{l:Mp.TL} (h:SzZ a b l) (ha:a<p) (hb:b<p):∀x∈l,Bq p x.1:=fun x hx=>by
 obtain⟨D,h1,h2,h3⟩:=h;exact (h3 x hx).Bq (z9K h2 (pw ha)) (pw hb)
theorem uy {a b a' b' c p n:Nat}{l m:Mp.TL} (h:SzZ a b l) (k:SzZ a' b' m) (hw:Mp.Wd n l) (kw:Mp.Wd n m) (hl:l.length≤100000) (hm:m.length≤1000) (hn:n≤1000) (h1:b+a'≤c) (h2:b'+a≤c) (h3:a+a'<p) (h4:c+10<p) (hp:p≤2048000000000) :
  Con Tryz.prog AN 19 [MZ l,MZ m] (MZ (Mp.growL l m))∧SzZ (a+a') (c+10) (Mp.growL l m):=by
 obtain⟨D,d1,d2,d3⟩:=h;obtain⟨E,e1,e2,e3⟩:=k;have hD:D*E≤2^(a+a'):=by rw[z9p];exact z82 d2 e2
 have x1:2^b*E≤2^c:=z9E (z9d _ e2) (by rw[←z9p];exact pl h1);have x2:2^b'*D≤2^c:=z9E (z9d _ d2) (by rw[←z9p];exact pl h2);have dl:Dz (D*E) (2^c) l:=fun x hx=>((d3 x hx).up e1).mono x1
 have dm:Dz (D*E) (2^c) m:=fun x hx=>by
  have:=(e3 x hx).up d1;rw[z8U E D] at this;exact this.mono x2
 have hX:2^c+(m.length+1)*2^c≤2^(c+10):=by
  rw[z9p,z8U (2^c) (2^10)];have:(m.length+2)*2^c≤2^10*2^c:=z92 _ (by omega);rw[show m.length+2=(m.length+1)+1 from rfl,z8Z] at this;omega
 refine⟨Z1 l m hw kw dl dm (by omega) (by omega) (z9K hD (pw h3)) (z9K hX (pw h4)) hp,D*E,Nat.mul_pos d1 e1,hD,(fp dm dl).mono ?_⟩;refine z9E ?_ hX;rw[z8Z];omega
theorem zar {a b a' b' p n:Nat}{l m:Mp.TL} (h:SzZ a b l) (k:SzZ a' b' m) (hw:Mp.Wd n l) (kw:Mp.Wd n m) (hl:l.length≤300) (hm:m.length≤300) (hn:n≤1000) (h1:a<p) (h2:b<p) (h3:a'<p) (h4:b'<p) (h5:a+a'<p) (h6:b+b'+17<p) (hp:p≤2048000000000) (hle:Mp.Ex (-1000000000) 1000000000 l) (hme:Mp.Ex (-1000000000) 1000000000 m) :
  Con Tryz.prog AN 20 [MZ l,MZ m] (MZ (Mp.growL [] (Mp.mulL l m)))∧SzZ (a+a') (b+b'+17) (Mp.growL [] (Mp.mulL l m)):=by
 obtain⟨D,d1,d2,d3⟩:=h;obtain⟨E,e1,e2,e3⟩:=k;have hD:D*E≤2^(a+a'):=by rw[z9p];exact z82 d2 e2
 have hlm:l.length*m.length≤300*300:=z82 hl hm;have hX:(l.length*m.length+1)*(2^b*2^b')≤2^(b+b'+17):=by
  rw[←z9p,z9p 2 (b+b') 17,z8U (2^(b+b')) (2^17)];exact z92 _ (z9E (by omega:_≤300*300+1) (by decide))
 refine⟨zco l m hw kw d3 e3 (by omega) (by omega) (by omega) hn (z9K d2 (pw h1)) (z9K e2 (pw h3)) (pw h2) (pw h4) (z9K hD (pw h5)) (z9K hX (pw h6)) hp hle hme,D*E,Nat.mul_pos d1 e1,hD,(fp (vU d3 e3) (Dz.nil (X:=0))).mono ?_⟩;rw[z9o,pI];refine z9E (z92 _ (Nat.le_succ _)) hX
theorem zas {n:Nat}{Z:Mp.TL} (hw:Mp.Wd n Z) (hn:n≤4) (ord:Int):(∀t∈(Mp.canon ord Z).map wz,t.2.length≤9223372036854775807)∧((Mp.canon ord Z).map wz).length≤Z.length:=by
 refine⟨fun t ht => ?_,by rw[z9V];exact Mp.canon_len ord Z⟩;obtain⟨y,hy,rfl⟩:=z9Q.1 ht;have:=Mp.canon_wd (ord:=ord) hw y hy;show y.2.length≤_
 omega
theorem zat {l:List At}{m:Nat} (h:¬ gZ l m=true):l.length≤m∧lenC l≤20*m:=by
 unfold gZ at h;simp only[z83,z8T,not_or] at h;omega
structure Ar (l:List At):Prop where
 len:l.length*40≤140737488355328
 str:∀t∈l,t.1.length≤140737488355328
 ex:∀t∈l,t.2.length≤17592186044416
theorem Ar.l9 {l:List At} (h:Ar l):l.length≤9223372036854775807:=by have:=h.len;omega
theorem Ar.s9 {l:List At} (h:Ar l):∀t∈l,t.1.length≤9223372036854775807:=fun t ht=>by have:=h.str t ht;omega
theorem zau (a b:Int):aV [.int .i64 a,.int .i64 b]=some ([.i64,.i64],[a,b]):=rfl
theorem zav:([IntKind.i64,IntKind.i64]:List IntKind).length=2:=rfl
theorem zaw:((0:Int)<0)=False:=by decide
theorem zax:(0:Int)+0=0:=rfl
def aA:=an zaw (an zax (an @decide_false (an @decide_true (an @zau (an zav ab)))))
section
variable (T U T' U':Nat) (a b:List At) (n ord:Int) (hA:Ar a) (hB:Ar b)
include hA hB
end
set_option linter.unusedSimpArgs false
open Go.RowKit
abbrev LSt (T:Nat) (l:List (List UInt8)):D:=.list T 1 (l.map D.str)
abbrev FI:Nat:=88
noncomputable def pF:Nat→List (List UInt8)→Int×Int
 |_,[]=>(0,0)
 |i,t::l=>if cR t=0 then pF (i+1) l else (cR t,(i:Int))
noncomputable def ptL (ts:List (List UInt8)):List Rat:=ts.map qR
theorem iX (ts:List (List UInt8)):(ptL ts).length=ts.length:=z9V _
theorem zcN {l:List (List UInt8)}{i:Nat} (h:i<l.length):(l.map D.str).getD i default = .str (st0 l i):=by simp[st0,h]
section
variable (a:List At) (n ord:Int) (ha:Gd a n ord) (v:Nat) (hv:v<4)
include ha hv
end
section
variable (T U:Nat) (a:List At) (n v ord:Int) (hl:a.length≤9223372036854775807) (hs:∀t∈a,t.1.length≤9223372036854775807)
include hl hs
end
set_option linter.unusedSimpArgs false
open Go.RowKit
theorem yV {d:D} (y:TyW Tryz.prog 22 d.cells) (z:d.isAgg=bl Tryz.prog 22):∃l:List At,d=LTa (83+1000000) (3+1000000) l∧Ar l:=by
 obtain⟨l,rfl,h1,h2,h3⟩:=mr Tryz.underlying22 y z;have e40:Tryz.prog.bytesOf 83=40:=by kernel_rfl
 have e8:Tryz.prog.bytesOf 3=8:=by kernel_rfl
 have ec:Tryz.prog.cellsOf 83=2:=by kernel_rfl
 have ec1:Tryz.prog.cellsOf 46=1:=by kernel_rfl
 have ec2:Tryz.prog.cellsOf 9=1:=by kernel_rfl
 have er:reachBytes≤140737488355328:=by decide
 rw[e40] at h1;have key:∃m:List At,l=m.map (atD (3+1000000))∧(∀t∈m,t.1.length≤140737488355328)∧∀t∈m,t.2.length≤17592186044416:=by
  clear h1 y z;induction l with
  |nil=>exact⟨[],rfl,by simp,by simp⟩
  |cons d l ih =>
   obtain⟨m,rfl,m1,m2⟩:=ih (fun d hd=>h2 d (by simp[hd])) (fun d hd=>h3 d (by simp[hd]));have g1:=h2 d (by simp);obtain⟨g2,g3,g4⟩:=h3 d (by simp);rw[ec] at g2;have g5:bl Tryz.prog 83=true:=by kernel_rfl
   rw[g5] at g4;obtain⟨q,rfl⟩:∃q,d = .agg q:=by cases d<;>first | exact⟨_,rfl⟩ | (simp[D.isAgg] at g4)
   have hq:(D.agg q).cells=q:=rfl;rw[hq] at g1 g2 g3
   match q,g2 with
   |[a,b],_ =>
    generalize hqq:([a,b]:List D)=qq at g1;cases g1 with
    |struct t fs l' hu hl hf =>
     subst hqq;rw[Tryz.underlying83] at hu;cases hu;have f0:=hf _ (by simp;exact .inl rfl);have f1:=hf _ (by simp;exact .inr rfl);simp only[ec1,ec2] at f0 f1;have oa:∀x:D,x.one=true→x.cells=[x]∧x.isAgg=false:=fun x hx=>by cases x<;>first | exact⟨rfl,rfl⟩ | (simp[D.one] at hx)
     obtain⟨a1,a2⟩:=oa a (g3 a (by simp));obtain⟨b1,b2⟩:=oa b (g3 b (by simp));have t0:TyW Tryz.prog 9 a.cells:=by rw[a1];exact f0
     have t1:TyW Tryz.prog 46 b.cells:=by rw[b1];exact f1
     obtain⟨s,rfl,hs⟩:=pU Tryz.underlying9 t0 (by rw[a2];kernel_rfl);obtain⟨e,rfl,he⟩:=zh5 Tryz.underlying46 Tryz.underlying3 (by kernel_rfl) t1 (by rw[b2];kernel_rfl);rw[e8] at he;refine⟨(s,e)::m,rfl,fun t ht => ?_,fun t ht => ?_⟩
     ·rcases z9L.1 ht with rfl | ht
      ·exact z9E hs er
      ·exact m1 t ht
     ·rcases z9L.1 ht with rfl | ht
      ·show e.length≤_
       omega
      ·exact m2 t ht
    |bool t b hu=>rw[Tryz.underlying83] at hu;cases hu
    |int t k n hu=>rw[Tryz.underlying83] at hu;cases hu
    |str t s hu=>rw[Tryz.underlying83] at hu;cases hu
    |slice t e l hu=>rw[Tryz.underlying83] at hu;cases hu
 obtain⟨m,rfl,m1,m2⟩:=key;rw[z9V] at h1;exact⟨m,by rw[ec],by omega,m1,m2⟩
end Go.Proofs.YtbnhgnhgbhjkcaaGreat.M
