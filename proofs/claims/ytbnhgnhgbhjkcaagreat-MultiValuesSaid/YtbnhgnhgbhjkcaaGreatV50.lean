/- Lemmas. -/
import Derived.Test.YtbnhgnhgbhjkcaaGreatV49
import Derived.Test.YtbnhgnhgbhjkcaaGreatV6
set_option linter.defProp false
set_option linter.unusedSectionVars false
set_option linter.unusedSimpArgs false
set_option linter.unusedVariables false
namespace Go.Proofs.YtbnhgnhgbhjkcaaGreat.M
open Go.RowKit
set_option maxRecDepth 20000
set_option maxHeartbeats 4000000
theorem Sub.rowP {OT:List TypeId} (t i T sz n:Nat) (l:List D){R:List (Nat×AV)}{M:List (Nat×AObj)} (ht:ai R t = .slice i 0 n) (hm:aw M i=some ⟨T,sz,.row l,false⟩) (hn:n=l.length) (hi:i≠aS:=by decide) :
  Sub OT ⟨ai R,aw M⟩ ⟨ai (fu t (.p (.list T sz l)) R),aw (dY i ⟨T,sz,.row l,true⟩ M)⟩:=by
 have h1:Sub OT ⟨ai R,aw M⟩ ⟨ai R,aw (dY i ⟨T,sz,.row l,true⟩ M)⟩:=by
  rw[←iS];exact Sub.freeze (ob:=⟨T,sz,.row l,false⟩) hi hm
 refine h1.tr (Sub.revG t (.list T sz l) ?_);rw[ht];subst hn;have e:aw (dY i ⟨T,sz,.row l,true⟩ M) i=some ⟨T,sz,.row l,true⟩:=by rw[←iS,aF]
 simp[AV.toD,e]
def Bst (ord:Int) (q:Mp.TL) (i k:Nat):Prop:=k<i∧i≤q.length∧∀j,j<i→j≠k→Mp.ahead ord (zt q k).2 (zt q j).2=true
theorem Bst.step {ord:Int}{n:Nat}{q:Mp.TL} (hd:Mp.Dst q) (hw:Mp.Wd n q){i k:Nat} (h:Bst ord q i k) (hi:i<q.length):Bst ord q (i+1) (if Mp.ahead ord (zt q i).2 (zt q k).2=true then i else k):=by
 obtain⟨h1,h2,h3⟩:=h;by_cases c:Mp.ahead ord (zt q i).2 (zt q k).2=true
 ·rw[if_pos c];refine⟨by omega,by omega,fun j hj hne => ?_⟩;by_cases hjk:j=k
  ·rw[hjk];exact c
  ·exact Mp.ahead_trans c (h3 j (by omega) hjk)
 ·rw[if_neg c];refine⟨by omega,by omega,fun j hj hne => ?_⟩;by_cases hji:j=i
  ·subst hji;cases hb:Mp.ahead ord (zt q k).2 (zt q j).2 with
   |true=>rfl
   |false =>
    have e:=Mp.ahead_tot (ord:=ord) (by rw[hw _ (dn (i:=k) (by omega)),hw _ (dn hi)]) hb (Bool.eq_false_iff.2 c);have hne2:=List.pairwise_iff_getElem.1 hd.ne k j (by omega) hi h1;rw[fp (by omega),fp hi] at e;exact absurd e hne2
  ·exact h3 j (by omega) hne
theorem Bst.pick {ord:Int}{n:Nat}{q:Mp.TL} (hd:Mp.Dst q) (hw:Mp.Wd n q){k:Nat} (h:Bst ord q q.length k):Mp.canon ord q=zt q k::Mp.canon ord (q.take k++q.drop (k+1)):=by
 obtain⟨h1,h2,h3⟩:=h;refine Mp.canon_pick hw hd (by rw[List.getElem?_eq_getElem h1,fp h1]) fun j y hne hj => ?_
 obtain⟨hjl,rfl⟩:=List.getElem?_eq_some_iff.1 hj;have:=h3 j hjl hne
 rwa[fp hjl] at this
theorem VY {n:Nat}{q:Mp.TL} (h:Mp.Wd n q) (k:Nat):Mp.Wd n (q.take k++q.drop (k+1)):=fun x hx=>by
 rcases List.mem_append.1 hx with hx | hx
 ·exact h x (List.mem_of_mem_take hx)
 ·exact h x (List.mem_of_mem_drop hx)
theorem VZ {q:Mp.TL}{k:Nat}{x:Zm} (hx:x∈q.take k++q.drop (k+1)):x∈q:=by
 rcases List.mem_append.1 hx with hx | hx
 ·exact List.mem_of_mem_take hx
 ·exact List.mem_of_mem_drop hx
theorem rS {l:List Int} (h:∀e∈l,-1000000000≤e∧e≤1000000000) (k:Nat):-1000000000≤l.getD k 0∧l.getD k 0≤1000000000:=by
 by_cases hk:k<l.length
 ·have:l.getD k 0=l[k]:=by simp[hk]
  rw[this];exact h _ (List.getElem_mem hk)
 ·have:l.getD k 0=0:=by simp[List.getElem?_eq_none (Nat.le_of_not_lt hk)]
  rw[this];omega
theorem rT (t:Zm):(tZ t).cells.all D.one=true:=rfl
theorem V1 (m:Mp.TL){n:Nat} (ord:Int) (ho:0≤ord) (hd:Mp.Dst m) (hw:Mp.Wd n m) (hn:n≤1000) (hl:m.length≤1000000) (he:∀x∈m,∀e∈x.2,-1000000000≤e∧e≤1000000000) :
  Con Tryz.prog AN 54 [MZ m,.int .i64 ord] (MZ (Mp.canon ord m)):=by
 refine NJ.con rfl (by simp) ?_;(repeat first|simp only[kV,simprocAttr,ab,ax,hl,List.length_map]|refine aN ?_);refine kp [0,1] ?_;(repeat first|simp only[kV,simprocAttr,ab,ax,hl,List.length_map]|refine aN ?_);refine kp [1,5] ?_;(repeat first|simp only[kV,simprocAttr,ab,ax,hl,List.length_map]|refine aN ?_);refine kp [1,5,6] ?_;(repeat first|simp only[kV,simprocAttr,ab,ax,hl,List.length_map]|refine aN ?_);refine aE (ι:=Mp.TL×Mp.TL) (fun s=>Mp.Dst s.1∧Mp.Wd n s.1∧(∀x∈s.1,x∈m)∧s.2++Mp.canon ord s.1=Mp.canon ord m∧s.1.length+s.2.length=m.length) (fun s=>⟨ai [(1,.p (.int .i64 ord)),(5,.p (MZ s.1)),(6,.slice 206 0 s.2.length)],aw [(206,⟨TZ,5,.row (s.2.map tZ),false⟩)]⟩) (fun s=>s.1.length) (m,[]) ⟨hd,hw,fun x hx=>hx,rfl,rfl⟩ ((Sub.rowP 5 10 TZ 5 _ (m.map tZ) (by rfl) (by rfl) (by simp)).tr (Sub.tr (Sub.nilG 6 206 TZ 5) (Sub.toG [1,5,6] [10,38,43]))) ?_;rintro⟨q,out⟩ ⟨hdq,hwq,hsub,hcan,hlen⟩;simp only at hdq hwq hsub hcan hlen;by_cases h:0<q.length
 ·have hI:(0:Int)<(q.length:Int):=by omega
  (repeat first|with_reducible refine kp [1,5,6,13] ?_|simp only[kV,simprocAttr,ab,hI,List.length_map]|refine aN ?_);refine ulk ?_;(repeat first|simp only[kV,simprocAttr,ab,hI]|refine aN ?_);refine kp [1,5,6] ?_;(repeat first|simp only[kV,simprocAttr,ab,hI]|refine aN ?_);refine kp [1,5,6,7] ?_;(repeat first|simp only[kV,simprocAttr,ab,hI]|refine aN ?_);refine kp [1,5,6,7,8] ?_;(repeat first|simp only[kV,simprocAttr,ab,hI]|refine aN ?_);refine aE (ι:=Nat×Nat) (fun s=>Bst ord q s.1 s.2) (fun s=>⟨ai [(1,.p (.int .i64 ord)),(5,.p (MZ q)),(6,.slice 206 0 out.length),(7,.p (.int .i64 s.2)),(8,.p (.int .i64 s.1))],aw [(206,⟨TZ,5,.row (out.map tZ),false⟩)]⟩) (fun s=>q.length-s.1) (1,0) ⟨by simp only;omega,by simp only;omega,fun j hj hne=>absurd (show j=0 by simp only at hj;omega) hne⟩ (Sub.toG [1,5,6,7,8] [10,38,43]) ?_;rintro⟨i,k⟩ hB;simp only at hB;have hki:=hB.1;have hkl:k<q.length:=by have:=hB.2.1;omega
  have hK:(k:Int)<(q.length:Int):=by omega
  have g2:=gT hkl;by_cases h':i<q.length
  ·have hJ:(i:Int)<(q.length:Int):=by omega
   have g1:=gT h';have hst:=hB.step hdq hwq h';have mi:=hsub _ (dn h');have mk:=hsub _ (dn hkl);have c1:=zcu 3 3 ord (zt q i).2 (zt q k).2 (by rw[hw _ mi,hw _ mk]) (by rw[hw _ mi];exact hn) AN ho (rS (he _ mi)) (rS (he _ mk));by_cases hc:Mp.ahead ord (zt q i).2 (zt q k).2=true
   ·rw[if_pos hc] at hst;rw[hc] at c1;(repeat first|with_reducible refine kp [1,5,6,7,8,17] ?_|simp only[kV,simprocAttr,ab,hJ,List.length_map]|refine aN ?_);(try simp only[kV,simprocAttr,ab,hJ,hK,g1,g2,h',hkl,List.length_map]);refine ulk ?_;(repeat first|with_reducible refine kp [1,5,6,7,8] ?_|simp only[kV,simprocAttr,ab,hJ,hK,g1,g2,h',hkl,List.length_map]|refine aN ?_);refine⟨_,cx (c1),?_⟩;(repeat first|with_reducible refine kp [1,5,6,7,8,31] ?_|simp only[kV,simprocAttr,ab]|refine aN ?_);refine ulk ?_;(repeat first|with_reducible refine kp [1,5,6,7,8] ?_|simp only[kV,simprocAttr,ab]|refine aN ?_);exact⟨(i+1,i),hst,(Sub.toG [1,5,6,7,8] [10,38,43]),by simp only;omega⟩
   ·rw[if_neg hc] at hst;rw[Bool.eq_false_iff.2 hc] at c1;(repeat first|with_reducible refine kp [1,5,6,7,8,17] ?_|simp only[kV,simprocAttr,ab,hJ,List.length_map]|refine aN ?_);(try simp only[kV,simprocAttr,ab,hJ,hK,g1,g2,h',hkl,List.length_map]);refine ulk ?_;(repeat first|with_reducible refine kp [1,5,6,7,8] ?_|simp only[kV,simprocAttr,ab,hJ,hK,g1,g2,h',hkl,List.length_map]|refine aN ?_);refine⟨_,cx (c1),?_⟩;(repeat first|with_reducible refine kp [1,5,6,7,8,31] ?_|simp only[kV,simprocAttr,ab]|refine aN ?_);refine ulk ?_;(repeat first|with_reducible refine kp [1,5,6,7,8] ?_|simp only[kV,simprocAttr,ab]|refine aN ?_);exact⟨(i+1,k),hst,(Sub.toG [1,5,6,7,8] [10,38,43]),by simp only;omega⟩
  ·have hJ:¬ (i:Int)<(q.length:Int):=by omega
   obtain rfl:i=q.length:=by have:=hB.2.1;omega
   have hp:=hB.pick hdq hwq;have hle:(k:Int)≤(q.length:Int):=by omega
   have hle1:(k:Int)+1≤(q.length:Int):=by omega
   have e1:List.take k (q.map tZ)=(q.take k).map tZ:=List.map_take.symm;have e2:List.take (q.length-(k+1)) (List.drop (k+1) (q.map tZ))=(q.drop (k+1)).map tZ:=by rw[←List.map_drop,List.take_of_length_le (by simp)]
   have l1:(q.take k).length=k:=by rw[List.length_take,Nat.min_eq_left (by omega)]
   have l2:(q.drop (k+1)).length=q.length-(k+1):=List.length_drop;have hd2:=hdq.less k;have hw2:=VY hwq k;have hm2:∀x∈q.take k++q.drop (k+1),x∈m:=fun x hx=>hsub x (VZ hx)
   have hll:(q.take k++q.drop (k+1)).length+1=q.length:=by rw[List.length_append,l1,l2];omega
   have ft:=nZ (zt q k).1 (zt q k).2;(repeat first|with_reducible refine kp [1,5,6,7,8,17] ?_|simp only[kV,simprocAttr,ab,hJ,List.length_map]|refine aN ?_);(try simp only[kV,simprocAttr,ab,hJ,hK,hle,hle1,g2,hkl,List.length_map,e1,e2,l1,l2,List.length_append,List.length_cons,List.length_nil,ft,rT]);refine ulk ?_;(repeat first|with_reducible refine kp [1,5,6,7] ?_|simp only[kV,simprocAttr,ab,hJ,hK,hle,hle1,g2,hkl,List.length_map,e1,e2,l1,l2,List.length_append,List.length_cons,List.length_nil,ft,rT]|refine aN ?_);have f1:(out++[zt q k]).map tZ=out.map tZ++[tZ ((zt q k).1,(zt q k).2)]:=by rw[List.map_append];rfl
   have f2:(out++[zt q k]).length=out.length+1:=by rw[List.length_append];rfl
   have f3:=lQ (q.take k) (q.drop (k+1));refine⟨(q.take k++q.drop (k+1),out++[zt q k]),⟨hd2,hw2,hm2,?_,?_⟩,?_,?_⟩
   ·simp only;rw[List.append_assoc,List.singleton_append,←hp,hcan]
   ·simp only;rw[f2];omega
   ·simp only;rw[f1,f2,f3];exact (Sub.rowP 5 43 TZ 5 _ (List.map tZ (q.take k)++List.map tZ (q.drop (k+1))) (by rfl) (by rfl) (by rw[List.length_append,List.length_map,List.length_map,l1,l2])).tr (Sub.toG [1,5,6] [10,38,43])
   ·simp only;omega
 ·have hI:¬ (0:Int)<(q.length:Int):=by omega
  have hq:q=[]:=List.eq_nil_of_length_eq_zero (by omega);have hout:out=Mp.canon ord m:=by rw[←hcan,hq,show Mp.canon ord []=[] from rfl,List.append_nil]
  (repeat first|with_reducible refine kp [1,5,6,13] ?_|simp only[kV,simprocAttr,ab,hI,List.length_map,List.length_nil]|refine aN ?_);refine ulk ?_;(repeat first|with_reducible refine kp [4,6] ?_|simp only[kV,simprocAttr,ab,ac,ah,ae,af,hI]|refine aN ?_);rw[←hout];simp only[Bool.or_true,if_true,List.length_map,Nat.le_refl];rw[List.take_of_length_le (by simp)]
theorem Jf (v:Nat) (x:Rat){l:Mp.TL}{i:Nat} (h:i<l.length):Mp.fixL v x (l.take (i+1))=Mp.fixL v x (l.take i)++[((zt l i).1*x^((zt l i).2.getD v 0).toNat,(zt l i).2.set v 0)]:=by
 rw[jG h];unfold Mp.fixL;rw[List.map_append];rfl
theorem mJ (v:Nat):∀a b:Mp.TL,Mp.derL v (a++b)=Mp.derL v a++Mp.derL v b
 |[],b=>rfl
 |t::a,b=>by
  rw[List.cons_append,Mp.derL,Mp.derL,mJ v a b];split<;>rfl
theorem Jg (v:Nat){l:Mp.TL}{i:Nat} (h:i<l.length):Mp.derL v (l.take (i+1))=Mp.derL v (l.take i)++(if 0<(zt l i).2.getD v 0 then [((zt l i).1*((zt l i).2.getD v 0:Int),(zt l i).2.set v ((zt l i).2.getD v 0-1))] else []):=by
 rw[jG h,mJ,Mp.derL,Mp.derL]
theorem mK (v:Nat):∀l:Mp.TL,(Mp.derL v l).length≤l.length
 |[]=>Nat.le_refl _
 |t::l=>by
  have:=mK v l;unfold Mp.derL;split
  ·rw[List.length_cons,List.length_cons];omega
  ·rw[List.length_cons];omega
theorem qH (v:Nat) (x:Rat) (l:Mp.TL):(Mp.fixL v x l).length=l.length:=List.length_map _
theorem dz (l:List Int) (v:Nat) (x:Int):(l.set v x).length=l.length:=List.length_set
section
variable (l:Mp.TL){n a p E0 X:Nat} (v:Nat) (hw:Mp.Wd n l) (hv:v<n) (hn:n≤1000) (hl:l.length≤100000) (he:∀x∈l,∀e∈x.2,0≤e∧e≤40) (hb:∀x∈l,Bq a x.1) (hD:E0<2^p) (hX:(l.length+1)*X<2^p) (hp2:p≤2048000000000)
include hw hv hn hl he hb hD hX hp2
theorem Jh (x:Rat){q:Nat} (hx:Bq q x) (hz:Dz E0 X (Mp.fixL v x l)) (hp:a+q*41≤p) :
  Con Tryz.prog AN 29 [MZ l,J v,qZ x] (MZ (Mp.growL [] (Mp.fixL v x l))):=by
 refine OV.conW (A:=[]) rfl (by simp) ?_;(repeat first|simp only[kV,simprocAttr,ab,bh]|refine aN ?_);refine kp [0,1,5] ?_;(repeat first|simp only[kV,simprocAttr,ab,bh]|refine aN ?_);refine kp [0,1,5,7] ?_;(repeat first|simp only[kV,simprocAttr,ab,bh]|refine aN ?_);refine kp [0,1,5,7,8] ?_;(repeat first|simp only[kV,simprocAttr,ab,bh]|refine aN ?_);refine aE (ι:=Nat) (fun i=>i≤l.length) (fun i=>⟨ai [(0,.p (MZ l)),(1,.p (J v)),(5,.ptr 5 0 0),(7,.p (MZ (Mp.growL [] (Mp.fixL v x (l.take i))))),(8,.p (J i))],aw [(5,⟨50,4,.box (.p (qZ x)),false⟩)]⟩) (fun i=>l.length-i) 0 (Nat.zero_le _) ((Sub.revG 7 (MZ []) (by rfl)).tr (Sub.toG [0,1,5,7,8] [9,43])) ?_;intro i hi;by_cases h:i<l.length
 ·have hI:(i:Int)<(l.length:Int):=by omega
  have g1:=gT h;have hxm:=dn h;have hbx:=hb _ hxm;have hwx:=hw _ hxm;have hve:v<(zt l i).2.length:=by omega
  have hej:0≤(zt l i).2.getD v 0∧(zt l i).2.getD v 0≤40:=by
   have:(zt l i).2.getD v 0=(zt l i).2[v]:=by simp[hve]
   rw[this];exact he _ hxm _ (List.getElem_mem hve)
  have g2:=dq hve;have hst:=Jf v x h;have hgr:Mp.growL [] (Mp.fixL v x (l.take (i+1)))=Mp.grow (Mp.growL [] (Mp.fixL v x (l.take i))) ((zt l i).1*x^((zt l i).2.getD v 0).toNat,(zt l i).2.set v 0):=by rw[hst,Mp.growL_snoc]
  have hsub:∀y∈Mp.fixL v x (l.take (i+1)),y∈Mp.fixL v x l:=fun y hy=>by
   obtain⟨w,hw,rfl⟩:=List.mem_map.1 hy;exact List.mem_map.2 ⟨w,List.mem_of_mem_take hw,rfl⟩
  have hnew:=hz _ (hsub _ (by rw[hst];exact List.mem_append_right _ List.mem_cons_self));have hql:(Mp.fixL v x (l.take i)).length=i:=by rw[qH,List.length_take,Nat.min_eq_left hi]
  have hgd:=jt (a:=[]) (l:=Mp.fixL v x (l.take i)) (D:=E0) (Y:=X) (fun y hy=>hz y (hsub y (by rw[hst];exact List.mem_append_left _ hy))) (Dz.nil (X:=0));have hgw:=Mp.growL_wd (a:=[]) (l:=Mp.fixL v x (l.take i)) (n:=n) (fun x hx=>by cases hx) (Mp.Wd.fix (fun y hy=>hw y (List.mem_of_mem_take hy)) v x);have hgl:=Mp.growL_len (Mp.fixL v x (l.take i)) [];rw[hql] at hgd hgl;have hxi:(i+1)*X≤(l.length+1)*X:=Nat.mul_le_mul_right _ (by omega);rw[Nat.succ_mul] at hxi;generalize Mp.growL [] (Mp.fixL v x (l.take i))=w at *;generalize zt l i=y at *;obtain⟨c,e⟩:=y;simp only at g1 hbx hwx hve hej g2 hgr hnew;generalize hee:e.getD v 0=m at *;have c2:=nY w (c*x^m.toNat,e.set v 0) hgw (by rw[dz];exact hwx) hgd hnew (by simp only[List.length_nil] at hgl;omega) (by omega) hD (by omega) hp2;have hVI:(v:Int)<(e.length:Int):=by omega
  have hl8:e.length*8≤140737488355328:=by omega
  have hl9:e.length≤9223372036854775807:=by omega
  have s1:(e.map (D.int .i64)).set v (.int .i64 0)=(e.set v 0).map (D.int .i64):=vh e v 0;(repeat first|with_reducible refine kp [0,1,5,7,8,15] ?_|simp only[kV,simprocAttr,ab,hI]|refine aN ?_);(try simp only[kV,simprocAttr,ab,hI,g1,h]);refine ulk ?_;(repeat first|simp only[kV,simprocAttr,ab,hI,g1,h]|refine aN ?_);refine kp [0,1,5,7,8] ?_;(repeat first|simp only[kV,simprocAttr,ab,hI,g1,h]|refine aN ?_);refine kp [0,1,5,7,8,9] ?_;(repeat first|simp only[kV,simprocAttr,ab,hI,g1,h]|refine aN ?_);refine kp [0,1,5,7,8,9,10] ?_;(repeat first|simp only[kV,simprocAttr,ab,hI,g1,h]|refine aN ?_);refine aE (ι:=Nat) (fun k=>(k:Int)≤m∧Bq (a+q*k) (c*x^k)) (fun k=>⟨ai [(0,.p (MZ l)),(1,.p (J v)),(5,.ptr 5 0 0),(7,.p (MZ w)),(8,.p (J i)),(9,.ptr 9 0 0),(10,.p (J k))],aw [(5,⟨50,4,.box (.p (qZ x)),false⟩),(9,⟨50,4,.box (.p (qZ (c*x^k))),false⟩)]⟩) (fun k=>(m-k).toNat) 0 ⟨by omega,by simpa[Rat.pow_zero,Rat.mul_one] using hbx⟩ (by rw[Rat.pow_zero,Rat.mul_one];exact (Sub.toG [0,1,5,7,8,9,10] [43])) ?_;rintro k ⟨hk,hbk⟩;have hqk:q*(k+1)≤q*41:=Nat.mul_le_mul_left _ (by omega);rw[Nat.mul_succ] at hqk;by_cases h2:(k:Int)<m
  ·have hbn:Bq (a+q*(k+1)) (c*x^(k+1)):=by
    rw[Rat.pow_succ,←Rat.mul_assoc,Nat.mul_succ,←Nat.add_assoc];exact qz hbk hx
   have cm:=oH (c*x^k) x p (hbk.mono (by omega)) (hx.mono (by omega)) hp2;have hps:c*x^k*x=c*x^(k+1):=by rw[Rat.pow_succ,←Rat.mul_assoc]
   rw[hps] at cm;(repeat first|with_reducible refine kp [0,1,5,7,8,9,10,32] ?_|simp only[kV,simprocAttr,ab,hI,g1,h,hVI,g2,hve,h2]|refine aN ?_);refine ulk ?_;(repeat first|with_reducible refine kp [0,1,5,7,8,9,10] ?_|simp only[kV,simprocAttr,ab,hI,g1,h]|refine aN ?_);refine wq (cxw (B:=[173,3]) (cm)) (ulc ?_);(repeat first|with_reducible refine kp [0,1,5,7,8,9,10] ?_|simp only[kV,simprocAttr,ab]|refine aN ?_);exact⟨k+1,⟨by omega,hbn⟩,(Sub.toG [0,1,5,7,8,9,10] [43]),by omega⟩
  ·obtain rfl:m=(k:Int):=by omega
   rw[Int.toNat_natCast] at c2 hgr;have tkE:List.take e.length (e.set v 0)=e.set v 0:=List.take_of_length_le (by simp);have f5:D.agg [hZ (c*x^k).num,lZ (c*x^k).num,hZ ((c*x^k).den:Int),lZ ((c*x^k).den:Int),.list 3 1 ((e.set v 0).map (D.int .i64))]=tZ (c*x^k,e.set v 0):=rfl;(repeat first|with_reducible refine kp [0,1,5,7,8,9,10,32] ?_|simp only[kV,simprocAttr,ab,hI,g1,h,hVI,g2,hve,h2]|refine aN ?_);(try simp only[kV,simprocAttr,ab,h2,hI,g1,h,hVI,hve,hl8,hl9,s1,f5,tkE,dz,gL,fL,Bool.true_or,List.drop_zero,az,aA]);refine ulk ?_;(repeat first|simp only[kV,simprocAttr,ab,h2,hI,g1,h,hVI,hve,hl8,hl9,s1,f5,tkE,dz,gL,fL,Bool.true_or,List.drop_zero,az,aA]|refine aN ?_);refine kp [0,1,5,7,8,9] ?_;(repeat first|simp only[kV,simprocAttr,ab,h2,hI,g1,h,hVI,hve,hl8,hl9,s1,f5,tkE,dz,gL,fL,Bool.true_or,List.drop_zero,az,aA]|refine aN ?_);refine kp [0,1,5,7,8,9,11] ?_;(repeat first|simp only[kV,simprocAttr,ab,h2,hI,g1,h,hVI,hve,hl8,hl9,s1,f5,tkE,dz,gL,fL,Bool.true_or,List.drop_zero,az,aA]|refine aN ?_);refine eQ 43 _ [0,1,5,7,8,9,11] (by rfl) ?_;refine ulk ?_;(repeat first|simp only[kV,simprocAttr,ab,h2,hI,g1,h,hVI,hve,hl8,hl9,s1,f5,tkE,dz,gL,fL,Bool.true_or,List.drop_zero,az,aA]|refine aN ?_);refine wq (cxw (B:=[173,3]) (c2)) (ulc ?_);(repeat first|with_reducible refine kp [0,1,5,7,8] ?_|simp only[kV,simprocAttr,ab]|refine aN ?_);exact⟨i+1,h,by rw[hgr];exact (Sub.toG [0,1,5,7,8] [9,43]),by omega⟩
 ·have hI:¬ (i:Int)<(l.length:Int):=by omega
  obtain rfl:i=l.length:=by omega
  rw[List.take_length];(repeat first|with_reducible refine kp [0,1,5,7,8,15] ?_|simp only[kV,simprocAttr,ab,hI]|refine aN ?_);refine ulk ?_;(repeat first|with_reducible refine kp [6,7] ?_|simp only[kV,simprocAttr,ab,ac,ah,ae,af,hI]|refine aN ?_)
theorem Ji (hz:Dz E0 X (Mp.derL v l)) (hp:a≤p) (h64:64≤p) :
  Con Tryz.prog AN 30 [MZ l,J v] (MZ (Mp.growL [] (Mp.derL v l))):=by
 refine Pg.conW (A:=[]) rfl (by simp) ?_;(repeat first|simp only[kV,simprocAttr,ab,ax]|refine aN ?_);refine kp [0,1] ?_;(repeat first|simp only[kV,simprocAttr,ab,ax]|refine aN ?_);refine kp [0,1,5] ?_;(repeat first|simp only[kV,simprocAttr,ab,ax]|refine aN ?_);refine kp [0,1,5,6] ?_;(repeat first|simp only[kV,simprocAttr,ab,ax]|refine aN ?_);refine aE (ι:=Nat) (fun i=>i≤l.length) (fun i=>⟨ai [(0,.p (MZ l)),(1,.p (J v)),(5,.p (MZ (Mp.growL [] (Mp.derL v (l.take i))))),(6,.p (J i))],aw []⟩) (fun i=>l.length-i) 0 (Nat.zero_le _) ((Sub.revG 5 (MZ []) (by rfl)).tr (Sub.toG [0,1,5,6] [30])) ?_;intro i hi;by_cases h:i<l.length
 ·have hI:(i:Int)<(l.length:Int):=by omega
  have g1:=gT h;have hxm:=dn h;have hbx:=hb _ hxm;have hwx:=hw _ hxm;have hve:v<(zt l i).2.length:=by omega
  have hej:0≤(zt l i).2.getD v 0∧(zt l i).2.getD v 0≤40:=by
   have:(zt l i).2.getD v 0=(zt l i).2[v]:=by simp[hve]
   rw[this];exact he _ hxm _ (List.getElem_mem hve)
  have g2:=dq hve;have hst:=Jg v h;have hsub:∀y∈Mp.derL v (l.take (i+1)),y∈Mp.derL v l:=fun y hy=>by
   rw[←List.take_append_drop (i+1) l,mJ];exact List.mem_append_left _ hy
  have hql:(Mp.derL v (l.take i)).length≤i:=Nat.le_trans (mK v _) (by rw[List.length_take];omega);have hgd:=jt (a:=[]) (l:=Mp.derL v (l.take i)) (D:=E0) (Y:=X) (fun y hy=>hz y (hsub y (by rw[hst];exact List.mem_append_left _ hy))) (Dz.nil (X:=0));have hgw:=Mp.growL_wd (a:=[]) (l:=Mp.derL v (l.take i)) (n:=n) (fun x hx=>by cases hx) (Mp.Wd.der (fun y hy=>hw y (List.mem_of_mem_take hy)) v);have hgl:=Mp.growL_len (Mp.derL v (l.take i)) [];have hgd2:=hgd.mono (Y:=i*X) (by have:=Nat.mul_le_mul_right X hql;omega);have hxi:(i+1)*X≤(l.length+1)*X:=Nat.mul_le_mul_right _ (by omega);rw[Nat.succ_mul] at hxi;clear hgd;by_cases h0:0<(zt l i).2.getD v 0
  ·rw[if_pos h0] at hst;have hgr:Mp.growL [] (Mp.derL v (l.take (i+1)))=Mp.grow (Mp.growL [] (Mp.derL v (l.take i))) ((zt l i).1*((zt l i).2.getD v 0:Int),(zt l i).2.set v ((zt l i).2.getD v 0-1)):=by rw[hst,Mp.growL_snoc]
   have hnew:=hz _ (hsub _ (by rw[hst];exact List.mem_append_right _ List.mem_cons_self));generalize Mp.growL [] (Mp.derL v (l.take i))=w at *;generalize zt l i=y at *;obtain⟨c,e⟩:=y;simp only at g1 hbx hwx hve hej g2 hgr hnew h0;generalize hee:e.getD v 0=m at *;have c0:=qA m (by omega);have hm:Bq p (m:Rat):=Bq.mono (n:=64) ⟨by simp;omega,by simp⟩ h64;have c1:=oH c (m:Rat) p (hbx.mono hp) hm hp2;have c2:=nY w (c*(m:Rat),e.set v (m-1)) hgw (by rw[dz];exact hwx) hgd2 hnew (by simp only[List.length_nil] at hgl;omega) (by omega) hD (by omega) hp2;have hVI:(v:Int)<(e.length:Int):=by omega
   have hl8:e.length*8≤140737488355328:=by omega
   have hl9:e.length≤9223372036854775807:=by omega
   have tkE:List.take e.length (e.set v (m-1))=e.set v (m-1):=List.take_of_length_le (by simp);have s1:(e.map (D.int .i64)).set v (.int .i64 (m-1))=(e.set v (m-1)).map (D.int .i64):=vh e v (m-1);(repeat first|with_reducible refine kp [0,1,5,6,12] ?_|simp only[kV,simprocAttr,ab,hI]|refine aN ?_);(try simp only[kV,simprocAttr,ab,hI,g1,h,hVI,g2,hve,h0]);refine ulk ?_;(repeat first|with_reducible refine kp [0,1,5,6,7,24] ?_|simp only[kV,simprocAttr,ab,hI,g1,h,hVI,g2,hve,h0]|refine aN ?_);(try simp only[kV,simprocAttr,ab,hI,g1,h,hVI,g2,hve,h0,hl8,hl9,s1,dz]);refine ulk ?_;(repeat first|simp only[kV,simprocAttr,ab,hI,g1,h,hVI,g2,hve,h0,hl8,hl9,s1,dz]|refine aN ?_);refine kp [0,1,5,6,7,8] ?_;(repeat first|simp only[kV,simprocAttr,ab,hI,g1,h,hVI,g2,hve,h0,hl8,hl9,s1,dz]|refine aN ?_);refine eQ 30 _ [0,1,5,6,7,8] (by rfl) ?_;refine ulk ?_;(repeat first|simp only[kV,simprocAttr,ab,hI,g1,h,hVI,g2,hve,h0,hl8,hl9,s1,dz]|refine aN ?_);refine wq (cxw (B:=[173,3]) (c0)) (ulc ?_);(repeat first|simp only[kV,simprocAttr,ab,hI,g1,h]|refine aN ?_);refine wq (cxw (B:=[173,3]) (c1)) (ulc ?_);(repeat first|simp only[kV,simprocAttr,ab,nZ,tkE,dz,gL,fL,Bool.true_or,List.drop_zero,az,aA]|refine aN ?_);refine wq (cxw (B:=[173,3]) (c2)) (ulc ?_);(repeat first|with_reducible refine kp [0,1,5,6] ?_|simp only[kV,simprocAttr,ab]|refine aN ?_);exact⟨i+1,h,by rw[hgr];exact (Sub.toG [0,1,5,6] [30]),by omega⟩
  ·rw[if_neg h0,List.append_nil] at hst;have hgr:Mp.growL [] (Mp.derL v (l.take (i+1)))=Mp.growL [] (Mp.derL v (l.take i)):=by rw[hst]
   generalize Mp.growL [] (Mp.derL v (l.take i))=w at *;generalize zt l i=y at *;obtain⟨c,e⟩:=y;simp only at g1 hbx hwx hve hej g2 h0;generalize hee:e.getD v 0=m at *;have hVI:(v:Int)<(e.length:Int):=by omega
   (repeat first|with_reducible refine kp [0,1,5,6,12] ?_|simp only[kV,simprocAttr,ab,hI]|refine aN ?_);(try simp only[kV,simprocAttr,ab,hI,g1,h,hVI,g2,hve,h0]);refine ulk ?_;(repeat first|with_reducible refine kp [0,1,5,6,7,24] ?_|simp only[kV,simprocAttr,ab,hI,g1,h,hVI,g2,hve,h0]|refine aN ?_);refine ulk ?_;(repeat first|with_reducible refine kp [0,1,5,6] ?_|simp only[kV,simprocAttr,ab,h0]|refine aN ?_);exact⟨i+1,h,by rw[hgr];exact (Sub.toG [0,1,5,6] [30]),by omega⟩
 ·have hI:¬ (i:Int)<(l.length:Int):=by omega
  obtain rfl:i=l.length:=by omega
  rw[List.take_length];(repeat first|with_reducible refine kp [0,1,5,6,12] ?_|simp only[kV,simprocAttr,ab,hI]|refine aN ?_);refine ulk ?_;(repeat first|with_reducible refine kp [4,5] ?_|simp only[kV,simprocAttr,ab,ac,ah,ae,af,hI]|refine aN ?_)
end
end Go.Proofs.YtbnhgnhgbhjkcaaGreat.M
namespace Go.Proofs.YtbnhgnhgbhjkcaaGreat.Mp
set_option maxRecDepth 20000
set_option maxHeartbeats 4000000
theorem pP {e:Mo}:∀{l:TL},(∀y∈l,y.2≠e)→cf l e=0
 |[],_=>rfl
 |x::l,h=>by rw[cf_cons,if_neg (h x List.mem_cons_self),pP fun y hy=>h y (List.mem_cons_of_mem _ hy),Rat.add_zero]
theorem mn:∀{l:TL}{x:Rat×Mo},(l.Pairwise fun x y=>x.2≠y.2)→x∈l→cf l x.2=x.1
 |y::l,x,h,hx=>by
  obtain⟨h1,h2⟩:=List.pairwise_cons.1 h;rcases List.mem_cons.1 hx with rfl | hx
  ·rw[cf_cons,if_pos rfl,pP fun z hz e=>h1 z hz e.symm,Rat.add_zero]
  ·rw[cf_cons,if_neg (h1 x hx),mn h2 hx,Rat.zero_add]
theorem Can.ne {ord:Int}{l:TL} (h:Can ord l):l.Pairwise fun x y=>x.2≠y.2:=h.so.imp fun {x y} hxy e=>by rw[e,ahead_self] at hxy;cases hxy
theorem canon_sub {ord:Int}{n:Nat}{m:TL} (hd:Dst m) (hw:Wd n m):∀y∈canon ord m,y∈m:=fun y hy=>by
 obtain⟨x,hx,e⟩:=canon_mem hy;have h1:=mn (canon_can (ord:=ord) hw).ne hy;have h2:=mn hd.ne hx;rw[canon_cf,←e,h2] at h1
 rwa[show y=x from Prod.ext h1.symm e.symm]
end Go.Proofs.YtbnhgnhgbhjkcaaGreat.Mp
namespace Go.Proofs.YtbnhgnhgbhjkcaaGreat.M
open Go.RowKit
set_option maxRecDepth 20000
set_option maxHeartbeats 4000000
def wz (x:Zm):At:=(frText x.1.num x.1.den,x.2)
theorem pQ (m:Mp.TL){n p:Nat} (ord:Int) (ho:0≤ord) (hd:Mp.Dst m) (hw:Mp.Wd n m) (hn:n≤1000) (hl:m.length≤1000000) (he:∀x∈m,∀e∈x.2,-1000000000≤e∧e≤1000000000) (hb:∀x∈m,Bq p x.1) (hp:p≤2048000000000) :
  Con Tryz.prog AN 18 [MZ m,.int .i64 ord] (LTa 83 3 ((Mp.canon ord m).map wz)):=by
 have cs:=V1 m ord ho hd hw hn hl he;have hcl:=Mp.canon_len ord m;have hcw:=Mp.canon_wd (ord:=ord) hw;have hcb:∀x∈Mp.canon ord m,Bq p x.1:=fun x hx=>hb x (Mp.canon_sub hd hw x hx)
 generalize Mp.canon ord m=s at *;refine NY.conW (A:=[]) rfl (by simp) ?_;(repeat first|with_reducible refine kp [0,1] ?_|simp only[kV,simprocAttr,ab,ax]|refine aN ?_);refine wq (cxw (B:=[173,3]) (cs)) (ulc ?_);(repeat first|simp only[kV,simprocAttr,ab]|refine aN ?_);refine kp [0] ?_;(repeat first|simp only[kV,simprocAttr,ab]|refine aN ?_);refine kp [0,5] ?_;(repeat first|simp only[kV,simprocAttr,ab]|refine aN ?_);refine kp [0,5,6] ?_;(repeat first|simp only[kV,simprocAttr,ab]|refine aN ?_);refine aE (ι:=Nat) (fun i=>i≤s.length) (fun i=>⟨ai [(0,.p (MZ s)),(5,.slice 205 0 i),(6,.p (.int .i64 i))],
  aw [(205,⟨83,2,.row (((s.take i).map wz).map (atD 3)),false⟩)]⟩) (fun i=>s.length-i) 0 (Nat.zero_le _) (Sub.tr (Sub.nilG 5 205 83 2) (Sub.toG [0,5,6] [28,30])) ?_
 intro i hi;by_cases h:i<s.length
 ·have hI:(i:Int)<(s.length:Int):=by omega
  have g1:=gT h;have hbx:=hcb _ (dn h);have hwx:=hcw _ (dn h);have hst:=jG h;have hlen:(((s.take i).map wz).map (atD 3)).length=i:=by rw[List.length_map,List.length_map,List.length_take,Nat.min_eq_left hi]
  generalize zt s i=x at *;obtain⟨c,e⟩:=x;simp only at hbx hwx;have c1:=uG c p hbx hp;have f1:((s.take (i+1)).map wz).map (atD 3)=((s.take i).map wz).map (atD 3)++[.agg [.str (frText c.num c.den),.list 3 1 (e.map (D.int .i64))]]:=by rw[hst,List.map_append,List.map_append];rfl
  have hl8:e.length*8≤140737488355328:=by omega
  have hl9:e.length≤9223372036854775807:=by omega
  have hi8:i≤1000000:=by omega
  (repeat first|with_reducible refine kp [0,5,6,13] ?_|simp only[kV,simprocAttr,ab,hI]|refine aN ?_);(try simp only[kV,simprocAttr,ab,hI,g1,h]);refine ulk ?_;(repeat first|with_reducible refine kp [0,5,6] ?_|simp only[kV,simprocAttr,ab,hI,g1,h]|refine aN ?_);refine wq (cxw (B:=[173,3]) (c1)) (ulc ?_);(repeat first|with_reducible refine kp [0,5,6] ?_|simp only[kV,simprocAttr,ab,hI,g1,h,hl8,hl9,nE,fL,Bool.true_or,List.drop_zero,hlen]|refine aN ?_);exact⟨i+1,h,by rw[f1];exact (Sub.toG [0,5,6] [28,30]),by omega⟩
 ·have hI:¬ (i:Int)<(s.length:Int):=by omega
  obtain rfl:i=s.length:=by omega
  rw[List.take_length];(repeat first|with_reducible refine kp [0,5,6,13] ?_|simp only[kV,simprocAttr,ab,hI]|refine aN ?_);refine ulk ?_;(repeat first|with_reducible refine kp [4,5] ?_|simp only[kV,simprocAttr,ab,ac,ah,ae,af,hI]|refine aN ?_);simp only[Bool.or_true,if_true];rw[List.take_of_length_le (by simp)]
end Go.Proofs.YtbnhgnhgbhjkcaaGreat.M
