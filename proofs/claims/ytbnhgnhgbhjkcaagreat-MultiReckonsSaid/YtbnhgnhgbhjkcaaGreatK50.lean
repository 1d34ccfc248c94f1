/- Lemmas. -/
import Derived.Test.YtbnhgnhgbhjkcaaGreatK49
import Derived.Test.YtbnhgnhgbhjkcaaGreatK6
import Derived.Test.YtbnhgnhgbhjkcaaGreatK47
import Derived.Test.YtbnhgnhgbhjkcaaGreatK48
import Derived.Test.YtbnhgnhgbhjkcaaGreatK25
set_option linter.defProp false
set_option linter.unusedSectionVars false
set_option linter.unusedSimpArgs false
set_option linter.unusedVariables false
namespace Go.Proofs.YtbnhgnhgbhjkcaaGreat.M
open Go.RowKit
set_option maxRecDepth 20000
set_option maxHeartbeats 4000000
theorem Sub.rowP {OT:List TypeId} (t i T sz n:Nat) (l:List D){R:List (Nat×AV)}{M:List (Nat×AObj)} (ht:ai R t = .slice i 0 n) (hm:au M i=some ⟨T,sz,.row l,false⟩) (hn:n=l.length) (hi:i≠aK:=by decide) :
  Sub OT ⟨ai R,au M⟩ ⟨ai (eD t (.p (.list T sz l)) R),au (dw i ⟨T,sz,.row l,true⟩ M)⟩:=by
 have h1:Sub OT ⟨ai R,au M⟩ ⟨ai R,au (dw i ⟨T,sz,.row l,true⟩ M)⟩:=by
  rw[←gM];exact Sub.freeze (ob:=⟨T,sz,.row l,false⟩) hi hm
 refine h1.tr (Sub.revG t (.list T sz l) ?_);rw[ht];subst hn;have e:au (dw i ⟨T,sz,.row l,true⟩ M) i=some ⟨T,sz,.row l,true⟩:=by rw[←gM,aA]
 simp[AV.toD,e]
def Bst (ord:Int) (q:Mp.TL) (i k:Nat):Prop:=k<i∧i≤q.length∧∀j,j<i→j≠k→Mp.ahead ord (zt q k).2 (zt q j).2=true
theorem Bst.step {ord:Int}{n:Nat}{q:Mp.TL} (hd:Mp.Dst q) (hw:Mp.Wd n q){i k:Nat} (h:Bst ord q i k) (hi:i<q.length):Bst ord q (i+1) (if Mp.ahead ord (zt q i).2 (zt q k).2=true then i else k):=by
 obtain⟨h1,h2,h3⟩:=h;by_cases c:Mp.ahead ord (zt q i).2 (zt q k).2=true
 ·rw[if_pos c];refine⟨by omega,by omega,fun j hj hne => ?_⟩;by_cases hjk:j=k
  ·rw[hjk];exact c
  ·exact Mp.ahead_trans c (h3 j (by omega) hjk)
 ·rw[if_neg c];refine⟨by omega,by omega,fun j hj hne => ?_⟩;by_cases hji:j=i
  ·subst hji;cases hb:Mp.ahead ord (zt q k).2 (zt q j).2 with
   |true=>rfl
   |false =>
    have e:=Mp.ahead_tot (ord:=ord) (by rw[hw _ (dg (i:=k) (by omega)),hw _ (dg hi)]) hb (Bool.eq_false_iff.2 c);have hne2:=List.pairwise_iff_getElem.1 hd.ne k j (by omega) hi h1;rw[fy (by omega),fy hi] at e;exact absurd e hne2
  ·exact h3 j (by omega) hne
theorem Bst.pick {ord:Int}{n:Nat}{q:Mp.TL} (hd:Mp.Dst q) (hw:Mp.Wd n q){k:Nat} (h:Bst ord q q.length k):Mp.canon ord q=zt q k::Mp.canon ord (q.take k++q.drop (k+1)):=by
 obtain⟨h1,h2,h3⟩:=h;refine Mp.canon_pick hw hd (by rw[List.getElem?_eq_getElem h1,fy h1]) fun j y hne hj => ?_
 obtain⟨hjl,rfl⟩:=List.getElem?_eq_some_iff.1 hj;have:=h3 j hjl hne
 rwa[fy hjl] at this
theorem Ya {n:Nat}{q:Mp.TL} (h:Mp.Wd n q) (k:Nat):Mp.Wd n (q.take k++q.drop (k+1)):=fun x hx=>by
 rcases List.mem_append.1 hx with hx | hx
 ·exact h x (List.mem_of_mem_take hx)
 ·exact h x (List.mem_of_mem_drop hx)
theorem Yb {q:Mp.TL}{k:Nat}{x:Zm} (hx:x∈q.take k++q.drop (k+1)):x∈q:=by
 rcases List.mem_append.1 hx with hx | hx
 ·exact List.mem_of_mem_take hx
 ·exact List.mem_of_mem_drop hx
theorem qX {l:List Int} (h:∀e∈l,-1000000000≤e∧e≤1000000000) (k:Nat):-1000000000≤l.getD k 0∧l.getD k 0≤1000000000:=by
 by_cases hk:k<l.length
 ·have:l.getD k 0=l[k]:=by simp[hk]
  rw[this];exact h _ (List.getElem_mem hk)
 ·have:l.getD k 0=0:=by simp[List.getElem?_eq_none (Nat.le_of_not_lt hk)]
  rw[this];omega
theorem qY (t:Zm):(tZ t).cells.all D.one=true:=rfl
theorem Yc (m:Mp.TL){n:Nat} (ord:Int) (ho:0≤ord) (hd:Mp.Dst m) (hw:Mp.Wd n m) (hn:n≤1000) (hl:m.length≤1000000) (he:∀x∈m,∀e∈x.2,-1000000000≤e∧e≤1000000000) :
  Con Tryz.prog AN 54 [MZ m,.int .i64 ord] (MZ (Mp.canon ord m)):=by
 refine Pl.con rfl (by simp) ?_;(repeat first|simp only[kV,simprocAttr,ae,ax,hl,List.length_map]|refine aN ?_);refine kp [0,1] ?_;(repeat first|simp only[kV,simprocAttr,ae,ax,hl,List.length_map]|refine aN ?_);refine kp [1,5] ?_;(repeat first|simp only[kV,simprocAttr,ae,ax,hl,List.length_map]|refine aN ?_);refine kp [1,5,6] ?_;(repeat first|simp only[kV,simprocAttr,ae,ax,hl,List.length_map]|refine aN ?_);refine aG (ι:=Mp.TL×Mp.TL) (fun s=>Mp.Dst s.1∧Mp.Wd n s.1∧(∀x∈s.1,x∈m)∧s.2++Mp.canon ord s.1=Mp.canon ord m∧s.1.length+s.2.length=m.length) (fun s=>⟨ai [(1,.p (.int .i64 ord)),(5,.p (MZ s.1)),(6,.slice 206 0 s.2.length)],au [(206,⟨TZ,5,.row (s.2.map tZ),false⟩)]⟩) (fun s=>s.1.length) (m,[]) ⟨hd,hw,fun x hx=>hx,rfl,rfl⟩ ((Sub.rowP 5 10 TZ 5 _ (m.map tZ) (by rfl) (by rfl) (by simp)).tr (Sub.tr (Sub.nilG 6 206 TZ 5) (Sub.toG [1,5,6] [10,38,43]))) ?_;rintro⟨q,out⟩ ⟨hdq,hwq,hsub,hcan,hlen⟩;simp only at hdq hwq hsub hcan hlen;by_cases h:0<q.length
 ·have hI:(0:Int)<(q.length:Int):=by omega
  (repeat first|with_reducible refine kp [1,5,6,13] ?_|simp only[kV,simprocAttr,ae,hI,List.length_map]|refine aN ?_);refine ulk ?_;(repeat first|simp only[kV,simprocAttr,ae,hI]|refine aN ?_);refine kp [1,5,6] ?_;(repeat first|simp only[kV,simprocAttr,ae,hI]|refine aN ?_);refine kp [1,5,6,7] ?_;(repeat first|simp only[kV,simprocAttr,ae,hI]|refine aN ?_);refine kp [1,5,6,7,8] ?_;(repeat first|simp only[kV,simprocAttr,ae,hI]|refine aN ?_);refine aG (ι:=Nat×Nat) (fun s=>Bst ord q s.1 s.2) (fun s=>⟨ai [(1,.p (.int .i64 ord)),(5,.p (MZ q)),(6,.slice 206 0 out.length),(7,.p (.int .i64 s.2)),(8,.p (.int .i64 s.1))],au [(206,⟨TZ,5,.row (out.map tZ),false⟩)]⟩) (fun s=>q.length-s.1) (1,0) ⟨by simp only;omega,by simp only;omega,fun j hj hne=>absurd (show j=0 by simp only at hj;omega) hne⟩ (Sub.toG [1,5,6,7,8] [10,38,43]) ?_;rintro⟨i,k⟩ hB;simp only at hB;have hki:=hB.1;have hkl:k<q.length:=by have:=hB.2.1;omega
  have hK:(k:Int)<(q.length:Int):=by omega
  have g2:=gJ hkl;by_cases h':i<q.length
  ·have hJ:(i:Int)<(q.length:Int):=by omega
   have g1:=gJ h';have hst:=hB.step hdq hwq h';have mi:=hsub _ (dg h');have mk:=hsub _ (dg hkl);have c1:=zeG 3 3 ord (zt q i).2 (zt q k).2 (by rw[hw _ mi,hw _ mk]) (by rw[hw _ mi];exact hn) AN ho (qX (he _ mi)) (qX (he _ mk));by_cases hc:Mp.ahead ord (zt q i).2 (zt q k).2=true
   ·rw[if_pos hc] at hst;rw[hc] at c1;(repeat first|with_reducible refine kp [1,5,6,7,8,17] ?_|simp only[kV,simprocAttr,ae,hJ,List.length_map]|refine aN ?_);(try simp only[kV,simprocAttr,ae,hJ,hK,g1,g2,h',hkl,List.length_map]);refine ulk ?_;(repeat first|with_reducible refine kp [1,5,6,7,8] ?_|simp only[kV,simprocAttr,ae,hJ,hK,g1,g2,h',hkl,List.length_map]|refine aN ?_);refine⟨_,cx (c1),?_⟩;(repeat first|with_reducible refine kp [1,5,6,7,8,31] ?_|simp only[kV,simprocAttr,ae]|refine aN ?_);refine ulk ?_;(repeat first|with_reducible refine kp [1,5,6,7,8] ?_|simp only[kV,simprocAttr,ae]|refine aN ?_);exact⟨(i+1,i),hst,(Sub.toG [1,5,6,7,8] [10,38,43]),by simp only;omega⟩
   ·rw[if_neg hc] at hst;rw[Bool.eq_false_iff.2 hc] at c1;(repeat first|with_reducible refine kp [1,5,6,7,8,17] ?_|simp only[kV,simprocAttr,ae,hJ,List.length_map]|refine aN ?_);(try simp only[kV,simprocAttr,ae,hJ,hK,g1,g2,h',hkl,List.length_map]);refine ulk ?_;(repeat first|with_reducible refine kp [1,5,6,7,8] ?_|simp only[kV,simprocAttr,ae,hJ,hK,g1,g2,h',hkl,List.length_map]|refine aN ?_);refine⟨_,cx (c1),?_⟩;(repeat first|with_reducible refine kp [1,5,6,7,8,31] ?_|simp only[kV,simprocAttr,ae]|refine aN ?_);refine ulk ?_;(repeat first|with_reducible refine kp [1,5,6,7,8] ?_|simp only[kV,simprocAttr,ae]|refine aN ?_);exact⟨(i+1,k),hst,(Sub.toG [1,5,6,7,8] [10,38,43]),by simp only;omega⟩
  ·have hJ:¬ (i:Int)<(q.length:Int):=by omega
   obtain rfl:i=q.length:=by have:=hB.2.1;omega
   have hp:=hB.pick hdq hwq;have hle:(k:Int)≤(q.length:Int):=by omega
   have hle1:(k:Int)+1≤(q.length:Int):=by omega
   have e1:List.take k (q.map tZ)=(q.take k).map tZ:=List.map_take.symm;have e2:List.take (q.length-(k+1)) (List.drop (k+1) (q.map tZ))=(q.drop (k+1)).map tZ:=by rw[←List.map_drop,List.take_of_length_le (by simp)]
   have l1:(q.take k).length=k:=by rw[List.length_take,Nat.min_eq_left (by omega)]
   have l2:(q.drop (k+1)).length=q.length-(k+1):=List.length_drop;have hd2:=hdq.less k;have hw2:=Ya hwq k;have hm2:∀x∈q.take k++q.drop (k+1),x∈m:=fun x hx=>hsub x (Yb hx)
   have hll:(q.take k++q.drop (k+1)).length+1=q.length:=by rw[List.length_append,l1,l2];omega
   have ft:=kK (zt q k).1 (zt q k).2;(repeat first|with_reducible refine kp [1,5,6,7,8,17] ?_|simp only[kV,simprocAttr,ae,hJ,List.length_map]|refine aN ?_);(try simp only[kV,simprocAttr,ae,hJ,hK,hle,hle1,g2,hkl,List.length_map,e1,e2,l1,l2,List.length_append,List.length_cons,List.length_nil,ft,qY]);refine ulk ?_;(repeat first|with_reducible refine kp [1,5,6,7] ?_|simp only[kV,simprocAttr,ae,hJ,hK,hle,hle1,g2,hkl,List.length_map,e1,e2,l1,l2,List.length_append,List.length_cons,List.length_nil,ft,qY]|refine aN ?_);have f1:(out++[zt q k]).map tZ=out.map tZ++[tZ ((zt q k).1,(zt q k).2)]:=by rw[List.map_append];rfl
   have f2:(out++[zt q k]).length=out.length+1:=by rw[List.length_append];rfl
   have f3:=lk (q.take k) (q.drop (k+1));refine⟨(q.take k++q.drop (k+1),out++[zt q k]),⟨hd2,hw2,hm2,?_,?_⟩,?_,?_⟩
   ·simp only;rw[List.append_assoc,List.singleton_append,←hp,hcan]
   ·simp only;rw[f2];omega
   ·simp only;rw[f1,f2,f3];exact (Sub.rowP 5 43 TZ 5 _ (List.map tZ (q.take k)++List.map tZ (q.drop (k+1))) (by rfl) (by rfl) (by rw[List.length_append,List.length_map,List.length_map,l1,l2])).tr (Sub.toG [1,5,6] [10,38,43])
   ·simp only;omega
 ·have hI:¬ (0:Int)<(q.length:Int):=by omega
  have hq:q=[]:=List.eq_nil_of_length_eq_zero (by omega);have hout:out=Mp.canon ord m:=by rw[←hcan,hq,show Mp.canon ord []=[] from rfl,List.append_nil]
  (repeat first|with_reducible refine kp [1,5,6,13] ?_|simp only[kV,simprocAttr,ae,hI,List.length_map,List.length_nil]|refine aN ?_);refine ulk ?_;(repeat first|with_reducible refine kp [4,6] ?_|simp only[kV,simprocAttr,ae,ab,ah,af,ac,hI]|refine aN ?_);rw[←hout];simp only[Bool.or_true,if_true,List.length_map,Nat.le_refl];rw[List.take_of_length_le (by simp)]
end Go.Proofs.YtbnhgnhgbhjkcaaGreat.M
namespace Go.Proofs.YtbnhgnhgbhjkcaaGreat.Mp
set_option maxRecDepth 20000
set_option maxHeartbeats 4000000
theorem pk {e:Mo}:∀{l:TL},(∀y∈l,y.2≠e)→cf l e=0
 |[],_=>rfl
 |x::l,h=>by rw[cf_cons,if_neg (h x List.mem_cons_self),pk fun y hy=>h y (List.mem_cons_of_mem _ hy),Rat.add_zero]
theorem lU:∀{l:TL}{x:Rat×Mo},(l.Pairwise fun x y=>x.2≠y.2)→x∈l→cf l x.2=x.1
 |y::l,x,h,hx=>by
  obtain⟨h1,h2⟩:=List.pairwise_cons.1 h;rcases List.mem_cons.1 hx with rfl | hx
  ·rw[cf_cons,if_pos rfl,pk fun z hz e=>h1 z hz e.symm,Rat.add_zero]
  ·rw[cf_cons,if_neg (h1 x hx),lU h2 hx,Rat.zero_add]
theorem Can.ne {ord:Int}{l:TL} (h:Can ord l):l.Pairwise fun x y=>x.2≠y.2:=h.so.imp fun {x y} hxy e=>by rw[e,sK] at hxy;cases hxy
theorem canon_sub {ord:Int}{n:Nat}{m:TL} (hd:Dst m) (hw:Wd n m):∀y∈canon ord m,y∈m:=fun y hy=>by
 obtain⟨x,hx,e⟩:=canon_mem hy;have h1:=lU (iO (ord:=ord) hw).ne hy;have h2:=lU hd.ne hx;rw[canon_cf,←e,h2] at h1
 rwa[show y=x from Prod.ext h1.symm e.symm]
end Go.Proofs.YtbnhgnhgbhjkcaaGreat.Mp
namespace Go.Proofs.YtbnhgnhgbhjkcaaGreat.M
open Go.RowKit
set_option maxRecDepth 20000
set_option maxHeartbeats 4000000
def wz (x:Zm):At:=(frText x.1.num x.1.den,x.2)
theorem lV (m:Mp.TL){n p:Nat} (ord:Int) (ho:0≤ord) (hd:Mp.Dst m) (hw:Mp.Wd n m) (hn:n≤1000) (hl:m.length≤1000000) (he:∀x∈m,∀e∈x.2,-1000000000≤e∧e≤1000000000) (hb:∀x∈m,Bq p x.1) (hp:p≤2048000000000) :
  Con Tryz.prog AN 18 [MZ m,.int .i64 ord] (LTa 83 3 ((Mp.canon ord m).map wz)):=by
 have cs:=Yc m ord ho hd hw hn hl he;have hcl:=Mp.canon_len ord m;have hcw:=Mp.canon_wd (ord:=ord) hw;have hcb:∀x∈Mp.canon ord m,Bq p x.1:=fun x hx=>hb x (Mp.canon_sub hd hw x hx)
 generalize Mp.canon ord m=s at *;refine PB.conW (A:=[]) rfl (by simp) ?_;(repeat first|with_reducible refine kp [0,1] ?_|simp only[kV,simprocAttr,ae,ax]|refine aN ?_);refine wq (cxw (B:=[173,3]) (cs)) (ulc ?_);(repeat first|simp only[kV,simprocAttr,ae]|refine aN ?_);refine kp [0] ?_;(repeat first|simp only[kV,simprocAttr,ae]|refine aN ?_);refine kp [0,5] ?_;(repeat first|simp only[kV,simprocAttr,ae]|refine aN ?_);refine kp [0,5,6] ?_;(repeat first|simp only[kV,simprocAttr,ae]|refine aN ?_);refine aG (ι:=Nat) (fun i=>i≤s.length) (fun i=>⟨ai [(0,.p (MZ s)),(5,.slice 205 0 i),(6,.p (.int .i64 i))],
  au [(205,⟨83,2,.row (((s.take i).map wz).map (atD 3)),false⟩)]⟩) (fun i=>s.length-i) 0 (Nat.zero_le _) (Sub.tr (Sub.nilG 5 205 83 2) (Sub.toG [0,5,6] [28,30])) ?_
 intro i hi;by_cases h:i<s.length
 ·have hI:(i:Int)<(s.length:Int):=by omega
  have g1:=gJ h;have hbx:=hcb _ (dg h);have hwx:=hcw _ (dg h);have hst:=ln h;have hlen:(((s.take i).map wz).map (atD 3)).length=i:=by rw[List.length_map,List.length_map,List.length_take,Nat.min_eq_left hi]
  generalize zt s i=x at *;obtain⟨c,e⟩:=x;simp only at hbx hwx;have c1:=zet c p hbx hp;have f1:((s.take (i+1)).map wz).map (atD 3)=((s.take i).map wz).map (atD 3)++[.agg [.str (frText c.num c.den),.list 3 1 (e.map (D.int .i64))]]:=by rw[hst,List.map_append,List.map_append];rfl
  have hl8:e.length*8≤140737488355328:=by omega
  have hl9:e.length≤9223372036854775807:=by omega
  have hi8:i≤1000000:=by omega
  (repeat first|with_reducible refine kp [0,5,6,13] ?_|simp only[kV,simprocAttr,ae,hI]|refine aN ?_);(try simp only[kV,simprocAttr,ae,hI,g1,h]);refine ulk ?_;(repeat first|with_reducible refine kp [0,5,6] ?_|simp only[kV,simprocAttr,ae,hI,g1,h]|refine aN ?_);refine wq (cxw (B:=[173,3]) (c1)) (ulc ?_);(repeat first|with_reducible refine kp [0,5,6] ?_|simp only[kV,simprocAttr,ae,hI,g1,h,hl8,hl9,i7,i9,Bool.true_or,List.drop_zero,hlen]|refine aN ?_);exact⟨i+1,h,by rw[f1];exact (Sub.toG [0,5,6] [28,30]),by omega⟩
 ·have hI:¬ (i:Int)<(s.length:Int):=by omega
  obtain rfl:i=s.length:=by omega
  rw[List.take_length];(repeat first|with_reducible refine kp [0,5,6,13] ?_|simp only[kV,simprocAttr,ae,hI]|refine aN ?_);refine ulk ?_;(repeat first|with_reducible refine kp [4,5] ?_|simp only[kV,simprocAttr,ae,ab,ah,af,ac,hI]|refine aN ?_);simp only[Bool.or_true,if_true];rw[List.take_of_length_le (by simp)]
theorem pg (A:List TypeId) (T U:Nat) (a b:List Int) (hla:a.length≤9223372036854775807) (hlb:b.length≤9223372036854775807):Con Tryz.prog A 52 [.list T 1 (a.map (D.int .i64)),.list U 1 (b.map (D.int .i64))] (.bool (decide (a=b))):=by
 refine Con.mono (A:=[]) ?_ (by simp);by_cases hl:a.length=b.length
 ·have hlI:(a.length:Int)=(b.length:Int):=by omega
  refine qs.con rfl (by simp) ?_;(repeat first|with_reducible refine kp [0,1,10] ?_|simp only[kV,simprocAttr,ae,ax,hlI,List.length_map]|refine aN ?_);refine ulk ?_;(repeat first|simp only[kV,simprocAttr,ae]|refine aN ?_);refine kp [0,1] ?_;(repeat first|simp only[kV,simprocAttr,ae]|refine aN ?_);refine kp [0,1,5] ?_;(repeat first|simp only[kV,simprocAttr,ae]|refine aN ?_);refine aG (ι:=Nat) (fun i=>i≤a.length∧∀k,k<i→a.getD k 0=b.getD k 0) (fun i=>⟨ai [(0,.p (.list T 1 (a.map (D.int .i64)))),(1,.p (.list U 1 (b.map (D.int .i64)))),(5,.p (.int .i64 i))],au []⟩) (fun i=>a.length-i) 0 ⟨Nat.zero_le _,fun k hk=>by omega⟩ (Sub.toG [0,1,5] []) ?_;rintro i ⟨hi,he⟩;by_cases h:i<a.length
  ·have hI:(i:Int)<(a.length:Int):=by omega
   have hI2:(i:Int)<(b.length:Int):=by omega
   have hb:i<b.length:=by omega
   have g1:=dO h;have g2:=dO hb;(repeat first|with_reducible refine kp [0,1,5,14] ?_|simp only[kV,simprocAttr,ae,hI]|refine aN ?_);(try simp only[kV,simprocAttr,ae,hI,hI2,g1,g2,h,hb]);refine ulk ?_;(repeat first|with_reducible refine kp [0,1,5,25] ?_|simp only[kV,simprocAttr,ae,hI,hI2,g1,g2,h,hb]|refine aN ?_);by_cases hc:a.getD i 0=b.getD i 0
   ·refine⟨fun h1=>absurd h1 (by rw[hc];simp),fun _ => ?_⟩;(try simp only[kV,simprocAttr,ae]);refine ulk ?_;(repeat first|with_reducible refine kp [0,1,5] ?_|simp only[kV,simprocAttr,ae]|refine aN ?_);exact⟨i+1,⟨h,fun k hk=>by
     by_cases hki:k<i
     ·exact he k hki
     ·obtain rfl:k=i:=by omega
      exact hc⟩,(Sub.toG [0,1,5] []),by omega⟩
   ·refine⟨fun _ => ?_,fun h1=>absurd h1 (by rw[decide_eq_false hc];simp)⟩;have hne:a≠b:=fun e=>hc (by rw[e])
    rw[decide_eq_false hne];(try simp only[kV,simprocAttr,ae]);refine ulk ?_;(repeat first|with_reducible refine kp [4] ?_|simp only[kV,simprocAttr,ae,ab,ah,af,ac]|refine aN ?_)
  ·have hI:¬ (i:Int)<(a.length:Int):=by omega
   have heq:a=b:=ol hl fun k hk=>he k (by omega)
   rw[decide_eq_true heq];(repeat first|with_reducible refine kp [0,1,5,14] ?_|simp only[kV,simprocAttr,ae,hI]|refine aN ?_);refine ulk ?_;(repeat first|with_reducible refine kp [4] ?_|simp only[kV,simprocAttr,ae,ab,ah,af,ac,hI]|refine aN ?_)
 ·have hlI:¬ (a.length:Int)=(b.length:Int):=by omega
  have hne:a≠b:=fun e=>hl (by rw[e])
  rw[decide_eq_false hne];refine qs.con rfl (by simp) ?_;(repeat first|with_reducible refine kp [0,1,10] ?_|simp only[kV,simprocAttr,ae,ax,hlI,List.length_map]|refine aN ?_);refine ulk ?_;(repeat first|with_reducible refine kp [4] ?_|simp only[kV,simprocAttr,ae,ab,ah,af,ac]|refine aN ?_)
theorem vw {a b:List At} (hl:a.length=b.length) (h:∀k,k<a.length→at0 a k=at0 b k):a=b:=List.ext_getElem hl fun k h1 h2=>by
 have:=h k h1;unfold at0 at this
 rwa[List.getD_eq_getElem?_getD,List.getD_eq_getElem?_getD,List.getElem?_eq_getElem h1,List.getElem?_eq_getElem h2] at this
theorem eG (A:List TypeId) (T U T' U':Nat) (a b:List At) (hla:a.length≤9223372036854775807) (hlb:b.length≤9223372036854775807) (ea:∀t∈a,t.2.length≤9223372036854775807) (eb:∀t∈b,t.2.length≤9223372036854775807):Con Tryz.prog A 15 [LTa T U a,LTa T' U' b] (.bool (decide (a=b))):=by
 refine Con.mono (A:=[]) ?_ (by simp);by_cases hl:a.length=b.length
 ·have hlI:(a.length:Int)=(b.length:Int):=by omega
  refine qt.con rfl (by simp) ?_;(repeat first|with_reducible refine kp [0,1,10] ?_|simp only[kV,simprocAttr,ae,ax,hlI,List.length_map]|refine aN ?_);refine ulk ?_;(repeat first|simp only[kV,simprocAttr,ae]|refine aN ?_);refine kp [0,1] ?_;(repeat first|simp only[kV,simprocAttr,ae]|refine aN ?_);refine kp [0,1,5] ?_;(repeat first|simp only[kV,simprocAttr,ae]|refine aN ?_);refine aG (ι:=Nat) (fun i=>i≤a.length∧∀k,k<i→at0 a k=at0 b k) (fun i=>⟨ai [(0,.p (LTa T U a)),(1,.p (LTa T' U' b)),(5,.p (.int .i64 i))],au []⟩) (fun i=>a.length-i) 0 ⟨Nat.zero_le _,fun k hk=>by omega⟩ (Sub.toG [0,1,5] []) ?_;rintro i ⟨hi,he⟩;by_cases h:i<a.length
  ·have hI:(i:Int)<(a.length:Int):=by omega
   have hI2:(i:Int)<(b.length:Int):=by omega
   have hb:i<b.length:=by omega
   have g1:=fU (U:=U) h;have g2:=fU (U:=U') hb;have l1:=ea _ (fq h);have l2:=eb _ (fq hb);have hnx:at0 a i=at0 b i→∀k,k<i+1→at0 a k=at0 b k:=fun e k hk=>by
    by_cases hki:k<i
    ·exact he k hki
    ·obtain rfl:k=i:=by omega
     exact e
   have hne:at0 a i≠at0 b i→a≠b:=fun e e2=>e (by rw[e2])
   generalize at0 a i=x at *;generalize at0 b i=y at *;obtain⟨c,e⟩:=x;obtain⟨d,f⟩:=y;simp only at g1 g2 l1 l2;by_cases hc:c=d
   ·have cs:=pg [] U U' e f l1 l2;by_cases hf:e=f
    ·rw[decide_eq_true hf] at cs;(repeat first|with_reducible refine kp [0,1,5,14] ?_|simp only[kV,simprocAttr,ae,hI]|refine aN ?_);(try simp only[kV,simprocAttr,ae,hI,hI2,g1,g2,h,hb,hc]);refine ulk ?_;(repeat first|with_reducible refine kp [0,1,5] ?_|simp only[kV,simprocAttr,ae,hI,hI2,g1,g2,h,hb,hc]|refine aN ?_);refine⟨_,cx (cs),ulc ?_⟩;(repeat first|with_reducible refine kp [0,1,5,41] ?_|simp only[kV,simprocAttr,ae,hc]|refine aN ?_);refine ulk ?_;(repeat first|with_reducible refine kp [0,1,5] ?_|simp only[kV,simprocAttr,ae]|refine aN ?_);exact⟨i+1,⟨h,hnx (by rw[hc,hf])⟩,(Sub.toG [0,1,5] []),by omega⟩
    ·rw[decide_eq_false hf] at cs;rw[decide_eq_false (hne fun e=>hf (congrArg Prod.snd e))];(repeat first|with_reducible refine kp [0,1,5,14] ?_|simp only[kV,simprocAttr,ae,hI]|refine aN ?_);(try simp only[kV,simprocAttr,ae,hI,hI2,g1,g2,h,hb,hc]);refine ulk ?_;(repeat first|with_reducible refine kp [0,1,5] ?_|simp only[kV,simprocAttr,ae,hI,hI2,g1,g2,h,hb,hc]|refine aN ?_);refine⟨_,cx (cs),ulc ?_⟩;(repeat first|with_reducible refine kp [0,1,5,41] ?_|simp only[kV,simprocAttr,ae,hc]|refine aN ?_);refine ulk ?_;(repeat first|with_reducible refine kp [4] ?_|simp only[kV,simprocAttr,ae,ab,ah,af,ac]|refine aN ?_)
   ·rw[decide_eq_false (hne fun e=>hc (congrArg Prod.fst e))];(repeat first|with_reducible refine kp [0,1,5,14] ?_|simp only[kV,simprocAttr,ae,hI]|refine aN ?_);(try simp only[kV,simprocAttr,ae,hI,hI2,g1,g2,h,hb,hc]);refine ulk ?_;(repeat first|with_reducible refine kp [0,1,5] ?_|simp only[kV,simprocAttr,ae,hI,hI2,g1,g2,h,hb,hc]|refine aN ?_);refine ulc ?_;(repeat first|with_reducible refine kp [0,1,5,41] ?_|simp only[kV,simprocAttr,ae,hc]|refine aN ?_);refine ulk ?_;(repeat first|with_reducible refine kp [4] ?_|simp only[kV,simprocAttr,ae,ab,ah,af,ac]|refine aN ?_)
  ·have hI:¬ (i:Int)<(a.length:Int):=by omega
   have heq:a=b:=vw hl fun k hk=>he k (by omega)
   rw[decide_eq_true heq];(repeat first|with_reducible refine kp [0,1,5,14] ?_|simp only[kV,simprocAttr,ae,hI]|refine aN ?_);refine ulk ?_;(repeat first|with_reducible refine kp [4] ?_|simp only[kV,simprocAttr,ae,ab,ah,af,ac,hI]|refine aN ?_)
 ·have hlI:¬ (a.length:Int)=(b.length:Int):=by omega
  have hne:a≠b:=fun e=>hl (by rw[e])
  rw[decide_eq_false hne];refine qt.con rfl (by simp) ?_;(repeat first|with_reducible refine kp [0,1,10] ?_|simp only[kV,simprocAttr,ae,ax,hlI,List.length_map]|refine aN ?_);refine ulk ?_;(repeat first|with_reducible refine kp [4] ?_|simp only[kV,simprocAttr,ae,ab,ah,af,ac]|refine aN ?_)
theorem gR (T U:Nat) (l:List At) (hl:l.length*40≤140737488355328) (hs:∀t∈l,t.2.length≤17592186044416):Con Tryz.prog [] 8 [LTa T U l] (LTa 83 3 l):=by
 refine fn8.con rfl (by simp) ?_;(repeat first|simp only[kV,simprocAttr,ae,aZ]|refine aN ?_);refine kp [0] ?_;(repeat first|simp only[kV,simprocAttr,ae,aZ]|refine aN ?_);refine kp [0,3] ?_;(repeat first|simp only[kV,simprocAttr,ae,aZ]|refine aN ?_);refine kp [0,3,4] ?_;(repeat first|simp only[kV,simprocAttr,ae,aZ]|refine aN ?_);refine aG (ι:=Nat) (fun i=>i≤l.length) (fun i=>⟨ai [(0,.p (LTa T U l)),(3,.slice 205 0 i),(4,.p (.int .i64 i))],au [(205,⟨83,2,.row ((l.take i).map (atD 3)),false⟩)]⟩) (fun i=>l.length-i) 0 (Nat.zero_le _) (Sub.nilG 3 205 83 2) ?_;intro i hi;by_cases h:i<l.length
 ·have hI:(i:Int)<(l.length:Int):=by omega
  have g1:=fU (U:=U) h;have hst:=oD h;have hs8:=hs _ (fq h);have hlen:((l.take i).map (atD 3)).length=i:=by rw[List.length_map,List.length_take,Nat.min_eq_left hi]
  generalize at0 l i=t at *;obtain⟨c,e⟩:=t;simp only at g1 hs8;have f1:(l.take (i+1)).map (atD 3)=(l.take i).map (atD 3)++[.agg [.str c,.list 3 1 (e.map (D.int .i64))]]:=by rw[hst,List.map_append];rfl
  have hl8:e.length*8≤140737488355328:=by omega
  have hl9:e.length≤9223372036854775807:=by omega
  have hi9:(i+1)*40≤140737488355328:=by omega
  (repeat first|with_reducible refine kp [0,3,4,8] ?_|simp only[kV,simprocAttr,ae,hI]|refine aN ?_);(try simp only[kV,simprocAttr,ae,hI,g1,h,hl8,hl9,i7,i9,Bool.true_or,List.drop_zero,hlen,hi9]);refine ulk ?_;(repeat first|with_reducible refine kp [0,3,4] ?_|simp only[kV,simprocAttr,ae,hI,g1,h,hl8,hl9,i7,i9,Bool.true_or,List.drop_zero,hlen,hi9]|refine aN ?_);exact⟨i+1,h,by rw[f1];exact (Sub.toG [0,3,4] [22,24]),by omega⟩
 ·have hI:¬ (i:Int)<(l.length:Int):=by omega
  obtain rfl:i=l.length:=by omega
  rw[List.take_length];(repeat first|with_reducible refine kp [0,3,4,8] ?_|simp only[kV,simprocAttr,ae,hI]|refine aN ?_);refine ulk ?_;(repeat first|with_reducible refine kp [2,3] ?_|simp only[kV,simprocAttr,ae,ab,ah,af,ac,hI]|refine aN ?_);simp only[Bool.or_true,if_true];rw[List.take_of_length_le (by simp)]
def lenC (l:List At):Nat:=(l.map fun t=>t.1.length).sum
theorem ph {l:List At}{i:Nat} (h:i<l.length):lenC (l.take (i+1))=lenC (l.take i)+(at0 l i).1.length:=by
 unfold lenC;rw[oD h,List.map_append,List.sum_append];simp
theorem pi {l:List At}{k:Nat} (h:∀t∈l,t.1.length≤k):∀i,i≤l.length→lenC (l.take i)≤i*k
 |0,_=>by simp[lenC]
 |i+1,hi=>by
  have:=pi h i (by omega);have h2:=h _ (fq (i:=i) (by omega));rw[ph (by omega),Nat.succ_mul];omega
def gS (l:List At) (m:Nat):Bool:=decide (m<l.length)||decide (20*m<lenC l)
theorem pj (A:List TypeId) (T U:Nat) (l:List At) (m:Nat) (hm:m≤1000) (hl:l.length≤1000) (hs:∀t∈l,t.1.length≤140737488355328):Con Tryz.prog A 16 [LTa T U l,.int .i64 m] (.bool (gS l m)):=by
 refine Con.mono (A:=[]) ?_ (by simp);have hle:=pi hs;refine Rz.con rfl (by simp) ?_;(repeat first|simp only[kV,simprocAttr,ae,ax]|refine aN ?_);refine kp [0,1] ?_;(repeat first|simp only[kV,simprocAttr,ae,ax]|refine aN ?_);refine kp [0,1,5] ?_;(repeat first|simp only[kV,simprocAttr,ae,ax]|refine aN ?_);refine kp [0,1,5,6] ?_;(repeat first|simp only[kV,simprocAttr,ae,ax]|refine aN ?_);refine aG (ι:=Nat) (fun i=>i≤l.length) (fun i=>⟨ai [(0,.p (LTa T U l)),(1,.p (.int .i64 m)),(5,.p (.int .i64 (lenC (l.take i)))),(6,.p (.int .i64 i))],au []⟩) (fun i=>l.length-i) 0 (Nat.zero_le _) (Sub.toG [0,1,5,6] []) ?_;intro i hi;by_cases h:i<l.length
 ·have hI:(i:Int)<(l.length:Int):=by omega
  have g1:=fU (U:=U) h;have hst:=ph h;have b1:=hle (i+1) h;have e1:((lenC (l.take i):Nat):Int)+((at0 l i).1.length:Int)=((lenC (l.take (i+1)):Nat):Int):=by omega
  have b2:lenC (l.take (i+1))≤9000000000000000000:=Nat.le_trans (Nat.le_trans b1 (Nat.mul_le_mul_right _ (show i+1≤1000 by clear b1;omega))) (by decide);clear b1;(repeat first|with_reducible refine kp [0,1,5,6,10] ?_|simp only[kV,simprocAttr,ae,hI]|refine aN ?_);(try simp only[kV,simprocAttr,ae,hI,g1,h,e1]);refine ulk ?_;(repeat first|with_reducible refine kp [0,1,5,6] ?_|simp only[kV,simprocAttr,ae,hI,g1,h,e1]|refine aN ?_);exact⟨i+1,h,(Sub.toG [0,1,5,6] []),by omega⟩
 ·have hI:¬ (i:Int)<(l.length:Int):=by omega
  obtain rfl:i=l.length:=by omega
  rw[List.take_length];unfold gS;by_cases hv:m<l.length
  ·have hvI:(m:Int)<(l.length:Int):=by omega
   rw[decide_eq_true hv,Bool.true_or];(repeat first|with_reducible refine kp [0,1,5,6,10] ?_|simp only[kV,simprocAttr,ae,hI]|refine aN ?_);(try simp only[kV,simprocAttr,ae,hI,hvI]);refine ulk ?_;(repeat first|with_reducible refine kp [0,1,4,5] ?_|simp only[kV,simprocAttr,ae,ab,ah,af,ac,hI,hvI]|refine aN ?_)
  ·have hvI:¬ (m:Int)<(l.length:Int):=by omega
   rw[decide_eq_false hv,Bool.false_or];have e2:((20:Int)*(m:Int)<((lenC l:Nat):Int))=(20*m<lenC l):=propext (by omega);have b3:20*m≤20000:=by omega
   (repeat first|with_reducible refine kp [0,1,5,6,10] ?_|simp only[kV,simprocAttr,ae,hI]|refine aN ?_);(try simp only[kV,simprocAttr,ae,hI,hvI,e2]);refine ulk ?_;(repeat first|with_reducible refine kp [0,1,4,5] ?_|simp only[kV,simprocAttr,ae,ab,ah,af,ac,hI,hvI,e2]|refine aN ?_)
end Go.Proofs.YtbnhgnhgbhjkcaaGreat.M
namespace Go.Proofs.YtbnhgnhgbhjkcaaGreat.Mp
theorem oK (f:Mo→Rat) (k:Nat):∀l:TL,Sf f (l.map (padT k))=Sf (fun e=>f (pad k e)) l
 |[]=>rfl
 |x::l=>by rw[List.map_cons,Sf,Sf,oK f k l];rfl
theorem cf_pad {l m:TL} (k:Nat) (h:∀e,cf l e=cf m e) (e:Mo):cf (l.map (padT k)) e=cf (m.map (padT k)) e:=by
 unfold cf;rw[oK,oK,nE _ h]
theorem uF {x:Rat×Mo}:∀{l a:TL},x∈growL a l→(∃y∈a,y.2=x.2)∨∃y∈l,y.2=x.2
 |[],a,h => .inl ⟨x,h,rfl⟩
 |t::l,a,h=>by
  rcases uF (l:=l) (a:=grow a t) h with⟨y,hy,e⟩ | ⟨y,hy,e⟩
  ·rcases jN hy with e2 | hy
   ·exact .inr ⟨t,List.mem_cons_self,by rw[←e2,e]⟩
   ·exact .inl ⟨y,hy,e⟩
  ·exact .inr ⟨y,List.mem_cons_of_mem _ hy,e⟩
def Ex (a b:Int) (l:TL):Prop:=∀x∈l,∀e∈x.2,a≤e∧e≤b
theorem Ex.growL {a b:Int}{l m:TL} (h:Ex a b l) (k:Ex a b m):Ex a b (growL l m):=fun x hx=>by
 rcases uF hx with⟨y,hy,e⟩ | ⟨y,hy,e⟩
 ·rw[←e];exact h y hy
 ·rw[←e];exact k y hy
theorem Ex.nil {a b:Int}:Ex a b []:=fun x hx=>by cases hx
theorem Ex.mono {a b c d:Int}{l:TL} (h:Ex a b l) (h1:c≤a) (h2:b≤d):Ex c d l:=fun x hx e he=>by
 have:=h x hx e he;omega
theorem Ex.mulL {a b c d:Int}{l m:TL} (h:Ex a b l) (k:Ex c d m):Ex (a+c) (b+d) (mulL l m):=fun x hx e he=>by
 obtain⟨y,hy,hx⟩:=List.mem_flatMap.1 hx;obtain⟨z,hz,rfl⟩:=List.mem_map.1 hx;obtain⟨i,hi,rfl⟩:=List.mem_iff_getElem.1 he;unfold addM at hi;simp only[List.length_zipWith] at hi;have h1:=h y hy _ (List.getElem_mem (l:=y.2) (n:=i) (by omega));have h2:=k z hz _ (List.getElem_mem (l:=z.2) (n:=i) (by omega));simp only[addM,List.getElem_zipWith];omega
end Go.Proofs.YtbnhgnhgbhjkcaaGreat.Mp
namespace Go.Proofs.YtbnhgnhgbhjkcaaGreat.M
open Go.RowKit
theorem lD {e:List Int}{n k:Nat} (h:e.length=n) (hk:n+k=4):moL (rdE e)=Mp.pad k e:=by
 subst h
 match e,hk with
 |[],hk =>
       obtain rfl:k=4:=by simpa using hk
       rfl
 |[a],hk =>
        obtain rfl:k=3:=by simp at hk;omega
        rfl
 |[a,b],hk =>
         obtain rfl:k=2:=by simp at hk;omega
         rfl
 |[a,b,c],hk =>
           obtain rfl:k=1:=by simp at hk;omega
           rfl
 |[a,b,c,d],hk =>
            obtain rfl:k=0:=by simp at hk;omega
            rfl
 |_::_::_::_::_::_,hk=>simp at hk;omega
theorem zfY {x:Zm}{n k:Nat} (h:x.2.length=n) (hk:n+k=4):ofM (Mp.padT k x)=(x.1,rdE x.2):=by
 have e:rdE (Mp.pad k x.2)=rdE x.2:=by
  have h1:=lD (e:=Mp.pad k x.2) (n:=4) (k:=0) (by unfold Mp.pad;simp[h,hk]) (by omega);have h2:=lD h hk;have h3:Mp.pad 0 (Mp.pad k x.2)=Mp.pad k x.2:=by unfold Mp.pad;simp
  exact kM (by rw[h1,h2,h3])
 show ((x.1,rdE (Mp.pad k x.2)):Tm)=_
 rw[e]
theorem zfZ {l:List At}{n k:Nat} (h:∀t∈l,t.2.length=n) (hk:n+k=4):tl (rdL l)=(rzL l).map (Mp.padT k):=by
 unfold tl rdL rzL;rw[List.map_map,List.map_map];refine List.map_congr_left fun t ht => ?_
 show ((qR t.1,moL (rdE t.2)):Rat×Mp.Mo)=(qR t.1,Mp.pad k t.2)
 rw[lD (h t ht) hk]
theorem oL {n k:Nat} (hk:n+k=4) (ord:Int){L:List Tm}{Z:Mp.TL} (hZ:Mp.Wd n Z) (h:∀e,Mp.cf (tl L) e=Mp.cf (Z.map (Mp.padT k)) e):WR n (cnT ord L)=(Mp.canon ord Z).map wz:=by
 have h1:Mp.canon ord (tl L)=(Mp.canon ord Z).map (Mp.padT k):=by
  rw[←Mp.canon_pad ord k hZ];exact Mp.canon_eq (kL L) (by have:=Mp.pad_len (k:=k) hZ;rwa[hk] at this) h
 unfold WR cnT;rw[h1,List.map_map,List.map_map];refine List.map_congr_left fun x hx => ?_
 have hx2:=Mp.canon_wd (ord:=ord) hZ x hx;show wrT n (ofM (Mp.padT k x))=wz x
 rw[zfY hx2 hk];unfold wrT wz;rw[lD hx2 hk];unfold Mp.pad;rw[List.take_append_of_le_length (by omega),List.take_of_length_le (by omega)]
section
variable {a b:List At}{n ord:Int} (ha:Gd a n ord) (hb:Gd b n ord)
include ha
theorem Gd.k4:n.toNat+(4-n.toNat)=4:=by have:=ha.n4;omega
theorem Gd.tl:Go.Proofs.YtbnhgnhgbhjkcaaGreat.M.tl (rdL a)=(rzL a).map (Mp.padT (4-n.toNat)):=zfZ (fun t ht=>by have:=(jr (ha.ft t ht)).1;omega) ha.k4
theorem Gd.cf (o:Int) (e:Mp.Mo):Mp.cf (Go.Proofs.YtbnhgnhgbhjkcaaGreat.M.tl (frm a o)) e=Mp.cf ((rzL a).map (Mp.padT (4-n.toNat))) e:=by
 unfold frm;rw[sO,Mp.canon_cf,ha.tl]
theorem jy (e:Mp.Mo):Mp.cf (Mp.growL [] (rzL a)) e=Mp.cf (rzL a) e:=by rw[Mp.growL_cf,Mp.cf_nil,Rat.zero_add]
theorem cY:Mp.Wd n.toNat (Mp.growL [] (rzL a)):=Mp.growL_wd (fun x hx=>by cases hx) ha.wd
theorem uG:Mp.Dst (Mp.growL [] (rzL a)):=Mp.growL_dst Mp.Dst.nil
theorem gL:Mp.Ex 0 40 (Mp.growL [] (rzL a)):=Mp.Ex.nil.growL fun x hx=>by
 obtain⟨y,hy,rfl⟩:=List.mem_map.1 hx;exact (jr (ha.ft y hy)).2.1
theorem uH:(Mp.growL [] (rzL a)).length≤a.length:=by
 have:=Mp.growL_len (rzL a) []
 rwa[i6,List.length_nil,Nat.zero_add] at this
theorem oM:formA a n ord=(Mp.canon ord (Mp.growL [] (rzL a))).map wz:=by
 unfold formA;rw[if_pos (by rw[ha.fm])];refine oL ha.k4 ord (L:=rdL a) (cY ha) fun e => ?_
 rw[ha.tl];exact Mp.cf_pad _ (fun e=>(jy ha e).symm) e
include hb
theorem oN:f2M a b n ord=(0,0):=by
 unfold f2M;rw[ha.fm,if_pos rfl,hb.fm]
theorem uI:addA a b n ord=(Mp.canon ord (Mp.growL (Mp.growL [] (rzL a)) (Mp.growL [] (rzL b)))).map wz:=by
 unfold addA;rw[if_pos (by rw[oN ha hb])];refine oL ha.k4 ord (L:=frm a ord++frm b ord) (Mp.growL_wd (cY ha) (cY hb)) fun e => ?_
 have h1:∀e,Mp.cf (Mp.growL (Mp.growL [] (rzL a)) (Mp.growL [] (rzL b))) e=Mp.cf (rzL a++rzL b) e:=fun e=>by
  rw[Mp.growL_cf,jy ha,jy hb,Mp.cf_app]
 rw[ze6,Mp.cf_app,ha.cf,hb.cf,Mp.cf_pad _ h1,List.map_append,Mp.cf_app]
theorem uJ:mulA a b n ord=(Mp.canon ord (Mp.growL [] (Mp.mulL (Mp.growL [] (rzL a)) (Mp.growL [] (rzL b))))).map wz:=by
 unfold mulA;rw[if_pos (by rw[oN ha hb])];have hw:=(cY ha).mul (cY hb);refine oL ha.k4 ord (L:=mulT (frm a ord) (frm b ord)) (Mp.growL_wd (fun x hx=>by cases hx) hw) fun e => ?_
 have h1:∀e,Mp.cf (Mp.growL [] (Mp.mulL (Mp.growL [] (rzL a)) (Mp.growL [] (rzL b)))) e=Mp.cf (Mp.mulL (rzL a) (rzL b)) e:=fun e=>by
  rw[Mp.growL_cf,Mp.cf_nil,Rat.zero_add];exact Mp.cf_mulL (jy ha) (jy hb) e
 rw[WD,Mp.cf_mulL (ha.cf ord) (hb.cf ord),Mp.mulL_pad _ ha.wd hb.wd,Mp.cf_pad _ h1]
end
set_option maxRecDepth 20000
set_option maxHeartbeats 1000000
theorem oA:bx [49]=(1,1,0,0):=by decide +kernel
theorem oB {t:List UInt8}{a:Int}{b:Nat} (h:bx t=(a,(b:Int),0,0)):(qR t).num=a∧(qR t).den=b∧cR t=0:=by
 have h1:=(fp t).choose_spec.1;have h2:=(fp t).choose_spec.2.1;have e:(fp t).choose=qR t:=rfl;rw[e] at h1 h2;refine⟨?_,?_,?_⟩
 ·rw[←h1,h]
 ·have:((qR t).den:Int)=(b:Int):=by rw[←h2,h]
  exact_mod_cast this
 ·unfold cR;rw[h]
theorem zfa:qR [49]=1:=Rat.ext (oB (b:=1) oA).1 (oB (b:=1) oA).2.1
abbrev lh:List At:=[([49],[1,0,1]),([49],[0,2,0])]
theorem ud:Gd lh 3 2:=⟨by decide,by decide,by decide,by decide,by decide,fun t ht=>by
 have hc:cR [49]=0:=(oB (b:=1) oA).2.2;have key:∀e:List Int,(e.length:Int)=3→(∀x∈e,0≤x∧x≤40)→fT 3 ([49],e)=0:=fun e h1 h2=>by
  unfold fT;rw[if_pos h1,if_pos h2];exact hc
 simp only[List.mem_cons,List.not_mem_nil,or_false] at ht;rcases ht with rfl | rfl
 ·exact key _ rfl (by decide)
 ·exact key _ rfl (by decide)⟩
theorem zfb:formA lh 3 2=[(frText 1 1,[0,2,0]),(frText 1 1,[1,0,1])]:=by
 rw[oM ud];have e1:rzL lh=[((1:Rat),[1,0,1]),(1,[0,2,0])]:=by
  show [((qR [49]:Rat),([1,0,1]:List Int)),(qR [49],[0,2,0])]=_
  rw[zfa]
 rw[e1];have e2:Mp.canon 2 (Mp.growL [] [((1:Rat),[1,0,1]),(1,[0,2,0])])=[((1:Rat),[0,2,0]),(1,[1,0,1])]:=by decide +kernel
 rw[e2];rfl
theorem jq:Con Tryz.prog AN 14 [] (.bool true):=by
 have cf:=lg 83 3 lh 3 2 (by decide) (by decide);rw[zfb,ud.fm] at cf;have cs:=pg AN 3 3 [0,2,0] [0,2,0] (by decide) (by decide);rw[decide_eq_true rfl] at cs;generalize frText 1 1=t at *;have r1:((((List.replicate 3 (0:Int)).set 0 1).set 1 0).set 2 1)=[1,0,1]:=rfl;have r2:((((List.replicate 3 (0:Int)).set 0 0).set 1 2).set 2 0)=[0,2,0]:=rfl;have k1:List.take 3 ([1,0,1].map (D.int .i64))=[1,0,1].map (D.int .i64):=rfl;have k2:List.take 3 ([0,2,0].map (D.int .i64))=[0,2,0].map (D.int .i64):=rfl;have z2:(0:Int)+1+1=2:=rfl;have g0:([atD 3 (t,[0,2,0]),atD 3 (t,[1,0,1])]:List D).getD 0 default = .agg [.str t,.list 3 1 ([0,2,0].map (D.int .i64))]:=rfl;have z3:(0:Int)<2:=by decide
 have z4:(0:Int).toNat=0:=rfl;refine ZM.conW (A:=[]) rfl (by simp) ?_;(repeat first|with_reducible refine kp [] ?_|simp only[kV,simprocAttr,ae,zgE,r1,r2,i7,Bool.true_or,List.drop_zero,k1,k2,List.length_cons,List.length_nil]|refine aN ?_);refine wq (cxw (B:=[173,3]) (cf)) (ulc ?_);(repeat first|with_reducible refine kp [1,2] ?_|simp only[kV,simprocAttr,ae,r1,r2,i7,Bool.true_or,List.drop_zero,k1,k2,List.length_cons,List.length_nil,List.map_cons,List.map_nil,z2,g0,z3,z4,decide_true]|refine aN ?_);refine wq (cxw (B:=[173,3]) (cs)) (ulc ?_);(repeat first|with_reducible refine kp [0] ?_|simp only[kV,simprocAttr,ae,ab,ah,af,ac]|refine aN ?_)
end Go.Proofs.YtbnhgnhgbhjkcaaGreat.M
