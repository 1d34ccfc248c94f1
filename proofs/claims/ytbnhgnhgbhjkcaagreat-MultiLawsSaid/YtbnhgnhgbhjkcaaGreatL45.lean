/- Lemmas. -/
import Derived.Test.YtbnhgnhgbhjkcaaGreatL44
set_option linter.defProp false
set_option linter.unusedSimpArgs false
set_option linter.unusedVariables false
namespace Go.Proofs.YtbnhgnhgbhjkcaaGreat.M
open Go.RowKit
set_option maxRecDepth 20000
set_option maxHeartbeats 4000000
def cG (x:Tm) (b:List Tm):List Tm:=b.map fun y=>(x.1*y.1,fh x.2 y.2)
def mulT (a b:List Tm):List Tm:=a.flatMap fun x=>cG x b
theorem gH (a b:List Tm):tl (mulT a b)=Mp.mulL (tl a) (tl b):=by
 unfold mulT Mp.mulL tl cG;rw[List.map_flatMap,List.flatMap_map];congr 1
 funext x
 rw[List.map_map,List.map_map];congr 1
theorem rz (x:Tm) (b:List Tm):(cG x b).length=b.length:=List.length_map _
theorem kL (a b:List Tm):(mulT a b).length=a.length*b.length:=by
 unfold mulT;induction a with
 |nil=>simp
 |cons x a ih=>rw[List.flatMap_cons,List.length_append,ih,rz,List.length_cons,Nat.succ_mul,Nat.add_comm]
theorem RC (a b:List Tm){i:Nat} (h:i<a.length):mulT (a.take (i+1)) b=mulT (a.take i) b++cG (Sy.at_ a i) b:=by
 rw[fJ h];unfold mulT;rw[List.flatMap_append];simp
theorem RD (x:Tm) (b:List Tm){j:Nat} (h:j<b.length):cG x (b.take (j+1))=cG x (b.take j)++[(x.1*(Sy.at_ b j).1,fh x.2 (Sy.at_ b j).2)]:=by
 rw[fJ h];unfold cG;rw[List.map_append];rfl
theorem rA {a b:List Tm}{D X E Y:Nat} (ha:∀x∈a,Db D X x.1) (hb:∀x∈b,Db E Y x.1):∀x∈mulT a b,Db (D*E) (X*Y) x.1:=fun x hx=>by
 obtain⟨y,hy,hx⟩:=List.mem_flatMap.1 hx;obtain⟨z,hz,rfl⟩:=List.mem_map.1 hx;exact (ha y hy).mul (hb z hz)
theorem nw {a b:List Tm}{E F:Int} (ha:∀x∈a,Gx E x.2) (hb:∀x∈b,Gx F x.2):∀x∈mulT a b,Gx (E+F) x.2:=fun x hx=>by
 obtain⟨y,hy,hx⟩:=List.mem_flatMap.1 hx;obtain⟨z,hz,rfl⟩:=List.mem_map.1 hx;exact (ha y hy).add (hb z hz)
theorem RE (i:Nat) (l:List D):fU i (.agg l) = .p (.agg l):=rfl
theorem RF (T sz:Nat) (l:List D):ek T sz (.agg l) = .agg l:=rfl
theorem RG (l:List Tm) (n ord:Int):(AV.p (SmD l n ord)).get 0 1 3 false=some (.p (LM l))∧(AV.p (SmD l n ord)).get 1 2 3 true=some (.p (rgD n ord)):=⟨rfl,rfl⟩
theorem RH (l:List Tm) (n ord:Int):(AV.p (SmD l n ord)).cells.length=3∧(AV.p (SmD l n ord)).cells.all AV.one=true∧(AV.p (SmD l n ord)).get 0 3 3 true=some (.p (SmD l n ord)):=⟨rfl,rfl,rfl⟩
abbrev zT:List AV:=[.p (.bool false),.p (.list 173 1 []),.p (.bool false),.p (.list 173 1 []),.p (J 0),.p (J 0),.p (J 0),.p (J 0)]
theorem RI (i j:Nat) (q:Rat) (e:Ex4) (R:List (Nat×AV)) (h1:ar R i = .p (qI q)) (h2:ar R j = .p (moD e)):cJ zT (ar R) [(0,4,.t i),(4,4,.t j)]=some ((tI (q,e)).cells.map AV.p):=by
 have e1:(Opd.t i).ev (ar R) = .p (qI q):=h1;have e2:(Opd.t j).ev (ar R) = .p (moD e):=h2;rw[cJ.eq_2,e1];rw[if_pos ⟨rfl,by decide,rfl⟩,cJ.eq_2,e2];rw[if_pos ⟨rfl,Nat.le_refl 8,rfl⟩,cJ.eq_1];rfl
theorem RJ (t:Tm):AV.mk ((tI t).cells.map AV.p) = .p (tI t):=rfl
theorem RK (t:Tm):cW ((tI t).cells.map AV.p)=some (tI t).cells:=rfl
theorem RL (t:Tm):D.agg (tI t).cells=tI t:=rfl
def cA:=an @RK (an @RL (an @RE (an @RF (an @RG (an @RH (an @RJ (an @ite_self.{1} (an bH a7))))))))
theorem RM (n ord n' ord':Int) (a b:List Tm){D X E Y p:Nat}{G H:Int} (ha:∀x∈a,Db D X x.1) (hb:∀x∈b,Db E Y x.1) (ga:∀x∈a,Gx G x.2) (gb:∀x∈b,Gx H x.2) (hG:0≤G) (hH:0≤H) (hGH:G+H≤1000000000000)
  (hl:a.length*b.length≤1000000000) (hla:a.length≤1000000000) (hlb:b.length≤1000000000) (hD:D*E<2^p) (hX:a.length*b.length*(X*Y)<2^p) (hA:Bc p a) (hB:Bc p b) (hp:p≤2048000000000) :
  Con Tryz.prog AN 50 [SmD a n ord,SmD b n' ord'] (SmD (cnT ord (mulT a b)) n ord):=by
 have hge:∀x∈mulT a b,Ge x.2:=fun x hx=>(nw ga gb x hx).ge hGH
 have mc:=(jp n ord (mulT a b) (rA ha hb) hge (by rw[kL];exact hl) hD (by rw[kL];exact hX) hp).x;have hiter:∀i,i≤a.length→(mulT (a.take i) b).length=i*b.length:=fun i hi=>by rw[kL,List.length_take,Nat.min_eq_left hi]
 refine Hf.con rfl (by simp) ?_;(repeat first|simp only[kV,simprocAttr,cA,aB]|refine aN ?_);refine kp [2,3,4] ?_;(repeat first|simp only[kV,simprocAttr,cA,aB]|refine aN ?_);refine kp [2,3,4,5] ?_;(repeat first|simp only[kV,simprocAttr,cA,aB]|refine aN ?_);refine kp [2,3,4,5,11,12,13] ?_;(repeat first|simp only[kV,simprocAttr,cA,aB]|refine aN ?_);refine aL (ι:=Nat) (fun i=>i≤a.length) (fun i=>⟨ar [(2,.ptr 2 0 0),(3,.ptr 3 0 0),(4,.ptr 4 0 0),(5,.slice 205 0 (mulT (a.take i) b).length),(11,.p (LM a)),(12,.p (J a.length)),(13,.p (J i))],
  ay [(2,⟨96,3,.box (.p (SmD a n ord)),false⟩),(3,⟨96,3,.box (.p (SmD b n' ord')),false⟩),(4,⟨96,3,.box (.p (SmD [] 0 0)),false⟩),(205,⟨TT,8,.row ((mulT (a.take i) b).map tI),false⟩)]⟩) (fun i=>a.length-i) 0 (Nat.zero_le _) (Sub.nilG 5 205 TT 8) ?_
 intro i hi;by_cases h:i<a.length
 ·have hI:(i:Int)<(a.length:Int):=by omega
  have g1:=ch h;have hst:=RC a b h;have hlen:=hiter i hi;have hx:=hA _ (at_mem h);have gx:=(ga _ (at_mem h)).ge (by omega);have hmul:(i+1)*b.length≤a.length*b.length:=Nat.mul_le_mul_right _ h;rw[Nat.succ_mul] at hmul;generalize mulT (a.take i) b=q at *;generalize Sy.at_ a i=x at *;(repeat first|with_reducible refine kp [2,3,4,5,11,12,13,14] ?_|simp only[kV,simprocAttr,cA,hI]|refine aN ?_);(try simp only[kV,simprocAttr,cA,hI,g1,h]);refine ulk ?_;(repeat first|simp only[kV,simprocAttr,cA,hI,g1,h]|refine aN ?_);refine kp [2,3,4,5,11,12,13] ?_;(repeat first|simp only[kV,simprocAttr,cA,hI,g1,h]|refine aN ?_);refine kp [2,3,4,5,7,11,12,13] ?_;(repeat first|simp only[kV,simprocAttr,cA,hI,g1,h]|refine aN ?_);refine kp [2,3,4,5,7,11,12,13,18,19,20] ?_;(repeat first|simp only[kV,simprocAttr,cA,hI,g1,h]|refine aN ?_);refine aL (ι:=Nat) (fun j=>j≤b.length) (fun j=>⟨ar [(2,.ptr 2 0 0),(3,.ptr 3 0 0),(4,.ptr 4 0 0),(5,.slice 205 0 (q++cG x (b.take j)).length),(7,.ptr 7 0 0),(11,.p (LM a)),(12,.p (J a.length)),(13,.p (J i)),(18,.p (LM b)),(19,.p (J b.length)),(20,.p (J j))],
   ay [(2,⟨96,3,.box (.p (SmD a n ord)),false⟩),(3,⟨96,3,.box (.p (SmD b n' ord')),false⟩),(4,⟨96,3,.box (.p (SmD [] 0 0)),false⟩),(205,⟨TT,8,.row ((q++cG x (b.take j)).map tI),false⟩),(7,⟨TT,8,.box (.p (tI x)),false⟩)]⟩) (fun j=>b.length-j) 0 (Nat.zero_le _) (by rw[show q++cG x (b.take 0)=q by simp[cG]];exact (Sub.toG [2,3,4,5,7,11,12,13,18,19,20] [9,36])) ?_
  intro j hj;by_cases h':j<b.length
  ·have hJ:(j:Int)<(b.length:Int):=by omega
   have g2:=ch h';have hst2:=RD x b h';have hy:=hB _ (at_mem h');have gy:=(gb _ (at_mem h')).ge (by omega);have hrl:(cG x (b.take j)).length=j:=by rw[rz,List.length_take,Nat.min_eq_left hj]
   generalize Sy.at_ b j=y at *;have c1:=oS x.1 y.1 p hx hy hp;have c2:=(T7 x.2 y.2 gx gy).mono (A':=AN) (by simp);have f1:(q++cG x (b.take (j+1))).map tI=(q++cG x (b.take j)).map tI++[tI (x.1*y.1,fh x.2 y.2)]:=by rw[hst2,←List.append_assoc,List.map_append];rfl
   have f2:(q++cG x (b.take (j+1))).length=(q++cG x (b.take j)).length+1:=by rw[hst2,←List.append_assoc,List.length_append];rfl
   have hql:(q++cG x (b.take j)).length≤1000000000:=by rw[List.length_append,hrl,hlen];omega
   generalize q++cG x (b.take j)=q2 at *;(repeat first|with_reducible refine kp [2,3,4,5,7,11,12,13,18,19,20,21] ?_|simp only[kV,simprocAttr,cA,hJ]|refine aN ?_);(try simp only[kV,simprocAttr,cA,hJ,g2,h']);refine ulk ?_;(repeat first|with_reducible refine kp [2,3,4,5,7,9,11,12,13,18,19,20] ?_|simp only[kV,simprocAttr,cA,hJ,g2,h']|refine aN ?_);refine⟨_,cx (c1),ulc ?_⟩;(repeat first|simp only[kV,simprocAttr,cA]|refine aN ?_);refine⟨_,cx (c2),ulc ?_⟩;(repeat first|with_reducible refine kp [2,3,4,5,7,11,12,13,18,19,20] ?_|simp only[kV,simprocAttr,cA,RI _ _ (x.1*y.1) (fh x.2 y.2)]|refine aN ?_);exact⟨j+1,h',by rw[f1,f2];exact (Sub.toG [2,3,4,5,7,11,12,13,18,19,20] [9,36]),by omega⟩
  ·have hJ:¬ (j:Int)<(b.length:Int):=by omega
   obtain rfl:j=b.length:=by omega
   have f1:q++cG x (b.take b.length)=mulT (a.take (i+1)) b:=by rw[List.take_length,hst]
   rw[f1];(repeat first|with_reducible refine kp [2,3,4,5,7,11,12,13,18,19,20,21] ?_|simp only[kV,simprocAttr,cA,hJ]|refine aN ?_);refine ulk ?_;(repeat first|with_reducible refine kp [2,3,4,5,11,12,13] ?_|simp only[kV,simprocAttr,cA,hJ]|refine aN ?_);exact⟨i+1,h,(Sub.toG [2,3,4,5,11,12,13] [7,9,36]),by omega⟩
 ·have hI:¬ (i:Int)<(a.length:Int):=by omega
  obtain rfl:i=a.length:=by omega
  rw[List.take_length];(repeat first|with_reducible refine kp [2,3,4,5,11,12,13,14] ?_|simp only[kV,simprocAttr,cA,hI]|refine aN ?_);refine ulk ?_;(repeat first|with_reducible refine kp [2,4,5] ?_|simp only[kV,simprocAttr,cA,hI]|refine aN ?_);refine⟨_,_,mc,ulc ?_⟩;(repeat first|with_reducible refine kp [4] ?_|simp only[kV,simprocAttr,cA,ae,ai,ah,af]|refine aN ?_)
def dX (e:Ex4) (v:Nat) (x:Int):Ex4:=match v with
 |0=>(x,e.2)
 |1=>(e.1,x,e.2.2)
 |2=>(e.1,e.2.1,x,e.2.2.2)
 |_=>(e.1,e.2.1,e.2.2.1,x)
theorem oe (e:Ex4){v:Nat} (h:v<4) (x:Int):moL (dX e v x)=(moL e).set v x:=by
 match v,h with
 |0,_=>rfl
 |1,_=>rfl
 |2,_=>rfl
 |3,_=>rfl
def exE (e:Ex4) (v:Nat):Int:=(moL e).getD v 0
theorem jD {E:Int}{e:Ex4} (h:Gx E e){v:Nat} (hv:v<4):0≤exE e v∧exE e v≤E:=by
 obtain⟨h1,h2,h3,h4⟩:=h
 match v,hv with
 |0,_=>exact h1
 |1,_=>exact h2
 |2,_=>exact h3
 |3,_=>exact h4
theorem tC {E:Int}{e:Ex4} (h:Gx E e){v:Nat} (hv:v<4){x:Int} (h0:0≤x) (hx:x≤E):Gx E (dX e v x):=by
 obtain⟨h1,h2,h3,h4⟩:=h
 match v,hv with
 |0,_=>exact⟨⟨h0,hx⟩,h2,h3,h4⟩
 |1,_=>exact⟨h1,⟨h0,hx⟩,h3,h4⟩
 |2,_=>exact⟨h1,h2,⟨h0,hx⟩,h4⟩
 |3,_=>exact⟨h1,h2,h3,h0,hx⟩
theorem og (t:Tm){v:Nat} (h:v<4):(tI t).cells[4+v]? = some (J (exE t.2 v)):=by
 match v,h with
 |0,_=>rfl
 |1,_=>rfl
 |2,_=>rfl
 |3,_=>rfl
theorem tD (t:Tm) (x:Int){v:Nat} (h:v<4):cW (((tI t).cells.map AV.p).take (4+v)++[AV.p (J x)]++((tI t).cells.map AV.p).drop (4+v+1))=some (tI (t.1,dX t.2 v x)).cells:=by
 match v,h with
 |0,_=>rfl
 |1,_=>rfl
 |2,_=>rfl
 |3,_=>rfl
theorem Wh (t:Tm) (q:Rat):AV.mk ((AV.p (tI t)).cells.take 0++(AV.p (qI q)).cells++(AV.p (tI t)).cells.drop 4) = .p (tI (q,t.2)):=rfl
theorem Wi (q:Rat):(AV.p (qI q)).get 0 4 4 true=some (.p (qI q))∧(AV.p (qI q)).cells.length=4∧(AV.p (qI q)).cells.all AV.one=true∧(AV.p (qI q)).isAgg=some true:=⟨rfl,rfl,rfl,rfl⟩
def fixT (v:Nat) (x:Rat) (a:List Tm):List Tm:=a.map fun t=>(t.1*x^(exE t.2 v).toNat,dX t.2 v 0)
theorem Wj {v:Nat} (h:v<4) (x:Rat) (a:List Tm):tl (fixT v x a)=Mp.fixL v x (tl a):=by
 unfold fixT Mp.fixL tl;rw[List.map_map,List.map_map];refine List.map_congr_left fun t _ => ?_
 simp only[Function.comp,oe t.2 h];rfl
theorem iK (v:Nat) (x:Rat) (a:List Tm):(fixT v x a).length=a.length:=List.length_map _
theorem Wk (v:Nat) (x:Rat) (a:List Tm){i:Nat} (h:i<a.length):fixT v x (a.take (i+1))=fixT v x (a.take i)++[((Sy.at_ a i).1*x^(exE (Sy.at_ a i).2 v).toNat,dX (Sy.at_ a i).2 v 0)]:=by
 rw[fJ h];unfold fixT;rw[List.map_append];rfl
theorem tE {D X E Y:Nat}{c x:Rat} (hc:Db D X c) (hx:Db E Y x):∀k,Db (D*E^k) (X*Y^k) (c*x^k)
 |0=>by rw[Nat.pow_zero,Nat.pow_zero,Nat.mul_one,Nat.mul_one,Rat.pow_zero,Rat.mul_one];exact hc
 |k+1=>by
  have:=(tE hc hx k).mul hx;rw[Nat.pow_succ,Nat.pow_succ,←Nat.mul_assoc,←Nat.mul_assoc,Rat.pow_succ,←Rat.mul_assoc];exact this
theorem tF {D X E Y M:Nat}{c x:Rat} (hc:Db D X c) (hx:Db E Y x) (hE:0<E) (hY:0<Y){k:Nat} (hk:k≤M):Db (D*E^M) (X*(Y*E)^M) (c*x^k):=by
 have h:=(tE hc hx k).up (E:=E^(M-k)) (Nat.pow_pos hE);have e1:D*E^k*E^(M-k)=D*E^M:=by rw[Nat.mul_assoc,←Nat.pow_add,Nat.add_sub_cancel' hk]
 rw[e1] at h;refine h.mono ?_;rw[Nat.mul_pow,Nat.mul_assoc];refine Nat.mul_le_mul_left _ (Nat.mul_le_mul (Nat.pow_le_pow_right hY hk) (Nat.pow_le_pow_right hE (Nat.sub_le _ _)))
theorem tG {v:Nat} (hv:v<4){x:Rat}{a:List Tm}{D X E Y M:Nat}{G:Int} (ha:∀t∈a,Db D X t.1) (hx:Db E Y x) (hE:0<E) (hY:0<Y) (ga:∀t∈a,Gx G t.2) (hG:G≤M):∀t∈fixT v x a,Db (D*E^M) (X*(Y*E)^M) t.1:=fun t ht=>by
 obtain⟨y,hy,rfl⟩:=List.mem_map.1 ht;have:=jD (ga y hy) hv;exact tF (ha y hy) hx hE hY (by omega)
theorem oh {v:Nat} (hv:v<4){x:Rat}{a:List Tm}{G:Int} (ga:∀t∈a,Gx G t.2) (hG:0≤G):∀t∈fixT v x a,Gx G t.2:=fun t ht=>by
 obtain⟨y,hy,rfl⟩:=List.mem_map.1 ht;exact tC (ga y hy) hv (Int.le_refl _) hG
theorem Wl (q:Rat):((qI q).cells.map AV.p).all AV.one=true:=rfl
theorem Wm (q:Rat):(qI q).isAgg=true:=rfl
def cD:=an @Wm (an @Wl (an @Wh (an @Wi cA)))
theorem Wn (n ord:Int) (v:Nat) (hv:v<4) (x:Rat) (a:List Tm){D X E Y M p:Nat}{G:Int} (ha:∀t∈a,Db D X t.1) (hx:Db E Y x) (hE:0<E) (hY:0<Y) (ga:∀t∈a,Gx G t.2) (hG0:0≤G) (hG:G≤M) (hM:M≤1000000000000)
  (hl:a.length≤1000000000) (hD:D*E^M<2^p) (hX:a.length*(X*(Y*E)^M)<2^p) (hB:Bq p x) (hp:p≤2048000000000) :
  Con Tryz.prog AN 57 [SmD a n ord,J v,qI x] (SmD (cnT ord (fixT v x a)) n ord):=by
 have hge:∀t∈fixT v x a,Ge t.2:=fun t ht=>(oh hv ga hG0 t ht).ge (by omega)
 have hdb:=tG hv ha hx hE hY ga hG;have mc:=(jp n ord (fixT v x a) hdb hge (by rw[iK];exact hl) hD (by rw[iK];exact hX) hp).x;have hlt:∀i,i≤a.length→(fixT v x (a.take i)).length=i:=fun i hi=>by rw[iK,List.length_take,Nat.min_eq_left hi]
 refine HJ.con rfl (by simp) ?_;(repeat first|simp only[kV,simprocAttr,cD,Option.map_some,bU]|refine aN ?_);refine kp [1,3,5,6] ?_;(repeat first|simp only[kV,simprocAttr,cD,Option.map_some,bU]|refine aN ?_);refine kp [1,3,5,6,7] ?_;(repeat first|simp only[kV,simprocAttr,cD,Option.map_some,bU]|refine aN ?_);refine kp [1,3,5,6,7,11,12,13] ?_;(repeat first|simp only[kV,simprocAttr,cD,Option.map_some,bU]|refine aN ?_);refine aL (ι:=Nat) (fun i=>i≤a.length) (fun i=>⟨ar [(1,.p (J v)),(3,.ptr 3 0 0),(5,.ptr 5 0 0),(6,.ptr 6 0 0),(7,.slice 205 0 (fixT v x (a.take i)).length),(11,.p (LM a)),(12,.p (J a.length)),(13,.p (J i))],
  ay [(3,⟨96,3,.box (.p (SmD a n ord)),false⟩),(5,⟨88,4,.box (.p (qI x)),false⟩),(6,⟨96,3,.box (.p (SmD [] 0 0)),false⟩),(205,⟨TT,8,.row ((fixT v x (a.take i)).map tI),false⟩)]⟩) (fun i=>a.length-i) 0 (Nat.zero_le _) (Sub.nilG 7 205 TT 8) ?_
 intro i hi;by_cases h:i<a.length
 ·have hI:(i:Int)<(a.length:Int):=by omega
  have g1:=ch h;have hst:=Wk v x a h;have hlen:=hlt i hi;have ht:=ha _ (at_mem h);have gt:=ga _ (at_mem h);have hxe:=jD gt hv;have hpos:1≤a.length:=by omega
  have hbq:∀k,k≤M→Bq p ((Sy.at_ a i).1*x^k):=fun k hk=>(tF ht hx hE hY hk).Bq hD (Nat.lt_of_le_of_lt (by have:=Nat.mul_le_mul_right (X*(Y*E)^M) hpos;omega) hX)
  generalize fixT v x (a.take i)=q at *;generalize Sy.at_ a i=t at *;obtain⟨c,e⟩:=t;simp only at hst ht gt hxe hbq;obtain⟨m,hm⟩:∃m:Nat,exE e v=(m:Int):=⟨(exE e v).toNat,by omega⟩
  have gv:=og (c,e) hv;simp only[hm] at gv;rw[hm,Int.toNat_natCast] at hst;rw[hm] at hxe;have hv4:(v:Int)<4:=by omega
  (repeat first|with_reducible refine kp [1,3,5,6,7,11,12,13,14] ?_|simp only[kV,simprocAttr,cD,Option.map_some,hI]|refine aN ?_);(try simp only[kV,simprocAttr,cD,Option.map_some,hI,g1,h,gv,hv4,hv]);refine ulk ?_;(repeat first|simp only[kV,simprocAttr,cD,Option.map_some,hI,g1,h,gv,hv4,hv]|refine aN ?_);refine kp [1,3,5,6,7,11,12,13] ?_;(repeat first|simp only[kV,simprocAttr,cD,Option.map_some,hI,g1,h,gv,hv4,hv]|refine aN ?_);refine kp [1,3,5,6,7,9,11,12,13] ?_;(repeat first|simp only[kV,simprocAttr,cD,Option.map_some,hI,g1,h,gv,hv4,hv]|refine aN ?_);refine kp [1,3,5,6,7,9,11,12,13,20,21] ?_;(repeat first|simp only[kV,simprocAttr,cD,Option.map_some,hI,g1,h,gv,hv4,hv]|refine aN ?_);have hbx:=hB;refine aL (ι:=Nat) (fun k=>k≤m) (fun k=>⟨ar [(1,.p (J v)),(3,.ptr 3 0 0),(5,.ptr 5 0 0),(6,.ptr 6 0 0),(7,.slice 205 0 q.length),(9,.ptr 9 0 0),(11,.p (LM a)),(12,.p (J a.length)),(13,.p (J i)),(20,.p (J m)),(21,.p (J k))],
   ay [(3,⟨96,3,.box (.p (SmD a n ord)),false⟩),(5,⟨88,4,.box (.p (qI x)),false⟩),(6,⟨96,3,.box (.p (SmD [] 0 0)),false⟩),(205,⟨TT,8,.row (q.map tI),false⟩),(9,⟨TT,8,.box (.p (tI (c*x^k,e))),false⟩)]⟩) (fun k=>m-k) 0 (Nat.zero_le _) (by rw[Rat.pow_zero,Rat.mul_one];exact (Sub.toG [1,3,5,6,7,9,11,12,13,20,21] [34])) ?_
  intro k hk;by_cases h':k<m
  ·have hJ:(k:Int)<(m:Int):=by omega
   have c1:=oS (c*x^k) x p (hbq k (by omega)) hB hp;have e1:c*x^k*x=c*x^(k+1):=by rw[Rat.pow_succ,Rat.mul_assoc]
   rw[e1] at c1;(repeat first|with_reducible refine kp [1,3,5,6,7,9,11,12,13,20,21,22] ?_|simp only[kV,simprocAttr,cD,Option.map_some,hJ]|refine aN ?_);refine ulk ?_;(repeat first|with_reducible refine kp [1,3,5,6,7,9,11,12,13,20,21] ?_|simp only[kV,simprocAttr,cD,Option.map_some,hJ]|refine aN ?_);refine⟨_,cx (c1),ulc ?_⟩;(repeat first|with_reducible refine kp [1,3,5,6,7,9,11,12,13,20,21] ?_|simp only[kV,simprocAttr,cD,Option.map_some]|refine aN ?_);exact⟨k+1,h',(Sub.toG [1,3,5,6,7,9,11,12,13,20,21] [34]),by omega⟩
  ·have hJ:¬ (k:Int)<(m:Int):=by omega
   obtain rfl:k=m:=by omega
   have f1:(fixT v x (a.take (i+1))).map tI=q.map tI++[tI (c*x^k,dX e v 0)]:=by rw[hst,List.map_append];rfl
   have f2:(fixT v x (a.take (i+1))).length=q.length+1:=by rw[hst,List.length_append];rfl
   generalize c*x^k=c2 at *;have pv:=tD (c2,e) 0 hv;have hv7:4+v≤7:=by omega
   (repeat first|with_reducible refine kp [1,3,5,6,7,9,11,12,13,20,21,22] ?_|simp only[kV,simprocAttr,cD,Option.map_some,hJ]|refine aN ?_);(try simp only[kV,simprocAttr,cD,Option.map_some,hJ,pv,hv4,hv,hv7]);refine ulk ?_;(repeat first|with_reducible refine kp [1,3,5,6,7,9,11,12,13] ?_|simp only[kV,simprocAttr,cD,Option.map_some,hJ,pv,hv4,hv,hv7]|refine aN ?_);exact⟨i+1,h,by rw[f1,f2];exact (Sub.toG [1,3,5,6,7,11,12,13] [9,34]),by omega⟩
 ·have hI:¬ (i:Int)<(a.length:Int):=by omega
  obtain rfl:i=a.length:=by omega
  rw[List.take_length];(repeat first|with_reducible refine kp [1,3,5,6,7,11,12,13,14] ?_|simp only[kV,simprocAttr,cD,Option.map_some,hI]|refine aN ?_);refine ulk ?_;(repeat first|with_reducible refine kp [3,6,7] ?_|simp only[kV,simprocAttr,cD,Option.map_some,hI]|refine aN ?_);refine⟨_,_,mc,ulc ?_⟩;(repeat first|with_reducible refine kp [6] ?_|simp only[kV,simprocAttr,cD,Option.map_some,ae,ai,ah,af]|refine aN ?_)
theorem Wo (t:Tm):D.agg (List.take 4 (List.drop 4 (tI t).cells))=moD t.2:=rfl
theorem Wp (t:Tm):D.agg (List.take 4 (tI t).cells)=qI t.1:=rfl
theorem Wq (q:Rat) (a b c d:AV):(8≤((qI q).cells.map AV.p++[a,b,c,d]).length)=True:=eq_true (Nat.le_refl 8)
theorem Wr (q:Rat) (e:Ex4) (a b c d:AV):((qI q).cells.map AV.p++[a,b,c,d]).take 4++[AV.p (J e.1),AV.p (J e.2.1),AV.p (J e.2.2.1),AV.p (J e.2.2.2)]++((qI q).cells.map AV.p++[a,b,c,d]).drop 8=(tI (q,e)).cells.map AV.p:=rfl
def aa:=an @Wq (an @Wr (an @Wo (an @Wp cD)))
theorem U1 (n:Int) (hn:-9223372036854775808≤n∧n≤9223372036854775807):Con Tryz.prog AN 95 [.int .i64 n] (aV n):=fE fun base w v1 hav h1=>by
 cases lF h1;exact (sM n w hn).mono fun e w' ⟨x,h1,h2,h3⟩=>⟨_,h1,fun _ hav=>f9 h2 hav,h3⟩
def eF (v:Nat) (t:Tm):List Tm:=if 0<exE t.2 v then [(t.1*((exE t.2 v:Int):Rat),dX t.2 v (exE t.2 v-1))] else []
def derT (v:Nat) (a:List Tm):List Tm:=a.flatMap (eF v)
theorem kW {v:Nat} (h:v<4):∀a:List Tm,tl (derT v a)=Mp.derL v (tl a)
 |[]=>rfl
 |t::a=>by
  have ih:=kW h a;have e1:derT v (t::a)=eF v t++derT v a:=List.flatMap_cons;have e2:tl (t::a)=(t.1,moL t.2)::tl a:=rfl;have e3:tl (derT v (t::a))=tl (eF v t)++tl (derT v a):=by rw[e1];unfold tl;rw[List.map_append]
  rw[e3,e2,Mp.derL,ih];unfold eF;by_cases h0:0<exE t.2 v
  ·rw[if_pos h0,if_pos (show 0<(moL t.2).getD v 0 from h0)];unfold tl;simp only[List.map_cons,List.map_nil,oe t.2 h];rfl
  ·rw[if_neg h0,if_neg (show ¬ 0<(moL t.2).getD v 0 from h0)];rfl
theorem U3 (v:Nat) (t:Tm):(eF v t).length≤1:=by
 unfold eF;split<;>simp
theorem ju (v:Nat):∀a:List Tm,(derT v a).length≤a.length
 |[]=>by simp[derT]
 |t::a=>by
  have:=ju v a;have:=U3 v t;rw[show derT v (t::a)=eF v t++derT v a from List.flatMap_cons,List.length_append,List.length_cons];omega
theorem U4 (v:Nat) (a:List Tm){i:Nat} (h:i<a.length):derT v (a.take (i+1))=derT v (a.take i)++eF v (Sy.at_ a i):=by
 rw[fJ h];unfold derT;rw[List.flatMap_append];simp
theorem nL {v:Nat}{a:List Tm}{t:Tm} (h:t∈derT v a):∃y∈a,0<exE y.2 v∧t=(y.1*((exE y.2 v:Int):Rat),dX y.2 v (exE y.2 v-1)):=by
 obtain⟨y,hy,h⟩:=List.mem_flatMap.1 h;unfold eF at h;split at h
 ·rename_i h0;exact⟨y,hy,h0,by simpa using h⟩
 ·cases h
theorem sP {v:Nat} (hv:v<4){a:List Tm}{D X M:Nat}{G:Int} (ha:∀t∈a,Db D X t.1) (ga:∀t∈a,Gx G t.2) (hG:G≤M):∀t∈derT v a,Db D (X*M) t.1:=fun t ht=>by
 obtain⟨y,hy,h0,rfl⟩:=nL ht;have:=(ha y hy).mul (Db.ofInt (exE y.2 v));rw[Nat.mul_one] at this;have hb:=jD (ga y hy) hv;exact this.mono (Nat.mul_le_mul_left _ (by omega))
theorem nM {v:Nat} (hv:v<4){a:List Tm}{G:Int} (ga:∀t∈a,Gx G t.2):∀t∈derT v a,Gx G t.2:=fun t ht=>by
 obtain⟨y,hy,h0,rfl⟩:=nL ht;have hb:=jD (ga y hy) hv;exact tC (ga y hy) hv (by omega) (by omega)
theorem cC (t:Tm) (q:Rat):cW ((qI q).cells.map AV.p++((tI t).cells.map AV.p).drop 4)=some (tI (q,t.2)).cells:=rfl
theorem U5 (n ord:Int) (v:Nat) (hv:v<4) (a:List Tm){D X M p:Nat}{G:Int} (ha:∀t∈a,Db D X t.1) (ga:∀t∈a,Gx G t.2) (hG:G≤M) (hM:M≤1000000000000)
  (hl:a.length≤1000000000) (hD:D<2^p) (hX:a.length*(X*M)<2^p) (hA:Bc p a) (h64:64≤p) (hp:p≤2048000000000) :
  Con Tryz.prog AN 61 [SmD a n ord,J v] (SmD (cnT ord (derT v a)) n ord):=by
 have hge:∀t∈derT v a,Ge t.2:=fun t ht=>(nM hv ga t ht).ge (by omega)
 have hdl:=ju v a;have mc:=(jp n ord (derT v a) (sP hv ha ga hG) hge (by omega) hD (Nat.lt_of_le_of_lt (Nat.mul_le_mul_right _ hdl) hX) hp).x;have hlt:∀i,i≤a.length→(derT v (a.take i)).length≤i:=fun i hi=>by
  have:=ju v (a.take i);rw[List.length_take,Nat.min_eq_left hi] at this;exact this
 refine If.con rfl (by simp) ?_;(repeat first|simp only[kV,simprocAttr,aa,cC,Option.map_some,aB]|refine aN ?_);refine kp [1,2,4] ?_;(repeat first|simp only[kV,simprocAttr,aa,cC,Option.map_some,aB]|refine aN ?_);refine kp [1,2,4,5] ?_;(repeat first|simp only[kV,simprocAttr,aa,cC,Option.map_some,aB]|refine aN ?_);refine kp [1,2,4,5,10,11,12] ?_;(repeat first|simp only[kV,simprocAttr,aa,cC,Option.map_some,aB]|refine aN ?_);refine aL (ι:=Nat) (fun i=>i≤a.length) (fun i=>⟨ar [(1,.p (J v)),(2,.ptr 2 0 0),(4,.ptr 4 0 0),(5,.slice 205 0 (derT v (a.take i)).length),(10,.p (LM a)),(11,.p (J a.length)),(12,.p (J i))],
  ay [(2,⟨96,3,.box (.p (SmD a n ord)),false⟩),(4,⟨96,3,.box (.p (SmD [] 0 0)),false⟩),(205,⟨TT,8,.row ((derT v (a.take i)).map tI),false⟩)]⟩) (fun i=>a.length-i) 0 (Nat.zero_le _) (Sub.nilG 5 205 TT 8) ?_
 intro i hi;by_cases h:i<a.length
 ·have hI:(i:Int)<(a.length:Int):=by omega
  have g1:=ch h;have hst:=U4 v a h;have hlen:=hlt i hi;have hx:=hA _ (at_mem h);have gt:=ga _ (at_mem h);have hxe:=jD gt hv;generalize derT v (a.take i)=q at *;generalize Sy.at_ a i=t at *;obtain⟨c,e⟩:=t;simp only[eF] at hst gt hxe hx;obtain⟨m,hm⟩:∃m:Int,exE e v=m:=⟨_,rfl⟩
  have gv:=og (c,e) hv;simp only[hm] at gv;rw[hm] at hst hxe;have hv4:(v:Int)<4:=by omega
  by_cases h0:0<m
  ·rw[if_pos h0] at hst;have c1:=(U1 m (by omega))
   have c2:=ZZ m p (by unfold Bt;exact Nat.lt_of_lt_of_le (show m.natAbs<2^64 by omega) (Nat.pow_le_pow_right (by omega) h64)) hp;have c3:=oS c (m:Rat) p hx ⟨by rw[Rat.num_intCast];exact Nat.lt_of_lt_of_le (show m.natAbs<2^64 by omega) (Nat.pow_le_pow_right (by omega) h64),by rw[Rat.den_intCast];exact Nat.one_lt_two_pow (by omega)⟩ hp;have f1:(derT v (a.take (i+1))).map tI=q.map tI++[tI (c*(m:Rat),dX e v (m-1))]:=by rw[hst,List.map_append];rfl
   have f2:(derT v (a.take (i+1))).length=q.length+1:=by rw[hst,List.length_append];rfl
   have gv2:=og (c*(m:Rat),e) hv;simp only[hm] at gv2;have pv:=tD (c*(m:Rat),e) (m-1) hv;have hv7:4+v≤7:=by omega
   (repeat first|with_reducible refine kp [1,2,4,5,10,11,12,13] ?_|simp only[kV,simprocAttr,aa,cC,Option.map_some,hI]|refine aN ?_);(try simp only[kV,simprocAttr,aa,cC,Option.map_some,hI,g1,h,gv,hv4,hv]);refine ulk ?_;(repeat first|with_reducible refine kp [1,2,4,5,7,8,10,11,12,21] ?_|simp only[kV,simprocAttr,aa,cC,Option.map_some,hI,g1,h,gv,hv4,hv]|refine aN ?_);(try simp only[kV,simprocAttr,aa,cC,Option.map_some,h0]);refine ulk ?_;(repeat first|simp only[kV,simprocAttr,aa,cC,Option.map_some,h0]|refine aN ?_);refine⟨_,cx (c1),ulc ?_⟩;(repeat first|simp only[kV,simprocAttr,aa,cC,Option.map_some]|refine aN ?_);refine⟨_,cx (c2),ulc ?_⟩;(repeat first|simp only[kV,simprocAttr,aa,cC,Option.map_some]|refine aN ?_);refine⟨_,cx (c3),ulc ?_⟩;(repeat first|with_reducible refine kp [1,2,4,5,7,10,11,12] ?_|simp only[kV,simprocAttr,aa,cC,Option.map_some,gv2,hv4,hv,hv7,pv]|refine aN ?_);exact⟨i+1,h,by rw[f1,f2];exact (Sub.toG [1,2,4,5,10,11,12] [7,38]),by omega⟩
  ·rw[if_neg h0,List.append_nil] at hst;(repeat first|with_reducible refine kp [1,2,4,5,10,11,12,13] ?_|simp only[kV,simprocAttr,aa,cC,Option.map_some,hI]|refine aN ?_);(try simp only[kV,simprocAttr,aa,cC,Option.map_some,hI,g1,h,gv,hv4,hv]);refine ulk ?_;(repeat first|with_reducible refine kp [1,2,4,5,7,8,10,11,12,21] ?_|simp only[kV,simprocAttr,aa,cC,Option.map_some,hI,g1,h,gv,hv4,hv]|refine aN ?_);(try simp only[kV,simprocAttr,aa,cC,Option.map_some,h0]);refine ulk ?_;(repeat first|with_reducible refine kp [1,2,4,5,10,11,12] ?_|simp only[kV,simprocAttr,aa,cC,Option.map_some,h0]|refine aN ?_);exact⟨i+1,h,by rw[hst];exact (Sub.toG [1,2,4,5,10,11,12] [7,38]),by omega⟩
 ·have hI:¬ (i:Int)<(a.length:Int):=by omega
  obtain rfl:i=a.length:=by omega
  rw[List.take_length];(repeat first|with_reducible refine kp [1,2,4,5,10,11,12,13] ?_|simp only[kV,simprocAttr,aa,cC,Option.map_some,hI]|refine aN ?_);refine ulk ?_;(repeat first|with_reducible refine kp [2,4,5] ?_|simp only[kV,simprocAttr,aa,cC,Option.map_some,hI]|refine aN ?_);refine⟨_,_,mc,ulc ?_⟩;(repeat first|with_reducible refine kp [4] ?_|simp only[kV,simprocAttr,aa,cC,Option.map_some,ae,ai,ah,af]|refine aN ?_)
section
variable {w0:World}{base:Bs}{nt:Nat}{loc:a8}{s:St}{a:Act}{w:World}{OT:List TypeId}
theorem Rel.cut (h:Rel w0 base nt loc s a w){i:Nat} (k:Nat){T:TypeId}{sz:Nat}{l:List D} (hi:i≠aS) (hm:s.m i=some ⟨T,sz,.row l,false⟩):Rel w0 base nt loc ⟨s.r,upd s.m i (some ⟨T,sz,.row (l.take k),false⟩)⟩ a w:=by
 have hother:∀j o,upd s.m i (some ⟨T,sz,.row (l.take k),false⟩) j=some o→∃o0,s.m j=some o0∧o0.frz=o.frz:=by
  intro j o ho;by_cases e:j=i
  ·subst e;rw[aE] at ho;cases ho;exact⟨_,hm,rfl⟩
  ·rw[aC _ _ e] at ho;exact⟨o,ho,rfl⟩
 have hN:∀b,NB base s.m loc w b→NB base (upd s.m i (some ⟨T,sz,.row (l.take k),false⟩)) loc w b:=by
  rintro b hbN;refine⟨hbN.1,hbN.2.1,?_⟩;rintro⟨j,o,Lj,h1,h2,h3,h4,h5⟩;obtain⟨o0,g1,g2⟩:=hother j o h1;exact hbN.2.2 ⟨j,o0,Lj,g1,g2.trans h2,h3,h4,h5⟩
 refine⟨h.ext,h.defers,h.size,h.low,?_,fun t=>(h.tmps t).mono (fun _ _=>rfl) hN (fun _ _ h=>h),?_,?_,h.keepL.put fun e=>absurd e hi⟩
 ·intro j hj;dsimp only at hj;by_cases e:j=i
  ·subst e;rw[aE] at hj;cases hj
  ·rw[aC _ _ e] at hj;exact h.dom j hj
 ·intro j o ho;dsimp only at ho;by_cases e:j=i
  ·subst e;rw[aE] at ho;cases ho;obtain⟨L,hL,hok⟩:=h.objs j _ hm;refine⟨L,hL,hok.sz,fun hn => ?_,fun hn => ?_⟩
   ·have:=hok.nil hn;simp only[Cont.row.injEq] at this;subst this;simp
   obtain⟨c,fr,k1,k2,k3,k4,k5⟩:=hok.at_ hn;have k3':=k3.mono (w':=w) (loc':=loc) (fun _ _=>rfl) hN (fun _ _ h=>h);refine⟨c,fr,k1,k2,?_,k4,fun hf=>by cases hf⟩;obtain⟨c1,c2,c3⟩:=k3';refine⟨?_,fun e he=>c2 e (List.mem_of_mem_take he),fun x e y d hx hy => ?_⟩
   ·have:(l.take k).length*sz≤l.length*sz:=Nat.mul_le_mul_right _ (by rw[List.length_take];omega);exact Nat.le_trans (Nat.add_le_add_left this _) c1
   ·refine c3 x e y d ?_ hy;rw[List.getElem?_take] at hx;split at hx
    ·exact hx
    ·cases hx
  ·rw[aC _ _ e] at ho;obtain⟨L,hL,hok⟩:=h.objs j o ho;refine⟨L,hL,hok.sz,hok.nil,fun hn => ?_⟩;obtain⟨c,fr,k1,k2,k3,k4,k5⟩:=hok.at_ hn;exact⟨c,fr,k1,k2,k3.mono (fun _ _=>rfl) hN (fun _ _ h=>h),k4,fun hf=>hN _ (k5 hf)⟩
 ·intro id id' o o' L L' h1 h2 h3 h4 h5 h6 h7 h8;obtain⟨o0,g1,g2⟩:=hother id o h1;obtain⟨o1,g3,g4⟩:=hother id' o' h2;exact h.inj id id' o0 o1 L L' g1 g3 (g2.trans h3) h4 h5 h6 h7 h8
theorem Sub.cut {i:Nat} (k:Nat){T:TypeId}{sz:Nat}{l:List D}{r:Nat→AV}{m:Mem} (hi:i≠aS) (hm:m i=some ⟨T,sz,.row l,false⟩):Sub OT ⟨r,m⟩ ⟨r,upd m i (some ⟨T,sz,.row (l.take k),false⟩)⟩:=by
 rintro C a w rfl ⟨⟨loc,hr⟩,h2⟩;refine⟨⟨_,hr.cut k hi hm⟩,fun j o ho => ?_⟩;dsimp only at ho;by_cases e:j=i
 ·subst e;rw[aE] at ho;cases ho;exact h2 j (⟨T,sz,.row l,false⟩:AObj) hm
 ·rw[aC _ _ e] at ho;exact h2 j o ho
theorem Sub.cutG (i k:Nat) (T:TypeId) (sz:Nat) (l:List D){R:List (Nat×AV)}{M:List (Nat×AObj)}{m':Mem} (hm:ay M i=some ⟨T,sz,.row l,false⟩) (e:ay (eR i ⟨T,sz,.row (l.take k),false⟩ M)=m') (hi:i≠aS:=by decide):Sub OT ⟨ar R,ay M⟩ ⟨ar R,m'⟩:=by
 rw[←e,←jV];exact Sub.cut k hi hm
end
end Go.Proofs.YtbnhgnhgbhjkcaaGreat.M
