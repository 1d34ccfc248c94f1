/- Lemmas. -/
import Derived.Test.YtbnhgnhgbhjkcaaGreatQ42
set_option linter.defProp false
set_option linter.unusedSimpArgs false
set_option linter.unusedVariables false
namespace Go.Proofs.YtbnhgnhgbhjkcaaGreat.M
set_option linter.unusedSimpArgs false
open Go.RowKit
theorem li:(((0:Int)+1=1∧(1:Int)+1=2)∧(2:Int)+1=3∧(3:Int)+1=4)∧(((3:Int)-1=2∧(2:Int)-1=1)∧(1:Int)-1=0∧(0:Int)-1 = -1)∧((((0:Int)<4∧(1:Int)<4)∧(2:Int)<4∧(3:Int)<4)∧¬ (4:Int)<4)∧((((0:Int)≤0∧(0:Int)≤1)∧(0:Int)≤2∧(0:Int)≤3)∧¬ (0:Int)≤-1)∧(Int.toNat 2=2∧Int.toNat 3=3):=by decide
def csI:=an li (an @Nat.mul_one (an @and_false (an @false_and (an @Nat.zero_add (an csM csV)))))
def cmpI (a b:Int):Int:=if a<b then -1 else if b<a then 1 else 0
theorem iG (a:Int):Con Tryz.prog [] 149 [J a] (.bool false):=by
 refine qV.con rfl (by simp) ?_;(repeat first|with_reducible refine kp [0,2] ?_|simp only[kV,simprocAttr,csI,aP,af,ai,aq,ah]|refine aN ?_)
theorem jA (a b:Int):Con Tryz.prog [] 132 [J a,J b] (J (cmpI a b)):=by
 by_cases h1:a<b
 ·refine kC.con rfl (by simp) ?_;(repeat first|with_reducible refine kp [0,1] ?_|simp only[kV,simprocAttr,csI,ax,h1]|refine aN ?_);refine⟨_,cx (iG a),ulc ?_⟩;(repeat first|with_reducible refine kp [0,1,5] ?_|simp only[kV,simprocAttr,csI]|refine aN ?_);refine⟨_,cx (iG b),ulc ?_⟩;(repeat first|with_reducible refine kp [0,1,5,6,11] ?_|simp only[kV,simprocAttr,csI]|refine aN ?_);refine ulk ?_;(repeat first|with_reducible refine kp [0,1,6,13] ?_|simp only[kV,simprocAttr,csI]|refine aN ?_);(try simp only[kV,simprocAttr,csI,h1]);refine ulk ?_;(repeat first|with_reducible refine kp [0,1,16] ?_|simp only[kV,simprocAttr,csI,h1]|refine aN ?_);refine ulk ?_;(repeat first|with_reducible refine kp [4] ?_|simp only[kV,simprocAttr,csI,af,ai,aq,ah]|refine aN ?_);unfold cmpI;rw[if_pos h1]
 ·by_cases h2:b<a
  ·refine kC.con rfl (by simp) ?_;(repeat first|with_reducible refine kp [0,1] ?_|simp only[kV,simprocAttr,csI,ax,h1]|refine aN ?_);refine⟨_,cx (iG a),ulc ?_⟩;(repeat first|with_reducible refine kp [0,1,5] ?_|simp only[kV,simprocAttr,csI]|refine aN ?_);refine⟨_,cx (iG b),ulc ?_⟩;(repeat first|with_reducible refine kp [0,1,5,6,11] ?_|simp only[kV,simprocAttr,csI]|refine aN ?_);refine ulk ?_;(repeat first|with_reducible refine kp [0,1,6,13] ?_|simp only[kV,simprocAttr,csI]|refine aN ?_);(try simp only[kV,simprocAttr,csI,h1]);refine ulk ?_;(repeat first|with_reducible refine kp [0,1,16] ?_|simp only[kV,simprocAttr,csI,h1]|refine aN ?_);(try simp only[kV,simprocAttr,csI,h2]);refine ulk ?_;(repeat first|with_reducible refine kp [0,1,19] ?_|simp only[kV,simprocAttr,csI,h2]|refine aN ?_);refine ulk ?_;(repeat first|with_reducible refine kp [4] ?_|simp only[kV,simprocAttr,csI,af,ai,aq,ah]|refine aN ?_);unfold cmpI;rw[if_neg h1,if_pos h2]
  ·refine kC.con rfl (by simp) ?_;(repeat first|with_reducible refine kp [0,1] ?_|simp only[kV,simprocAttr,csI,ax,h1]|refine aN ?_);refine⟨_,cx (iG a),ulc ?_⟩;(repeat first|with_reducible refine kp [0,1,5] ?_|simp only[kV,simprocAttr,csI]|refine aN ?_);refine⟨_,cx (iG b),ulc ?_⟩;(repeat first|with_reducible refine kp [0,1,5,6,11] ?_|simp only[kV,simprocAttr,csI]|refine aN ?_);refine ulk ?_;(repeat first|with_reducible refine kp [0,1,6,13] ?_|simp only[kV,simprocAttr,csI]|refine aN ?_);(try simp only[kV,simprocAttr,csI,h1]);refine ulk ?_;(repeat first|with_reducible refine kp [0,1,16] ?_|simp only[kV,simprocAttr,csI,h1]|refine aN ?_);(try simp only[kV,simprocAttr,csI,h2]);refine ulk ?_;(repeat first|with_reducible refine kp [0,1,19] ?_|simp only[kV,simprocAttr,csI,h2]|refine aN ?_);refine ulk ?_;(repeat first|with_reducible refine kp [4] ?_|simp only[kV,simprocAttr,csI,af,ai,aq,ah]|refine aN ?_);unfold cmpI;rw[if_neg h1,if_neg h2]
def ck:List Int→List Int→Int
 |a::l,b::m=>if cmpI a b=0 then ck l m else cmpI a b
 |_,_=>0
theorem iH {a b:Int}:cmpI a b=0↔a=b:=by
 unfold cmpI;split
 ·omega
 ·split<;>omega
theorem lO {a b:Int}:cmpI a b<0↔a<b:=by
 unfold cmpI;split
 ·omega
 ·split<;>omega
theorem oP:∀{a b:List Int},ck a b<0↔Mp.gtL b a=true
 |x::l,y::m=>by
  rw[ck,Mp.gtL];by_cases h:x=y
  ·rw[if_pos (iH.2 h),if_pos h.symm];exact oP
  ·rw[if_neg (fun e=>h (iH.1 e)),if_neg (fun e=>h e.symm),lO,z8T]
 |[],[]=>by simp[ck,Mp.gtL]
 |[],_::_=>by simp[ck,Mp.gtL]
 |_::_,[]=>by simp[ck,Mp.gtL]
theorem uA:∀{a b:List Int},ck b a<0↔Mp.gtL (b.map fun x => -x) (a.map fun x => -x)=true
 |x::l,y::m=>by
  rw[ck,z89,z89,Mp.gtL];by_cases h:x=y
  ·rw[if_pos (iH.2 h.symm),if_pos (by omega)];exact uA
  ·rw[if_neg (fun e=>h (iH.1 e).symm),if_neg (by omega),lO,z8T];omega
 |[],[]=>by simp[ck,Mp.gtL]
 |[],_::_=>by simp[ck,Mp.gtL]
 |_::_,[]=>by simp[ck,Mp.gtL]
def fu (ord:Int) (a b:List Int):Int:=
 if ord≠0∧cmpI a.sum b.sum≠0 then cmpI a.sum b.sum else if ord=2 then ck b.reverse a.reverse else ck a b
theorem zaz (ord:Int) (a b:List Int):fu ord a b<0↔Mp.ahead ord b a=true:=by
 unfold fu Mp.ahead Mp.key;by_cases h0:ord=0
 ·rw[if_neg (fun h=>h.1 h0),if_neg (by omega),if_pos h0,if_pos h0];exact oP
 ·rw[if_neg h0,if_neg h0];by_cases hs:cmpI a.sum b.sum=0
  ·rw[if_neg (fun h=>h.2 hs)];have hs2:=iH.1 hs;by_cases h2:ord=2
   ·rw[if_pos h2,if_pos h2,if_pos h2,Mp.gtL,if_pos hs2.symm];exact uA
   ·rw[if_neg h2,if_neg h2,if_neg h2,Mp.gtL,if_pos hs2.symm];exact oP
  ·rw[if_pos ⟨h0,hs⟩];have hs2:¬ b.sum=a.sum:=fun e=>hs (iH.2 e.symm)
   by_cases h2:ord=2
   ·rw[if_pos h2,if_pos h2,Mp.gtL,if_neg hs2,lO,z8T]
   ·rw[if_neg h2,if_neg h2,Mp.gtL,if_neg hs2,lO,z8T]
abbrev Ex4:=Int×Int×Int×Int
abbrev moD (e:Ex4):D:=.agg [J e.1,J e.2.1,J e.2.2.1,J e.2.2.2]
abbrev moL (e:Ex4):List Int:=[e.1,e.2.1,e.2.2.1,e.2.2.2]
def Ge (e:Ex4):Prop:=(0≤e.1∧e.1≤1000000000000)∧(0≤e.2.1∧e.2.1≤1000000000000)∧(0≤e.2.2.1∧e.2.2.1≤1000000000000)∧(0≤e.2.2.2∧e.2.2.2≤1000000000000)
theorem oQ (e:Ex4){k:Nat} (h:k<4):([J e.1,J e.2.1,J e.2.2.1,J e.2.2.2]:List D)[k]? = some (J ((moL e).getD k 0)):=by
 match k,h with
 |0,_=>rfl
 |1,_=>rfl
 |2,_=>rfl
 |3,_=>rfl
theorem uB (e:Ex4){k:Nat} (h:k<4):((moL e).take (k+1)).sum=((moL e).take k).sum+(moL e).getD k 0:=by
 match k,h with
 |0,_=>simp[moL]
 |1,_=>simp[moL]
 |2,_=>simp[moL];omega
 |3,_=>simp[moL];omega
theorem uC {e:Ex4} (h:Ge e){k:Nat} (hk:k<4):0≤(moL e).getD k 0∧(moL e).getD k 0≤1000000000000:=by
 obtain⟨h1,h2,h3,h4⟩:=h
 match k,hk with
 |0,_=>exact h1
 |1,_=>exact h2
 |2,_=>exact h3
 |3,_=>exact h4
set_option maxRecDepth 20000 in
theorem uD (e:Ex4) (h:Ge e):Con Tryz.prog [] 133 [moD e] (J (moL e).sum):=by
 have hb:∀k,k≤4→0≤((moL e).take k).sum∧((moL e).take k).sum≤1000000000000*k:=by
  intro k;induction k with
  |zero=>intro _;simp
  |succ k ih =>
   intro hk;have:=uC h (k:=k) (by omega);have:=ih (by omega);rw[uB e (by omega)];omega
 have hfin:(moL e).sum=((moL e).take 4).sum:=rfl;have hg:=fun k (hk:k<4)=>oQ e hk
 have hs4:=fun k (hk:k<4)=>uB e hk
 have hbn:=fun k (hk:k<4)=>uC h hk
 rw[hfin];generalize hm:moL e=m at *;obtain⟨a,b,c,d⟩:=e;simp only at hg;refine HJ.con rfl (by simp) ?_;(repeat first|simp only[kV,simprocAttr,csI,aP]|refine aN ?_);refine kp [1] ?_;(repeat first|simp only[kV,simprocAttr,csI,aP]|refine aN ?_);refine kp [1,3] ?_;(repeat first|simp only[kV,simprocAttr,csI,aP]|refine aN ?_);refine kp [3,6,7] ?_;(repeat first|simp only[kV,simprocAttr,csI,aP]|refine aN ?_);refine aB (ι:=Nat) (fun k=>k≤4) (fun k=>⟨ar [(3,.p (J (m.take k).sum)),(6,.p (.agg [J a,J b,J c,J d])),(7,.p (J k))],au []⟩) (fun k=>4-k) 0 (z9O _) (Sub.toG [3,6,7] [1]) ?_;intro k hk;have hbk:=hb k hk;by_cases hk4:k<4
 ·have hI:(k:Int)<4:=by omega
  have hgk:=hg k hk4;have hsk:=(hs4 k hk4).symm;have hbk2:=hbn k hk4;generalize hy:m.getD k 0=y at *;generalize hz:(m.take k).sum=z at *;generalize hz2:(m.take (k+1)).sum=z2 at *;(repeat first|with_reducible refine kp [3,6,7,8] ?_|simp only[kV,simprocAttr,csI,hI]|refine aN ?_);(try simp only[kV,simprocAttr,csI,hI,hgk,hsk]);refine ulk ?_;(repeat first|with_reducible refine kp [3,5,6,7] ?_|simp only[kV,simprocAttr,csI,hI,hgk,hsk]|refine aN ?_);exact⟨k+1,hk4,by rw[hz2];exact (Sub.toG [3,6,7] [1]),by omega⟩
 ·have hI:¬ (k:Int)<4:=by omega
  obtain rfl:k=4:=by omega
  (repeat first|with_reducible refine kp [3,6,7,8] ?_|simp only[kV,simprocAttr,csI,hI]|refine aN ?_);refine ulk ?_;(repeat first|with_reducible refine kp [2,3] ?_|simp only[kV,simprocAttr,csI,af,ai,aq,ah,hI]|refine aN ?_)
set_option linter.unusedSimpArgs false
set_option maxRecDepth 20000
set_option maxHeartbeats 2000000
open Go.RowKit
theorem rX {l:List Int}{k:Nat} (h:k<l.length):l.drop k=l.getD k 0::l.drop (k+1):=by
 rw[z9k h];simp[h]
theorem Tq {T T':Nat} (a b:List Int) (n:Nat) (ha:a.length=n) (hb:b.length=n) (hn:n≤1000000):Con Tryz.prog [] 134 [.list T 1 (a.map (D.int .i64)),.list T' 1 (b.map (D.int .i64))] (J (ck a b)):=by
 refine qW.con rfl (by simp) ?_;(repeat first|simp only[kV,simprocAttr,csI,ax]|refine aN ?_);refine kp [0,1] ?_;(repeat first|simp only[kV,simprocAttr,csI,ax]|refine aN ?_);refine kp [0,1,9,10,11] ?_;(repeat first|simp only[kV,simprocAttr,csI,ax]|refine aN ?_);refine aB (ι:=Nat) (fun k=>k≤n∧ck (a.drop k) (b.drop k)=ck a b) (fun k=>⟨ar [(0,.p (.list T 1 (a.map (D.int .i64)))),(1,.p (.list T' 1 (b.map (D.int .i64)))),(9,.p (.list T 1 (a.map (D.int .i64)))),(10,.p (J a.length)),(11,.p (J k))],au []⟩) (fun k=>n-k) 0 ⟨z9O _,rfl⟩ (Sub.toG [0,1,9,10,11] []) ?_;rintro k ⟨hk,hI⟩;by_cases h:k<n
 ·have hI1:(k:Int)<(a.length:Int):=by omega
  have hI2:¬ (b.length:Int)≤(k:Int):=by omega
  have hI3:(k:Int)<(b.length:Int):=by omega
  rw[rX (by omega:k<a.length),rX (by omega:k<b.length),ck] at hI;by_cases g:cmpI (a.getD k 0) (b.getD k 0)=0
  ·rw[if_pos g] at hI;(repeat first|with_reducible refine kp [0,1,9,10,11,12] ?_|simp only[kV,simprocAttr,csI,hI1]|refine aN ?_);(try simp only[kV,simprocAttr,csI,hI1,hI2]);refine ulk ?_;(repeat first|with_reducible refine kp [0,1,5,6,9,10,11,19] ?_|simp only[kV,simprocAttr,csI,hI1,hI2]|refine aN ?_);(try simp only[kV,simprocAttr,csI,hI1,hI2,hI3]);refine ulk ?_;(repeat first|with_reducible refine kp [0,1,5,6,7,9,10,11] ?_|simp only[kV,simprocAttr,csI,hI1,hI2,hI3]|refine aN ?_);refine⟨_,cx (jA (a.getD k 0) (b.getD k 0)),ulc ?_⟩;(repeat first|with_reducible refine kp [0,1,8,9,10,11,28] ?_|simp only[kV,simprocAttr,csI,g]|refine aN ?_);refine ulk ?_;(repeat first|with_reducible refine kp [0,1,9,10,11] ?_|simp only[kV,simprocAttr,csI,g]|refine aN ?_);exact⟨k+1,⟨h,hI⟩,(Sub.toG [0,1,9,10,11] []),by omega⟩
  ·rw[if_neg g] at hI;(repeat first|with_reducible refine kp [0,1,9,10,11,12] ?_|simp only[kV,simprocAttr,csI,hI1]|refine aN ?_);(try simp only[kV,simprocAttr,csI,hI1,hI2]);refine ulk ?_;(repeat first|with_reducible refine kp [0,1,5,6,9,10,11,19] ?_|simp only[kV,simprocAttr,csI,hI1,hI2]|refine aN ?_);(try simp only[kV,simprocAttr,csI,hI1,hI2,hI3]);refine ulk ?_;(repeat first|with_reducible refine kp [0,1,5,6,7,9,10,11] ?_|simp only[kV,simprocAttr,csI,hI1,hI2,hI3]|refine aN ?_);refine⟨_,cx (jA (a.getD k 0) (b.getD k 0)),ulc ?_⟩;(repeat first|with_reducible refine kp [0,1,8,9,10,11,28] ?_|simp only[kV,simprocAttr,csI,g]|refine aN ?_);refine ulk ?_;(repeat first|with_reducible refine kp [4] ?_|simp only[kV,simprocAttr,csI,af,ai,aq,ah,g]|refine aN ?_);rw[hI]
 ·have hI1:¬ (k:Int)<(a.length:Int):=by omega
  have hI2:¬ (a.length:Int)<(b.length:Int):=by omega
  rw[z9l (by omega:a.length≤k),z9l (by omega:b.length≤k)] at hI;(repeat first|with_reducible refine kp [0,1,9,10,11,12] ?_|simp only[kV,simprocAttr,csI,hI1]|refine aN ?_);(try simp only[kV,simprocAttr,csI,hI1,hI2]);refine ulk ?_;(repeat first|with_reducible refine kp [0,1,35] ?_|simp only[kV,simprocAttr,csI,hI1,hI2]|refine aN ?_);refine ulk ?_;(repeat first|with_reducible refine kp [4] ?_|simp only[kV,simprocAttr,csI,af,ai,aq,ah,hI1,hI2]|refine aN ?_);rw[←hI];rfl
theorem rY (e:Ex4){k:Nat} (h:k<4):((moL e).take (k+1)).reverse=(moL e).getD k 0::((moL e).take k).reverse:=by
 match k,h with
 |0,_=>rfl
 |1,_=>rfl
 |2,_=>rfl
 |3,_=>rfl
theorem rZ (e:Ex4):(moL e).map (D.int .i64)=[J e.1,J e.2.1,J e.2.2.1,J e.2.2.2]:=rfl
theorem r5 (n ord:Int) (a b:Ex4) (z:Int) (h0:ord≠0→cmpI (moL a).sum (moL b).sum=0) (hz:z=fu ord (moL a) (moL b)) :
  cw [94,143] (ConX Tryz.prog []) qX (af (J z) [(6,none)]) ⟨ar [(3,.ptr 3 0 0),(4,.ptr 4 0 0),(5,.ptr 5 0 0)],au [(3,⟨94,2,.box (.p (.agg [J n,J ord])),false⟩),(4,⟨143,4,.box (.p (moD a)),true⟩),(5,⟨143,4,.box (.p (moD b)),true⟩)]⟩:=by
 have hcm:z=if ord=2 then ck (moL b).reverse (moL a).reverse else ck (moL a) (moL b):=by
  rw[hz];unfold fu;rw[if_neg];rintro⟨x1,x2⟩;exact x2 (h0 x1)
 by_cases h2:ord=2
 ·rw[if_pos h2] at hcm;have hga:=fun k (hk:k<4)=>oQ a hk
  have hgb:=fun k (hk:k<4)=>oQ b hk
  have hra:=fun k (hk:k<4)=>rY a hk
  have hrb:=fun k (hk:k<4)=>rY b hk
  have hz4:ck ((moL b).take 4).reverse ((moL a).take 4).reverse=z:=by rw[hcm];rfl
  have h00:ck ((moL b).take 0).reverse ((moL a).take 0).reverse=0:=rfl;generalize hma:moL a=ma at *;generalize hmb:moL b=mb at *;obtain⟨a0,a1,a2,a3⟩:=a;obtain⟨b0,b1,b2,b3⟩:=b;simp only at hga hgb;skip
  (repeat first|with_reducible refine kp [4,5,23] ?_|simp only[kV,simprocAttr,csI,h2]|refine aN ?_);refine ulk ?_;(repeat first|simp only[kV,simprocAttr,csI,h2]|refine aN ?_);refine kp [4,5,8] ?_;(repeat first|simp only[kV,simprocAttr,csI,h2]|refine aN ?_);refine aB (ι:=Nat) (fun k=>k≤4∧ck (mb.take k).reverse (ma.take k).reverse=z) (fun k=>⟨ar [(4,.ptr 4 0 0),(5,.ptr 5 0 0),(8,.p (J ((k:Int)-1)))],au [(4,⟨143,4,.box (.p (.agg [J a0,J a1,J a2,J a3])),true⟩),(5,⟨143,4,.box (.p (.agg [J b0,J b1,J b2,J b3])),true⟩)]⟩) (fun k=>k) 4 ⟨z95 _,hz4⟩ (Sub.toG [4,5,8] [3]) ?_;rintro k ⟨hk,hI⟩;rcases k with _ | k
  ·rw[h00] at hI;have hn:¬ (0:Int)≤((0:Nat):Int)-1:=by omega
   have hn2:¬ (0:Int)≤(0:Int)-1:=by omega
   (repeat first|with_reducible refine kp [4,5,8,25] ?_|simp only[kV,simprocAttr,csI,hn,hn2]|refine aN ?_);refine ulk ?_;(repeat first|with_reducible refine kp [6] ?_|simp only[kV,simprocAttr,csI,af,ai,aq,ah,hn,hn2]|refine aN ?_);rw[hI]
  ·have hk4:k<4:=by omega
   have e1:((k+1:Nat):Int)-1=(k:Int):=by omega
   have e2:(k:Int)+1-1=(k:Int):=by omega
   have hp:(0:Int)≤(k:Int):=by omega
   have h4:(k:Int)<4:=by omega
   have ga:=hga k hk4;have gb:=hgb k hk4;rw[hra k hk4,hrb k hk4,ck] at hI;generalize ma.getD k 0=x at *;generalize mb.getD k 0=y at *;by_cases g:cmpI y x=0
   ·rw[if_pos g] at hI;(repeat first|with_reducible refine kp [4,5,8,25] ?_|simp only[kV,simprocAttr,csI,e1,e2,hp]|refine aN ?_);(try simp only[kV,simprocAttr,csI,e1,e2,hp,ga,gb,h4]);refine ulk ?_;(repeat first|with_reducible refine kp [4,5,8] ?_|simp only[kV,simprocAttr,csI,e1,e2,hp,ga,gb,h4]|refine aN ?_);refine⟨_,cx (jA y x),ulc ?_⟩;(repeat first|with_reducible refine kp [4,5,8,9,36] ?_|simp only[kV,simprocAttr,csI,g]|refine aN ?_);(try simp only[kV,simprocAttr,csI,g,e1,e2]);refine ulk ?_;(repeat first|with_reducible refine kp [4,5,8] ?_|simp only[kV,simprocAttr,csI,g,e1,e2]|refine aN ?_);exact⟨k,⟨by omega,hI⟩,(Sub.toG [4,5,8] [3]),by omega⟩
   ·rw[if_neg g] at hI;(repeat first|with_reducible refine kp [4,5,8,25] ?_|simp only[kV,simprocAttr,csI,e1,e2,hp]|refine aN ?_);(try simp only[kV,simprocAttr,csI,e1,e2,hp,ga,gb,h4]);refine ulk ?_;(repeat first|with_reducible refine kp [4,5,8] ?_|simp only[kV,simprocAttr,csI,e1,e2,hp,ga,gb,h4]|refine aN ?_);refine⟨_,cx (jA y x),ulc ?_⟩;(repeat first|with_reducible refine kp [4,5,8,9,36] ?_|simp only[kV,simprocAttr,csI,g]|refine aN ?_);refine ulk ?_;(repeat first|with_reducible refine kp [6] ?_|simp only[kV,simprocAttr,csI,af,ai,aq,ah,g]|refine aN ?_);rw[hI]
 ·rw[if_neg h2] at hcm;have hS:=Tq (T:=1000000) (T':=1000000) (moL a) (moL b) 4 rfl rfl (by omega);rw[rZ,rZ,←hcm] at hS;obtain⟨a0,a1,a2,a3⟩:=a;obtain⟨b0,b1,b2,b3⟩:=b;simp only at hS;skip
  (repeat first|with_reducible refine kp [4,5,23] ?_|simp only[kV,simprocAttr,csI,h2]|refine aN ?_);refine ulk ?_;(repeat first|with_reducible refine kp [4,5] ?_|simp only[kV,simprocAttr,csI,h2]|refine aN ?_);refine⟨_,cx (hS),ulc ?_⟩;(repeat first|with_reducible refine kp [6] ?_|simp only[kV,simprocAttr,csI,af,ai,aq,ah]|refine aN ?_)
theorem Tr (n ord:Int) (a b:Ex4) (ha:Ge a) (hb:Ge b):Con Tryz.prog [] 111 [.agg [J n,J ord],moD a,moD b] (J (fu ord (moL a) (moL b))):=by
 have ta:=uD a ha;have tb:=uD b hb;have tc:=jA (moL a).sum (moL b).sum;by_cases h0:ord=0
 ·subst h0;refine kD.con rfl (by simp) ?_;(repeat first|simp only[kV,simprocAttr,csI,ci]|refine aN ?_);refine nG 4 _ 5 _ [3,4,5] (by rfl) (by rfl) ?_;refine ulk ?_;(repeat first|with_reducible refine kp [3,4,5,12] ?_|simp only[kV,simprocAttr,csI]|refine aN ?_);refine ulk ?_;(repeat first|simp only[kV,simprocAttr,csI]|refine aN ?_);exact⟨_,(Sub.toG [3,4,5] []),r5 n 0 a b _ (fun h=>absurd rfl h) rfl⟩
 ·have hcm:cmpI (moL a).sum (moL b).sum≠0→fu ord (moL a) (moL b)=cmpI (moL a).sum (moL b).sum:=fun h=>by
   unfold fu;rw[if_pos ⟨h0,h⟩]
  have hrest:=fun z h=>r5 n ord a b z (fun _=>h)
  generalize (moL a).sum=sa at *;generalize (moL b).sum=sb at *;by_cases g:cmpI sa sb=0
  ·refine kD.con rfl (by simp) ?_;(repeat first|simp only[kV,simprocAttr,csI,ci,h0]|refine aN ?_);refine nG 4 _ 5 _ [3,4,5] (by rfl) (by rfl) ?_;refine ulk ?_;(repeat first|with_reducible refine kp [3,4,5,12] ?_|simp only[kV,simprocAttr,csI,h0]|refine aN ?_);refine ulk ?_;(repeat first|simp only[kV,simprocAttr,csI,h0]|refine aN ?_);refine⟨_,cx (ta),ulc ?_⟩;(repeat first|simp only[kV,simprocAttr,csI]|refine aN ?_);refine⟨_,cx (tb),ulc ?_⟩;(repeat first|simp only[kV,simprocAttr,csI]|refine aN ?_);refine⟨_,cx (tc),ulc ?_⟩;(repeat first|with_reducible refine kp [3,4,5,7,19] ?_|simp only[kV,simprocAttr,csI,g]|refine aN ?_);refine ulk ?_;(repeat first|simp only[kV,simprocAttr,csI,g]|refine aN ?_);exact⟨_,(Sub.toG [3,4,5] []),hrest _ g rfl⟩
  ·rw[hcm g];refine kD.con rfl (by simp) ?_;(repeat first|simp only[kV,simprocAttr,csI,ci,h0]|refine aN ?_);refine nG 4 _ 5 _ [3,4,5] (by rfl) (by rfl) ?_;refine ulk ?_;(repeat first|with_reducible refine kp [3,4,5,12] ?_|simp only[kV,simprocAttr,csI,h0]|refine aN ?_);refine ulk ?_;(repeat first|simp only[kV,simprocAttr,csI,h0]|refine aN ?_);refine⟨_,cx (ta),ulc ?_⟩;(repeat first|simp only[kV,simprocAttr,csI]|refine aN ?_);refine⟨_,cx (tb),ulc ?_⟩;(repeat first|simp only[kV,simprocAttr,csI]|refine aN ?_);refine⟨_,cx (tc),ulc ?_⟩;(repeat first|with_reducible refine kp [3,4,5,7,19] ?_|simp only[kV,simprocAttr,csI,g]|refine aN ?_);refine ulk ?_;(repeat first|with_reducible refine kp [6] ?_|simp only[kV,simprocAttr,csI,af,ai,aq,ah,g]|refine aN ?_)
set_option linter.unusedSimpArgs false
set_option maxRecDepth 20000
set_option maxHeartbeats 2000000
open Go.RowKit
theorem zbw (t:Tm):(AV.p (tI t)).get 4 4 8 true=some (.p (moD t.2)):=rfl
theorem zbx (t:Tm):(AV.p (tI t)).get 0 4 8 true=some (.p (qI t.1)):=rfl
theorem zby (t:Tm):((tI t).cells.map AV.p).all AV.one=true:=rfl
theorem zbz (T sz:Nat) (k:IntKind) (i:Int):cQ T sz (.int k i) = .int k i:=rfl
def aE:=an @zbz (an @zbw (an @zbx (an @zby (an @r8 (an @r6 (an @List.cons_ne_nil.{0} csV))))))
abbrev rgD (n ord:Int):D:=.agg [J n,J ord]
theorem zbA (n ord:Int) (x y:Tm) (hx:Ge x.2) (hy:Ge y.2):Con Tryz.prog AN 110 [tI x,tI y,.ref (rgD n ord)] (J (fu ord (moL y.2) (moL x.2))):=by
 have hc:=(Tr n ord y.2 x.2 hy hx).mono (A':=AN) (by simp);refine qY.con rfl (by simp) ?_;(repeat first|with_reducible refine kp [2,3,4] ?_|simp only[kV,simprocAttr,aE,ci]|refine aN ?_);refine⟨_,cx (hc),ulc ?_⟩;(repeat first|with_reducible refine kp [5] ?_|simp only[kV,simprocAttr,aE,af,ai,aq,ah]|refine aN ?_)
abbrev ltT (ord:Int) (x y:Tm):Bool:=Mp.ahead ord (moL x.2) (moL y.2)
theorem vm (n ord:Int) (l:List Tm) (h:∀x∈l,Ge x.2):Cmp (rgD n ord) l (ltT ord) (fun x y=>fu ord (moL y.2) (moL x.2)):=
 ⟨fun x hx y hy=>zbA n ord x y (h x hx) (h y hy),fun x _ y _=>zaz ord _ _⟩
theorem vn (ord:Int):Sy.Ord (aI (ltT ord)):=by
 have tot:∀x y:Tm,ltT ord y x=true→ltT ord x y=false:=fun x y h=>Mp.ahead_asymm h
 refine⟨fun x y h => ?_,fun x y z h1 h2 => ?_⟩
 ·unfold aI at *;have:ltT ord y x=true:=by simpa using h
  exact tot _ _ this
 ·unfold aI at *;refine Bool.eq_false_iff.2 fun h => ?_
  by_cases e:moL y.2=moL z.2
  ·have:ltT ord y x=true:=by unfold ltT at *;rw[e];exact h
   rw[this] at h1;cases h1
  ·have h3:ltT ord y z=true:=by
    cases hh:ltT ord y z with
    |true=>rfl
    |false=>exact absurd (Mp.ahead_tot (ord:=ord) (a:=moL y.2) (b:=moL z.2) rfl hh h2) e
   have:=Mp.ahead_trans h3 h;unfold ltT at h1;rw[this] at h1;cases h1
def zr (x:Tm):Bool:=decide (x.1=0)
abbrev zfD:D:=.fn (.func 114) [] []
def Bc (n:Nat) (l:List Tm):Prop:=∀x∈l,Bq n x.1
theorem vp (x:Tm){n:Nat} (hx:Bq n x.1) (hn:n≤2048000000000):Con Tryz.prog AN 114 [tI x] (.bool (zr x)):=by
 have hs:=vk x.1 n hx hn;have hz:decide (d5 x.1=0)=zr x:=by unfold zr;rw[decide_eq_decide];exact jF
 refine rb.con rfl (by simp) ?_;(repeat first|with_reducible refine kp [1] ?_|simp only[kV,simprocAttr,aE,aP]|refine aN ?_);refine⟨_,cx (hs),ulc ?_⟩;(repeat first|with_reducible refine kp [2] ?_|simp only[kV,simprocAttr,aE,af,ai,aq,ah,hz]|refine aN ?_)
def fz (l:List Tm):Nat:=l.findIdx zr
def fzI (l:List Tm):Int:=if fz l<l.length then (fz l:Int) else -1
theorem zbB (l:List Tm){n:Nat} (hb:Bc n l) (hn:n≤2048000000000) (hl:l.length≤1000000000):du Tryz.prog AN 135 0 [LM l,zfD] TT 8 (l.map tI) (.int .i64 (fzI l)) (l.map tI):=by
 refine⟨by decide,by decide,rfl,rfl,fun h0 => ?_,fun h0 => ?_⟩
 ·obtain rfl:l=[]:=by simpa using h0
  have h1:fzI [] = -1:=rfl;rw[h1];have hI:¬ (0:Int)<0:=by omega
  refine mZ.con rfl (by simp) ?_;(repeat first|simp only[kV,simprocAttr,aE,ax]|refine aN ?_);refine kp [0,1] ?_;(repeat first|simp only[kV,simprocAttr,aE,ax]|refine aN ?_);refine kp [0,1,7,8] ?_;(repeat first|simp only[kV,simprocAttr,aE,ax]|refine aN ?_);refine aB (ι:=Unit) (fun _=>True) (fun _=>⟨ar [(0,.p (LM [])),(1,.p zfD),(7,.p (J 0)),(8,.p (J 0))],au []⟩) (fun _=>0) () trivial (Sub.toG [0,1,7,8] []) ?_;intro _ _;(repeat first|with_reducible refine kp [0,1,7,8,9] ?_|simp only[kV,simprocAttr,aE,hI]|refine aN ?_);refine ulk ?_;(repeat first|with_reducible refine kp [4] ?_|simp only[kV,simprocAttr,aE,af,ai,aq,ah,hI]|refine aN ?_)
 ·refine mZ.conL rfl (by simp) rfl (by simp) ?_;(repeat first|simp only[kV,simprocAttr,aE,io]|refine aN ?_);refine kp [0,1] ?_;(repeat first|simp only[kV,simprocAttr,aE,io]|refine aN ?_);refine kp [0,1,7,8] ?_;(repeat first|simp only[kV,simprocAttr,aE,io]|refine aN ?_);refine aB (ι:=Nat) (fun k=>k≤l.length∧∀j,j<k→zr (Sy.at_ l j)=false) (fun k=>⟨ar [(0,.slice 999999 0 l.length),(1,.p zfD),(7,.p (J l.length)),(8,.p (J k))],fh l⟩) (fun k=>l.length-k) 0 ⟨z9O _,fun j hj=>by omega⟩ (Sub.toG [0,1,7,8] []) ?_;rintro k ⟨hk,hz⟩;have hfz:∀k,k≤l.length→(∀j,j<k→zr (Sy.at_ l j)=false)→k≤fz l:=fun k hk hz=>by
   refine Nat.le_of_not_lt fun h => ?_
   have h2:fz l<l.length:=by omega
   have:=List.findIdx_getElem (w:=h2);have h3:=hz (fz l) h;rw[show Sy.at_ l (fz l)=l[fz l] by simp[Sy.at_,h2]] at h3;rw[show zr l[fz l]=true from this] at h3;cases h3
  by_cases h:k<l.length
  ·have hI:(k:Int)<(l.length:Int):=by omega
   have g1:=co h;have hx:=hb _ (at_mem h);have c1:=vp (Sy.at_ l k) hx hn;cases hzk:zr (Sy.at_ l k) with
   |true =>
    have hf:fzI l=(k:Int):=by
     have e1:=hfz k hk hz;have e2:fz l≤k:=by
      refine Nat.le_of_not_lt fun hh => ?_
      have:=List.not_of_lt_findIdx hh;rw[show l[k]=Sy.at_ l k by simp[Sy.at_,h],hzk] at this;simp at this
     unfold fzI;rw[if_pos (by omega)];omega
    rw[hzk] at c1;rw[hf];(repeat first|with_reducible refine kp [0,1,7,8,9] ?_|simp only[kV,simprocAttr,aE,hI]|refine aN ?_);(try simp only[kV,simprocAttr,aE,hI,g1]);refine ulk ?_;(repeat first|with_reducible refine kp [0,1,5,7,8] ?_|simp only[kV,simprocAttr,aE,hI,g1]|refine aN ?_);refine⟨by decide,_,cx (c1),?_⟩;(repeat first|with_reducible refine kp [0,1,5,7,8,16] ?_|simp only[kV,simprocAttr,aE]|refine aN ?_);refine ulk ?_;(repeat first|with_reducible refine kp [4] ?_|simp only[kV,simprocAttr,aE,af,ai,aq,ah]|refine aN ?_);exact ResLt.one rfl (fun m hm=>by cases hm)
   |false =>
    rw[hzk] at c1;(repeat first|with_reducible refine kp [0,1,7,8,9] ?_|simp only[kV,simprocAttr,aE,hI]|refine aN ?_);(try simp only[kV,simprocAttr,aE,hI,g1]);refine ulk ?_;(repeat first|with_reducible refine kp [0,1,5,7,8] ?_|simp only[kV,simprocAttr,aE,hI,g1]|refine aN ?_);refine⟨by decide,_,cx (c1),?_⟩;(repeat first|with_reducible refine kp [0,1,5,7,8,16] ?_|simp only[kV,simprocAttr,aE]|refine aN ?_);refine ulk ?_;(repeat first|with_reducible refine kp [0,1,7,8] ?_|simp only[kV,simprocAttr,aE]|refine aN ?_);exact⟨k+1,⟨h,fun j hj=>by
     by_cases e:j=k
     ·rw[e];exact hzk
     ·exact hz j (by omega)⟩,(Sub.toG [0,1,7,8] []),by omega⟩
  ·have hI:¬ (k:Int)<(l.length:Int):=by omega
   obtain rfl:k=l.length:=by omega
   have hf:fzI l = -1:=by
    have:=hfz _ (z95 _) hz;unfold fzI;rw[if_neg (by omega)]
   rw[hf];(repeat first|with_reducible refine kp [0,1,7,8,9] ?_|simp only[kV,simprocAttr,aE,hI]|refine aN ?_);refine ulk ?_;(repeat first|with_reducible refine kp [4] ?_|simp only[kV,simprocAttr,aE,af,ai,aq,ah,hI]|refine aN ?_);exact ResLt.one rfl (fun m hm=>by cases hm)
def nzF (l:List Tm):List Tm:=l.filter fun x => !zr x
abbrev zD:D:=.agg [.bool false,.list 173 1 [],.bool false,.list 173 1 [],J 0,J 0,J 0,J 0]
def dlF (l:List Tm):List D:=(nzF l).map tI++List.replicate (l.length-(nzF l).length) zD
theorem vq {x:Tm} (h:zr x=true):nzF [x]=[]:=by unfold nzF;rw[List.filter_cons_of_neg (by rw[h];decide),List.filter_nil]
theorem zbC {x:Tm} (h:zr x=false):nzF [x]=[x]:=by unfold nzF;rw[List.filter_cons_of_pos (by rw[h];decide),List.filter_nil]
theorem vr (l:List Tm):(nzF l).length≤l.length:=List.length_filter_le _ _
theorem vt (l:List Tm):(dlF l).length=l.length:=by
 have:=vr l;unfold dlF;simp;omega
theorem pz {l:List Tm}:∀{m:List Tm},(∀j,j<m.length→zr (Sy.at_ m j)=false)→nzF m=m
 |[],_=>rfl
 |x::m,h=>by
  have h0:=h 0 (by simp);have ih:=pz (l:=l) (m:=m) fun j hj=>h (j+1) (by simpa using hj)
  unfold nzF at ih ⊢;rw[List.filter_cons_of_pos (by simpa[Sy.at_] using h0),ih]
theorem pA (a b:List Tm):nzF (a++b)=nzF a++nzF b:=by simp[nzF]
theorem f8 {l:List Tm}{j:Nat} (h:j<l.length):l.take (j+1)=l.take j++[Sy.at_ l j]:=by
 rw[List.take_add_one,z9P h];simp[Sy.at_,h]
theorem zbD {l:List Tm}{i j:Nat} (h:j<i):Sy.at_ (l.take i) j=Sy.at_ l j:=Sy.at_tk l h
theorem zbE (l:List Tm):(fzI l = -1∧nzF l=l)∨∃i,i<l.length∧fzI l=(i:Int)∧nzF (l.take (i+1))=l.take i:=by
 by_cases h:fz l<l.length
 ·right
  refine⟨fz l,h,by unfold fzI;rw[if_pos h],?_⟩;have hz:zr (Sy.at_ l (fz l))=true:=by
   have:=List.findIdx_getElem (w:=h);rw[show Sy.at_ l (fz l)=l[fz l] by simp[Sy.at_,h]];exact this
  rw[f8 h,pA,pz (l:=l) fun j hj => ?_]
  ·have:nzF [Sy.at_ l (fz l)]=[]:=vq hz;rw[this,List.append_nil]
  ·rw[z9N] at hj;rw[zbD (by omega)];have:=List.not_of_lt_findIdx (show j<l.findIdx zr by unfold fz at hj;omega);rw[show Sy.at_ l j=l[j] by simp[Sy.at_,show j<l.length by omega]];simpa using this
 ·left
  refine⟨by unfold fzI;rw[if_neg h],pz (l:=l) fun j hj => ?_⟩;have:=List.not_of_lt_findIdx (show j<l.findIdx zr by unfold fz at h;omega);rw[show Sy.at_ l j=l[j] by simp[Sy.at_,hj]];simpa using this
structure Dl (l q:List Tm) (i j:Nat):Prop where
 len:q.length=l.length
 lo:q.take i=nzF (l.take j)
 hi:q.drop j=l.drop j
 le:i<j
theorem Dl.at_j {l q:List Tm}{i j:Nat} (h:Dl l q i j):Sy.at_ q j=Sy.at_ l j:=by
 have h1:=Sy.at_dr q j 0;have h2:=Sy.at_dr l j 0;rw[h.hi] at h1;exact h1.symm.trans h2
theorem Dl.skip {l q:List Tm}{i j:Nat} (h:Dl l q i j) (hj:j<l.length) (hz:zr (Sy.at_ l j)=true):Dl l q i (j+1):=by
 refine⟨h.len,?_,?_,by have:=h.le;omega⟩
 ·rw[f8 hj,pA,h.lo,vq hz,List.append_nil]
 ·have:=congrArg (List.drop 1) h.hi;rw[List.drop_drop,List.drop_drop] at this;exact this
theorem Dl.keep {l q:List Tm}{i j:Nat} (h:Dl l q i j) (hj:j<l.length) (hz:zr (Sy.at_ l j)=false):Dl l (q.set i (Sy.at_ l j)) (i+1) (j+1):=by
 have hle:=h.le;have hlen:=h.len;refine⟨by rw[z9R,hlen],?_,?_,by omega⟩
 ·have e:(q.set i (Sy.at_ l j)).take (i+1)=q.take i++[Sy.at_ l j]:=by
   rw[List.take_add_one,List.take_set_of_le (z95 _),List.getElem?_set_self (by omega)];rfl
  rw[e,f8 hj,pA,h.lo,zbC hz]
 ·have:=congrArg (List.drop 1) h.hi;rw[List.drop_drop,List.drop_drop] at this;rw[List.drop_set_of_lt (by omega)];exact this
theorem Dl.done {l q:List Tm}{i:Nat} (h:Dl l q i l.length):(nzF l).length=i∧(q.map tI).take i++List.replicate (l.length-i) zD=dlF l:=by
 have h1:=h.lo;rw[z9x] at h1;have h2:(nzF l).length=i:=by
  rw[←h1,z9N,h.len];have:=h.le;omega
 refine⟨h2,?_⟩;unfold dlF;rw[h2,←List.map_take,h1]
theorem vu (l:List Tm){n:Nat} (hb:Bc n l) (hn:n≤2048000000000) (hl:l.length≤1000000000):du Tryz.prog AN 113 0 [LM l,zfD] TT 8 (l.map tI) (.tup [.int .i64 ((nzF l).length:Nat)]) (dlF l):=by
 have ix:=zbB l hb hn hl;refine⟨by decide,by decide,rfl,by rw[vt];simp,fun h0 => ?_,fun h0 => ?_⟩
 ·obtain rfl:l=[]:=by simpa using h0
  have h1:fzI [] = -1:=rfl;rw[h1] at ix;have c1:=ix.x;refine kz.con rfl (by simp) ?_;(repeat first|with_reducible refine kp [0,1] ?_|simp only[kV,simprocAttr,aE,ax]|refine aN ?_);refine⟨_,_,c1,ulc ?_⟩;(repeat first|with_reducible refine kp [0,1,5,12] ?_|simp only[kV,simprocAttr,aE]|refine aN ?_);refine ulk ?_;(repeat first|with_reducible refine kp [4] ?_|simp only[kV,simprocAttr,aE,af,ai,aq,ah]|refine aN ?_);rfl
 ·have hlp:0<l.length:=by
   rcases l with _ | ⟨x,l⟩
   ·exact absurd rfl h0
   ·simp
  have c1:=ix.x;have zcon:=fun x (hx:x∈l)=>vp x (hb x hx) hn
  rcases zbE l with⟨hf,hnz⟩ | ⟨i0,hi0,hf,hlo⟩
  ·rw[hf] at c1;have hd:dlF l=l.map tI:=by unfold dlF;rw[hnz,Nat.sub_self];simp
   rw[hd,hnz];refine kz.conL rfl (by simp) rfl (by simp) ?_;(repeat first|with_reducible refine kp [0,1] ?_|simp only[kV,simprocAttr,aE,io]|refine aN ?_);refine⟨_,_,c1,ulc ?_⟩;(repeat first|with_reducible refine kp [0,1,5,12] ?_|simp only[kV,simprocAttr,aE,h0]|refine aN ?_);refine ulk ?_;(repeat first|with_reducible refine kp [4] ?_|simp only[kV,simprocAttr,aE,af,ai,aq,ah,h0]|refine aN ?_);exact .pre rfl rfl
  ·rw[hf] at c1;have hne:¬ (i0:Int) = -1:=by omega
   refine kz.conL rfl (by simp) rfl (by simp) ?_;(repeat first|with_reducible refine kp [0,1] ?_|simp only[kV,simprocAttr,aE,io]|refine aN ?_);refine⟨_,_,c1,ulc ?_⟩;(repeat first|with_reducible refine kp [0,1,5,12] ?_|simp only[kV,simprocAttr,aE,h0]|refine aN ?_);(try simp only[kV,simprocAttr,aE,h0,hne]);refine ulk ?_;(repeat first|simp only[kV,simprocAttr,aE,h0,hne]|refine aN ?_);refine kp [0,1,5] ?_;(repeat first|simp only[kV,simprocAttr,aE,h0,hne]|refine aN ?_);refine kp [0,1,5,6] ?_;(repeat first|simp only[kV,simprocAttr,aE,h0,hne]|refine aN ?_);refine aB (ι:=Nat×Nat×List Tm) (fun s=>s.2.1≤l.length∧Dl l s.2.2 s.1 s.2.1) (fun s=>⟨ar [(0,.slice 999999 0 l.length),(1,.p zfD),(5,.p (J s.1)),(6,.p (J s.2.1))],fh s.2.2⟩) (fun s=>l.length-s.2.1) (i0,i0+1,l) ⟨hi0,rfl,hlo.symm,rfl,Nat.lt_succ_self _⟩ (Sub.toG [0,1,5,6] [7]) ?_;rintro⟨i,j,q⟩ ⟨hj,hD⟩;simp only at hj hD;have hij:=hD.le;have hql:=hD.len;by_cases h:j<l.length
   ·have hI:(j:Int)<(l.length:Int):=by omega
    have g1:=co (l:=q) (i:=j) (by omega);rw[hD.at_j] at g1;have c2:=zcon _ (at_mem h);cases hz:zr (Sy.at_ l j) with
    |true =>
     rw[hz] at c2;(repeat first|with_reducible refine kp [0,1,5,6,19] ?_|simp only[kV,simprocAttr,aE,hI]|refine aN ?_);(try simp only[kV,simprocAttr,aE,hI,g1,hql]);refine ulk ?_;(repeat first|with_reducible refine kp [0,1,5,6,7] ?_|simp only[kV,simprocAttr,aE,hI,g1,hql]|refine aN ?_);refine⟨by decide,_,cx (c2),ulc ?_⟩;(repeat first|with_reducible refine kp [0,1,5,6,7,29] ?_|simp only[kV,simprocAttr,aE]|refine aN ?_);refine ulk ?_;(repeat first|with_reducible refine kp [0,1,5,6] ?_|simp only[kV,simprocAttr,aE]|refine aN ?_);exact⟨(i,j+1,q),⟨h,hD.skip h hz⟩,(Sub.toG [0,1,5,6] [7]),by simp only;omega⟩
    |false =>
     rw[hz] at c2;(repeat first|with_reducible refine kp [0,1,5,6,19] ?_|simp only[kV,simprocAttr,aE,hI]|refine aN ?_);(try simp only[kV,simprocAttr,aE,hI,g1,hql]);refine ulk ?_;(repeat first|with_reducible refine kp [0,1,5,6,7] ?_|simp only[kV,simprocAttr,aE,hI,g1,hql]|refine aN ?_);refine⟨by decide,_,cx (c2),ulc ?_⟩;(repeat first|with_reducible refine kp [0,1,5,6,7,29] ?_|simp only[kV,simprocAttr,aE]|refine aN ?_);(try simp only[kV,simprocAttr,aE,hql]);refine ulk ?_;(repeat first|with_reducible refine kp [0,1,5,6] ?_|simp only[kV,simprocAttr,aE,hql]|refine aN ?_);exact⟨(i+1,j+1,q.set i (Sy.at_ l j)),⟨h,hD.keep h hz⟩,(Sub.toG [0,1,5,6] [7]),by simp only;omega⟩
   ·have hI:¬ (j:Int)<(l.length:Int):=by omega
    obtain rfl:j=l.length:=by omega
    obtain⟨d1,d2⟩:=hD.done;have hil:i+(l.length-i)=l.length:=by omega
    have hdr:(q.map tI).drop l.length=[]:=z9l (by simp;omega);(repeat first|with_reducible refine kp [0,1,5,6,19] ?_|simp only[kV,simprocAttr,aE,hI]|refine aN ?_);(try simp only[kV,simprocAttr,aE,hI,hql,hil,hdr,d2,d1]);refine ulk ?_;(repeat first|with_reducible refine kp [0,4,5] ?_|simp only[kV,simprocAttr,aE,af,ai,aq,ah,hI,hql,hil,hdr,d2,d1]|refine aN ?_);exact .pre rfl rfl
set_option linter.unusedSimpArgs false
set_option maxRecDepth 20000
open Go.RowKit Go.Proofs.YtbnhgnhgbhjkcaaGreat.Sy
theorem zb1 (rD:D):du Tryz.prog AN 147 0 [LM [],J 0,J 0,cfD rD] TT 8 [] (.tup []) []:=by
 refine⟨by decide,by decide,rfl,rfl,fun _ => ?_,fun h=>absurd rfl h⟩;have hI:¬ (1:Int)<0:=by omega
 refine mW.con rfl (by simp) ?_;(repeat first|simp only[kV,simprocAttr,aE,ws]|refine aN ?_);refine kp [0,1,2,3,8] ?_;(repeat first|simp only[kV,simprocAttr,aE,ws]|refine aN ?_);refine aB (ι:=Unit) (fun _=>True) (fun _=>⟨ar [(0,.p (LM [])),(1,.p (J 0)),(2,.p (J 0)),(3,.p (cfD rD)),(8,.p (J 1))],au []⟩) (fun _=>0) () trivial (Sub.toG [0,1,2,3,8] []) ?_;intro _ _;(repeat first|with_reducible refine kp [0,1,2,3,8,14] ?_|simp only[kV,simprocAttr,aE,hI]|refine aN ?_);refine ulk ?_;(repeat first|simp only[kV,simprocAttr,aE,hI]|refine aN ?_);rfl
theorem zb2 (rD:D):du Tryz.prog AN 131 0 [LM [],J 0,cfD rD] TT 8 [] (.tup []) []:=by
 refine⟨by decide,by decide,rfl,rfl,fun _ => ?_,fun h=>absurd rfl h⟩;have c1:=(zb1 rD).x;have hI:¬ (20:Int)≤0:=by omega
 have hI2:¬ (20:Int)<0:=by omega
 refine mX.con rfl (by simp) ?_;(repeat first|simp only[kV,simprocAttr,aE,ci]|refine aN ?_);refine kp [0,1,2,6] ?_;(repeat first|simp only[kV,simprocAttr,aE,ci]|refine aN ?_);refine kp [0,1,2,6,7,8] ?_;(repeat first|simp only[kV,simprocAttr,aE,ci]|refine aN ?_);refine aB (ι:=Unit) (fun _=>True) (fun _=>⟨ar [(0,.p (LM [])),(1,.p (J 0)),(2,.p (cfD rD)),(6,.p (J 20)),(7,.p (J 0)),(8,.p (J 20))],au []⟩) (fun _=>0) () trivial (Sub.toG [0,1,2,6,7,8] []) ?_;intro _ _;(repeat first|with_reducible refine kp [0,1,2,6,7,8,13] ?_|simp only[kV,simprocAttr,aE,hI]|refine aN ?_);refine ulk ?_;(repeat first|with_reducible refine kp [0,1,2,6,7] ?_|simp only[kV,simprocAttr,aE,hI]|refine aN ?_);refine⟨_,_,c1,?_⟩;(repeat first|simp only[kV,simprocAttr,aE]|refine aN ?_);refine kp [0,1,2,6] ?_;(repeat first|simp only[kV,simprocAttr,aE]|refine aN ?_);refine aB (ι:=Unit) (fun _=>True) (fun _=>⟨ar [(0,.p (LM [])),(1,.p (J 0)),(2,.p (cfD rD)),(6,.p (J 20))],au []⟩) (fun _=>0) () trivial (Sub.toG [0,1,2,6] []) ?_;intro _ _;(repeat first|with_reducible refine kp [0,1,2,6,30] ?_|simp only[kV,simprocAttr,aE,hI2]|refine aN ?_);refine ulk ?_;(repeat first|simp only[kV,simprocAttr,aE,hI2]|refine aN ?_);rfl
theorem zb3 (rD:D) (l:List Tm) (lt:Tm→Tm→Bool) (cz:Tm→Tm→Int) (ho:Ord (aI lt)) (hc:Cmp rD l lt cz) (hl:l.length≤1000000000) :
  du Tryz.prog AN 109 0 [LM l,cfD rD] TT 8 (l.map tI) (.tup []) ((iV rD lt l).map tI):=by
 have hp:=(vZ ho hc hl).2;have hlen:=hp.length_eq;refine⟨by decide,by decide,rfl,by simpa using hlen,fun h0 => ?_,fun h0 => ?_⟩
 ·obtain rfl:l=[]:=by simpa using h0
  have c1:=(zb2 rD).x;refine mY.con rfl (by simp) ?_;(repeat first|simp only[kV,simprocAttr,aE,ax]|refine aN ?_);refine⟨_,_,c1,?_⟩;(repeat first|simp only[kV,simprocAttr,aE]|refine aN ?_);rfl
 ·have hlp:0<l.length:=by
   rcases l with _ | ⟨x,l⟩
   ·exact absurd rfl h0
   ·simp
  have c1:=(ig (by decide) rfl hlp hlen (zcw rD l lt cz ho hc hl hlp)).x;refine mY.conL rfl (by simp) rfl (by simp) ?_;(repeat first|simp only[kV,simprocAttr,aE,io]|refine aN ?_);refine⟨_,_,c1,?_⟩;(repeat first|simp only[kV,simprocAttr,aE,h0]|refine aN ?_);exact ResLt.unit _
end Go.Proofs.YtbnhgnhgbhjkcaaGreat.M
