/- Lemmas. -/
import Derived.Test.YtbnhgnhgbhjkcaaGreatQ33
import Derived.Test.YtbnhgnhgbhjkcaaGreatQ32
import Derived.Test.YtbnhgnhgbhjkcaaGreatQ26
import Derived.Test.YtbnhgnhgbhjkcaaGreatQ3
set_option linter.defProp false
set_option linter.unusedSectionVars false
set_option linter.unusedSimpArgs false
set_option linter.unusedVariables false
namespace Go.Proofs.YtbnhgnhgbhjkcaaGreat.M
set_option linter.unusedSimpArgs false
set_option maxRecDepth 20000
set_option maxHeartbeats 4000000
open Go.RowKit
abbrev bZ (m:Bool) (x:List Int):AObj:=⟨48,2,.box (.p (.agg [.bool m,LJ x])),false⟩
abbrev mM (m n:Bool) (x y o:List Int):=au [(2,bZ m x),(3,bZ n y),(4,bZ false []),(17,⟨3,1,.row (o.map (D.int .i64)),false⟩)]
abbrev mS (m n:Bool) (x y o:List Int) (i j:Nat) (c:Int):St:=⟨ar [(2,.ptr 2 0 0),(3,.ptr 3 0 0),(4,.ptr 4 0 0),(5,.slice 17 0 o.length),(6,.p (.int .i64 i)),(7,.p (.int .i64 c)),(8,.p (.int .i64 j))],mM m n x y o⟩
theorem Lm (m n:Bool) (x y o:List Int) (i j:Nat) (c:Int) (hx:Z4.Dig x) (hy:Z4.Dig y) (hi:i<x.length) (c0:0≤c) (c1:c≤20000) (Q:AExit→St→Prop) (hQ:∀s,Sub [48,3] s (mS m n x y o i j (c+at_ x i*at_ y j))→Q .normal s) :
  cw [48,3] (ConX Tryz.prog []) wx Q (mS m n x y o i j c):=by
 have dx:=hx.at_ i;have dy:=hy.at_ j;have dp:=Z4.mul_bound dx dy;by_cases h:j<y.length
 ·have hI:(j:Int)<(y.length:Int):=by omega
  have hJ:(i:Int)<(x.length:Int):=by omega
  have g1:=atJ h;have g2:=atJ hi;skip
  (repeat first|with_reducible refine kp [2,3,4,5,6,7,8,48] ?_|simp only[kV,simprocAttr,csE]|refine aN ?_);(try simp only[kV,simprocAttr,csE,hI,hJ,h,hi,g1,g2]);refine ulk ?_;(repeat first|simp only[kV,simprocAttr,csE,hI,hJ,h,hi,g1,g2]|refine aN ?_);exact hQ _ (Sub.toG [2,3,4,5,6,7,8] [])
 ·have hI:¬ (j:Int)<(y.length:Int):=by omega
  rw[show at_ y j=0 from bx (by omega),Int.mul_zero,z8Y] at hQ;skip
  (repeat first|with_reducible refine kp [2,3,4,5,6,7,8,48] ?_|simp only[kV,simprocAttr,csE]|refine aN ?_);(try simp only[kV,simprocAttr,csE,hI]);refine ulk ?_;(repeat first|simp only[kV,simprocAttr,csE,hI]|refine aN ?_);exact hQ _ (Sub.toG [2,3,4,5,6,7,8] [])
theorem kE (n i:Nat):at_ (List.replicate n 0) i=0:=by
 simp only[at_,z91,List.getElem?_replicate];split<;>rfl
theorem at_set {l:List Int}{i k:Nat} (h:i≠k) (v:Int):at_ (l.set i v) k=at_ l k:=by
 simp only[at_,z91,List.getElem?_set_ne h]
theorem Ln {V c V0 xb p ok y bj x Bi Bj:Int} (h:V+c*p=V0+x*xb*Bi) (hp:p=Bi*Bj) (hy:c+ok+x*bj=y):V+(y % 10000-ok)*p+y / 10000*(p*10000)=V0+x*(xb+bj*Bj)*Bi:=by
 have e:y=10000*(y / 10000)+y % 10000:=by omega
 generalize y / 10000=q at *;generalize y % 10000=r at *;subst hp;grind
theorem m7 (a b:Int) (hl:(zd a).length+(zd b).length≤900000000000):Con Tryz.prog [] 69 [aH a,aH b] (aH (a*b)):=by
 obtain⟨hx,n1,v1⟩:=cU a;obtain⟨hy,n2,v2⟩:=cU b;have hfin:sg (!(decide (a<0) == decide (b<0))) (Z4.valL (zd a)*Z4.valL (zd b))=a*b:=by rw[vB,mj,mj]
 rw[bh a,bh b];generalize decide (a<0)=m at *;generalize decide (b<0)=n at *;generalize a*b=w at *;generalize zd a=x at *;generalize zd b=y at *;have e1:((x.length:Int)+(y.length:Int)+1).toNat=x.length+y.length+1:=by omega
 refine zgh.con rfl (by simp) ?_;(repeat first|simp only[kV,simprocAttr,csE,ax,e1]|refine aN ?_);refine kp [2,3,4] ?_;(repeat first|simp only[kV,simprocAttr,csE,ax,e1]|refine aN ?_);refine kp [2,3,4,5] ?_;(repeat first|simp only[kV,simprocAttr,csE,ax,e1]|refine aN ?_);refine kp [2,3,4,5,6] ?_;(repeat first|simp only[kV,simprocAttr,csE,ax,e1]|refine aN ?_);refine aB (ι:=Nat×List Int) (fun s=>s.1≤x.length∧s.2.length=x.length+y.length+1∧Z4.Dig s.2∧Z4.valL s.2=Z4.valL (x.take s.1)*Z4.valL y∧∀k,s.1+y.length≤k→at_ s.2 k=0) (fun s=>⟨ar [(2,.ptr 2 0 0),(3,.ptr 3 0 0),(4,.ptr 4 0 0),(5,.slice 17 0 (x.length+y.length+1)),(6,.p (.int .i64 s.1))],mM m n x y s.2⟩) (fun s=>x.length-s.1) (0,List.replicate (x.length+y.length+1) 0) ⟨z9O _,List.length_replicate,fun z hz=>by (obtain rfl:=z9b hz);decide,(by simp only[List.take_zero];rw[Z4.valL_zero fun j=>kE _ j];exact (Int.zero_mul _).symm),fun k _=>kE _ k⟩ (Sub.toG [2,3,4,5,6] []) ?_;rintro⟨i,o⟩ ⟨hi,hl2,hd,hv,h0⟩;simp only at hi hl2 hd hv h0;have hlen:(o.map (D.int .i64)).length=x.length+y.length+1:=by rw[z9V,hl2]
 by_cases h:i<x.length
 ·have hI:(i:Int)<(x.length:Int):=by omega
  have dx:=hx.at_ i;(repeat first|with_reducible refine kp [2,3,4,5,6,22] ?_|simp only[kV,simprocAttr,csE,hI]|refine aN ?_);refine ulk ?_;(repeat first|simp only[kV,simprocAttr,csE,hI]|refine aN ?_);refine kp [2,3,4,5,6] ?_;(repeat first|simp only[kV,simprocAttr,csE,hI]|refine aN ?_);refine kp [2,3,4,5,6,7] ?_;(repeat first|simp only[kV,simprocAttr,csE,hI]|refine aN ?_);refine kp [2,3,4,5,6,7,8] ?_;(repeat first|simp only[kV,simprocAttr,csE,hI]|refine aN ?_);refine aB (ι:=Nat×Int×List Int) (fun s=>0≤s.2.1∧s.2.1≤9999∧s.2.2.length=x.length+y.length+1∧Z4.Dig s.2.2∧Z4.valL s.2.2+s.2.1*10000^(i+s.1)=Z4.valL (x.take i)*Z4.valL y+at_ x i*Z4.valL (y.take s.1)*10000^i∧(∀k,i+s.1≤k→at_ s.2.2 k=at_ o k)∧s.1≤y.length+1∧(s.1≤y.length∨s.2.1=0)) (fun s=>⟨ar [(2,.ptr 2 0 0),(3,.ptr 3 0 0),(4,.ptr 4 0 0),(5,.slice 17 0 (x.length+y.length+1)),(6,.p (.int .i64 i)),(7,.p (.int .i64 s.2.1)),(8,.p (.int .i64 s.1))],mM m n x y s.2.2⟩) (fun s=>y.length+1-s.1) (0,0,o) ⟨Int.le_refl _,by simp,hl2,hd,by simp only[List.take_zero,Int.zero_mul,z8Y];rw[hv];simp[Z4.valL],fun k _=>rfl,z9O _,.inl (z9O _)⟩ (Sub.toG [2,3,4,5,6,7,8] []) ?_;rintro⟨j,c,p⟩ ⟨c0,c1,hp,hdp,hvp,hpo,hj,hjc⟩;simp only at c0 c1 hp hdp hvp hpo hj hjc;have hplen:(p.map (D.int .i64)).length=x.length+y.length+1:=by rw[z9V,hp]
  by_cases hc:j<y.length∨0<c
  ·have hjy:j≤y.length:=by
    rcases hc with hc | hc
    ·omega
    ·exact hjc.resolve_right (by omega)
   have dy:=hy.at_ j;have dp:=hdp.at_ (i+j);have db:=Z4.mul_bound dx dy;have hk:i+j<x.length+y.length+1:=by omega
   have hkp:i+j<p.length:=by omega
   have gp:=atJ hkp;have t1:((i:Int)+(j:Int)).toNat=i+j:=by omega
   have t2:(0:Int)≤(i:Int)+j:=by omega
   have t3:(i:Int)+j<((x.length+y.length+1:Nat):Int):=by omega
   have k1:=Lm m n x y p i j (c+at_ p (i+j)) hx hy h (by omega) (by omega);unfold mS at k1;rw[hp] at k1;have hvz:j<y.length∨(c+at_ p (i+j)+at_ x i*at_ y j) / 10000=0:=by
    by_cases hcy:j<y.length
    ·exact .inl hcy
    ·right
     have q1:at_ y j=0:=bx (by omega);have q2:=hpo (i+j) (z95 _);rw[h0 (i+j) (by omega)] at q2;rw[q1,q2,Int.mul_zero];omega
   obtain⟨z,hz⟩:∃z,z=c+at_ p (i+j)+at_ x i*at_ y j:=⟨_,rfl⟩
   have hzb:0≤z∧z≤99999999:=by omega
   have hm:=Ln (Bj:=10000^j) hvp (Int.pow_add _ _ _) hz.symm;rw[←hz] at k1 hvz;have r1:z.tmod 10000=z % 10000:=Int.tmod_eq_emod_of_nonneg hzb.1;have r2:z.tdiv 10000=z / 10000:=Int.tdiv_eq_ediv_of_nonneg hzb.1;have hnew:0≤z / 10000∧z / 10000≤9999∧(p.set (i+j) (z % 10000)).length=x.length+y.length+1∧Z4.Dig (p.set (i+j) (z % 10000))∧Z4.valL (p.set (i+j) (z % 10000))+z / 10000*10000^(i+(j+1))=Z4.valL (x.take i)*Z4.valL y+at_ x i*Z4.valL (y.take (j+1))*10000^i∧(∀k,i+(j+1)≤k→at_ (p.set (i+j) (z % 10000)) k=at_ o k)∧j+1≤y.length+1∧(j+1≤y.length∨z / 10000=0):=by
    refine⟨by omega,by omega,by rw[z9R,hp],hdp.set _ (by omega),?_,fun k hk2=>by rw[at_set (by omega)];exact hpo k (by omega),by omega,by omega⟩;rw[Z4.valL_set_full hkp,Z4.valL_take_succ,←Nat.add_assoc,z9H];exact hm
   clear hz hm hvz;by_cases hcy:j<y.length
   ·have hcI:(j:Int)<(y.length:Int):=by omega
    (repeat first|with_reducible refine kp [2,3,4,5,6,7,8,33] ?_|simp only[kV,simprocAttr,csE,hcI]|refine aN ?_);(try simp only[kV,simprocAttr,csE,hcI,t1,t2,t3,gp,hk,hkp,hplen,r1,r2]);refine ulk ?_;(repeat first|simp only[kV,simprocAttr,csE,hcI,t1,t2,t3,gp,hk,hkp,hplen,r1,r2]|refine aN ?_);refine kp [2,3,4,5,6,7,8] ?_;(repeat first|simp only[kV,simprocAttr,csE,hcI,t1,t2,t3,gp,hk,hkp,hplen,r1,r2]|refine aN ?_);refine⟨_,(Sub.toG [2,3,4,5,6,7,8] []).tr (Sub.rf _),?_⟩;refine ulk ?_;refine dk ?_;refine k1 _ fun t ht=>⟨_,ht,?_⟩
    refine ulk ?_;(repeat first|with_reducible refine kp [2,3,4,5,6,7,8] ?_|simp only[kV,simprocAttr,csE,hcI,t1,t2,t3,gp,hk,hkp,hplen,r1,r2]|refine aN ?_);exact⟨(j+1,z / 10000,p.set (i+j) (z % 10000)),hnew,(Sub.toG [2,3,4,5,6,7,8] []),by simp only;omega⟩
   ·have hcI:¬ (j:Int)<(y.length:Int):=by omega
    have hc0:0<c:=by omega
    (repeat first|with_reducible refine kp [2,3,4,5,6,7,8,33] ?_|simp only[kV,simprocAttr,csE,hcI,hc0]|refine aN ?_);(try simp only[kV,simprocAttr,csE,hcI,hc0,t1,t2,t3,gp,hk,hkp,hplen,r1,r2]);refine ulk ?_;(repeat first|simp only[kV,simprocAttr,csE,hcI,hc0,t1,t2,t3,gp,hk,hkp,hplen,r1,r2]|refine aN ?_);refine kp [2,3,4,5,6,7,8] ?_;(repeat first|simp only[kV,simprocAttr,csE,hcI,hc0,t1,t2,t3,gp,hk,hkp,hplen,r1,r2]|refine aN ?_);refine⟨_,(Sub.toG [2,3,4,5,6,7,8] []).tr (Sub.rf _),?_⟩;refine ulk ?_;refine dk ?_;refine k1 _ fun t ht=>⟨_,ht,?_⟩
    refine ulk ?_;(repeat first|with_reducible refine kp [2,3,4,5,6,7,8] ?_|simp only[kV,simprocAttr,csE,hcI,hc0,t1,t2,t3,gp,hk,hkp,hplen,r1,r2]|refine aN ?_);exact⟨(j+1,z / 10000,p.set (i+j) (z % 10000)),hnew,(Sub.toG [2,3,4,5,6,7,8] []),by simp only;omega⟩
  ·have hcI:¬ (j:Int)<(y.length:Int):=by omega
   have hc0:¬ 0<c:=by omega
   have hcz:c=0:=by omega
   rw[hcz,Int.zero_mul,z8Y,Z4.valL_take_all (by omega:y.length≤j)] at hvp;have hw:Z4.valL p=Z4.valL (x.take (i+1))*Z4.valL y:=by rw[hvp,Z4.valL_take_succ];grind
   (repeat first|with_reducible refine kp [2,3,4,5,6,7,8,33] ?_|simp only[kV,simprocAttr,csE,hcI,hc0]|refine aN ?_);refine ulk ?_;(repeat first|with_reducible refine kp [2,3,4,5,6] ?_|simp only[kV,simprocAttr,csE,hcI,hc0]|refine aN ?_);exact⟨(i+1,p),⟨h,hp,hdp,hw,fun k hk=>by rw[hpo k (by omega)];exact h0 k (by omega)⟩,(Sub.toG [2,3,4,5,6] []),by simp only;omega⟩
 ·have hI:¬ (i:Int)<(x.length:Int):=by omega
  rw[Z4.valL_take_all (by omega:x.length≤i)] at hv;have htk:o.take (x.length+y.length+1)=o:=z93 (by omega);have c1:=dW (!(m == n)) o hd (by omega);rw[hv,hfin] at c1;(repeat first|with_reducible refine kp [2,3,4,5,6,22] ?_|simp only[kV,simprocAttr,csE,hI]|refine aN ?_);(try simp only[kV,simprocAttr,csE,hI,htk,z9u,hlen]);refine ulk ?_;(repeat first|simp only[kV,simprocAttr,csE,hI,htk,z9u,hlen]|refine aN ?_);refine iy 17 _ [2,3,4,5] (by rfl) ?_;refine ulk ?_;(repeat first|simp only[kV,simprocAttr,csE,hI,htk,z9u,hlen]|refine aN ?_);refine⟨_,cx (c1),ulc ?_⟩;(repeat first|with_reducible refine kp [4] ?_|simp only[kV,simprocAttr,csE,af,ai,aq,ah]|refine aN ?_)
set_option linter.unusedSimpArgs false
open Go.RowKit
theorem fsm {a:Int}{n:Nat} (h:Bt a n) (hn:n≤2048000000000):Sm a:=h.sm (by omega)
theorem kJ {a:Int}{n:Nat} (h:Bt a n) (hn:n≤4147200000000):Sm a:=h.sm (by omega)
theorem kK {a:Int}{n:Nat} (h:Bt a n) (hn:n≤8000000000000):Sm a:=h.sm (by omega)
abbrev LU (l:List Int):D:=.list 173 1 (l.map (D.int .u32))
def zu (z:Int):List Int:=digs 4294967296 z.natAbs
theorem fN (z:Int):Dig (zu z)∧Norm (zu z)∧valL (zu z)=z.natAbs:=by
 obtain⟨g1,g2,g3⟩:=lR (B:=4294967296) (by omega) (v:=valL) rfl (fun _ _=>rfl) z.natAbs;exact⟨fun x hx=>by have:=g1 x hx;omega,g2,g3⟩
theorem eU (z:Int):aY z = .agg [.bool (decide (z<0)),LU (zu z)]:=rfl
theorem kL {z:Int}:zu z=[]↔z=0:=by
 obtain⟨h1,h2,h3⟩:=fN z;rw[←valL_eq_zero h1 h2,h3];omega
theorem ng {z:Int} (h:z≠0):0<(zu z).length:=List.length_pos_iff.2 fun e=>h (kL.1 e)
theorem ru {z:Int}{n:Nat} (h:Bt z n):32*(zu z).length≤n+32:=by
 obtain⟨h1,h2,h3⟩:=fN z;refine len_of_bt h1 h2 ?_;rw[h3];unfold Bt at *;omega
def dN:Nat→Int→List Int
 |0,_=>[]
 |n+1,q=>q % 4294967296::dN n (q / 4294967296)
theorem jd:∀(n:Nat) (q:Int),Dig (dN n q)
 |0,_=>fun x hx=>by cases hx
 |n+1,q=>fun x hx=>by
  rcases z9L.1 hx with rfl | hx
  ·omega
  ·exact jd n _ x hx
theorem nh:∀{n:Nat}{q:Int},0≤q→q<4294967296^n→valL (dN n q)=q
 |0,q,h0,h1=>by rw[Int.pow_zero] at h1;show (0:Int)=q;omega
 |n+1,q,h0,h1=>by
  rw[z9H] at h1;have:=nh (n:=n) (q:=q / 4294967296) (by omega) (by generalize (4294967296:Int)^n=p at *;omega);show q % 4294967296+4294967296*valL (dN n (q / 4294967296))=q
  rw[this];omega
theorem je:∀{l:List Int},Dig l→l=dN l.length (valL l)
 |[],_=>rfl
 |x::l,h=>by
  have hx:=h x z9X;have e1:valL (x::l)=x+4294967296*valL l:=rfl;rw[List.length_cons,dN,show valL (x::l) % 4294967296=x by rw[e1];omega,show valL (x::l) / 4294967296=valL l by rw[e1];omega,←je h.tail]
theorem ni {n:Nat}{q:Int} (h0:0≤q) (h1:q<4294967296^n):sg false (valL (dN n q))=q:=nh h0 h1
theorem fO {l:List Int} (h:Dig l):∀x∈l,Fit .u32 x:=fun x hx=>by have:=h x hx;simp only[Fit];omega
theorem kM {w:World}{base:Nat→Prop}{s:SV}{l:List Int} (h:IsL w s .u32 l) (hav:Av AN base w):V w (NBs base w) (.slice s.a s.len s.cap) (LU l):=oU (k:=.u32) (by simp[AN,ET]) hav h
theorem Mk (a b:List Int) (da:Dig a) (db:Dig b) (na:Norm a) (nb:Norm b):Con Tryz.prog AN 127 [LU a,LU b] (.int .i64 (cmpZ (valL a) (valL b))):=eJ fun base w v0 v1 hav h0 h1=>by
 obtain⟨s,rfl,hs⟩:=eI (k:=.u32) h0 (fO da);obtain⟨t,rfl,ht⟩:=eI (k:=.u32) h1 (fO db);exact (oZ s t a b w hs ht na nb).mono fun e w' h=>⟨_,h.1,fun _ _ => .int _ _,h.2⟩
theorem eV (m:Bool) (a:List Int) (da:Dig a) (hs:Sm (sg m (valL a))):Con Tryz.prog AN 103 [.bool m,LU a] (aY (sg m (valL a))):=eJ fun base w v0 v1 hav h0 h1=>by
 cases gO h0;obtain⟨s,rfl,ha⟩:=eI (k:=.u32) h1 (fO da);exact (made_any m s a w ha hs).mono fun e w' ⟨x,h1,h2,h3⟩=>⟨_,h1,fun _ hav=>gP h2 hav,h3⟩
theorem Ml (a:List Int) (d:Int) (da:Dig a) (hl:a.length≤1099511627776) (hd:1≤d∧d≤4294967295):Con Tryz.prog AN 128 [LU a,.int .u32 d] (.tup [LU (dN a.length (valL a / d)),.int .u32 (valL a % d)]):=eJ fun base w v0 v1 hav h0 h1=>by
 obtain⟨s,rfl,ha⟩:=eI (k:=.u32) h0 (fO da);cases oT h1;exact (Mh s a d w ha hl hd).mono fun e w' ⟨t,l,h1,h2,h3,h4,h5⟩=>⟨_,h1,fun _ hav=>by
  have:=je (l:=l) h2.2;rw[h3,h4] at this;rw[←this];exact jD (kM h2 hav) (.int _ _),h5⟩
theorem Mm (a b:List Int) (da:Dig a) (db:Dig b) (nb:Norm b) (hl:a.length≤549755813888) (h2:2≤b.length) (hba:b.length≤a.length):Con Tryz.prog AN 129 [LU a,LU b] (.tup [LU (dN (a.length+1-b.length) (valL a / valL b)),LU (dN (a.length+1) (valL a % valL b))]):=eJ fun base w v0 v1 hav h0 h1=>by
 obtain⟨s,rfl,hs⟩:=eI (k:=.u32) h0 (fO da);obtain⟨t,rfl,ht⟩:=eI (k:=.u32) h1 (fO db);exact (zbd s t a b w hs ht hl h2 hba nb).mono fun e w' ⟨p,q,l,m,h1,h2,h3,h4,h5,h6,h7,h8⟩=>⟨_,h1,fun _ hav=>by
  have e1:=je (l:=l) h2.2;have e2:=je (l:=m) h3.2;rw[h4,h6] at e1;rw[h5,h7] at e2;rw[←e1,←e2];exact jD (kM h2 hav) (kM h3 hav),h8⟩
theorem Mn (a b:List Int) (da:Dig a) (db:Dig b) (hl:a.length≤1099511627776) (hba:b.length≤a.length) (hge:valL b≤valL a):Con Tryz.prog AN 130 [LU a,LU b] (LU (dN a.length (valL a-valL b))):=eJ fun base w v0 v1 hav h0 h1=>by
 obtain⟨s,rfl,hs⟩:=eI (k:=.u32) h0 (fO da);obtain⟨t,rfl,ht⟩:=eI (k:=.u32) h1 (fO db);exact (o7 s t a b w hs ht hl hba hge).mono fun e w' ⟨p,l,h1,h2,h3,h4,h5⟩=>⟨_,h1,fun _ hav=>by
  have e1:=je (l:=l) h2.2;rw[h3,h4] at e1;rw[←e1];exact kM h2 hav,h5⟩
theorem cOf (n:Int) (h:-9223372036854775808≤n∧n≤9223372036854775807):Con Tryz.prog AN 95 [.int .i64 n] (aY n):=fw fun base w v1 hav h1=>by
 cases oT h1;exact (Ws n w h).mono fun e w' ⟨x,h1,h2,h3⟩=>⟨_,h1,fun _ hav=>gP h2 hav,h3⟩
theorem rx (t:List UInt8) (b:Bool) (hs:t.length≤9223372036854775807):Con Tryz.prog AN 79 [.str t,.bool b] (.tup [.int .i64 (ay b t).1,.bool (ay b t).2]):=eJ fun base w v1 v2 hav h1 h2=>by
 cases fZ h1;cases gO h2;exact (jX t b w hs).mono fun e w' h=>⟨_,h.1,fun _ _=>jD (.int _ _) (.bool _),h.2⟩
theorem jf (t:List UInt8) (hs:t.length≤9223372036854775807):Con Tryz.prog AN 80 [.str t,.str [45]] (.str (body t)):=eJ fun base w v1 v2 hav h1 h2=>by
 cases fZ h1;cases fZ h2;exact (pW t w hs).mono fun e w' h=>⟨_,h.1,fun _ _=>oS _,h.2 ▸ Ext.rf _⟩
theorem nj (t:List UInt8) (hs:t.length≤9223372036854775807):Con Tryz.prog AN 81 [.str t] (.tup [aY (parseZ t),flt (c6 t) (eR t)]):=fw fun base w v1 hav h1=>by
 cases fZ h1;exact (zh2 t w hs).mono fun e w' ⟨x,h1,h2,h3⟩=>⟨_,h1,fun _ hav=>jD (gP h2 hav) (zaI _ _),h3⟩
theorem nk (a:Int) (n:Nat) (ba:Bt a n) (hn:n≤2048000000000):Con Tryz.prog AN 91 [aY (a)] (.str (dec a)):=fw fun base w v0 hav h0=>by
 obtain⟨x,rfl,hx⟩:=fy h0 (fsm ba hn);exact (text_any x a w hx).mono fun e w' h=>⟨_,h.1,fun _ _=>oS _,h.2⟩
theorem jg (a:Int) (n:Nat) (ba:Bt a n) (hn:n≤2048000000000):Con Tryz.prog AN 67 [aH (a)] (.str (dec a)):=fw fun base w v0 hav h0=>by
 obtain⟨x,rfl,hx⟩:=zaH h0 (fsm ba hn);exact (Z4.text_any x a w hx).mono fun e w' h=>⟨_,h.1,fun _ _=>oS _,h.2⟩
theorem jh (a b:Int) (n:Nat) (ba:Bt a n) (bb:Bt b n) (hn:n≤4147200000000):Con Tryz.prog AN 116 [aY (a),aY (b)] (aY (a*b)):=eJ fun base w v0 v1 hav h0 h1=>by
 obtain⟨x,rfl,hx⟩:=fy h0 (kJ ba hn);obtain⟨y,rfl,hy⟩:=fy h1 (kJ bb hn);exact (zbM x y a b w hx hy ((ba.mul bb).sm (by omega))).mono fun e w' ⟨x,h1,h2,h3⟩=>⟨_,h1,fun _ hav=>gP h2 hav,h3⟩
theorem nn (a b:Int) (n:Nat) (ba:Bt a n) (bb:Bt b n) (hn:n≤8000000000000):Con Tryz.prog AN 119 [aY (a),aY (b)] (aY (a+b)):=eJ fun base w v0 v1 hav h0 h1=>by
 obtain⟨x,rfl,hx⟩:=fy h0 (kK ba hn);obtain⟨y,rfl,hy⟩:=fy h1 (kK bb hn);exact (rI x y a b w hx hy ((ba.add bb).sm (by omega))).mono fun e w' ⟨x,h1,h2,h3⟩=>⟨_,h1,fun _ hav=>gP h2 hav,h3⟩
theorem ry (a b:Int) (n:Nat) (ba:Bt a n) (bb:Bt b n) (hn:n≤8000000000000):Con Tryz.prog AN 108 [aY (a),aY (b)] (aY (a-b)):=eJ fun base w v0 v1 hav h0 h1=>by
 obtain⟨x,rfl,hx⟩:=fy h0 (kK ba hn);obtain⟨y,rfl,hy⟩:=fy h1 (kK bb hn);exact (N0 x y a b w hx hy ((ba.sub bb).sm (by omega))).mono fun e w' ⟨x,h1,h2,h3⟩=>⟨_,h1,fun _ hav=>gP h2 hav,h3⟩
theorem rz (a:Int) (n:Nat) (ba:Bt a n) (hn:n≤4147200000000):Con Tryz.prog AN 107 [aY (a)] (aY (-a)):=fw fun base w v0 hav h0=>by
 obtain⟨x,rfl,hx⟩:=fy h0 (kJ ba hn);exact (th x a w hx).mono fun e w' ⟨x,h1,h2,h3⟩=>⟨_,h1,fun _ hav=>gP h2 hav,h3⟩
theorem np (a:Int) (n:Nat) (ba:Bt a n) (hn:n≤4147200000000):Con Tryz.prog AN 90 [aY (a)] (.int .i64 (bM a)):=fw fun base w v0 hav h0=>by
 obtain⟨x,rfl,hx⟩:=fy h0 (kJ ba hn);exact (Wo x a w hx).mono fun e w' h=>⟨_,h.1,fun _ _ => .int _ _,h.2⟩
set_option linter.unusedSimpArgs false
set_option maxRecDepth 20000
set_option maxHeartbeats 2000000
open Go.RowKit
abbrev eP (z:Int):D:=.agg [.bool false,LJ (zd z)]
theorem dj {z:Int} (h:0≤z):aH z=eP z:=by rw[bh,z8R (by omega)]
abbrev bE (z:Int):AObj:=⟨48,2,.box (.p (eP z)),false⟩
abbrev vM (m n:Bool) (x y q:List Int) (u r:Int):=au [(2,bZ m x),(3,bZ n y),(4,bZ false []),(5,bZ false []),(6,⟨25,2,.box (.p (.agg [.int .i64 0,.int .i64 0])),false⟩),(7,bE u),(28,⟨3,1,.row (q.map (D.int .i64)),false⟩),(9,bE r)]
abbrev vR (L:Nat) (i:Int) (l:List (Nat×AV)):=ar ((2,.ptr 2 0 0)::(3,.ptr 3 0 0)::(4,.ptr 4 0 0)::(5,.ptr 5 0 0)::(6,.ptr 6 0 0)::(7,.ptr 7 0 0)::(8,.slice 28 0 L)::(9,.ptr 9 0 0)::(10,.p (.int .i64 i))::l)
theorem vc:Bt 10000 14:=by unfold Bt;decide
theorem za4 {x:List Int}{i:Nat} (h:i<x.length):Z4.valL (x.drop i)=at_ x i+10000*Z4.valL (x.drop (i+1)):=by
 rw[z9k h];show x[i]+10000*_=_
 simp[at_,h]
theorem za5 {B H d H':Int} (hB:0<B) (h:H'=d+10000*H):H' / B=10000*(H / B)+(d+10000*(H % B)) / B∧H' % B=(d+10000*(H % B)) % B:=by
 have e:H'=(d+10000*(H % B))+B*(10000*(H / B)):=by
  have:=z9i H B;generalize H / B=q at *;generalize H % B=r at *;grind
 rw[e,Int.add_mul_ediv_left _ _ (by omega),Int.add_mul_emod_self_left];exact⟨by omega,rfl⟩
section
variable (m n:Bool) (x y q:List Int) (B t:Int) (L:Nat) (i:Int)
theorem za6 (hB:0<B) (ht:0≤t) (lB:(zd B).length≤900000000000) (lt:(zd t).length≤900000000000) (Q:AExit→St→Prop) (hQ:∀s,Sub [48,25,3,2000046] s ⟨vR L i [(11,.p (.int .i64 0)),(12,.p (.int .i64 (if t<B then 1 else 10000)))],vM m n x y q B t⟩→Q .normal s) :
  cw [48,25,3,2000046] (ConX Tryz.prog []) wy Q ⟨vR L i [(11,.p (.int .i64 0)),(12,.p (.int .i64 10000))],vM m n x y q B t⟩:=by
 obtain⟨d1,n1,v1⟩:=cU B;obtain⟨d2,n2,v2⟩:=cU t;have c1:=tn (zd t) (zd B) d2 d1 n2 n1 (by omega) (by omega);rw[v1,v2,show (B.natAbs:Int)=B by omega,show (t.natAbs:Int)=t by omega] at c1;by_cases h:t<B
 ·rw[eO h] at c1;rw[if_pos h] at hQ;skip
  (repeat first|simp only[kV,simprocAttr,csE,vR,vM]|refine aN ?_);refine⟨_,cx (c1),ulc ?_⟩;(repeat first|with_reducible refine kp [2,3,4,5,6,7,8,9,10,11,12,53] ?_|simp only[kV,simprocAttr,csE,vR]|refine aN ?_);(try simp only[kV,simprocAttr,csE,vR,show (-1:Int)<0 by decide]);refine ulk ?_;(repeat first|simp only[kV,simprocAttr,csE,vR,show (-1:Int)<0 by decide]|refine aN ?_);exact hQ _ (Sub.toG [2,3,4,5,6,7,8,9,10,11,12] [])
 ·have hz:¬ cmpZ t B<0:=by unfold cmpZ;(repeat' split)<;>omega
  generalize cmpZ t B=z at *;rw[if_neg h] at hQ;skip
  (repeat first|simp only[kV,simprocAttr,csE,vR,vM]|refine aN ?_);refine⟨_,cx (c1),ulc ?_⟩;(repeat first|with_reducible refine kp [2,3,4,5,6,7,8,9,10,11,12,53] ?_|simp only[kV,simprocAttr,csE]|refine aN ?_);(try simp only[kV,simprocAttr,csE,hz]);refine ulk ?_;(repeat first|simp only[kV,simprocAttr,csE,hz]|refine aN ?_);exact hQ _ (Sub.toG [2,3,4,5,6,7,8,9,10,11,12] [])
theorem za7 (hB:0<B) (ht:0≤t) (hi:Int) (h1:t<B*hi) (h2:0<hi) (h3:hi≤10000) (N:Nat) (bB:Bt B N) (bt:Bt t (N+14)) (hN:N≤8000000000000) (Q:AExit→St→Prop) (hQ:∀s,Sub [48,25,3,2000046] s ⟨vR L i [(11,.p (.int .i64 (t / B)))],vM m n x y q B t⟩→Q .normal s) :
  cw [48,25,3,2000046] (ConX Tryz.prog []) wA Q ⟨vR L i [(11,.p (.int .i64 0)),(12,.p (.int .i64 hi))],vM m n x y q B t⟩:=by
 have lB:=bW bB;have lt:=bW bt;skip
 (repeat first|simp only[kV,simprocAttr,csE,vR,vM]|refine aN ?_);refine aB (ι:=Nat×Nat) (fun s=>s.1<s.2∧s.2≤10000∧B*s.1≤t∧t<B*s.2) (fun s=>⟨vR L i [(11,.p (.int .i64 s.1)),(12,.p (.int .i64 s.2))],vM m n x y q B t⟩) (fun s=>s.2-s.1) (0,hi.toNat) ⟨by simp only;omega,by simp only;omega,by simp only;rw[Int.natCast_zero,Int.mul_zero];exact ht,by simp only;rw[show ((hi.toNat:Nat):Int)=hi by omega];exact h1⟩ (by simp only[show ((hi.toNat:Nat):Int)=hi by omega];exact (Sub.toG [2,3,4,5,6,7,8,9,10,11,12] [14,43,46])) ?_;rintro⟨a,b⟩ ⟨k1,k2,k3,k4⟩;simp only at k1 k2 k3 k4;by_cases h:1<(b:Int)-a
 ·obtain⟨c,hc⟩:∃c:Nat,c=(a+b) / 2:=⟨_,rfl⟩
  have e1:((a:Int)+(b:Int)).tdiv 2=(c:Int):=by rw[Int.tdiv_eq_ediv_of_nonneg (by omega)];omega
  have hcb:c≤10000:=by omega
  have c1:=mo c (by omega);have bc:Bt (B*10000) (N+14):=bB.mul vc;have bm:Bt (B*(c:Int)) (N+14):=bc.le (by
   have q1:B*(c:Int)≤B*10000:=z9w (by omega) (by omega);have q2:0≤B*(c:Int):=Int.mul_nonneg (by omega) (by omega);omega)
  have lc:=bW (z:=(c:Int)) (n:=14) (by unfold Bt;omega);have lm:=bW bm;have c2:=m7 B c (by omega);have c3:=zcM (B*(c:Int)) t (by omega) (by omega);rw[dj (by omega:(0:Int)≤B)] at c2;rw[dj ht] at c3;by_cases hcm:B*(c:Int)≤t
  ·have hz:cmpZ (B*(c:Int)) t≤0:=by unfold cmpZ;(repeat' split)<;>omega
   generalize cmpZ (B*(c:Int)) t=z at *;(repeat first|with_reducible refine kp [2,3,4,5,6,7,8,9,10,11,12,57] ?_|simp only[kV,simprocAttr,csE,h,vR,vM]|refine aN ?_);(try simp only[kV,simprocAttr,csE,h,e1]);refine ulk ?_;(repeat first|with_reducible refine kp [2,3,4,5,6,7,8,9,10,11,12,13] ?_|simp only[kV,simprocAttr,csE,h,e1]|refine aN ?_);refine⟨_,cx (c1),ulc ?_⟩;(repeat first|simp only[kV,simprocAttr,csE]|refine aN ?_);refine⟨_,cx (c2),ulc ?_⟩;(repeat first|simp only[kV,simprocAttr,csE]|refine aN ?_);refine⟨_,cx (c3),ulc ?_⟩;(repeat first|with_reducible refine kp [2,3,4,5,6,7,8,9,10,11,12,13,68] ?_|simp only[kV,simprocAttr,csE]|refine aN ?_);(try simp only[kV,simprocAttr,csE,hz]);refine ulk ?_;(repeat first|simp only[kV,simprocAttr,csE,hz]|refine aN ?_);exact⟨(c,b),⟨by simp only;omega,k2,hcm,k4⟩,(Sub.toG [2,3,4,5,6,7,8,9,10,11,12] [14,43,46]),by simp only;omega⟩
  ·have hz:¬ cmpZ (B*(c:Int)) t≤0:=by unfold cmpZ;(repeat' split)<;>omega
   generalize cmpZ (B*(c:Int)) t=z at *;(repeat first|with_reducible refine kp [2,3,4,5,6,7,8,9,10,11,12,57] ?_|simp only[kV,simprocAttr,csE,h,vR,vM]|refine aN ?_);(try simp only[kV,simprocAttr,csE,h,e1]);refine ulk ?_;(repeat first|with_reducible refine kp [2,3,4,5,6,7,8,9,10,11,12,13] ?_|simp only[kV,simprocAttr,csE,h,e1]|refine aN ?_);refine⟨_,cx (c1),ulc ?_⟩;(repeat first|simp only[kV,simprocAttr,csE]|refine aN ?_);refine⟨_,cx (c2),ulc ?_⟩;(repeat first|simp only[kV,simprocAttr,csE]|refine aN ?_);refine⟨_,cx (c3),ulc ?_⟩;(repeat first|with_reducible refine kp [2,3,4,5,6,7,8,9,10,11,12,13,68] ?_|simp only[kV,simprocAttr,csE]|refine aN ?_);(try simp only[kV,simprocAttr,csE,hz]);refine ulk ?_;(repeat first|simp only[kV,simprocAttr,csE,hz]|refine aN ?_);exact⟨(a,c),⟨by simp only;omega,hcb,k3,by simp only;omega⟩,(Sub.toG [2,3,4,5,6,7,8,9,10,11,12] [14,43,46]),by simp only;omega⟩
 ·have hab:b=a+1:=by omega
  have hq:t-B*a<B.natAbs:=by
   rw[hab,show ((a+1:Nat):Int)=(a:Int)+1 by omega,Int.mul_add,Int.mul_one] at k4;omega
  have hr:t / B=(a:Int):=(mI (q:=(a:Int)) (r:=t-B*a) (by omega) (by omega) hq).1;rw[hr] at hQ;(repeat first|with_reducible refine kp [2,3,4,5,6,7,8,9,10,11,12,57] ?_|simp only[kV,simprocAttr,csE,h,vR,vM]|refine aN ?_);refine ulk ?_;(repeat first|simp only[kV,simprocAttr,csE,h]|refine aN ?_);exact hQ _ (Sub.toG [2,3,4,5,6,7,8,9,10,11] [])
end
set_option linter.unusedSimpArgs false
set_option maxRecDepth 20000
set_option maxHeartbeats 4000000
open Go.RowKit
abbrev wM (m n:Bool) (x y:List Int) (u z r:Int):=au [(2,bZ m x),(3,bZ n y),(4,bZ false []),(5,bZ false []),(6,⟨25,2,.box (.p (.agg [.int .i64 0,.int .i64 0])),false⟩),(7,bE u),(9,bE r),(14,bE z)]
abbrev wR:=ar [(2,.ptr 2 0 0),(3,.ptr 3 0 0),(4,.ptr 4 0 0),(5,.ptr 5 0 0),(6,.ptr 6 0 0),(7,.ptr 7 0 0),(9,.ptr 9 0 0),(14,.ptr 14 0 0)]
theorem i5:d6 (.ptr 9 0 0) (.ptr 4 0 0)=true:=rfl
theorem wO:decide ((0:Int)<0)=false:=rfl
section
variable (m n:Bool) (x y:List Int) (B z r:Int) (hz:0≤z) (hr:0≤r) (hrB:r<B) (lz:(zd z).length≤800000000000) (lz1:(zd (z+1)).length≤800000000000) (lr:(zd r).length≤800000000000) (lB:(zd B).length≤800000000000) (lr2:(zd (B-r)).length≤800000000000)
include hz hr hrB lz lz1 lr lB
theorem wP (h:m=false∨r=0):cw [48,25,3,2000046] (ConX Tryz.prog []) mn (af (.tup [aH (sg (!(m == n)) z),aH r,flt 0 0]) [(4,some (true,2)),(5,some (true,2)),(6,some (true,2))]) ⟨wR,wM m n x y B z r⟩:=by
 obtain⟨d1,n1,v1⟩:=cU z;have c1:=dW (!(m == n)) (zd z) d1 (by omega);rw[v1,show (z.natAbs:Int)=z by omega] at c1;rw[dj hr];cases m with
 |false =>
  skip
  (repeat first|with_reducible refine kp [2,3,4,5,6,7,9,14,90] ?_|simp only[kV,simprocAttr,csE,wR,wM]|refine aN ?_);(try simp only[kV,simprocAttr,csE,i5]);refine ulk ?_;(repeat first|with_reducible refine kp [2,3,4,5,6,9,14] ?_|simp only[kV,simprocAttr,csE,i5]|refine aN ?_);refine⟨_,cx (c1),ulc ?_⟩;(repeat first|with_reducible refine kp [4,5,6] ?_|simp only[kV,simprocAttr,csE,af,ai,aq,ah]|refine aN ?_);rfl
 |true =>
  have hr0:r=0:=by rcases h with h | h;cases h;exact h
  have e0:(zd r).length=0:=by rw[hr0,fR.2 rfl];rfl
  skip
  (repeat first|with_reducible refine kp [2,3,4,5,6,7,9,14,90] ?_|simp only[kV,simprocAttr,csE,wR,wM,e0,wO]|refine aN ?_);(try simp only[kV,simprocAttr,csE,i5]);refine ulk ?_;(repeat first|with_reducible refine kp [2,3,4,5,6,9,14] ?_|simp only[kV,simprocAttr,csE,i5]|refine aN ?_);refine⟨_,cx (c1),ulc ?_⟩;(repeat first|with_reducible refine kp [4,5,6] ?_|simp only[kV,simprocAttr,csE,af,ai,aq,ah]|refine aN ?_);rfl
include lr2 in
theorem wQ (h0:0<r):cw [48,25,3,2000046] (ConX Tryz.prog []) mn (af (.tup [aH (sg (!(true == n)) (z+1)),aH (B-r),flt 0 0]) [(4,some (true,2)),(5,some (true,2)),(6,some (true,2))]) ⟨wR,wM true n x y B z r⟩:=by
 obtain⟨d1,n1,v1⟩:=cU (z+1);have c1:=mo 1 (by omega);have c2:=pL z ((1:Nat):Int) (by omega) (by have:=bW (z:=((1:Nat):Int)) (n:=1) (by unfold Bt;decide);omega);have c3:=pM B r (by omega) (by omega);have c4:=dW (!(true == n)) (zd (z+1)) d1 (by omega);rw[v1,show ((z+1).natAbs:Int)=z+1 by omega] at c4;rw[dj hz,show z+((1:Nat):Int)=z+1 from rfl,dj (by omega:0≤z+1)] at c2;rw[dj (by omega:0≤B),dj hr,dj (by omega:0≤B-r)] at c3;rw[dj (by omega:0≤B-r)];have hl:(0:Int)<((zd r).length:Int):=by have:=fS (z:=r) (by omega);omega
 skip
 (repeat first|with_reducible refine kp [2,3,4,5,6,7,9,14,90] ?_|simp only[kV,simprocAttr,csE,wR,wM,hl]|refine aN ?_);refine ulk ?_;(repeat first|simp only[kV,simprocAttr,csE]|refine aN ?_);refine⟨_,cx (c1),ulc ?_⟩;(repeat first|simp only[kV,simprocAttr,csE]|refine aN ?_);refine⟨_,cx (c2),ulc ?_⟩;(repeat first|with_reducible refine kp [2,3,4,5,6,7,9,14] ?_|simp only[kV,simprocAttr,csE]|refine aN ?_);refine⟨_,cx (c3),ulc ?_⟩;(repeat first|with_reducible refine kp [2,3,4,5,6,9,14] ?_|simp only[kV,simprocAttr,csE,i5]|refine aN ?_);refine⟨_,cx (c4),ulc ?_⟩;(repeat first|with_reducible refine kp [4,5,6] ?_|simp only[kV,simprocAttr,csE,af,ai,aq,ah]|refine aN ?_);rfl
end
theorem mv (a b:Int) (N:Nat) (ba:Bt a N) (bb:Bt b N) (hN:N≤8000000000000) (hb:b≠0):Con Tryz.prog [] 121 [aH a,aH b] (.tup [aH (a / b),aH (a % b),flt 0 0]):=by
 obtain⟨d1,n1,v1⟩:=cU a;obtain⟨d2,n2,v2⟩:=cU b;have la:=bW ba;have lb:=bW bb;have hlb:¬ ((zd b).length:Int)=0:=by have:=fS hb;omega
 have c0:=dW false (zd b) d2 (by omega);obtain⟨B,hB⟩:∃B:Int,B=b.natAbs:=⟨_,rfl⟩
 have hB0:0<B:=by omega
 have bB:Bt B N:=bb.le (by omega);have lB:=bW bB;rw[v2,←hB,show sg false B=B from rfl,dj (by omega:0≤B)] at c0;have e0:zd 0=[]:=fR.2 rfl;have dsg:=qv (m:=decide (a<0)) (n:=decide (b<0)) (A:=a.natAbs) (B:=B) (by omega) hB0;rw[show sg (decide (a<0)) (a.natAbs:Int)=a from jM a,show sg (decide (b<0)) B=b by rw[hB];exact jM b] at dsg;rw[←v1] at dsg;have hzb:Z4.valL (zd a) / B≤Z4.valL (zd a):=Int.ediv_le_self _ (Z4.valL_nonneg d1);have hz0:0≤Z4.valL (zd a) / B:=Int.ediv_nonneg (Z4.valL_nonneg d1) (by omega);have hr0:0≤Z4.valL (zd a) % B:=z8W _ (by omega);have hrB:Z4.valL (zd a) % B<B:=Int.emod_lt_of_pos _ hB0;have bz:Bt (Z4.valL (zd a) / B) N:=ba.le (by omega);have bz1:Bt (Z4.valL (zd a) / B+1) (N+1):=by
  unfold Bt at *;rw[Nat.pow_succ];have:0<2^N:=Nat.pow_pos (by omega);omega
 have lz:=bW bz;have lz1:=bW bz1;rw[bh a,bh b];generalize hm:decide (a<0)=m at *;generalize hn:decide (b<0)=n at *;generalize zd a=x at *;generalize hy:zd b=y at *;have hlx:x.length≤1000000000000:=by omega
 refine zhd.con rfl (by simp) ?_;(repeat first|with_reducible refine kp [2,3,4,5,6,18] ?_|simp only[kV,simprocAttr,csE,ax]|refine aN ?_);(try simp only[kV,simprocAttr,csE,hlb]);refine ulk ?_;(repeat first|with_reducible refine kp [2,3,4,5,6] ?_|simp only[kV,simprocAttr,csE,hlb]|refine aN ?_);refine⟨_,cx (c0),ulc ?_⟩;(repeat first|simp only[kV,simprocAttr,csE]|refine aN ?_);refine kp [2,3,4,5,6,7] ?_;(repeat first|simp only[kV,simprocAttr,csE]|refine aN ?_);refine kp [2,3,4,5,6,7,8] ?_;(repeat first|simp only[kV,simprocAttr,csE]|refine aN ?_);refine kp [2,3,4,5,6,7,8,9] ?_;(repeat first|simp only[kV,simprocAttr,csE]|refine aN ?_);refine kp [2,3,4,5,6,7,8,9,10] ?_;(repeat first|simp only[kV,simprocAttr,csE]|refine aN ?_);refine aB (ι:=Nat×List Int×Int) (fun s=>s.1≤x.length∧s.2.1.length=x.length∧Z4.Dig s.2.1∧(∀j,j<s.1→at_ s.2.1 j=0)∧Z4.valL s.2.1=Z4.valL (x.drop s.1) / B*10000^s.1∧s.2.2=Z4.valL (x.drop s.1) % B) (fun s=>⟨vR x.length ((s.1:Int)-1) [],vM m n x y s.2.1 B s.2.2⟩) (fun s=>s.1) (x.length,List.replicate x.length 0,0) ⟨z95 _,List.length_replicate,fun z hz=>by (obtain rfl:=z9b hz);decide,fun j _=>kE _ j,(by simp only[List.drop_length];rw[Z4.valL_zero fun j=>kE _ j,show Z4.valL []=0 from rfl,Int.zero_ediv,Int.zero_mul]),(by simp only[List.drop_length];exact (Int.zero_emod B).symm)⟩ (by simp only[vM,bE,eP,e0];exact (Sub.toG [2,3,4,5,6,7,8,9,10] [14,43,46])) ?_;rintro⟨i,q,r⟩ ⟨hi,hq,hdq,hq0,hqv,hrv⟩;simp only at hi hq hdq hq0 hqv hrv;have hqlen:(q.map (D.int .i64)).length=x.length:=by rw[z9V,hq]
 cases i with
 |zero =>
  have hI:decide ((0:Int)≤0-1)=false:=by decide
  rw[z9u,Int.pow_zero,Int.mul_one] at hqv;rw[z9u] at hrv;subst hrv;have htk:q.take x.length=q:=z93 (by omega);have c1:=dW false q hdq (by omega);rw[hqv,show sg false (Z4.valL x / B)=Z4.valL x / B from rfl,dj hz0] at c1;have lr:=bW (z:=Z4.valL x % B) (bB.le (by omega));have fin:cw [48,25,3,2000046] (ConX Tryz.prog []) mn (af (.tup [aH (a / b),aH (a % b),flt 0 0]) [(4,some (true,2)),(5,some (true,2)),(6,some (true,2))]) ⟨wR,wM m n x y B (Z4.valL x / B) (Z4.valL x % B)⟩:=by
   by_cases hcase:m=false∨Z4.valL x % B=0
   ·rw[(dsg.1 hcase).1,(dsg.1 hcase).2];exact wP m n x y B _ _ hz0 hr0 hrB (by omega) (by omega) (by omega) (by omega) hcase
   ·have hmt:m=true:=by cases m<;>simp at hcase ⊢
    have hr1:0<Z4.valL x % B:=by
     by_cases h:Z4.valL x % B=0
     ·exact absurd (.inr h) hcase
     ·omega
    have lr2:=bW (z:=B-Z4.valL x % B) (bB.le (by omega));rw[(dsg.2 hmt hr1).1,(dsg.2 hmt hr1).2];subst hmt;exact wQ n x y B _ _ hz0 hr0 hrB (by omega) (by omega) (by omega) (by omega) (by omega) hr1
  (repeat first|with_reducible refine kp [2,3,4,5,6,7,8,9,10,35] ?_|simp only[kV,simprocAttr,csE,hI,vR,vM]|refine aN ?_);(try simp only[kV,simprocAttr,csE,hI,htk,z9u,hqlen]);refine ulk ?_;(repeat first|simp only[kV,simprocAttr,csE,hI,htk,z9u,hqlen]|refine aN ?_);refine iy 28 _ [2,3,4,5,6,7,8,9] (by rfl) ?_;refine ulk ?_;(repeat first|simp only[kV,simprocAttr,csE,hI,htk,z9u,hqlen]|refine aN ?_);refine⟨_,cx (c1),ulc ?_⟩;(repeat first|simp only[kV,simprocAttr,csE]|refine aN ?_);exact⟨_,(Sub.toG [2,3,4,5,6,7,9,14] [28,43,46]),fin⟩
 |succ i =>
  have g0:((i+1:Nat):Int)-1=(i:Int):=by omega
  have g1:(0:Int)≤(i:Int):=by omega
  have hI:(i:Int)<(x.length:Int):=by omega
  have hix:i<x.length:=by omega
  have hiq:i<q.length:=by omega
  have gx:=atJ hix;have dx:=d1.at_ i;have r0:0≤r:=by rw[hrv];exact z8W _ (by omega)
  have r1:r<B:=by rw[hrv];exact Int.emod_lt_of_pos _ hB0
  obtain⟨s1,s2⟩:=za5 hB0 ((za4 hix).trans rfl);rw[←hrv] at s1 s2;obtain⟨w,ht⟩:∃w,w=at_ x i+10000*r:=⟨_,rfl⟩
  rw[←ht] at s1 s2;have t0:0≤w:=by omega
  have t1:w<B*10000:=by omega
  have bt:Bt w (N+14):=(bB.mul vc).le (by omega);have lt:=bW bt;obtain⟨d3,n3,v3⟩:=cU r;have c1:=dW false (at_ x i::zd r) (fun z hz=>by
   rcases z9L.1 hz with rfl | hz
   ·exact dx
   ·exact d3 z hz) (by have:=bW (z:=r) (bB.le (by omega));rw[List.length_cons];omega)
  rw[show Z4.valL (at_ x i::zd r)=w by (show at_ x i+10000*Z4.valL (zd r)=w);omega,show sg false w=w from rfl,dj t0] at c1;have k1:=za6 m n x y q B w x.length i hB0 t0 (by omega) (by omega);have k2:=za7 m n x y q B w x.length i hB0 t0 (if w<B then 1 else 10000) (by split<;>omega) (by split<;>omega) (by split<;>omega) N bB bt hN;have q0:0≤w / B:=Int.ediv_nonneg t0 (by omega);have q1:w / B<10000:=Int.ediv_lt_of_lt_mul hB0 (by rw[Int.mul_comm];exact t1);have q2:=z9i w B;have q3:0≤w % B∧w % B<B:=⟨z8W _ (by omega),Int.emod_lt_of_pos _ hB0⟩
  obtain⟨lo,hlo⟩:∃lo:Nat,w / B=(lo:Int):=⟨(w / B).toNat,by omega⟩
  rw[hlo] at k2 s1 q1 q2;have c2:=mo lo (by omega);have ll:=bW (z:=(lo:Int)) (n:=14) (by unfold Bt;omega);have c3:=m7 B lo (by omega);have p0:0≤B*(lo:Int):=Int.mul_nonneg (by omega) (by omega);have lp:=bW (z:=B*(lo:Int)) (bt.le (by omega));have c4:=pM w (B*(lo:Int)) (by omega) (by omega);rw[dj (by omega:0≤B)] at c3;rw[dj t0,show w-B*(lo:Int)=w % B by omega,dj q3.1] at c4;have hnew:i≤x.length∧(q.set i (lo:Int)).length=x.length∧Z4.Dig (q.set i (lo:Int))∧(∀j,j<i→at_ (q.set i (lo:Int)) j=0)∧Z4.valL (q.set i (lo:Int))=Z4.valL (x.drop i) / B*10000^i∧w % B=Z4.valL (x.drop i) % B:=by
   refine⟨by omega,by rw[z9R,hq],hdq.set _ (by omega),fun j hj=>by rw[at_set (by omega)];exact hq0 j (by omega),?_,s2.symm⟩;rw[Z4.valL_set_full hiq,hqv,s1,hq0 i (by omega),z9H];generalize Z4.valL (x.drop (i+1)) / B=u at *;generalize (10000:Int)^i=p at *;grind
  clear s1 s2 q2 dsg hqv hrv;have lr:=bW (z:=r) (bB.le (by omega));have hle:1+(zd r).length≤(zd r).length+1:=by omega
  have htk:List.take (1+(zd r).length) (D.int .i64 (at_ x i)::(zd r).map (D.int .i64))=(at_ x i::zd r).map (D.int .i64):=z93 (by rw[List.length_cons,z9V];omega);rw[g0];(repeat first|with_reducible refine kp [2,3,4,5,6,7,8,9,10,35] ?_|simp only[kV,simprocAttr,csE,g1,vR,vM]|refine aN ?_);(try simp only[kV,simprocAttr,csE,hI,hix,gx,csQ,hle,htk,Bool.true_or]);refine ulk ?_;(repeat first|with_reducible refine kp [2,3,4,5,6,7,8,9,10] ?_|simp only[kV,simprocAttr,csE,hI,hix,gx,csQ,hle,htk,Bool.true_or]|refine aN ?_);refine⟨_,cx (c1),ulc ?_⟩;(repeat first|simp only[kV,simprocAttr,csE,hI,hiq,hqlen]|refine aN ?_);refine kp [2,3,4,5,6,7,8,9,10] ?_;(repeat first|simp only[kV,simprocAttr,csE,hI,hiq,hqlen]|refine aN ?_);refine⟨_,(Sub.toG [2,3,4,5,6,7,8,9,10,11,12] [14,43,46]).tr (Sub.rf _),?_⟩;refine ulk ?_;refine dk ?_;refine k1 _ fun t ht=>⟨_,ht,?_⟩
  refine ulk ?_;refine dk ?_;refine k2 _ fun t ht=>⟨_,ht,?_⟩
  refine ulk ?_;(repeat first|with_reducible refine kp [2,3,4,5,6,7,8,9,10,11] ?_|simp only[kV,simprocAttr,csE,hI,hiq,hqlen]|refine aN ?_);refine⟨_,cx (c2),ulc ?_⟩;(repeat first|simp only[kV,simprocAttr,csE]|refine aN ?_);refine⟨_,cx (c3),ulc ?_⟩;(repeat first|simp only[kV,simprocAttr,csE]|refine aN ?_);refine⟨_,cx (c4),ulc ?_⟩;(repeat first|with_reducible refine kp [2,3,4,5,6,7,8,9,10] ?_|simp only[kV,simprocAttr,csE]|refine aN ?_);exact⟨(i,q.set i (lo:Int),w % B),hnew,(Sub.toG [2,3,4,5,6,7,8,9,10] [14,43,46]),by simp only;omega⟩
end Go.Proofs.YtbnhgnhgbhjkcaaGreat.M
