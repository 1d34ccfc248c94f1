/- Lemmas. -/
import Derived.Test.YtdchbabgopglcaaC29
import Derived.Test.YtdchbabgopglcaaC28
import Derived.Test.YtdchbabgopglcaaC23
import Derived.Test.YtdchbabgopglcaaC2
set_option linter.defProp false
set_option linter.unusedSimpArgs false
set_option linter.unusedVariables false
namespace Go.Proofs.Ytdchbabgopglcaa.M
open Go.RowKit
set_option maxRecDepth 20000
set_option maxHeartbeats 4000000
theorem yJ (n:Int):inK .u64 n=decide (0≤n∧n≤18446744073709551615):=rfl
def csE:=an @yJ csC
theorem jm (n:Nat) (h2:n≤9223372036854775807):Con Try.prog [] 36 [.int .i64 n] (aF n):=by
 have hn0:¬ (n:Int)<0:=by omega
 have hn1:(0:Int)≤n:=by omega
 have hn2:(n:Int)≤18446744073709551615:=by omega
 have hn3:decide ((n:Int)<0)=false:=decide_eq_false hn0;refine vq.con rfl (by simp) ?_;(repeat first|with_reducible refine kp [0,2,3,8] ?_|simp only[kV,simprocAttr,csE,bh,hn0,hn1,hn2]|refine aN ?_);refine ulk ?_;(repeat first|simp only[kV,simprocAttr,csE,hn0]|refine aN ?_);refine kp [0,2,3] ?_;(repeat first|simp only[kV,simprocAttr,csE,hn0]|refine aN ?_);refine kp [0,2,3,4] ?_;(repeat first|simp only[kV,simprocAttr,csE,hn0]|refine aN ?_);refine aY (ι:=Nat×Int×List Int) (fun s=>s.1+s.2.2.length=5∧0≤s.2.1∧s.2.1≤18446744073709551615∧s.2.1<10000^s.1∧Z4.Dig s.2.2∧Z4.valL s.2.2+s.2.1*10000^s.2.2.length=n) (fun s=>⟨av [(0,.p (.int .i64 n)),(2,.ptr 2 0 0),(3,.p (.int .u64 s.2.1)),(4,.slice 205 0 s.2.2.length)],az [(2,⟨68,2,.box (.p (.agg [.bool false,LJ []])),false⟩),(205,⟨3,1,.row (s.2.2.map (D.int .i64)),false⟩)]⟩) (fun s=>s.1) (5,n,[]) ⟨rfl,hn1,hn2,by simp only;omega,fun x hx=>by (cases hx),by simp[Z4.valL]⟩ (Sub.nilG 4 205 3 1) ?_;rintro⟨f,u,out⟩ ⟨hl,u0,u1,u2,hd,hv⟩;simp only at hl u0 u1 u2 hd hv;have hlen:(out.map (D.int .i64)).length=out.length:=List.length_map _;by_cases h:0<u
 ·obtain⟨f,rfl⟩:∃g,f=g+1:=⟨f-1,by
   have:f≠0:=fun e=>by subst e;rw[Int.pow_zero] at u2;omega
   omega⟩
  have f2:out.length+1=(out++[u % 10000]).length:=by rw[List.length_append];rfl
  have r1:u.tmod 10000=u % 10000:=Int.tmod_eq_emod_of_nonneg (by omega);have r2:u.tdiv 10000=u / 10000:=Int.tdiv_eq_ediv_of_nonneg (by omega);have hb1:(out.length+1)*8≤140737488355328:=by omega
  have hm0:0≤u % 10000∧u % 10000≤9999:=by omega
  have hq0:0≤u / 10000∧u / 10000≤u:=by omega
  (repeat first|with_reducible refine kp [0,2,3,4,12] ?_|simp only[kV,simprocAttr,csE,h]|refine aN ?_);(try simp only[kV,simprocAttr,csE,h,r1,r2,f2,csQ]);refine ulk ?_;(repeat first|with_reducible refine kp [0,2,3,4] ?_|simp only[kV,simprocAttr,csE,h,r1,r2,f2,csQ]|refine aN ?_);refine⟨(f,u / 10000,out++[u % 10000]),⟨by simp only;omega,hq0.1,by simp only;omega,?_,hd.snoc hm0,?_⟩,(by rw[ib];exact (Sub.toG [0,2,3,4] [17])),by simp only;omega⟩
  ·rw[Int.pow_succ] at u2;simp only;generalize (10000:Int)^f=p at *;omega
  ·simp only;rw[Z4.valL_snoc,←f2,Int.pow_succ,←hv];have e:u=10000*(u / 10000)+u % 10000:=by omega
   generalize u / 10000=q at *;generalize u % 10000=r at *;generalize (10000:Int)^out.length=p at *;grind
 ·have hu:u=0:=by omega
  rw[hu,Int.zero_mul,Int.add_zero] at hv;have c1:=du false out hd (by omega);rw[hv] at c1;rw[show sg false (n:Int)=n from rfl] at c1;(repeat first|with_reducible refine kp [0,2,3,4,12] ?_|simp only[kV,simprocAttr,csE,h]|refine aN ?_);(try simp only[kV,simprocAttr,csE,h,List.take_length,List.drop_zero,hlen,hn0,hn3]);refine ulk ?_;(repeat first|simp only[kV,simprocAttr,csE,h,List.take_length,List.drop_zero,hlen,hn0,hn3]|refine aN ?_);refine eS 205 _ [0,2,4] (by rfl) ?_;refine ulk ?_;(repeat first|simp only[kV,simprocAttr,csE,h,List.take_length,List.drop_zero,hlen,hn0,hn3]|refine aN ?_);refine⟨_,cx (c1),ulc ?_⟩;(repeat first|with_reducible refine kp [2] ?_|simp only[kV,simprocAttr,csE,ac,af,ae,ah]|refine aN ?_)
end Go.Proofs.Ytdchbabgopglcaa.M
namespace Go.Proofs.Ytdchbabgopglcaa
open Go.RowKit
def bp (t:List UInt8):Int×Int×Int×Int:=
 if (ar true t).2=true∧(ar true t).1<t.length∧byt t (ar true t).1=47 then
  if (ar false (t.drop ((ar true t).1+1))).2=true∧(t.drop ((ar true t).1+1)).length≤(ar false (t.drop ((ar true t).1+1))).1 then
   if (body (t.take (ar true t).1)).length≤1000∧(t.drop ((ar true t).1+1)).length≤1000 then
    if dm (frN (parseZ (t.take (ar true t).1)) (parseZ (t.drop ((ar true t).1+1)))) (frD (parseZ (t.take (ar true t).1)) (parseZ (t.drop ((ar true t).1+1))))=t then
     (frN (parseZ (t.take (ar true t).1)) (parseZ (t.drop ((ar true t).1+1))),frD (parseZ (t.take (ar true t).1)) (parseZ (t.drop ((ar true t).1+1))),0,0)
    else (0,1,3,0)
   else (0,1,2,0)
  else (0,1,1,((ar true t).1:Int)+1+(ar false (t.drop ((ar true t).1+1))).1)
 else if (ar true t).2=true∧t.length≤(ar true t).1 then (if (body t).length≤1000 then (parseZ t,1,0,0) else (0,1,2,0))
 else (0,1,1,(ar true t).1)
theorem oG {t:List UInt8} (h:(ar true t).2=false∨((ar true t).1<t.length∧byt t (ar true t).1≠47)):bp t=(0,1,1,((ar true t).1:Int)):=by
 unfold bp;rw[if_neg (by rintro⟨h1,h2,h3⟩;rcases h with h | ⟨_,h⟩;rw[h1] at h;cases h;exact h h3),if_neg (by rintro⟨h1,h2⟩;rcases h with h | ⟨h,_⟩;rw[h1] at h;cases h;omega)]
theorem oH {t:List UInt8} (h:(ar true t).2=true) (h2:t.length≤(ar true t).1):bp t=if (body t).length≤1000 then (parseZ t,1,0,0) else (0,1,2,0):=by
 unfold bp;rw[if_neg (by rintro⟨_,h4,_⟩;omega),if_pos ⟨h,h2⟩]
theorem oI {t:List UInt8} (h:(ar true t).2=true) (h2:(ar true t).1<t.length) (h3:byt t (ar true t).1=47):bp t =
  if (ar false (t.drop ((ar true t).1+1))).2=true∧(t.drop ((ar true t).1+1)).length≤(ar false (t.drop ((ar true t).1+1))).1 then
   if (body (t.take (ar true t).1)).length≤1000∧(t.drop ((ar true t).1+1)).length≤1000 then
    if dm (frN (parseZ (t.take (ar true t).1)) (parseZ (t.drop ((ar true t).1+1)))) (frD (parseZ (t.take (ar true t).1)) (parseZ (t.drop ((ar true t).1+1))))=t then
     (frN (parseZ (t.take (ar true t).1)) (parseZ (t.drop ((ar true t).1+1))),frD (parseZ (t.take (ar true t).1)) (parseZ (t.drop ((ar true t).1+1))),0,0)
    else (0,1,3,0)
   else (0,1,2,0)
  else (0,1,1,((ar true t).1:Int)+1+(ar false (t.drop ((ar true t).1+1))).1):=by
 unfold bp;rw[if_pos ⟨h,h2,h3⟩]
theorem jx {u:List UInt8} (h:(ar false u).2=true) (hl:u.length≤(ar false u).1) (hu:u.length≤1000):parseZ u≠0:=by
 obtain⟨hok,hne⟩:=p4 h hl;have hc:cA u=0:=by
  unfold cA;rw[if_pos hok,if_pos (by rw[fL];omega)]
 intro h0;have:=oC hc;rw[h0,BI] at this;exact hne this.symm
end Go.Proofs.Ytdchbabgopglcaa
namespace Go.Proofs.Ytdchbabgopglcaa.M
open Go.RowKit
set_option maxRecDepth 20000
set_option maxHeartbeats 4000000
abbrev bZ (m:Bool) (x:List Int):AObj:=⟨68,2,.box (.p (.agg [.bool m,LJ x])),false⟩
abbrev mM (m n:Bool) (x y o:List Int):=az [(2,bZ m x),(3,bZ n y),(4,bZ false []),(17,⟨3,1,.row (o.map (D.int .i64)),false⟩)]
abbrev mS (m n:Bool) (x y o:List Int) (i j:Nat) (c:Int):St:=⟨av [(2,.ptr 2 0 0),(3,.ptr 3 0 0),(4,.ptr 4 0 0),(5,.slice 17 0 o.length),(6,.p (.int .i64 i)),(7,.p (.int .i64 c)),(8,.p (.int .i64 j))],mM m n x y o⟩
theorem EI (m n:Bool) (x y o:List Int) (i j:Nat) (c:Int) (hx:Z4.Dig x) (hy:Z4.Dig y) (hi:i<x.length) (c0:0≤c) (c1:c≤20000) (Q:AExit→St→Prop) (hQ:∀s,Sub [68,3] s (mS m n x y o i j (c+at_ x i*at_ y j))→Q .normal s) :
  cw [68,3] (ConX Try.prog []) m8 Q (mS m n x y o i j c):=by
 have dx:=hx.at_ i;have dy:=hy.at_ j;have dp:=Z4.mul_bound dx dy;by_cases h:j<y.length
 ·have hI:(j:Int)<(y.length:Int):=by omega
  have hJ:(i:Int)<(x.length:Int):=by omega
  have g1:=atJ h;have g2:=atJ hi;skip
  (repeat first|with_reducible refine kp [2,3,4,5,6,7,8,48] ?_|simp only[kV,simprocAttr,csE]|refine aN ?_);(try simp only[kV,simprocAttr,csE,hI,hJ,h,hi,g1,g2]);refine ulk ?_;(repeat first|simp only[kV,simprocAttr,csE,hI,hJ,h,hi,g1,g2]|refine aN ?_);exact hQ _ (Sub.toG [2,3,4,5,6,7,8] [])
 ·have hI:¬ (j:Int)<(y.length:Int):=by omega
  rw[show at_ y j=0 from a8 (by omega),Int.mul_zero,Int.add_zero] at hQ;skip
  (repeat first|with_reducible refine kp [2,3,4,5,6,7,8,48] ?_|simp only[kV,simprocAttr,csE]|refine aN ?_);(try simp only[kV,simprocAttr,csE,hI]);refine ulk ?_;(repeat first|simp only[kV,simprocAttr,csE,hI]|refine aN ?_);exact hQ _ (Sub.toG [2,3,4,5,6,7,8] [])
theorem jt (n i:Nat):at_ (List.replicate n 0) i=0:=by
 simp only[at_,List.getD_eq_getElem?_getD,List.getElem?_replicate];split<;>rfl
theorem ow {l:List Int}{i k:Nat} (h:i≠k) (v:Int):at_ (l.set i v) k=at_ l k:=by
 simp only[at_,List.getD_eq_getElem?_getD,List.getElem?_set_ne h]
theorem EJ {V c V0 xb p ok y bj x Bi Bj:Int} (h:V+c*p=V0+x*xb*Bi) (hp:p=Bi*Bj) (hy:c+ok+x*bj=y):V+(y % 10000-ok)*p+y / 10000*(p*10000)=V0+x*(xb+bj*Bj)*Bi:=by
 have e:y=10000*(y / 10000)+y % 10000:=by omega
 generalize y / 10000=q at *;generalize y % 10000=r at *;subst hp;grind
theorem ox (a b:Int) (hl:(zd a).length+(zd b).length≤900000000000):Con Try.prog [] 80 [aF a,aF b] (aF (a*b)):=by
 obtain⟨hx,n1,v1⟩:=cI a;obtain⟨hy,n2,v2⟩:=cI b;have hfin:sg (!(decide (a<0) == decide (b<0))) (Z4.valL (zd a)*Z4.valL (zd b))=a*b:=by rw[Np,jf,jf]
 rw[aX a,aX b];generalize decide (a<0)=m at *;generalize decide (b<0)=n at *;generalize a*b=w at *;generalize zd a=x at *;generalize zd b=y at *;have e1:((x.length:Int)+(y.length:Int)+1).toNat=x.length+y.length+1:=by omega
 refine vS.con rfl (by simp) ?_;(repeat first|simp only[kV,simprocAttr,csE,aw,e1]|refine aN ?_);refine kp [2,3,4] ?_;(repeat first|simp only[kV,simprocAttr,csE,aw,e1]|refine aN ?_);refine kp [2,3,4,5] ?_;(repeat first|simp only[kV,simprocAttr,csE,aw,e1]|refine aN ?_);refine kp [2,3,4,5,6] ?_;(repeat first|simp only[kV,simprocAttr,csE,aw,e1]|refine aN ?_);refine aY (ι:=Nat×List Int) (fun s=>s.1≤x.length∧s.2.length=x.length+y.length+1∧Z4.Dig s.2∧Z4.valL s.2=Z4.valL (x.take s.1)*Z4.valL y∧∀k,s.1+y.length≤k→at_ s.2 k=0) (fun s=>⟨av [(2,.ptr 2 0 0),(3,.ptr 3 0 0),(4,.ptr 4 0 0),(5,.slice 17 0 (x.length+y.length+1)),(6,.p (.int .i64 s.1))],mM m n x y s.2⟩) (fun s=>x.length-s.1) (0,List.replicate (x.length+y.length+1) 0) ⟨Nat.zero_le _,List.length_replicate,fun z hz=>by (obtain rfl:=List.eq_of_mem_replicate hz);decide,(by simp only[List.take_zero];rw[Z4.valL_zero fun j=>jt _ j];exact (Int.zero_mul _).symm),fun k _=>jt _ k⟩ (Sub.toG [2,3,4,5,6] []) ?_;rintro⟨i,o⟩ ⟨hi,hl2,hd,hv,h0⟩;simp only at hi hl2 hd hv h0;have hlen:(o.map (D.int .i64)).length=x.length+y.length+1:=by rw[List.length_map,hl2]
 by_cases h:i<x.length
 ·have hI:(i:Int)<(x.length:Int):=by omega
  have dx:=hx.at_ i;(repeat first|with_reducible refine kp [2,3,4,5,6,22] ?_|simp only[kV,simprocAttr,csE,hI]|refine aN ?_);refine ulk ?_;(repeat first|simp only[kV,simprocAttr,csE,hI]|refine aN ?_);refine kp [2,3,4,5,6] ?_;(repeat first|simp only[kV,simprocAttr,csE,hI]|refine aN ?_);refine kp [2,3,4,5,6,7] ?_;(repeat first|simp only[kV,simprocAttr,csE,hI]|refine aN ?_);refine kp [2,3,4,5,6,7,8] ?_;(repeat first|simp only[kV,simprocAttr,csE,hI]|refine aN ?_);refine aY (ι:=Nat×Int×List Int) (fun s=>0≤s.2.1∧s.2.1≤9999∧s.2.2.length=x.length+y.length+1∧Z4.Dig s.2.2∧Z4.valL s.2.2+s.2.1*10000^(i+s.1)=Z4.valL (x.take i)*Z4.valL y+at_ x i*Z4.valL (y.take s.1)*10000^i∧(∀k,i+s.1≤k→at_ s.2.2 k=at_ o k)∧s.1≤y.length+1∧(s.1≤y.length∨s.2.1=0)) (fun s=>⟨av [(2,.ptr 2 0 0),(3,.ptr 3 0 0),(4,.ptr 4 0 0),(5,.slice 17 0 (x.length+y.length+1)),(6,.p (.int .i64 i)),(7,.p (.int .i64 s.2.1)),(8,.p (.int .i64 s.1))],mM m n x y s.2.2⟩) (fun s=>y.length+1-s.1) (0,0,o) ⟨Int.le_refl _,by simp,hl2,hd,by simp only[List.take_zero,Int.zero_mul,Int.add_zero];rw[hv];simp[Z4.valL],fun k _=>rfl,Nat.zero_le _,.inl (Nat.zero_le _)⟩ (Sub.toG [2,3,4,5,6,7,8] []) ?_;rintro⟨j,c,p⟩ ⟨c0,c1,hp,hdp,hvp,hpo,hj,hjc⟩;simp only at c0 c1 hp hdp hvp hpo hj hjc;have hplen:(p.map (D.int .i64)).length=x.length+y.length+1:=by rw[List.length_map,hp]
  by_cases hc:j<y.length∨0<c
  ·have hjy:j≤y.length:=by
    rcases hc with hc | hc
    ·omega
    ·exact hjc.resolve_right (by omega)
   have dy:=hy.at_ j;have dp:=hdp.at_ (i+j);have db:=Z4.mul_bound dx dy;have hk:i+j<x.length+y.length+1:=by omega
   have hkp:i+j<p.length:=by omega
   have gp:=atJ hkp;have t1:((i:Int)+(j:Int)).toNat=i+j:=by omega
   have t2:(0:Int)≤(i:Int)+j:=by omega
   have t3:(i:Int)+j<((x.length+y.length+1:Nat):Int):=by omega
   have k1:=EI m n x y p i j (c+at_ p (i+j)) hx hy h (by omega) (by omega);unfold mS at k1;rw[hp] at k1;have hvz:j<y.length∨(c+at_ p (i+j)+at_ x i*at_ y j) / 10000=0:=by
    by_cases hcy:j<y.length
    ·exact .inl hcy
    ·right
     have q1:at_ y j=0:=a8 (by omega);have q2:=hpo (i+j) (Nat.le_refl _);rw[h0 (i+j) (by omega)] at q2;rw[q1,q2,Int.mul_zero];omega
   obtain⟨z,hz⟩:∃z,z=c+at_ p (i+j)+at_ x i*at_ y j:=⟨_,rfl⟩
   have hzb:0≤z∧z≤99999999:=by omega
   have hm:=EJ (Bj:=10000^j) hvp (Int.pow_add _ _ _) hz.symm;rw[←hz] at k1 hvz;have r1:z.tmod 10000=z % 10000:=Int.tmod_eq_emod_of_nonneg hzb.1;have r2:z.tdiv 10000=z / 10000:=Int.tdiv_eq_ediv_of_nonneg hzb.1;have hnew:0≤z / 10000∧z / 10000≤9999∧(p.set (i+j) (z % 10000)).length=x.length+y.length+1∧Z4.Dig (p.set (i+j) (z % 10000))∧Z4.valL (p.set (i+j) (z % 10000))+z / 10000*10000^(i+(j+1))=Z4.valL (x.take i)*Z4.valL y+at_ x i*Z4.valL (y.take (j+1))*10000^i∧(∀k,i+(j+1)≤k→at_ (p.set (i+j) (z % 10000)) k=at_ o k)∧j+1≤y.length+1∧(j+1≤y.length∨z / 10000=0):=by
    refine⟨by omega,by omega,by rw[List.length_set,hp],hdp.set _ (by omega),?_,fun k hk2=>by rw[ow (by omega)];exact hpo k (by omega),by omega,by omega⟩;rw[Z4.valL_set_full hkp,Z4.valL_take_succ,←Nat.add_assoc,Int.pow_succ];exact hm
   clear hz hm hvz;by_cases hcy:j<y.length
   ·have hcI:(j:Int)<(y.length:Int):=by omega
    (repeat first|with_reducible refine kp [2,3,4,5,6,7,8,33] ?_|simp only[kV,simprocAttr,csE,hcI]|refine aN ?_);(try simp only[kV,simprocAttr,csE,hcI,t1,t2,t3,gp,hk,hkp,hplen,r1,r2]);refine ulk ?_;(repeat first|simp only[kV,simprocAttr,csE,hcI,t1,t2,t3,gp,hk,hkp,hplen,r1,r2]|refine aN ?_);refine kp [2,3,4,5,6,7,8] ?_;(repeat first|simp only[kV,simprocAttr,csE,hcI,t1,t2,t3,gp,hk,hkp,hplen,r1,r2]|refine aN ?_);refine⟨_,(Sub.toG [2,3,4,5,6,7,8] []).tr (Sub.rf _),?_⟩;refine ulk ?_;refine cN ?_;refine k1 _ fun t ht=>⟨_,ht,?_⟩
    refine ulk ?_;(repeat first|with_reducible refine kp [2,3,4,5,6,7,8] ?_|simp only[kV,simprocAttr,csE,hcI,t1,t2,t3,gp,hk,hkp,hplen,r1,r2]|refine aN ?_);exact⟨(j+1,z / 10000,p.set (i+j) (z % 10000)),hnew,(Sub.toG [2,3,4,5,6,7,8] []),by simp only;omega⟩
   ·have hcI:¬ (j:Int)<(y.length:Int):=by omega
    have hc0:0<c:=by omega
    (repeat first|with_reducible refine kp [2,3,4,5,6,7,8,33] ?_|simp only[kV,simprocAttr,csE,hcI,hc0]|refine aN ?_);(try simp only[kV,simprocAttr,csE,hcI,hc0,t1,t2,t3,gp,hk,hkp,hplen,r1,r2]);refine ulk ?_;(repeat first|simp only[kV,simprocAttr,csE,hcI,hc0,t1,t2,t3,gp,hk,hkp,hplen,r1,r2]|refine aN ?_);refine kp [2,3,4,5,6,7,8] ?_;(repeat first|simp only[kV,simprocAttr,csE,hcI,hc0,t1,t2,t3,gp,hk,hkp,hplen,r1,r2]|refine aN ?_);refine⟨_,(Sub.toG [2,3,4,5,6,7,8] []).tr (Sub.rf _),?_⟩;refine ulk ?_;refine cN ?_;refine k1 _ fun t ht=>⟨_,ht,?_⟩
    refine ulk ?_;(repeat first|with_reducible refine kp [2,3,4,5,6,7,8] ?_|simp only[kV,simprocAttr,csE,hcI,hc0,t1,t2,t3,gp,hk,hkp,hplen,r1,r2]|refine aN ?_);exact⟨(j+1,z / 10000,p.set (i+j) (z % 10000)),hnew,(Sub.toG [2,3,4,5,6,7,8] []),by simp only;omega⟩
  ·have hcI:¬ (j:Int)<(y.length:Int):=by omega
   have hc0:¬ 0<c:=by omega
   have hcz:c=0:=by omega
   rw[hcz,Int.zero_mul,Int.add_zero,Z4.valL_take_all (by omega:y.length≤j)] at hvp;have hw:Z4.valL p=Z4.valL (x.take (i+1))*Z4.valL y:=by rw[hvp,Z4.valL_take_succ];grind
   (repeat first|with_reducible refine kp [2,3,4,5,6,7,8,33] ?_|simp only[kV,simprocAttr,csE,hcI,hc0]|refine aN ?_);refine ulk ?_;(repeat first|with_reducible refine kp [2,3,4,5,6] ?_|simp only[kV,simprocAttr,csE,hcI,hc0]|refine aN ?_);exact⟨(i+1,p),⟨h,hp,hdp,hw,fun k hk=>by rw[hpo k (by omega)];exact h0 k (by omega)⟩,(Sub.toG [2,3,4,5,6] []),by simp only;omega⟩
 ·have hI:¬ (i:Int)<(x.length:Int):=by omega
  rw[Z4.valL_take_all (by omega:x.length≤i)] at hv;have htk:o.take (x.length+y.length+1)=o:=List.take_of_length_le (by omega);have c1:=du (!(m == n)) o hd (by omega);rw[hv,hfin] at c1;(repeat first|with_reducible refine kp [2,3,4,5,6,22] ?_|simp only[kV,simprocAttr,csE,hI]|refine aN ?_);(try simp only[kV,simprocAttr,csE,hI,htk,List.drop_zero,hlen]);refine ulk ?_;(repeat first|simp only[kV,simprocAttr,csE,hI,htk,List.drop_zero,hlen]|refine aN ?_);refine eS 17 _ [2,3,4,5] (by rfl) ?_;refine ulk ?_;(repeat first|simp only[kV,simprocAttr,csE,hI,htk,List.drop_zero,hlen]|refine aN ?_);refine⟨_,cx (c1),ulc ?_⟩;(repeat first|with_reducible refine kp [4] ?_|simp only[kV,simprocAttr,csE,ac,af,ae,ah]|refine aN ?_)
theorem fsm {a:Int}{n:Nat} (h:Bt a n) (hn:n≤2048000000000):Sm a:=h.sm (by omega)
theorem qA {a:Int}{n:Nat} (h:Bt a n) (hn:n≤4147200000000):Sm a:=h.sm (by omega)
theorem j8 {a:Int}{n:Nat} (h:Bt a n) (hn:n≤8000000000000):Sm a:=h.sm (by omega)
abbrev LU (l:List Int):D:=.list 100 1 (l.map (D.int .u32))
def zu (z:Int):List Int:=digs 4294967296 z.natAbs
theorem fe (z:Int):Dig (zu z)∧Norm (zu z)∧valL (zu z)=z.natAbs:=by
 obtain⟨g1,g2,g3⟩:=jC (B:=4294967296) (by omega) (v:=valL) rfl (fun _ _=>rfl) z.natAbs;exact⟨fun x hx=>by have:=g1 x hx;omega,g2,g3⟩
theorem eD (z:Int):aT z = .agg [.bool (decide (z<0)),LU (zu z)]:=rfl
theorem j9 {z:Int}:zu z=[]↔z=0:=by
 obtain⟨h1,h2,h3⟩:=fe z;rw[←valL_eq_zero h1 h2,h3];omega
theorem me {z:Int} (h:z≠0):0<(zu z).length:=List.length_pos_iff.2 fun e=>h (j9.1 e)
theorem qB {z:Int}{n:Nat} (h:Bt z n):32*(zu z).length≤n+32:=by
 obtain⟨h1,h2,h3⟩:=fe z;refine len_of_bt h1 h2 ?_;rw[h3];unfold Bt at *;omega
def dN:Nat→Int→List Int
 |0,_=>[]
 |n+1,q=>q % 4294967296::dN n (q / 4294967296)
theorem iP:∀(n:Nat) (q:Int),Dig (dN n q)
 |0,_=>fun x hx=>by cases hx
 |n+1,q=>fun x hx=>by
  rcases List.mem_cons.1 hx with rfl | hx
  ·omega
  ·exact iP n _ x hx
theorem mf:∀{n:Nat}{q:Int},0≤q→q<4294967296^n→valL (dN n q)=q
 |0,q,h0,h1=>by rw[Int.pow_zero] at h1;show (0:Int)=q;omega
 |n+1,q,h0,h1=>by
  rw[Int.pow_succ] at h1;have:=mf (n:=n) (q:=q / 4294967296) (by omega) (by generalize (4294967296:Int)^n=p at *;omega);show q % 4294967296+4294967296*valL (dN n (q / 4294967296))=q
  rw[this];omega
theorem iQ:∀{l:List Int},Dig l→l=dN l.length (valL l)
 |[],_=>rfl
 |x::l,h=>by
  have hx:=h x List.mem_cons_self;have e1:valL (x::l)=x+4294967296*valL l:=rfl;rw[List.length_cons,dN,show valL (x::l) % 4294967296=x by rw[e1];omega,show valL (x::l) / 4294967296=valL l by rw[e1];omega,←iQ h.tail]
theorem mg {n:Nat}{q:Int} (h0:0≤q) (h1:q<4294967296^n):sg false (valL (dN n q))=q:=mf h0 h1
theorem ff {l:List Int} (h:Dig l):∀x∈l,Fit .u32 x:=fun x hx=>by have:=h x hx;simp only[Fit];omega
theorem ka {w:World}{base:Nat→Prop}{s:SV}{l:List Int} (h:IsL w s .u32 l) (hav:Av AN base w):V w (NBs base w) (.slice s.a s.len s.cap) (LU l):=lw (k:=.u32) (by simp[AN,ET]) hav h
theorem Qv (a b:List Int) (da:Dig a) (db:Dig b) (na:Norm a) (nb:Norm b):Con Try.prog AN 58 [LU a,LU b] (.int .i64 (cmpZ (valL a) (valL b))):=ey fun base w v0 v1 hav h0 h1=>by
 obtain⟨s,rfl,hs⟩:=dR (k:=.u32) h0 (ff da);obtain⟨t,rfl,ht⟩:=dR (k:=.u32) h1 (ff db);exact (lj s t a b w hs ht na nb).mono fun e w' h=>⟨_,h.1,fun _ _ => .int _ _,h.2⟩
theorem eE (m:Bool) (a:List Int) (da:Dig a) (hs:Sm (sg m (valL a))):Con Try.prog AN 44 [.bool m,LU a] (aT (sg m (valL a))):=ey fun base w v0 v1 hav h0 h1=>by
 cases fQ h0;obtain⟨s,rfl,ha⟩:=dR (k:=.u32) h1 (ff da);exact (made_any m s a w ha hs).mono fun e w' ⟨x,h1,h2,h3⟩=>⟨_,h1,fun _ hav=>gC h2 hav,h3⟩
theorem Qw (a:List Int) (d:Int) (da:Dig a) (hl:a.length≤1099511627776) (hd:1≤d∧d≤4294967295):Con Try.prog AN 59 [LU a,.int .u32 d] (.tup [LU (dN a.length (valL a / d)),.int .u32 (valL a % d)]):=ey fun base w v0 v1 hav h0 h1=>by
 obtain⟨s,rfl,ha⟩:=dR (k:=.u32) h0 (ff da);cases ls h1;exact (Tm s a d w ha hl hd).mono fun e w' ⟨t,l,h1,h2,h3,h4,h5⟩=>⟨_,h1,fun _ hav=>by
  have:=iQ (l:=l) h2.2;rw[h3,h4] at this;rw[←this];exact iu (ka h2 hav) (.int _ _),h5⟩
theorem Qx (a b:List Int) (da:Dig a) (db:Dig b) (nb:Norm b) (hl:a.length≤549755813888) (h2:2≤b.length) (hba:b.length≤a.length):Con Try.prog AN 60 [LU a,LU b] (.tup [LU (dN (a.length+1-b.length) (valL a / valL b)),LU (dN (a.length+1) (valL a % valL b))]):=ey fun base w v0 v1 hav h0 h1=>by
 obtain⟨s,rfl,hs⟩:=dR (k:=.u32) h0 (ff da);obtain⟨t,rfl,ht⟩:=dR (k:=.u32) h1 (ff db);exact (yx s t a b w hs ht hl h2 hba nb).mono fun e w' ⟨p,q,l,m,h1,h2,h3,h4,h5,h6,h7,h8⟩=>⟨_,h1,fun _ hav=>by
  have e1:=iQ (l:=l) h2.2;have e2:=iQ (l:=m) h3.2;rw[h4,h6] at e1;rw[h5,h7] at e2;rw[←e1,←e2];exact iu (ka h2 hav) (ka h3 hav),h8⟩
theorem Qy (a b:List Int) (da:Dig a) (db:Dig b) (hl:a.length≤1099511627776) (hba:b.length≤a.length) (hge:valL b≤valL a):Con Try.prog AN 62 [LU a,LU b] (LU (dN a.length (valL a-valL b))):=ey fun base w v0 v1 hav h0 h1=>by
 obtain⟨s,rfl,hs⟩:=dR (k:=.u32) h0 (ff da);obtain⟨t,rfl,ht⟩:=dR (k:=.u32) h1 (ff db);exact (ln s t a b w hs ht hl hba hge).mono fun e w' ⟨p,l,h1,h2,h3,h4,h5⟩=>⟨_,h1,fun _ hav=>by
  have e1:=iQ (l:=l) h2.2;rw[h3,h4] at e1;rw[←e1];exact ka h2 hav,h5⟩
theorem cOf (n:Int) (h:-9223372036854775808≤n∧n≤9223372036854775807):Con Try.prog AN 51 [.int .i64 n] (aT n):=eV fun base w v1 hav h1=>by
 cases ls h1;exact (yq n w h).mono fun e w' ⟨x,h1,h2,h3⟩=>⟨_,h1,fun _ hav=>gC h2 hav,h3⟩
theorem qC (t:List UInt8) (b:Bool) (hs:t.length≤9223372036854775807):Con Try.prog AN 31 [.str t,.bool b] (.tup [.int .i64 (ar b t).1,.bool (ar b t).2]):=ey fun base w v1 v2 hav h1 h2=>by
 cases fP h1;cases fQ h2;exact (iZ t b w hs).mono fun e w' h=>⟨_,h.1,fun _ _=>iu (.int _ _) (.bool _),h.2⟩
theorem iS (t:List UInt8) (hs:t.length≤9223372036854775807):Con Try.prog AN 32 [.str t,.str [45]] (.str (body t)):=ey fun base w v1 v2 hav h1 h2=>by
 cases fP h1;cases fP h2;exact (mw t w hs).mono fun e w' h=>⟨_,h.1,fun _ _=>lq _,h.2 ▸ Ext.rf _⟩
theorem mh (t:List UInt8) (hs:t.length≤9223372036854775807):Con Try.prog AN 33 [.str t] (.tup [aT (parseZ t),flt (cA t) (dP t)]):=eV fun base w v1 hav h1=>by
 cases fP h1;exact (BN t w hs).mono fun e w' ⟨x,h1,h2,h3⟩=>⟨_,h1,fun _ hav=>iu (gC h2 hav) (FK _ _),h3⟩
theorem mi (a:Int) (n:Nat) (ba:Bt a n) (hn:n≤2048000000000):Con Try.prog AN 52 [aT (a)] (.str (dec a)):=eV fun base w v0 hav h0=>by
 obtain⟨x,rfl,hx⟩:=fR h0 (fsm ba hn);exact (text_any x a w hx).mono fun e w' h=>⟨_,h.1,fun _ _=>lq _,h.2⟩
theorem iT (a:Int) (n:Nat) (ba:Bt a n) (hn:n≤2048000000000):Con Try.prog AN 56 [aF (a)] (.str (dec a)):=eV fun base w v0 hav h0=>by
 obtain⟨x,rfl,hx⟩:=FJ h0 (fsm ba hn);exact (Z4.text_any x a w hx).mono fun e w' h=>⟨_,h.1,fun _ _=>lq _,h.2⟩
theorem qD (a b:Int) (n:Nat) (ba:Bt a n) (bb:Bt b n) (hn:n≤8000000000000):Con Try.prog AN 61 [aT (a),aT (b)] (aT (a+b)):=ey fun base w v0 v1 hav h0 h1=>by
 obtain⟨x,rfl,hx⟩:=fR h0 (j8 ba hn);obtain⟨y,rfl,hy⟩:=fR h1 (j8 bb hn);exact (qd x y a b w hx hy ((ba.add bb).sm (by omega))).mono fun e w' ⟨x,h1,h2,h3⟩=>⟨_,h1,fun _ hav=>gC h2 hav,h3⟩
theorem qE (a b:Int) (n:Nat) (ba:Bt a n) (bb:Bt b n) (hn:n≤8000000000000):Con Try.prog AN 50 [aT (a),aT (b)] (aT (a-b)):=ey fun base w v0 v1 hav h0 h1=>by
 obtain⟨x,rfl,hx⟩:=fR h0 (j8 ba hn);obtain⟨y,rfl,hy⟩:=fR h1 (j8 bb hn);exact (PZ x y a b w hx hy ((ba.sub bb).sm (by omega))).mono fun e w' ⟨x,h1,h2,h3⟩=>⟨_,h1,fun _ hav=>gC h2 hav,h3⟩
theorem qF (a:Int) (n:Nat) (ba:Bt a n) (hn:n≤4147200000000):Con Try.prog AN 49 [aT (a)] (aT (-a)):=eV fun base w v0 hav h0=>by
 obtain⟨x,rfl,hx⟩:=fR h0 (qA ba hn);exact (nl x a w hx).mono fun e w' ⟨x,h1,h2,h3⟩=>⟨_,h1,fun _ hav=>gC h2 hav,h3⟩
theorem qG (a:Int) (n:Nat) (ba:Bt a n) (hn:n≤4147200000000):Con Try.prog AN 48 [aT (a)] (.int .i64 (bR a)):=eV fun base w v0 hav h0=>by
 obtain⟨x,rfl,hx⟩:=fR h0 (qA ba hn);exact (yl x a w hx).mono fun e w' h=>⟨_,h.1,fun _ _ => .int _ _,h.2⟩
abbrev eP (z:Int):D:=.agg [.bool false,LJ (zd z)]
theorem cJ {z:Int} (h:0≤z):aF z=eP z:=by rw[aX,decide_eq_false (by omega)]
abbrev bE (z:Int):AObj:=⟨68,2,.box (.p (eP z)),false⟩
abbrev vM (m n:Bool) (x y q:List Int) (u r:Int):=az [(2,bZ m x),(3,bZ n y),(4,bZ false []),(5,bZ false []),(6,⟨28,2,.box (.p (.agg [.int .i64 0,.int .i64 0])),false⟩),(7,bE u),(28,⟨3,1,.row (q.map (D.int .i64)),false⟩),(9,bE r)]
abbrev vR (L:Nat) (i:Int) (l:List (Nat×AV)):=av ((2,.ptr 2 0 0)::(3,.ptr 3 0 0)::(4,.ptr 4 0 0)::(5,.ptr 5 0 0)::(6,.ptr 6 0 0)::(7,.ptr 7 0 0)::(8,.slice 28 0 L)::(9,.ptr 9 0 0)::(10,.p (.int .i64 i))::l)
theorem oM:Bt 10000 14:=by unfold Bt;decide
theorem E6 {x:List Int}{i:Nat} (h:i<x.length):Z4.valL (x.drop i)=at_ x i+10000*Z4.valL (x.drop (i+1)):=by
 rw[List.drop_eq_getElem_cons h];show x[i]+10000*_=_
 simp[at_,h]
theorem E7 {B H d H':Int} (hB:0<B) (h:H'=d+10000*H):H' / B=10000*(H / B)+(d+10000*(H % B)) / B∧H' % B=(d+10000*(H % B)) % B:=by
 have e:H'=(d+10000*(H % B))+B*(10000*(H / B)):=by
  have:=Int.mul_ediv_add_emod H B;generalize H / B=q at *;generalize H % B=r at *;grind
 rw[e,Int.add_mul_ediv_left _ _ (by omega),Int.add_mul_emod_self_left];exact⟨by omega,rfl⟩
section
variable (m n:Bool) (x y q:List Int) (B t:Int) (L:Nat) (i:Int)
theorem E8 (hB:0<B) (ht:0≤t) (lB:(zd B).length≤900000000000) (lt:(zd t).length≤900000000000) (Q:AExit→St→Prop) (hQ:∀s,Sub [68,28,3,2000046] s ⟨vR L i [(11,.p (.int .i64 0)),(12,.p (.int .i64 (if t<B then 1 else 10000)))],vM m n x y q B t⟩→Q .normal s) :
  cw [68,28,3,2000046] (ConX Try.prog []) m9 Q ⟨vR L i [(11,.p (.int .i64 0)),(12,.p (.int .i64 10000))],vM m n x y q B t⟩:=by
 obtain⟨d1,n1,v1⟩:=cI B;obtain⟨d2,n2,v2⟩:=cI t;have c1:=qS (zd t) (zd B) d2 d1 n2 n1 (by omega) (by omega);rw[v1,v2,show (B.natAbs:Int)=B by omega,show (t.natAbs:Int)=t by omega] at c1;by_cases h:t<B
 ·rw[ei h] at c1;rw[if_pos h] at hQ;skip
  (repeat first|simp only[kV,simprocAttr,csE,vR,vM]|refine aN ?_);refine⟨_,cx (c1),ulc ?_⟩;(repeat first|with_reducible refine kp [2,3,4,5,6,7,8,9,10,11,12,53] ?_|simp only[kV,simprocAttr,csE,vR]|refine aN ?_);(try simp only[kV,simprocAttr,csE,vR,show (-1:Int)<0 by decide]);refine ulk ?_;(repeat first|simp only[kV,simprocAttr,csE,vR,show (-1:Int)<0 by decide]|refine aN ?_);exact hQ _ (Sub.toG [2,3,4,5,6,7,8,9,10,11,12] [])
 ·have hz:¬ cmpZ t B<0:=by unfold cmpZ;(repeat' split)<;>omega
  generalize cmpZ t B=z at *;rw[if_neg h] at hQ;skip
  (repeat first|simp only[kV,simprocAttr,csE,vR,vM]|refine aN ?_);refine⟨_,cx (c1),ulc ?_⟩;(repeat first|with_reducible refine kp [2,3,4,5,6,7,8,9,10,11,12,53] ?_|simp only[kV,simprocAttr,csE]|refine aN ?_);(try simp only[kV,simprocAttr,csE,hz]);refine ulk ?_;(repeat first|simp only[kV,simprocAttr,csE,hz]|refine aN ?_);exact hQ _ (Sub.toG [2,3,4,5,6,7,8,9,10,11,12] [])
theorem E9 (hB:0<B) (ht:0≤t) (hi:Int) (h1:t<B*hi) (h2:0<hi) (h3:hi≤10000) (N:Nat) (bB:Bt B N) (bt:Bt t (N+14)) (hN:N≤8000000000000) (Q:AExit→St→Prop) (hQ:∀s,Sub [68,28,3,2000046] s ⟨vR L i [(11,.p (.int .i64 (t / B)))],vM m n x y q B t⟩→Q .normal s) :
  cw [68,28,3,2000046] (ConX Try.prog []) nc Q ⟨vR L i [(11,.p (.int .i64 0)),(12,.p (.int .i64 hi))],vM m n x y q B t⟩:=by
 have lB:=bV bB;have lt:=bV bt;skip
 (repeat first|simp only[kV,simprocAttr,csE,vR,vM]|refine aN ?_);refine aY (ι:=Nat×Nat) (fun s=>s.1<s.2∧s.2≤10000∧B*s.1≤t∧t<B*s.2) (fun s=>⟨vR L i [(11,.p (.int .i64 s.1)),(12,.p (.int .i64 s.2))],vM m n x y q B t⟩) (fun s=>s.2-s.1) (0,hi.toNat) ⟨by simp only;omega,by simp only;omega,by simp only;rw[Int.natCast_zero,Int.mul_zero];exact ht,by simp only;rw[show ((hi.toNat:Nat):Int)=hi by omega];exact h1⟩ (by simp only[show ((hi.toNat:Nat):Int)=hi by omega];exact (Sub.toG [2,3,4,5,6,7,8,9,10,11,12] [14,43,46])) ?_;rintro⟨a,b⟩ ⟨k1,k2,k3,k4⟩;simp only at k1 k2 k3 k4;by_cases h:1<(b:Int)-a
 ·obtain⟨c,hc⟩:∃c:Nat,c=(a+b) / 2:=⟨_,rfl⟩
  have e1:((a:Int)+(b:Int)).tdiv 2=(c:Int):=by rw[Int.tdiv_eq_ediv_of_nonneg (by omega)];omega
  have hcb:c≤10000:=by omega
  have c1:=jm c (by omega);have bc:Bt (B*10000) (N+14):=bB.mul oM;have bm:Bt (B*(c:Int)) (N+14):=bc.le (by
   have q1:B*(c:Int)≤B*10000:=Int.mul_le_mul_of_nonneg_left (by omega) (by omega);have q2:0≤B*(c:Int):=Int.mul_nonneg (by omega) (by omega);omega)
  have lc:=bV (z:=(c:Int)) (n:=14) (by unfold Bt;omega);have lm:=bV bm;have c2:=ox B c (by omega);have c3:=yd (B*(c:Int)) t (by omega) (by omega);rw[cJ (by omega:(0:Int)≤B)] at c2;rw[cJ ht] at c3;by_cases hcm:B*(c:Int)≤t
  ·have hz:cmpZ (B*(c:Int)) t≤0:=by unfold cmpZ;(repeat' split)<;>omega
   generalize cmpZ (B*(c:Int)) t=z at *;(repeat first|with_reducible refine kp [2,3,4,5,6,7,8,9,10,11,12,57] ?_|simp only[kV,simprocAttr,csE,h,vR,vM]|refine aN ?_);(try simp only[kV,simprocAttr,csE,h,e1]);refine ulk ?_;(repeat first|with_reducible refine kp [2,3,4,5,6,7,8,9,10,11,12,13] ?_|simp only[kV,simprocAttr,csE,h,e1]|refine aN ?_);refine⟨_,cx (c1),ulc ?_⟩;(repeat first|simp only[kV,simprocAttr,csE]|refine aN ?_);refine⟨_,cx (c2),ulc ?_⟩;(repeat first|simp only[kV,simprocAttr,csE]|refine aN ?_);refine⟨_,cx (c3),ulc ?_⟩;(repeat first|with_reducible refine kp [2,3,4,5,6,7,8,9,10,11,12,13,68] ?_|simp only[kV,simprocAttr,csE]|refine aN ?_);(try simp only[kV,simprocAttr,csE,hz]);refine ulk ?_;(repeat first|simp only[kV,simprocAttr,csE,hz]|refine aN ?_);exact⟨(c,b),⟨by simp only;omega,k2,hcm,k4⟩,(Sub.toG [2,3,4,5,6,7,8,9,10,11,12] [14,43,46]),by simp only;omega⟩
  ·have hz:¬ cmpZ (B*(c:Int)) t≤0:=by unfold cmpZ;(repeat' split)<;>omega
   generalize cmpZ (B*(c:Int)) t=z at *;(repeat first|with_reducible refine kp [2,3,4,5,6,7,8,9,10,11,12,57] ?_|simp only[kV,simprocAttr,csE,h,vR,vM]|refine aN ?_);(try simp only[kV,simprocAttr,csE,h,e1]);refine ulk ?_;(repeat first|with_reducible refine kp [2,3,4,5,6,7,8,9,10,11,12,13] ?_|simp only[kV,simprocAttr,csE,h,e1]|refine aN ?_);refine⟨_,cx (c1),ulc ?_⟩;(repeat first|simp only[kV,simprocAttr,csE]|refine aN ?_);refine⟨_,cx (c2),ulc ?_⟩;(repeat first|simp only[kV,simprocAttr,csE]|refine aN ?_);refine⟨_,cx (c3),ulc ?_⟩;(repeat first|with_reducible refine kp [2,3,4,5,6,7,8,9,10,11,12,13,68] ?_|simp only[kV,simprocAttr,csE]|refine aN ?_);(try simp only[kV,simprocAttr,csE,hz]);refine ulk ?_;(repeat first|simp only[kV,simprocAttr,csE,hz]|refine aN ?_);exact⟨(a,c),⟨by simp only;omega,hcb,k3,by simp only;omega⟩,(Sub.toG [2,3,4,5,6,7,8,9,10,11,12] [14,43,46]),by simp only;omega⟩
 ·have hab:b=a+1:=by omega
  have hq:t-B*a<B.natAbs:=by
   rw[hab,show ((a+1:Nat):Int)=(a:Int)+1 by omega,Int.mul_add,Int.mul_one] at k4;omega
  have hr:t / B=(a:Int):=(mD (q:=(a:Int)) (r:=t-B*a) (by omega) (by omega) hq).1;rw[hr] at hQ;(repeat first|with_reducible refine kp [2,3,4,5,6,7,8,9,10,11,12,57] ?_|simp only[kV,simprocAttr,csE,h,vR,vM]|refine aN ?_);refine ulk ?_;(repeat first|simp only[kV,simprocAttr,csE,h]|refine aN ?_);exact hQ _ (Sub.toG [2,3,4,5,6,7,8,9,10,11] [])
end
end Go.Proofs.Ytdchbabgopglcaa.M
