/- Lemmas. -/
import Derived.Test.YtdchbabgopglcaaC30
set_option linter.defProp false
set_option linter.unusedSectionVars false
set_option linter.unusedSimpArgs false
set_option linter.unusedVariables false
namespace Go.Proofs.Ytdchbabgopglcaa.M
open Go.RowKit
set_option maxRecDepth 20000
set_option maxHeartbeats 4000000
abbrev wM (m n:Bool) (x y:List Int) (u z r:Int):=az [(2,bZ m x),(3,bZ n y),(4,bZ false []),(5,bZ false []),(6,⟨28,2,.box (.p (.agg [.int .i64 0,.int .i64 0])),false⟩),(7,bE u),(9,bE r),(14,bE z)]
abbrev wR:=av [(2,.ptr 2 0 0),(3,.ptr 3 0 0),(4,.ptr 4 0 0),(5,.ptr 5 0 0),(6,.ptr 6 0 0),(7,.ptr 7 0 0),(9,.ptr 9 0 0),(14,.ptr 14 0 0)]
theorem iL:dJ (.ptr 9 0 0) (.ptr 4 0 0)=true:=rfl
theorem Qq:decide ((0:Int)<0)=false:=rfl
section
variable (m n:Bool) (x y:List Int) (B z r:Int) (hz:0≤z) (hr:0≤r) (hrB:r<B) (lz:(zd z).length≤800000000000) (lz1:(zd (z+1)).length≤800000000000) (lr:(zd r).length≤800000000000) (lB:(zd B).length≤800000000000) (lr2:(zd (B-r)).length≤800000000000)
include hz hr hrB lz lz1 lr lB
theorem Qr (h:m=false∨r=0):cw [68,28,3,2000046] (ConX Try.prog []) je (ac (.tup [aF (sg (!(m == n)) z),aF r,flt 0 0]) [(4,some (true,2)),(5,some (true,2)),(6,some (true,2))]) ⟨wR,wM m n x y B z r⟩:=by
 obtain⟨d1,n1,v1⟩:=cI z;have c1:=du (!(m == n)) (zd z) d1 (by omega);rw[v1,show (z.natAbs:Int)=z by omega] at c1;rw[cJ hr];cases m with
 |false =>
  skip
  (repeat first|with_reducible refine kp [2,3,4,5,6,7,9,14,90] ?_|simp only[kV,simprocAttr,csE,wR,wM]|refine aN ?_);(try simp only[kV,simprocAttr,csE,iL]);refine ulk ?_;(repeat first|with_reducible refine kp [2,3,4,5,6,9,14] ?_|simp only[kV,simprocAttr,csE,iL]|refine aN ?_);refine⟨_,cx (c1),ulc ?_⟩;(repeat first|with_reducible refine kp [4,5,6] ?_|simp only[kV,simprocAttr,csE,ac,af,ae,ah]|refine aN ?_);rfl
 |true =>
  have hr0:r=0:=by rcases h with h | h;cases h;exact h
  have e0:(zd r).length=0:=by rw[hr0,fi.2 rfl];rfl
  skip
  (repeat first|with_reducible refine kp [2,3,4,5,6,7,9,14,90] ?_|simp only[kV,simprocAttr,csE,wR,wM,e0,Qq]|refine aN ?_);(try simp only[kV,simprocAttr,csE,iL]);refine ulk ?_;(repeat first|with_reducible refine kp [2,3,4,5,6,9,14] ?_|simp only[kV,simprocAttr,csE,iL]|refine aN ?_);refine⟨_,cx (c1),ulc ?_⟩;(repeat first|with_reducible refine kp [4,5,6] ?_|simp only[kV,simprocAttr,csE,ac,af,ae,ah]|refine aN ?_);rfl
include lr2 in
theorem Qs (h0:0<r):cw [68,28,3,2000046] (ConX Try.prog []) je (ac (.tup [aF (sg (!(true == n)) (z+1)),aF (B-r),flt 0 0]) [(4,some (true,2)),(5,some (true,2)),(6,some (true,2))]) ⟨wR,wM true n x y B z r⟩:=by
 obtain⟨d1,n1,v1⟩:=cI (z+1);have c1:=jm 1 (by omega);have c2:=nj z ((1:Nat):Int) (by omega) (by have:=bV (z:=((1:Nat):Int)) (n:=1) (by unfold Bt;decide);omega);have c3:=kE B r (by omega) (by omega);have c4:=du (!(true == n)) (zd (z+1)) d1 (by omega);rw[v1,show ((z+1).natAbs:Int)=z+1 by omega] at c4;rw[cJ hz,show z+((1:Nat):Int)=z+1 from rfl,cJ (by omega:0≤z+1)] at c2;rw[cJ (by omega:0≤B),cJ hr,cJ (by omega:0≤B-r)] at c3;rw[cJ (by omega:0≤B-r)];have hl:(0:Int)<((zd r).length:Int):=by have:=fp (z:=r) (by omega);omega
 skip
 (repeat first|with_reducible refine kp [2,3,4,5,6,7,9,14,90] ?_|simp only[kV,simprocAttr,csE,wR,wM,hl]|refine aN ?_);refine ulk ?_;(repeat first|simp only[kV,simprocAttr,csE]|refine aN ?_);refine⟨_,cx (c1),ulc ?_⟩;(repeat first|simp only[kV,simprocAttr,csE]|refine aN ?_);refine⟨_,cx (c2),ulc ?_⟩;(repeat first|with_reducible refine kp [2,3,4,5,6,7,9,14] ?_|simp only[kV,simprocAttr,csE]|refine aN ?_);refine⟨_,cx (c3),ulc ?_⟩;(repeat first|with_reducible refine kp [2,3,4,5,6,9,14] ?_|simp only[kV,simprocAttr,csE,iL]|refine aN ?_);refine⟨_,cx (c4),ulc ?_⟩;(repeat first|with_reducible refine kp [4,5,6] ?_|simp only[kV,simprocAttr,csE,ac,af,ae,ah]|refine aN ?_);rfl
end
theorem mb (a b:Int) (N:Nat) (ba:Bt a N) (bb:Bt b N) (hN:N≤8000000000000) (hb:b≠0):Con Try.prog [] 66 [aF a,aF b] (.tup [aF (a / b),aF (a % b),flt 0 0]):=by
 obtain⟨d1,n1,v1⟩:=cI a;obtain⟨d2,n2,v2⟩:=cI b;have la:=bV ba;have lb:=bV bb;have hlb:¬ ((zd b).length:Int)=0:=by have:=fp hb;omega
 have c0:=du false (zd b) d2 (by omega);obtain⟨B,hB⟩:∃B:Int,B=b.natAbs:=⟨_,rfl⟩
 have hB0:0<B:=by omega
 have bB:Bt B N:=bb.le (by omega);have lB:=bV bB;rw[v2,←hB,show sg false B=B from rfl,cJ (by omega:0≤B)] at c0;have e0:zd 0=[]:=fi.2 rfl;have dsg:=ro (m:=decide (a<0)) (n:=decide (b<0)) (A:=a.natAbs) (B:=B) (by omega) hB0;rw[show sg (decide (a<0)) (a.natAbs:Int)=a from iW a,show sg (decide (b<0)) B=b by rw[hB];exact iW b] at dsg;rw[←v1] at dsg;have hzb:Z4.valL (zd a) / B≤Z4.valL (zd a):=Int.ediv_le_self _ (Z4.valL_nonneg d1);have hz0:0≤Z4.valL (zd a) / B:=Int.ediv_nonneg (Z4.valL_nonneg d1) (by omega);have hr0:0≤Z4.valL (zd a) % B:=Int.emod_nonneg _ (by omega);have hrB:Z4.valL (zd a) % B<B:=Int.emod_lt_of_pos _ hB0;have bz:Bt (Z4.valL (zd a) / B) N:=ba.le (by omega);have bz1:Bt (Z4.valL (zd a) / B+1) (N+1):=by
  unfold Bt at *;rw[Nat.pow_succ];have:0<2^N:=Nat.pow_pos (by omega);omega
 have lz:=bV bz;have lz1:=bV bz1;rw[aX a,aX b];generalize hm:decide (a<0)=m at *;generalize hn:decide (b<0)=n at *;generalize zd a=x at *;generalize hy:zd b=y at *;have hlx:x.length≤1000000000000:=by omega
 refine xd.con rfl (by simp) ?_;(repeat first|with_reducible refine kp [2,3,4,5,6,18] ?_|simp only[kV,simprocAttr,csE,aw]|refine aN ?_);(try simp only[kV,simprocAttr,csE,hlb]);refine ulk ?_;(repeat first|with_reducible refine kp [2,3,4,5,6] ?_|simp only[kV,simprocAttr,csE,hlb]|refine aN ?_);refine⟨_,cx (c0),ulc ?_⟩;(repeat first|simp only[kV,simprocAttr,csE]|refine aN ?_);refine kp [2,3,4,5,6,7] ?_;(repeat first|simp only[kV,simprocAttr,csE]|refine aN ?_);refine kp [2,3,4,5,6,7,8] ?_;(repeat first|simp only[kV,simprocAttr,csE]|refine aN ?_);refine kp [2,3,4,5,6,7,8,9] ?_;(repeat first|simp only[kV,simprocAttr,csE]|refine aN ?_);refine kp [2,3,4,5,6,7,8,9,10] ?_;(repeat first|simp only[kV,simprocAttr,csE]|refine aN ?_);refine aY (ι:=Nat×List Int×Int) (fun s=>s.1≤x.length∧s.2.1.length=x.length∧Z4.Dig s.2.1∧(∀j,j<s.1→at_ s.2.1 j=0)∧Z4.valL s.2.1=Z4.valL (x.drop s.1) / B*10000^s.1∧s.2.2=Z4.valL (x.drop s.1) % B) (fun s=>⟨vR x.length ((s.1:Int)-1) [],vM m n x y s.2.1 B s.2.2⟩) (fun s=>s.1) (x.length,List.replicate x.length 0,0) ⟨Nat.le_refl _,List.length_replicate,fun z hz=>by (obtain rfl:=List.eq_of_mem_replicate hz);decide,fun j _=>jt _ j,(by simp only[List.drop_length];rw[Z4.valL_zero fun j=>jt _ j,show Z4.valL []=0 from rfl,Int.zero_ediv,Int.zero_mul]),(by simp only[List.drop_length];exact (Int.zero_emod B).symm)⟩ (by simp only[vM,bE,eP,e0];exact (Sub.toG [2,3,4,5,6,7,8,9,10] [14,43,46])) ?_;rintro⟨i,q,r⟩ ⟨hi,hq,hdq,hq0,hqv,hrv⟩;simp only at hi hq hdq hq0 hqv hrv;have hqlen:(q.map (D.int .i64)).length=x.length:=by rw[List.length_map,hq]
 cases i with
 |zero =>
  have hI:decide ((0:Int)≤0-1)=false:=by decide
  rw[List.drop_zero,Int.pow_zero,Int.mul_one] at hqv;rw[List.drop_zero] at hrv;subst hrv;have htk:q.take x.length=q:=List.take_of_length_le (by omega);have c1:=du false q hdq (by omega);rw[hqv,show sg false (Z4.valL x / B)=Z4.valL x / B from rfl,cJ hz0] at c1;have lr:=bV (z:=Z4.valL x % B) (bB.le (by omega));have fin:cw [68,28,3,2000046] (ConX Try.prog []) je (ac (.tup [aF (a / b),aF (a % b),flt 0 0]) [(4,some (true,2)),(5,some (true,2)),(6,some (true,2))]) ⟨wR,wM m n x y B (Z4.valL x / B) (Z4.valL x % B)⟩:=by
   by_cases hcase:m=false∨Z4.valL x % B=0
   ·rw[(dsg.1 hcase).1,(dsg.1 hcase).2];exact Qr m n x y B _ _ hz0 hr0 hrB (by omega) (by omega) (by omega) (by omega) hcase
   ·have hmt:m=true:=by cases m<;>simp at hcase ⊢
    have hr1:0<Z4.valL x % B:=by
     by_cases h:Z4.valL x % B=0
     ·exact absurd (.inr h) hcase
     ·omega
    have lr2:=bV (z:=B-Z4.valL x % B) (bB.le (by omega));rw[(dsg.2 hmt hr1).1,(dsg.2 hmt hr1).2];subst hmt;exact Qs n x y B _ _ hz0 hr0 hrB (by omega) (by omega) (by omega) (by omega) (by omega) hr1
  (repeat first|with_reducible refine kp [2,3,4,5,6,7,8,9,10,35] ?_|simp only[kV,simprocAttr,csE,hI,vR,vM]|refine aN ?_);(try simp only[kV,simprocAttr,csE,hI,htk,List.drop_zero,hqlen]);refine ulk ?_;(repeat first|simp only[kV,simprocAttr,csE,hI,htk,List.drop_zero,hqlen]|refine aN ?_);refine eS 28 _ [2,3,4,5,6,7,8,9] (by rfl) ?_;refine ulk ?_;(repeat first|simp only[kV,simprocAttr,csE,hI,htk,List.drop_zero,hqlen]|refine aN ?_);refine⟨_,cx (c1),ulc ?_⟩;(repeat first|simp only[kV,simprocAttr,csE]|refine aN ?_);exact⟨_,(Sub.toG [2,3,4,5,6,7,9,14] [28,43,46]),fin⟩
 |succ i =>
  have g0:((i+1:Nat):Int)-1=(i:Int):=by omega
  have g1:(0:Int)≤(i:Int):=by omega
  have hI:(i:Int)<(x.length:Int):=by omega
  have hix:i<x.length:=by omega
  have hiq:i<q.length:=by omega
  have gx:=atJ hix;have dx:=d1.at_ i;have r0:0≤r:=by rw[hrv];exact Int.emod_nonneg _ (by omega)
  have r1:r<B:=by rw[hrv];exact Int.emod_lt_of_pos _ hB0
  obtain⟨s1,s2⟩:=E7 hB0 ((E6 hix).trans rfl);rw[←hrv] at s1 s2;obtain⟨w,ht⟩:∃w,w=at_ x i+10000*r:=⟨_,rfl⟩
  rw[←ht] at s1 s2;have t0:0≤w:=by omega
  have t1:w<B*10000:=by omega
  have bt:Bt w (N+14):=(bB.mul oM).le (by omega);have lt:=bV bt;obtain⟨d3,n3,v3⟩:=cI r;have c1:=du false (at_ x i::zd r) (fun z hz=>by
   rcases List.mem_cons.1 hz with rfl | hz
   ·exact dx
   ·exact d3 z hz) (by have:=bV (z:=r) (bB.le (by omega));rw[List.length_cons];omega)
  rw[show Z4.valL (at_ x i::zd r)=w by (show at_ x i+10000*Z4.valL (zd r)=w);omega,show sg false w=w from rfl,cJ t0] at c1;have k1:=E8 m n x y q B w x.length i hB0 t0 (by omega) (by omega);have k2:=E9 m n x y q B w x.length i hB0 t0 (if w<B then 1 else 10000) (by split<;>omega) (by split<;>omega) (by split<;>omega) N bB bt hN;have q0:0≤w / B:=Int.ediv_nonneg t0 (by omega);have q1:w / B<10000:=Int.ediv_lt_of_lt_mul hB0 (by rw[Int.mul_comm];exact t1);have q2:=Int.mul_ediv_add_emod w B;have q3:0≤w % B∧w % B<B:=⟨Int.emod_nonneg _ (by omega),Int.emod_lt_of_pos _ hB0⟩
  obtain⟨lo,hlo⟩:∃lo:Nat,w / B=(lo:Int):=⟨(w / B).toNat,by omega⟩
  rw[hlo] at k2 s1 q1 q2;have c2:=jm lo (by omega);have ll:=bV (z:=(lo:Int)) (n:=14) (by unfold Bt;omega);have c3:=ox B lo (by omega);have p0:0≤B*(lo:Int):=Int.mul_nonneg (by omega) (by omega);have lp:=bV (z:=B*(lo:Int)) (bt.le (by omega));have c4:=kE w (B*(lo:Int)) (by omega) (by omega);rw[cJ (by omega:0≤B)] at c3;rw[cJ t0,show w-B*(lo:Int)=w % B by omega,cJ q3.1] at c4;have hnew:i≤x.length∧(q.set i (lo:Int)).length=x.length∧Z4.Dig (q.set i (lo:Int))∧(∀j,j<i→at_ (q.set i (lo:Int)) j=0)∧Z4.valL (q.set i (lo:Int))=Z4.valL (x.drop i) / B*10000^i∧w % B=Z4.valL (x.drop i) % B:=by
   refine⟨by omega,by rw[List.length_set,hq],hdq.set _ (by omega),fun j hj=>by rw[ow (by omega)];exact hq0 j (by omega),?_,s2.symm⟩;rw[Z4.valL_set_full hiq,hqv,s1,hq0 i (by omega),Int.pow_succ];generalize Z4.valL (x.drop (i+1)) / B=u at *;generalize (10000:Int)^i=p at *;grind
  clear s1 s2 q2 dsg hqv hrv;have lr:=bV (z:=r) (bB.le (by omega));have hle:1+(zd r).length≤(zd r).length+1:=by omega
  have htk:List.take (1+(zd r).length) (D.int .i64 (at_ x i)::(zd r).map (D.int .i64))=(at_ x i::zd r).map (D.int .i64):=List.take_of_length_le (by rw[List.length_cons,List.length_map];omega);rw[g0];(repeat first|with_reducible refine kp [2,3,4,5,6,7,8,9,10,35] ?_|simp only[kV,simprocAttr,csE,g1,vR,vM]|refine aN ?_);(try simp only[kV,simprocAttr,csE,hI,hix,gx,csQ,hle,htk,Bool.true_or]);refine ulk ?_;(repeat first|with_reducible refine kp [2,3,4,5,6,7,8,9,10] ?_|simp only[kV,simprocAttr,csE,hI,hix,gx,csQ,hle,htk,Bool.true_or]|refine aN ?_);refine⟨_,cx (c1),ulc ?_⟩;(repeat first|simp only[kV,simprocAttr,csE,hI,hiq,hqlen]|refine aN ?_);refine kp [2,3,4,5,6,7,8,9,10] ?_;(repeat first|simp only[kV,simprocAttr,csE,hI,hiq,hqlen]|refine aN ?_);refine⟨_,(Sub.toG [2,3,4,5,6,7,8,9,10,11,12] [14,43,46]).tr (Sub.rf _),?_⟩;refine ulk ?_;refine cN ?_;refine k1 _ fun t ht=>⟨_,ht,?_⟩
  refine ulk ?_;refine cN ?_;refine k2 _ fun t ht=>⟨_,ht,?_⟩
  refine ulk ?_;(repeat first|with_reducible refine kp [2,3,4,5,6,7,8,9,10,11] ?_|simp only[kV,simprocAttr,csE,hI,hiq,hqlen]|refine aN ?_);refine⟨_,cx (c2),ulc ?_⟩;(repeat first|simp only[kV,simprocAttr,csE]|refine aN ?_);refine⟨_,cx (c3),ulc ?_⟩;(repeat first|simp only[kV,simprocAttr,csE]|refine aN ?_);refine⟨_,cx (c4),ulc ?_⟩;(repeat first|with_reducible refine kp [2,3,4,5,6,7,8,9,10] ?_|simp only[kV,simprocAttr,csE]|refine aN ?_);exact⟨(i,q.set i (lo:Int),w % B),hnew,(Sub.toG [2,3,4,5,6,7,8,9,10] [14,43,46]),by simp only;omega⟩
theorem pH {a b:Int}{n:Nat} (hb:b≠0) (h:Bt b n):Bt (a % b) n:=h.le (by
 have h1:=Int.emod_nonneg a hb;have h2:=Int.emod_lt a hb;omega)
theorem pI (a b:Int):Int.gcd b (a % b)=Int.gcd a b:=by
 have e:=Int.mul_ediv_add_emod a b;apply Nat.dvd_antisymm
 ·rw[←Int.natCast_dvd_natCast];have h1:=Int.gcd_dvd_left b (a % b);refine Int.dvd_coe_gcd ?_ h1;have h3:=Int.dvd_add (Int.dvd_mul_of_dvd_left (c:=a / b) h1) (Int.gcd_dvd_right b (a % b))
  rwa[e] at h3
 ·rw[←Int.natCast_dvd_natCast];have h2:=Int.gcd_dvd_right a b;refine Int.dvd_coe_gcd h2 ?_;rw[show a % b=a-b*(a / b) by omega];exact Int.dvd_sub (Int.gcd_dvd_left a b) (Int.dvd_mul_of_dvd_left h2)
theorem pJ:dJ (.ptr 6 0 0) (.ptr 2 0 0)=true:=rfl
abbrev bD (z:Int):AObj:=⟨68,2,.box (.p (.agg [.bool (decide (z<0)),LJ (zd z)])),false⟩
theorem M3 (a b:Int) (N:Nat) (ba:Bt a N) (bb:Bt b N) (hN:N≤8000000000000):Con Try.prog [] 65 [aF a,aF b] (aF (Int.gcd a b)):=by
 rw[aX a,aX b];refine xq.con rfl (by simp) ?_;(repeat first|simp only[kV,simprocAttr,csE,aw]|refine aN ?_);refine kp [2,3,4] ?_;(repeat first|simp only[kV,simprocAttr,csE,aw]|refine aN ?_);refine aY (ι:=Int×Int) (fun s=>Int.gcd s.1 s.2=Int.gcd a b∧Bt s.1 N∧Bt s.2 N) (fun s=>⟨av [(2,.ptr 2 0 0),(3,.ptr 3 0 0),(4,.ptr 4 0 0)],az [(2,bD s.1),(3,bD s.2),(4,bZ false [])]⟩) (fun s=>s.2.natAbs) (a,b) ⟨rfl,ba,bb⟩ (Sub.toG [2,3,4] [5,6,7]) ?_;rintro⟨c,d⟩ ⟨hg,bc,bd⟩;simp only at hg bc bd;by_cases hd:d=0
 ·subst hd;obtain⟨d1,n1,v1⟩:=cI c;have lc:=bV bc;have c1:=du false (zd c) d1 (by omega);rw[v1,show sg false (c.natAbs:Int)=(Int.gcd a b:Int) by rw[←hg];simp[sg]] at c1;have e0:(zd 0).length=0:=by rw[fi.2 rfl];rfl
  have e1:¬ (0:Int)<((zd 0).length:Int):=by omega
  (repeat first|with_reducible refine kp [2,3,4,11] ?_|simp only[kV,simprocAttr,csE,e1]|refine aN ?_);refine ulk ?_;(repeat first|with_reducible refine kp [2,4] ?_|simp only[kV,simprocAttr,csE,e1]|refine aN ?_);refine⟨_,cx (c1),ulc ?_⟩;(repeat first|with_reducible refine kp [4] ?_|simp only[kV,simprocAttr,csE,ac,af,ae,ah]|refine aN ?_)
 ·have hl:(0:Int)<((zd d).length:Int):=by have:=fp hd;omega
  have c1:=mb c d N bc bd hN hd;rw[aX c,aX d,aX (c / d),aX (c % d)] at c1;have e0:=Int.emod_nonneg c hd;have e1:=Int.emod_lt c hd;have hg2:Int.gcd d (c % d)=Int.gcd a b:=by rw[pI];exact hg
  (repeat first|with_reducible refine kp [2,3,4,11] ?_|simp only[kV,simprocAttr,csE,hl]|refine aN ?_);refine ulk ?_;(repeat first|with_reducible refine kp [2,3,4] ?_|simp only[kV,simprocAttr,csE,hl]|refine aN ?_);refine⟨_,cx (c1),ulc ?_⟩;(repeat first|with_reducible refine kp [2,3,4,6] ?_|simp only[kV,simprocAttr,csE,pJ,flt]|refine aN ?_);exact⟨(d,c % d),⟨hg2,bd,pH hd bd⟩,(Sub.toG [2,3,4] [5,6,7]),by simp only;omega⟩
theorem M4 (a b:Int) (N:Nat) (ba:Bt a N) (bb:Bt b N) (hN:N≤8000000000000) (hb:b≠0):Con Try.prog [] 55 [aF a,aF b] (.tup [cB (if b / (Int.gcd a b:Int)<0 then -(a / (Int.gcd a b:Int)) else a / (Int.gcd a b:Int)) (if b / (Int.gcd a b:Int)<0 then -(b / (Int.gcd a b:Int)) else b / (Int.gcd a b:Int)),flt 0 0]):=by
 have c1:=M3 a b N ba bb hN;obtain⟨g,hg⟩:∃g:Int,g=Int.gcd a b:=⟨_,rfl⟩
 have hg0:g≠0:=by
  have:=Int.gcd_pos_of_ne_zero_right a hb;omega
 have bg:Bt g N:=bb.le (by
  have:=Nat.le_of_dvd (by omega) (Int.gcd_dvd_natAbs_right a b);omega)
 have c2:=mb a g N ba bg hN hg0;have c3:=mb b g N bb bg hN hg0;have q1:Bt (a / g) N:=ba.le (Int.natAbs_ediv_le_natAbs a g);have q2:Bt (b / g) N:=bb.le (Int.natAbs_ediv_le_natAbs b g);have l1:=bV q1;have l2:=bV q2;have c4:=mq (a / g) (by omega);have c5:=mq (b / g) (by omega);have hl:¬ ((zd b).length:Int)=0:=by have:=fp hb;omega
 rw[←hg] at c1 ⊢;rw[aX a,aX b,aX g] at c1;rw[aX a,aX g,aX (a / g),aX (a % g)] at c2;rw[aX b,aX g,aX (b / g),aX (b % g)] at c3;rw[aX (a / g),aX (-(a / g))] at c4;rw[aX (b / g),aX (-(b / g))] at c5;rw[aX a,aX b];by_cases h:b / g<0
 ·rw[if_pos h,if_pos h];rw[decide_eq_true h] at c5;refine nd.con rfl (by simp) ?_;(repeat first|with_reducible refine kp [2,3,4,5,10] ?_|simp only[kV,simprocAttr,csE,aw]|refine aN ?_);(try simp only[kV,simprocAttr,csE,hl]);refine ulk ?_;(repeat first|with_reducible refine kp [2,3,4,5] ?_|simp only[kV,simprocAttr,csE,hl]|refine aN ?_);refine⟨_,cx (c1),ulc ?_⟩;(repeat first|with_reducible refine kp [2,3,4,5,6] ?_|simp only[kV,simprocAttr,csE]|refine aN ?_);refine⟨_,cx (c2),ulc ?_⟩;(repeat first|with_reducible refine kp [2,3,4,5,6] ?_|simp only[kV,simprocAttr,csE,flt]|refine aN ?_);refine⟨_,cx (c3),ulc ?_⟩;(repeat first|with_reducible refine kp [2,3,4,5,33] ?_|simp only[kV,simprocAttr,csE,flt,h]|refine aN ?_);refine ulk ?_;(repeat first|simp only[kV,simprocAttr,csE,h]|refine aN ?_);refine⟨_,cx (c4),ulc ?_⟩;(repeat first|simp only[kV,simprocAttr,csE]|refine aN ?_);refine⟨_,cx (c5),ulc ?_⟩;(repeat first|with_reducible refine kp [2,3,4,5] ?_|simp only[kV,simprocAttr,csE,ac,af,ae,ah]|refine aN ?_);rfl
 ·rw[if_neg h,if_neg h];refine nd.con rfl (by simp) ?_;(repeat first|with_reducible refine kp [2,3,4,5,10] ?_|simp only[kV,simprocAttr,csE,aw]|refine aN ?_);(try simp only[kV,simprocAttr,csE,hl]);refine ulk ?_;(repeat first|with_reducible refine kp [2,3,4,5] ?_|simp only[kV,simprocAttr,csE,hl]|refine aN ?_);refine⟨_,cx (c1),ulc ?_⟩;(repeat first|with_reducible refine kp [2,3,4,5,6] ?_|simp only[kV,simprocAttr,csE]|refine aN ?_);refine⟨_,cx (c2),ulc ?_⟩;(repeat first|with_reducible refine kp [2,3,4,5,6] ?_|simp only[kV,simprocAttr,csE,flt]|refine aN ?_);refine⟨_,cx (c3),ulc ?_⟩;(repeat first|with_reducible refine kp [2,3,4,5,33] ?_|simp only[kV,simprocAttr,csE,flt,h]|refine aN ?_);refine ulk ?_;(repeat first|with_reducible refine kp [2,3,4,5] ?_|simp only[kV,simprocAttr,csE,ac,af,ae,ah,h]|refine aN ?_);unfold cB;rw[decide_eq_false h];rfl
end Go.Proofs.Ytdchbabgopglcaa.M
