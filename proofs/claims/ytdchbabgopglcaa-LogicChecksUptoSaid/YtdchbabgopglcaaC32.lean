/- Lemmas. -/
import Derived.Test.YtdchbabgopglcaaC30
import Derived.Test.YtdchbabgopglcaaC21
import Derived.Test.YtdchbabgopglcaaC31
set_option linter.defProp false
set_option linter.unusedSectionVars false
set_option linter.unusedSimpArgs false
set_option linter.unusedVariables false
namespace Go.Proofs.Ytdchbabgopglcaa.M
open Go.RowKit
set_option maxRecDepth 20000
set_option maxHeartbeats 4000000
theorem Rz (z:Int):(aT z).cells.length=2:=rfl
theorem RA (z:Int):((aT z).cells.map AV.p).all AV.one=true:=rfl
theorem RB (z:Int):(aT z).isAgg=true:=rfl
theorem qV (n:Nat) (h:n≠0):Bt 1 n:=by unfold Bt;exact Nat.one_lt_two_pow h
def aJ:=an @Rz (an @RA (an @RB csE))
abbrev bI (m:Bool) (x:List Int):AObj:=⟨62,2,.box (.p (.agg [.bool m,LU x])),false⟩
abbrev iM (m n:Bool) (x y q r:List Int):=az [(2,bI m x),(3,bI n y),(4,bI false []),(5,bI false []),(6,⟨28,2,.box (.p (.agg [.int .i64 0,.int .i64 0])),false⟩),(7,bI false q),(8,bI false r)]
abbrev iR:=av [(2,.ptr 2 0 0),(3,.ptr 3 0 0),(4,.ptr 4 0 0),(5,.ptr 5 0 0),(6,.ptr 6 0 0),(7,.ptr 7 0 0),(8,.ptr 8 0 0)]
theorem iV:dJ (.ptr 8 0 0) (.ptr 4 0 0)=true:=rfl
theorem gR {z:Int} (h:0≤z):aT z = .agg [.bool false,LU (zu z)]:=by rw[eD,decide_eq_false (by omega)]
theorem RC {l:List Int} (h:0<l.length):(l.map (D.int .u32)).getD 0 default = .int .u32 (at_ l 0):=by simp[at_,h]
section
variable (m n:Bool) (x y:List Int) (B z r:Int) (N:Nat) (dy:Dig y) (hy:valL y=B) (ly:y.length≤300000000000) (hz:0≤z) (hr:0≤r) (hrB:r<B) (bz:Bt z N) (bB:Bt B N) (hN:N≤4147200000000)
include dy hy ly hz hr hrB bz bB hN
theorem RD (h:m=false∨r=0):cw [62,28,100,2000046,70000100,70000003] (ConX Try.prog []) jo (ac (.tup [aT (sg (!(m == n)) z),aT r,flt 0 0]) [(4,some (true,2)),(5,some (true,2)),(6,some (true,2))]) ⟨iR,iM m n x y (zu z) (zu r)⟩:=by
 obtain⟨d1,n1,v1⟩:=fe z;have c1:=eE (!(m == n)) (zu z) d1 (by rw[v1];exact (bz.le (by rw[fx];omega)).sm (by omega));rw[v1,show (z.natAbs:Int)=z by omega] at c1;rw[gR hr];cases m with
 |false =>
  skip
  (repeat first|with_reducible refine kp [2,3,4,5,6,7,8,67] ?_|simp only[kV,simprocAttr,aJ,iR,iM]|refine aN ?_);(try simp only[kV,simprocAttr,aJ,iV]);refine ulk ?_;(repeat first|with_reducible refine kp [2,3,4,5,6,7,8] ?_|simp only[kV,simprocAttr,aJ,iV]|refine aN ?_);refine wq (cxw (B:=[100,3]) (c1)) (ulc ?_);(repeat first|with_reducible refine kp [4,5,6] ?_|simp only[kV,simprocAttr,aJ,ac,af,ae,ah]|refine aN ?_);rfl
 |true =>
  have hr0:r=0:=by rcases h with h | h;cases h;exact h
  have e0:(zu r).length=0:=by rw[hr0,j9.2 rfl];rfl
  have e00:decide ((0:Int)<0)=false:=rfl;skip
  (repeat first|with_reducible refine kp [2,3,4,5,6,7,8,67] ?_|simp only[kV,simprocAttr,aJ,iR,iM,e0,e00]|refine aN ?_);(try simp only[kV,simprocAttr,aJ,iV]);refine ulk ?_;(repeat first|with_reducible refine kp [2,3,4,5,6,7,8] ?_|simp only[kV,simprocAttr,aJ,iV]|refine aN ?_);refine wq (cxw (B:=[100,3]) (c1)) (ulc ?_);(repeat first|with_reducible refine kp [4,5,6] ?_|simp only[kV,simprocAttr,aJ,ac,af,ae,ah]|refine aN ?_);rfl
theorem RE (h0:0<r):cw [62,28,100,2000046,70000100,70000003] (ConX Try.prog []) jo (ac (.tup [aT (sg (!(true == n)) (z+1)),aT (B-r),flt 0 0]) [(4,some (true,2)),(5,some (true,2)),(6,some (true,2))]) ⟨iR,iM true n x y (zu z) (zu r)⟩:=by
 obtain⟨d1,n1,v1⟩:=fe (z+1);obtain⟨d2,n2,v2⟩:=fe r;have hrl:(zu r).length≤y.length:=by
  apply Nat.le_of_not_lt;intro hh;have:=valL_lt_of_len dy d2 n2 hh;omega
 have hvr:valL (zu r)=r:=by omega
 have c1:=cOf 1 (by omega);have c2:=qD z 1 (N+1) (bz.mono (Nat.le_succ N)) (qV (N+1) (Nat.succ_ne_zero N)) (by omega);have c3:=Qy y (zu r) dy d2 (by omega) hrl (by omega);rw[hy,hvr] at c3;have hy1:=valL_lt dy;have hv3:valL (dN y.length (B-r))=B-r:=mf (by omega) (by omega);have c4:=eE false (dN y.length (B-r)) (iP _ _) (by rw[hv3];exact (bB.le (by show (B-r).natAbs≤_;omega)).sm (by omega));rw[hv3,show sg false (B-r)=B-r from rfl] at c4;have bz1:Bt (z+1) (N+1+1):=(bz.mono (Nat.le_succ N)).add (qV (N+1) (Nat.succ_ne_zero N));have c5:=eE (!(true == n)) (zu (z+1)) d1 (by rw[v1];exact (bz1.le (by rw[fx];omega)).sm (by omega));rw[v1,show ((z+1).natAbs:Int)=z+1 by omega] at c5;rw[gR hz,gR (by omega:0≤z+1)] at c2;rw[gR (by omega:0≤B-r)] at c4 ⊢;have hl:(0:Int)<((zu r).length:Int):=by have:=me (z:=r) (by omega);omega
 skip
 (repeat first|with_reducible refine kp [2,3,4,5,6,7,8,67] ?_|simp only[kV,simprocAttr,aJ,iR,iM,hl]|refine aN ?_);refine ulk ?_;(repeat first|simp only[kV,simprocAttr,aJ]|refine aN ?_);refine wq (cxw (B:=[100,3]) (c1)) (ulc ?_);(repeat first|simp only[kV,simprocAttr,aJ]|refine aN ?_);refine wq (cxw (B:=[100,3]) (c2)) (ulc ?_);(repeat first|simp only[kV,simprocAttr,aJ]|refine aN ?_);refine wq (cxw (B:=[100,3]) (c3)) (ulc ?_);(repeat first|simp only[kV,simprocAttr,aJ]|refine aN ?_);refine wq (cxw (B:=[100,3]) (c4)) (ulc ?_);(repeat first|with_reducible refine kp [2,3,4,5,6,7,8] ?_|simp only[kV,simprocAttr,aJ,iV]|refine aN ?_);refine wq (cxw (B:=[100,3]) (c5)) (ulc ?_);(repeat first|with_reducible refine kp [4,5,6] ?_|simp only[kV,simprocAttr,aJ,ac,af,ae,ah]|refine aN ?_);rfl
end
theorem mt (a b:Int) (N:Nat) (ba:Bt a N) (bb:Bt b N) (hN:N≤4147200000000) (hb:b≠0):Con Try.prog AN 47 [aT a,aT b] (.tup [aT (a / b),aT (a % b),flt 0 0]):=by
 obtain⟨d1,n1,v1⟩:=fe a;obtain⟨d2,n2,v2⟩:=fe b;have la:=qB ba;have lb:=qB bb;have hlb0:=me hb;have hlb:¬ ((zu b).length:Int)=0:=by omega
 obtain⟨B,hB⟩:∃B:Int,B=b.natAbs:=⟨_,rfl⟩
 have hB0:0<B:=by omega
 have bB:Bt B N:=bb.le (by omega);have dsg:=ro (m:=decide (a<0)) (n:=decide (b<0)) (A:=a.natAbs) (B:=B) (by omega) hB0;rw[show sg (decide (a<0)) (a.natAbs:Int)=a from iW a,show sg (decide (b<0)) B=b by rw[hB];exact iW b] at dsg;rw[←v1] at dsg;have hA0:=valL_nonneg d1;have bA:Bt (valL (zu a)) N:=ba.le (by omega);have hzA:valL (zu a) / B≤valL (zu a):=Int.ediv_le_self _ hA0;have hz0:0≤valL (zu a) / B:=Int.ediv_nonneg hA0 (by omega);have hr0:0≤valL (zu a) % B:=Int.emod_nonneg _ (by omega);have hrB:valL (zu a) % B<B:=Int.emod_lt_of_pos _ hB0;have bz:Bt (valL (zu a) / B) N:=bA.le (by omega);have br:Bt (valL (zu a) % B) N:=bB.le (by omega);rw[←hB] at v2;rw[eD a,eD b];have oc:=Qv (zu a) (zu b) d1 d2 n1 n2;have hal:=valL_lt d1;have fin:cw [62,28,100,2000046,70000100,70000003] (ConX Try.prog []) jo (ac (.tup [aT (a / b),aT (a % b),flt 0 0]) [(4,some (true,2)),(5,some (true,2)),(6,some (true,2))]) ⟨iR,iM (decide (a<0)) (decide (b<0)) (zu a) (zu b) (zu (valL (zu a) / B)) (zu (valL (zu a) % B))⟩:=by
  by_cases h:decide (a<0)=false∨valL (zu a) % B=0
  ·obtain⟨e1,e2⟩:=dsg.1 h;rw[e1,e2];exact RD _ _ _ _ B _ _ N d2 v2 (by omega) hz0 hr0 hrB bz bB hN h
  ·have h1:decide (a<0)=true:=by
    cases hh:decide (a<0)
    ·exact absurd (.inl hh) h
    ·rfl
   have h2:0<valL (zu a) % B:=by
    have:¬ valL (zu a) % B=0:=fun e=>h (.inr e)
    omega
   obtain⟨e1,e2⟩:=dsg.2 h1 h2;rw[e1,e2,h1];exact RE _ _ _ B _ _ N d2 v2 (by omega) hz0 hr0 hrB bz bB hN h2
 have hq:=gR hz0;have hr:=gR hr0;rw[v2] at oc;generalize hm:decide (a<0)=m at *;generalize hn:decide (b<0)=n at *;generalize zu a=x at *;generalize zu b=y at *;generalize hQ:valL x / B=q at *;generalize hR:valL x % B=r at *;by_cases h1:valL x<B
 ·have hq0:q=0:=by rw[←hQ];exact Int.ediv_eq_zero_of_lt hA0 h1
  have hrx:sg false (valL x)=r:=by rw[←hR];exact (Int.emod_eq_of_lt hA0 h1).symm
  have hcm:cmpZ (valL x) B<0:=by rw[ei h1];decide
  have c1:=eE false x d1 (by rw[hrx];exact br.sm (by omega));rw[hrx,hr] at c1;rw[hq0,j9.2 rfl] at fin;generalize cmpZ (valL x) B=cv at *;refine kN.conW (A:=[]) rfl (by simp) ?_;(repeat first|with_reducible refine kp [2,3,4,5,6,16] ?_|simp only[kV,simprocAttr,aJ,aw]|refine aN ?_);(try simp only[kV,simprocAttr,aJ,hlb]);refine ulk ?_;(repeat first|with_reducible refine kp [2,3,4,5,6,7,8] ?_|simp only[kV,simprocAttr,aJ,hlb]|refine aN ?_);refine wq (cxw (B:=[100,3]) (oc)) (ulc ?_);(repeat first|with_reducible refine kp [2,3,4,5,6,7,8,25] ?_|simp only[kV,simprocAttr,aJ,hcm]|refine aN ?_);refine ulk ?_;(repeat first|simp only[kV,simprocAttr,aJ,hcm]|refine aN ?_);refine wq (cxw (B:=[100,3]) (c1)) (ulc ?_);(repeat first|simp only[kV,simprocAttr,aJ]|refine aN ?_);exact⟨_,(Sub.toG [2,3,4,5,6,7,8] [46]),fin⟩
 have hcm:¬ cmpZ (valL x) B<0:=by
  unfold cmpZ;rw[if_neg h1];split<;>decide
 by_cases h2:y.length=1
 ·have hd:B=at_ y 0:=by
   obtain⟨d,rfl⟩:=List.length_eq_one_iff.1 h2;rw[←v2];show d+4294967296*(0:Int)=d;omega
  have dd:=d2.at_ 0;have gd:=RC hlb0;have c1:=Qw x (at_ y 0) d1 (by omega) (by omega);rw[←hd] at gd;rw[←hd,hQ,hR] at c1;have hv1:sg false (valL (dN x.length q))=q:=mg hz0 (by omega);have c2:=eE false (dN x.length q) (iP _ _) (by rw[hv1];exact bz.sm (by omega));have hv2:sg false (valL [r])=r:=by show r+4294967296*(0:Int)=r;omega
  have c3:=eE false [r] (fun z hz=>by rw[List.mem_singleton] at hz;omega) (by rw[hv2];exact br.sm (by omega));rw[hv1,hq] at c2;rw[hv2,hr] at c3;generalize cmpZ (valL x) B=cv at *;generalize dN x.length q=ql at *;refine kN.conW (A:=[]) rfl (by simp) ?_;(repeat first|with_reducible refine kp [2,3,4,5,6,16] ?_|simp only[kV,simprocAttr,aJ,aw]|refine aN ?_);(try simp only[kV,simprocAttr,aJ,hlb]);refine ulk ?_;(repeat first|with_reducible refine kp [2,3,4,5,6,7,8] ?_|simp only[kV,simprocAttr,aJ,hlb]|refine aN ?_);refine wq (cxw (B:=[100,3]) (oc)) (ulc ?_);(repeat first|with_reducible refine kp [2,3,4,5,6,7,8,25] ?_|simp only[kV,simprocAttr,aJ,hcm]|refine aN ?_);(try simp only[kV,simprocAttr,aJ,hcm,h2]);refine ulk ?_;(repeat first|with_reducible refine kp [2,3,4,5,6,7,8,32] ?_|simp only[kV,simprocAttr,aJ,hcm,h2]|refine aN ?_);(try simp only[kV,simprocAttr,aJ,hcm,h2,gd,hlb0]);refine ulk ?_;(repeat first|simp only[kV,simprocAttr,aJ,hcm,h2,gd,hlb0]|refine aN ?_);refine wq (cxw (B:=[100,3]) (c1)) (ulc ?_);(repeat first|with_reducible refine kp [2,3,4,5,6,7,8,9,10] ?_|simp only[kV,simprocAttr,aJ]|refine aN ?_);refine wq (cxw (B:=[100,3]) (c2)) (ulc ?_);(repeat first|simp only[kV,simprocAttr,aJ]|refine aN ?_);refine wq (cxw (B:=[100,3]) (c3)) (ulc ?_);(repeat first|simp only[kV,simprocAttr,aJ]|refine aN ?_);exact⟨_,(Sub.toG [2,3,4,5,6,7,8] [46]),fin⟩
 ·have h2I:¬ (y.length:Int)=1:=by omega
  have hyx:y.length≤x.length:=by
   apply Nat.le_of_not_lt;intro hh;have:=valL_lt_of_len d1 d2 n2 hh;omega
  have c1:=Qx x y d1 d2 n2 (by omega) (by omega) hyx;rw[v2,hQ,hR] at c1;have hyB:4294967296^(y.length-1)≤B:=by rw[←v2];exact valL_ge d2 (n2.resolve_left fun e=>by rw[e] at hlb0;simp at hlb0)
  have hql:q<4294967296^(x.length+1-y.length):=by
   have e1:(4294967296:Int)^x.length=4294967296^(x.length+1-y.length)*4294967296^(y.length-1):=by rw[←Int.pow_add];congr 1;omega
   have e2:q*B≤valL x:=by rw[←hQ];exact Int.ediv_mul_le _ (by omega)
   have e3:q*4294967296^(y.length-1)≤q*B:=Int.mul_le_mul_of_nonneg_left hyB hz0;rw[e1] at hal;exact Int.lt_of_mul_lt_mul_right (Int.lt_of_le_of_lt (Int.le_trans e3 e2) hal) (Int.le_of_lt (pow_pos' _))
  have hrl:r<4294967296^(x.length+1):=Int.lt_of_lt_of_le (by omega) (pow_mono' (Nat.le_succ x.length));have hv1:=mg hz0 hql;have hv2:=mg hr0 hrl;have c2:=eE false (dN (x.length+1-y.length) q) (iP _ _) (by rw[hv1];exact bz.sm (by omega));have c3:=eE false (dN (x.length+1) r) (iP _ _) (by rw[hv2];exact br.sm (by omega));rw[hv1,hq] at c2;rw[hv2,hr] at c3;generalize cmpZ (valL x) B=cv at *;generalize dN (x.length+1-y.length) q=ql at *;generalize dN (x.length+1) r=rl at *;refine kN.conW (A:=[]) rfl (by simp) ?_;(repeat first|with_reducible refine kp [2,3,4,5,6,16] ?_|simp only[kV,simprocAttr,aJ,aw]|refine aN ?_);(try simp only[kV,simprocAttr,aJ,hlb]);refine ulk ?_;(repeat first|with_reducible refine kp [2,3,4,5,6,7,8] ?_|simp only[kV,simprocAttr,aJ,hlb]|refine aN ?_);refine wq (cxw (B:=[100,3]) (oc)) (ulc ?_);(repeat first|with_reducible refine kp [2,3,4,5,6,7,8,25] ?_|simp only[kV,simprocAttr,aJ,hcm]|refine aN ?_);(try simp only[kV,simprocAttr,aJ,hcm,h2I]);refine ulk ?_;(repeat first|with_reducible refine kp [2,3,4,5,6,7,8,32] ?_|simp only[kV,simprocAttr,aJ,hcm,h2I]|refine aN ?_);refine ulk ?_;(repeat first|simp only[kV,simprocAttr,aJ,hcm,h2I]|refine aN ?_);refine wq (cxw (B:=[100,3]) (c1)) (ulc ?_);(repeat first|with_reducible refine kp [2,3,4,5,6,7,8,11,12] ?_|simp only[kV,simprocAttr,aJ]|refine aN ?_);refine wq (cxw (B:=[100,3]) (c2)) (ulc ?_);(repeat first|simp only[kV,simprocAttr,aJ]|refine aN ?_);refine wq (cxw (B:=[100,3]) (c3)) (ulc ?_);(repeat first|simp only[kV,simprocAttr,aJ]|refine aN ?_);exact⟨_,(Sub.toG [2,3,4,5,6,7,8] [46]),fin⟩
abbrev bG (z:Int):AObj:=⟨62,2,.box (.p (.agg [.bool (decide (z<0)),LU (zu z)])),false⟩
theorem RF (a b:Int) (N:Nat) (ba:Bt a N) (bb:Bt b N) (hN:N≤4147200000000):Con Try.prog AN 46 [aT a,aT b] (aT (Int.gcd a b)):=by
 rw[eD a,eD b];refine zU.con rfl (by simp) ?_;(repeat first|simp only[kV,simprocAttr,aJ,aw]|refine aN ?_);refine kp [2,3,4] ?_;(repeat first|simp only[kV,simprocAttr,aJ,aw]|refine aN ?_);refine aY (ι:=Int×Int) (fun s=>Int.gcd s.1 s.2=Int.gcd a b∧Bt s.1 N∧Bt s.2 N) (fun s=>⟨av [(2,.ptr 2 0 0),(3,.ptr 3 0 0),(4,.ptr 4 0 0)],az [(2,bG s.1),(3,bG s.2),(4,bI false [])]⟩) (fun s=>s.2.natAbs) (a,b) ⟨rfl,ba,bb⟩ (Sub.toG [2,3,4] [5,6,7]) ?_;rintro⟨c,d⟩ ⟨hg,bc,bd⟩;simp only at hg bc bd;by_cases hd:d=0
 ·subst hd;obtain⟨d1,n1,v1⟩:=fe c;have hsg:sg false (valL (zu c))=(Int.gcd a b:Int):=by rw[v1,←hg];simp[sg]
  have c1:=eE false (zu c) d1 (by rw[hsg,←hg,Int.gcd_zero_right];exact (bc.le (by omega)).sm (by omega));rw[hsg] at c1;have e0:(zu 0).length=0:=by rw[j9.2 rfl];rfl
  have e1:¬ (0:Int)<((zu 0).length:Int):=by omega
  (repeat first|with_reducible refine kp [2,3,4,11] ?_|simp only[kV,simprocAttr,aJ,e1]|refine aN ?_);refine ulk ?_;(repeat first|with_reducible refine kp [2,4] ?_|simp only[kV,simprocAttr,aJ,e1]|refine aN ?_);refine⟨_,cx (c1),ulc ?_⟩;(repeat first|with_reducible refine kp [4] ?_|simp only[kV,simprocAttr,aJ,ac,af,ae,ah]|refine aN ?_)
 ·have hl:(0:Int)<((zu d).length:Int):=by have:=me hd;omega
  have c1:=mt c d N bc bd hN hd;rw[eD c,eD d,eD (c / d),eD (c % d)] at c1;have e0:=Int.emod_nonneg c hd;have e1:=Int.emod_lt c hd;have hg2:Int.gcd d (c % d)=Int.gcd a b:=by rw[pI];exact hg
  (repeat first|with_reducible refine kp [2,3,4,11] ?_|simp only[kV,simprocAttr,aJ,hl]|refine aN ?_);refine ulk ?_;(repeat first|with_reducible refine kp [2,3,4] ?_|simp only[kV,simprocAttr,aJ,hl]|refine aN ?_);refine⟨_,cx (c1),ulc ?_⟩;(repeat first|with_reducible refine kp [2,3,4,6] ?_|simp only[kV,simprocAttr,aJ,pJ,flt]|refine aN ?_);exact⟨(d,c % d),⟨hg2,bd,pH hd bd⟩,(Sub.toG [2,3,4] [5,6,7]),by simp only;omega⟩
end Go.Proofs.Ytdchbabgopglcaa.M
