/- Lemmas. -/
import Derived.Test.YtbnhgnhgbhjkcaaGreatQ34
set_option linter.defProp false
set_option linter.unusedSimpArgs false
set_option linter.unusedVariables false
namespace Go.Proofs.YtbnhgnhgbhjkcaaGreat.M
set_option linter.unusedSimpArgs false
set_option maxRecDepth 20000
set_option maxHeartbeats 2000000
open Go.RowKit
theorem qw {a b:Int}{n:Nat} (hb:b≠0) (h:Bt b n):Bt (a % b) n:=h.le (by
 have h1:=z8W a hb;have h2:=Int.emod_lt a hb;omega)
theorem qx (a b:Int):Int.gcd b (a % b)=Int.gcd a b:=by
 have e:=z9i a b;apply Nat.dvd_antisymm
 ·rw[←Int.natCast_dvd_natCast];have h1:=Int.gcd_dvd_left b (a % b);refine Int.dvd_coe_gcd ?_ h1;have h3:=Int.dvd_add (Int.dvd_mul_of_dvd_left (c:=a / b) h1) (Int.gcd_dvd_right b (a % b))
  rwa[e] at h3
 ·rw[←Int.natCast_dvd_natCast];have h2:=Int.gcd_dvd_right a b;refine Int.dvd_coe_gcd h2 ?_;rw[show a % b=a-b*(a / b) by omega];exact Int.dvd_sub (Int.gcd_dvd_left a b) (Int.dvd_mul_of_dvd_left h2)
theorem qy:d6 (.ptr 6 0 0) (.ptr 2 0 0)=true:=rfl
abbrev bD (z:Int):AObj:=⟨48,2,.box (.p (.agg [.bool (decide (z<0)),LJ (zd z)])),false⟩
theorem yK (a b:Int) (N:Nat) (ba:Bt a N) (bb:Bt b N) (hN:N≤8000000000000):Con Tryz.prog [] 120 [aH a,aH b] (aH (Int.gcd a b)):=by
 rw[bh a,bh b];refine zhq.con rfl (by simp) ?_;(repeat first|simp only[kV,simprocAttr,csE,ax]|refine aN ?_);refine kp [2,3,4] ?_;(repeat first|simp only[kV,simprocAttr,csE,ax]|refine aN ?_);refine aB (ι:=Int×Int) (fun s=>Int.gcd s.1 s.2=Int.gcd a b∧Bt s.1 N∧Bt s.2 N) (fun s=>⟨ar [(2,.ptr 2 0 0),(3,.ptr 3 0 0),(4,.ptr 4 0 0)],au [(2,bD s.1),(3,bD s.2),(4,bZ false [])]⟩) (fun s=>s.2.natAbs) (a,b) ⟨rfl,ba,bb⟩ (Sub.toG [2,3,4] [5,6,7]) ?_;rintro⟨c,d⟩ ⟨hg,bc,bd⟩;simp only at hg bc bd;by_cases hd:d=0
 ·subst hd;obtain⟨d1,n1,v1⟩:=cU c;have lc:=bW bc;have c1:=dW false (zd c) d1 (by omega);rw[v1,show sg false (c.natAbs:Int)=(Int.gcd a b:Int) by rw[←hg];simp[sg]] at c1;have e0:(zd 0).length=0:=by rw[fR.2 rfl];rfl
  have e1:¬ (0:Int)<((zd 0).length:Int):=by omega
  (repeat first|with_reducible refine kp [2,3,4,11] ?_|simp only[kV,simprocAttr,csE,e1]|refine aN ?_);refine ulk ?_;(repeat first|with_reducible refine kp [2,4] ?_|simp only[kV,simprocAttr,csE,e1]|refine aN ?_);refine⟨_,cx (c1),ulc ?_⟩;(repeat first|with_reducible refine kp [4] ?_|simp only[kV,simprocAttr,csE,af,ai,aq,ah]|refine aN ?_)
 ·have hl:(0:Int)<((zd d).length:Int):=by have:=fS hd;omega
  have c1:=mv c d N bc bd hN hd;rw[bh c,bh d,bh (c / d),bh (c % d)] at c1;have e0:=z8W c hd;have e1:=Int.emod_lt c hd;have hg2:Int.gcd d (c % d)=Int.gcd a b:=by rw[qx];exact hg
  (repeat first|with_reducible refine kp [2,3,4,11] ?_|simp only[kV,simprocAttr,csE,hl]|refine aN ?_);refine ulk ?_;(repeat first|with_reducible refine kp [2,3,4] ?_|simp only[kV,simprocAttr,csE,hl]|refine aN ?_);refine⟨_,cx (c1),ulc ?_⟩;(repeat first|with_reducible refine kp [2,3,4,6] ?_|simp only[kV,simprocAttr,csE,qy,flt]|refine aN ?_);exact⟨(d,c % d),⟨hg2,bd,qw hd bd⟩,(Sub.toG [2,3,4] [5,6,7]),by simp only;omega⟩
theorem yL (a b:Int) (N:Nat) (ba:Bt a N) (bb:Bt b N) (hN:N≤8000000000000) (hb:b≠0):Con Tryz.prog [] 97 [aH a,aH b] (.tup [bY (if b / (Int.gcd a b:Int)<0 then -(a / (Int.gcd a b:Int)) else a / (Int.gcd a b:Int)) (if b / (Int.gcd a b:Int)<0 then -(b / (Int.gcd a b:Int)) else b / (Int.gcd a b:Int)),flt 0 0]):=by
 have c1:=yK a b N ba bb hN;obtain⟨g,hg⟩:∃g:Int,g=Int.gcd a b:=⟨_,rfl⟩
 have hg0:g≠0:=by
  have:=Int.gcd_pos_of_ne_zero_right a hb;omega
 have bg:Bt g N:=bb.le (by
  have:=Nat.le_of_dvd (by omega) (Int.gcd_dvd_natAbs_right a b);omega)
 have c2:=mv a g N ba bg hN hg0;have c3:=mv b g N bb bg hN hg0;have q1:Bt (a / g) N:=ba.le (Int.natAbs_ediv_le_natAbs a g);have q2:Bt (b / g) N:=bb.le (Int.natAbs_ediv_le_natAbs b g);have l1:=bW q1;have l2:=bW q2;have c4:=nX (a / g) (by omega);have c5:=nX (b / g) (by omega);have hl:¬ ((zd b).length:Int)=0:=by have:=fS hb;omega
 rw[←hg] at c1 ⊢;rw[bh a,bh b,bh g] at c1;rw[bh a,bh g,bh (a / g),bh (a % g)] at c2;rw[bh b,bh g,bh (b / g),bh (b % g)] at c3;rw[bh (a / g),bh (-(a / g))] at c4;rw[bh (b / g),bh (-(b / g))] at c5;rw[bh a,bh b];by_cases h:b / g<0
 ·rw[if_pos h,if_pos h];rw[decide_eq_true h] at c5;refine wB.con rfl (by simp) ?_;(repeat first|with_reducible refine kp [2,3,4,5,10] ?_|simp only[kV,simprocAttr,csE,ax]|refine aN ?_);(try simp only[kV,simprocAttr,csE,hl]);refine ulk ?_;(repeat first|with_reducible refine kp [2,3,4,5] ?_|simp only[kV,simprocAttr,csE,hl]|refine aN ?_);refine⟨_,cx (c1),ulc ?_⟩;(repeat first|with_reducible refine kp [2,3,4,5,6] ?_|simp only[kV,simprocAttr,csE]|refine aN ?_);refine⟨_,cx (c2),ulc ?_⟩;(repeat first|with_reducible refine kp [2,3,4,5,6] ?_|simp only[kV,simprocAttr,csE,flt]|refine aN ?_);refine⟨_,cx (c3),ulc ?_⟩;(repeat first|with_reducible refine kp [2,3,4,5,33] ?_|simp only[kV,simprocAttr,csE,flt,h]|refine aN ?_);refine ulk ?_;(repeat first|simp only[kV,simprocAttr,csE,h]|refine aN ?_);refine⟨_,cx (c4),ulc ?_⟩;(repeat first|simp only[kV,simprocAttr,csE]|refine aN ?_);refine⟨_,cx (c5),ulc ?_⟩;(repeat first|with_reducible refine kp [2,3,4,5] ?_|simp only[kV,simprocAttr,csE,af,ai,aq,ah]|refine aN ?_);rfl
 ·rw[if_neg h,if_neg h];refine wB.con rfl (by simp) ?_;(repeat first|with_reducible refine kp [2,3,4,5,10] ?_|simp only[kV,simprocAttr,csE,ax]|refine aN ?_);(try simp only[kV,simprocAttr,csE,hl]);refine ulk ?_;(repeat first|with_reducible refine kp [2,3,4,5] ?_|simp only[kV,simprocAttr,csE,hl]|refine aN ?_);refine⟨_,cx (c1),ulc ?_⟩;(repeat first|with_reducible refine kp [2,3,4,5,6] ?_|simp only[kV,simprocAttr,csE]|refine aN ?_);refine⟨_,cx (c2),ulc ?_⟩;(repeat first|with_reducible refine kp [2,3,4,5,6] ?_|simp only[kV,simprocAttr,csE,flt]|refine aN ?_);refine⟨_,cx (c3),ulc ?_⟩;(repeat first|with_reducible refine kp [2,3,4,5,33] ?_|simp only[kV,simprocAttr,csE,flt,h]|refine aN ?_);refine ulk ?_;(repeat first|with_reducible refine kp [2,3,4,5] ?_|simp only[kV,simprocAttr,csE,af,ai,aq,ah,h]|refine aN ?_);unfold bY;rw[z8R h];rfl
end Go.Proofs.YtbnhgnhgbhjkcaaGreat.M
