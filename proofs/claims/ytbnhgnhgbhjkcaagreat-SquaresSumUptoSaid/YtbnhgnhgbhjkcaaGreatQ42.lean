/- Lemmas. -/
import Derived.Test.YtbnhgnhgbhjkcaaGreatQ41
set_option linter.defProp false
set_option linter.unusedSimpArgs false
set_option linter.unusedVariables false
namespace Go.Proofs.YtbnhgnhgbhjkcaaGreat.M
set_option linter.unusedSimpArgs false
set_option maxRecDepth 20000
set_option maxHeartbeats 4000000
open Go.RowKit Go.Proofs.YtbnhgnhgbhjkcaaGreat.Sy
open Classical in
noncomputable def mgS (rD:D) (lt:Tm→Tm→Bool) (l:List Tm) (a m b:Nat):List Tm:=
 if h:∃l',Srt (aI lt) l' a b∧Pm l l' a b∧dH rD l a m b l' then h.choose else l
def ph1 (lt:Tm→Tm→Bool):Nat→List Tm→Nat→List Tm
 |0,q,_=>q
 |r+1,q,k=>ph1 lt r (isF lt (k*20) 19 q (k*20+1)) (k+1)
noncomputable def ph2 (rD:D) (lt:Tm→Tm→Bool) (s:Nat):Nat→List Tm→Nat→List Tm
 |0,q,_=>q
 |r+1,q,k=>ph2 rD lt s r (mgS rD lt q (k*(2*s)) (k*(2*s)+s) (k*(2*s)+2*s)) (k+1)
noncomputable def phT (rD:D) (lt:Tm→Tm→Bool) (n s:Nat) (q:List Tm):List Tm:=
 if n / (2*s)*(2*s)+s<n then mgS rD lt (ph2 rD lt s (n / (2*s)) q 0) (n / (2*s)*(2*s)) (n / (2*s)*(2*s)+s) n else ph2 rD lt s (n / (2*s)) q 0
noncomputable def ph3 (rD:D) (lt:Tm→Tm→Bool) (n:Nat):Nat→Nat→List Tm→List Tm
 |0,_,q=>q
 |f+1,s,q=>if s<n then ph3 rD lt n f (2*s) (phT rD lt n s q) else q
section
variable {rD:D}{lt:Tm→Tm→Bool}{cz:Tm→Tm→Int} (ho:Ord (aI lt))
include ho
theorem zcv {l:List Tm}{a m b:Nat} (hc:Cmp rD l lt cz) (hl:l.length≤1000000000) (h1:a<m) (h2:m<b) (h3:b≤l.length) (s1:Srt (aI lt) l a m) (s2:Srt (aI lt) l m b) :
  Srt (aI lt) (mgS rD lt l a m b) a b∧Pm l (mgS rD lt l a m b) a b∧dH rD l a m b (mgS rD lt l a m b):=by
 have h:=LT rD lt cz ho (b-a) l a m b (z95 _) hc hl h1 h2 h3 s1 s2;unfold mgS;rw[dif_pos h];exact h.choose_spec
theorem mf {q:List Tm}{n k b:Nat} (hn:q.length=n) (hb:b=min (k*20+20) n) (hk:k*20≤n) (h:ed (aI lt) q n 20 k) :
  ed (aI lt) (isF lt (k*20) (b-k*20-1) q (k*20+1)) n 20 (k+1)∧(isF lt (k*20) (b-k*20-1) q (k*20+1)).Perm q:=by
 by_cases e:b=k*20
 ·rw[e,show k*20-k*20-1=0 by omega];exact⟨h.next (Srt.nil (by omega)) fun _ _=>rfl,.refl _⟩
 ·obtain⟨g1,g2⟩:=tH ho ro (a:=k*20) (b:=b) (b-k*20-1) q (k*20+1) (by omega) (by omega) (by omega) (Srt.nil (by omega));exact⟨h.next (by rw[←hb];exact g1) fun i hi=>g2.out i (.inl hi),g2.perm⟩
theorem vV {n:Nat}:∀(r:Nat) (q:List Tm) (k:Nat),q.length=n→(k+r)*20≤n→ed (aI lt) q n 20 k→ed (aI lt) (ph1 lt r q k) n 20 (k+r)∧(ph1 lt r q k).Perm q
 |0,q,k,_,_,h=>⟨h,.refl _⟩
 |r+1,q,k,hn,hk,h=>by
  have e:=z9F k (r+1) 20;obtain⟨g1,g2⟩:=mf ho (b:=k*20+20) hn (by omega) (by omega) h;rw[show k*20+20-k*20-1=19 by omega] at g1 g2;obtain⟨p1,p2⟩:=vV r _ (k+1) (by rw[g2.length_eq,hn]) (by rw[show k+1+r=k+(r+1) by omega];exact hk) g1;rw[show k+1+r=k+(r+1) by omega] at p1;exact⟨p1,p2.trans g2⟩
theorem mg {q:List Tm}{n s k b:Nat} (hc:Cmp rD q lt cz) (hl:q.length≤1000000000) (hn:q.length=n) (hs:0<s) (hb:b=min (k*(2*s)+2*s) n) (hk:k*(2*s)+s<n) (h:Dbl (aI lt) q n s k) :
  Dbl (aI lt) (mgS rD lt q (k*(2*s)) (k*(2*s)+s) b) n s (k+1)∧(mgS rD lt q (k*(2*s)) (k*(2*s)+s) b).Perm q∧dH rD q (k*(2*s)) (k*(2*s)+s) b (mgS rD lt q (k*(2*s)) (k*(2*s)+s) b):=by
 obtain⟨g1,g2,g3⟩:=zcv ho hc hl (a:=k*(2*s)) (m:=k*(2*s)+s) (b:=b) (by omega) (by omega) (by omega) (h.left (by omega)) (h.right (by omega) (by omega));exact⟨h.next (by rw[←hb];exact g1) fun i hi=>g2.out i (by omega),g2.perm,g3⟩
theorem vW {n s:Nat} (hs:0<s):∀(r:Nat) (q:List Tm) (k:Nat),Cmp rD q lt cz→q.length≤1000000000→q.length=n→(k+r)*(2*s)≤n→Dbl (aI lt) q n s k→Dbl (aI lt) (ph2 rD lt s r q k) n s (k+r)∧(ph2 rD lt s r q k).Perm q
 |0,q,k,_,_,_,_,h=>⟨h,.refl _⟩
 |r+1,q,k,hc,hl,hn,hk,h=>by
  have e:=Sy.mul_step (s:=2*s) (show k<k+(r+1) by omega);obtain⟨g1,g2,g3⟩:=mg ho (b:=k*(2*s)+2*s) hc hl hn hs (by omega) (by omega) h;obtain⟨p1,p2⟩:=vW hs r _ (k+1) (hc.perm g2) (by rw[g2.length_eq];exact hl) (by rw[g2.length_eq,hn]) (by rw[show k+1+r=k+(r+1) by omega];exact hk) g1;rw[show k+1+r=k+(r+1) by omega] at p1;exact⟨p1,p2.trans g2⟩
theorem vX {n s:Nat}{q:List Tm} (hs:0<s) (hc:Cmp rD q lt cz) (hl:q.length≤1000000000) (hn:q.length=n) (h:Blk (aI lt) q n s):Blk (aI lt) (phT rD lt n s q) n (2*s)∧(phT rD lt n s q).Perm q:=by
 have hd:=Nat.div_add_mod n (2*s);have hm:=Nat.mod_lt n (show 0<2*s by omega);rw[z8U] at hd;obtain⟨g1,g2⟩:=vW ho hs (n / (2*s)) q 0 hc hl hn (by rw[z9o];omega) (Dbl.of h);rw[z9o] at g1;have hlen:=g2.length_eq;unfold phT;split
 ·rename_i hlt;obtain⟨p1,p2,p3⟩:=mg ho (b:=n) (hc.perm g2) (by omega) (by omega) hs (by omega) hlt g1;refine⟨p1.lo.all ?_,p2.trans g2⟩;rw[z9F,Nat.one_mul];omega
 ·rename_i hlt;exact⟨g1.done (by omega) (by omega),g2⟩
theorem vY {n:Nat}:∀(f s:Nat) (q:List Tm),0<s→n≤s+f→Cmp rD q lt cz→q.length≤1000000000→q.length=n→Blk (aI lt) q n s→Srt (aI lt) (ph3 rD lt n f s q) 0 n∧(ph3 rD lt n f s q).Perm q
 |0,s,q,_,hf,_,_,_,h=>⟨h.whole (by omega),.refl _⟩
 |f+1,s,q,hs,hf,hc,hl,hn,h=>by
  unfold ph3;split
  ·obtain⟨g1,g2⟩:=vX ho hs hc hl hn h;obtain⟨p1,p2⟩:=vY f (2*s) _ (by omega) (by omega) (hc.perm g2) (by rw[g2.length_eq];exact hl) (by rw[g2.length_eq,hn]) g1;exact⟨p1,p2.trans g2⟩
  ·exact⟨h.whole (by omega),.refl _⟩
end
noncomputable def iV (rD:D) (lt:Tm→Tm→Bool) (l:List Tm):List Tm:=
 ph3 rD lt l.length l.length 20 (isF lt (l.length / 20*20) (l.length-l.length / 20*20-1) (ph1 lt (l.length / 20) l 0) (l.length / 20*20+1))
theorem vZ {rD:D}{lt:Tm→Tm→Bool}{cz:Tm→Tm→Int} (ho:Ord (aI lt)){l:List Tm} (hc:Cmp rD l lt cz) (hl:l.length≤1000000000):Srt (aI lt) (iV rD lt l) 0 l.length∧(iV rD lt l).Perm l:=by
 obtain⟨g1,g2⟩:=vV ho (l.length / 20) l 0 rfl (by omega) (fun k hk=>by omega);rw[z9o] at g1;obtain⟨p1,p2⟩:=mf ho (b:=l.length) (by rw[g2.length_eq]) (by omega) (by omega) g1;have hp:=p2.trans g2;obtain⟨r1,r2⟩:=vY ho l.length 20 _ (by omega) (by omega) (hc.perm hp) (by rw[hp.length_eq];exact hl) (by rw[hp.length_eq]) (p1.all (by omega));exact⟨r1,r2.trans hp⟩
theorem zcw (rD:D) (l:List Tm) (lt:Tm→Tm→Bool) (cz:Tm→Tm→Int) (ho:Ord (aI lt)) (hc:Cmp rD l lt cz) (hl:l.length≤1000000000) (h0:0<l.length) :
  dF Tryz.prog AN 131 0 [LM l,J l.length,cfD rD] TT 8 (l.map tI) (.tup []) ((iV rD lt l).map tI):=by
 obtain⟨n,hn⟩:∃n,n=l.length:=⟨_,rfl⟩
 have hsrt:iV rD lt l=ph3 rD lt n n 20 (isF lt (n / 20*20) (n-n / 20*20-1) (ph1 lt (n / 20) l 0) (n / 20*20+1)):=by rw[hn];rfl
 rw[hsrt];have ins:∀(q:List Tm) (a b r:Nat),q.Perm l→(a+1+r=b∨(b≤a+1∧r=0))→b≤n→a≤n→du Tryz.prog AN 147 0 [LM q,J a,J b,cfD rD] TT 8 (q.map tI) (.tup []) ((isF lt a r q (a+1)).map tI):=fun q a b r hq h1 h2 h3 =>
  ig (by decide) rfl (by rw[hq.length_eq];exact h0) (tG _ _ _ _ _) (wZ rD q lt cz (hc.perm hq) a b r h1 (by rw[hq.length_eq];omega) (by rw[hq.length_eq];exact hl) (by omega))
 have row:∀q:List Tm,q.Perm l→¬ q.map tI=[]:=fun q hq=>jy (by rw[hq.length_eq];exact h0)
 rw[←hn];have hr0:=row l (.refl _);refine mX.conL rfl (by simp) rfl (by simp) ?_;(repeat first|simp only[kV,simprocAttr,csV,nJ]|refine aN ?_);refine kp [0,1,2,6] ?_;(repeat first|simp only[kV,simprocAttr,csV,nJ]|refine aN ?_);refine kp [0,1,2,6,7,8] ?_;(repeat first|simp only[kV,simprocAttr,csV,nJ]|refine aN ?_);refine aB (ι:=Nat×Nat×Nat×List Tm) (fun s=>s.2.1=s.1*20∧s.2.2.1=s.2.1+20∧s.1≤n / 20∧s.2.2.2.Perm l∧ed (aI lt) s.2.2.2 n 20 s.1∧ph1 lt (n / 20-s.1) s.2.2.2 s.1=ph1 lt (n / 20) l 0) (fun s=>⟨ar [(0,.slice 999999 0 l.length),(1,.p (J n)),(2,.p (cfD rD)),(6,.p (J 20)),(7,.p (J s.2.1)),(8,.p (J s.2.2.1))],fh s.2.2.2⟩) (fun s=>n / 20-s.1) (0,0,20,l) ⟨rfl,rfl,z9O _,.refl _,fun k hk=>by simp only at hk;omega,rfl⟩ (Sub.toG [0,1,2,6,7,8] []) ?_;rintro⟨k,A,B,q⟩ ⟨kA,kB,k1,k2,k3,k4⟩;simp only at kA kB k1 k2 k3 k4;have hql:=k2.length_eq;have hrq:=row q k2;by_cases h:k<n / 20
 ·have hI:(B:Int)≤(n:Int):=by omega
  obtain⟨r,hr⟩:∃r,n / 20-k=r+1:=⟨n / 20-k-1,by omega⟩
  rw[hr,ph1,←kA] at k4;have c1:=(ins q A B 19 k2 (by omega) (by omega) (by omega)).x;obtain⟨g1,g2⟩:=mf ho (b:=k*20+20) (q:=q) (n:=n) (by omega) (by omega) (by omega) k3;rw[show k*20+20-k*20-1=19 by omega,←kA] at g1 g2;(repeat first|with_reducible refine kp [0,1,2,6,7,8,13] ?_|simp only[kV,simprocAttr,csV,hI]|refine aN ?_);(try simp only[kV,simprocAttr,csV,hI,hql,hrq]);refine ulk ?_;(repeat first|with_reducible refine kp [0,1,2,6,7,8] ?_|simp only[kV,simprocAttr,csV,hI,hql,hrq]|refine aN ?_);refine⟨_,_,c1,?_⟩;(repeat first|with_reducible refine kp [0,1,2,6,7,8] ?_|simp only[kV,simprocAttr,csV,hrq]|refine aN ?_);exact⟨(k+1,B,B+20,isF lt A 19 q (A+1)),⟨by simp only;omega,rfl,by simp only;omega,g2.trans k2,g1,by simp only;rw[show n / 20-(k+1)=r by omega];exact k4⟩,(Sub.toG [0,1,2,6,7,8] []),by simp only;omega⟩
 ·have hI:¬ (B:Int)≤(n:Int):=by omega
  obtain rfl:k=n / 20:=by omega
  rw[Nat.sub_self] at k4;have hq1:q=ph1 lt (n / 20) l 0:=k4;have c1:=(ins q A n (n-A-1) k2 (by omega) (by omega) (by omega)).x;obtain⟨g1,g2⟩:=mf ho (b:=n) (q:=q) (n:=n) (by omega) (by omega) (by omega) k3;rw[←hq1];rw[←kA] at g1 g2 ⊢;have g3:Blk (aI lt) (isF lt A (n-A-1) q (A+1)) n 20:=g1.all (by omega);have g4:=g2.trans k2;generalize isF lt A (n-A-1) q (A+1)=q2 at *;clear k4 hq1 k3 g1 g2;(repeat first|with_reducible refine kp [0,1,2,6,7,8,13] ?_|simp only[kV,simprocAttr,csV,hI]|refine aN ?_);(try simp only[kV,simprocAttr,csV,hI,hql,hrq]);refine ulk ?_;(repeat first|with_reducible refine kp [0,1,2,6,7] ?_|simp only[kV,simprocAttr,csV,hI,hql,hrq]|refine aN ?_);refine⟨_,_,c1,?_⟩;(repeat first|simp only[kV,simprocAttr,csV,hrq]|refine aN ?_);refine kp [0,1,2,6] ?_;(repeat first|simp only[kV,simprocAttr,csV,hrq]|refine aN ?_);refine aB (ι:=Nat×Nat×List Tm) (fun s=>0<s.2.1∧n≤s.2.1+s.1∧s.2.1≤2*n+20∧s.2.2.Perm l∧Blk (aI lt) s.2.2 n s.2.1∧ph3 rD lt n s.1 s.2.1 s.2.2=ph3 rD lt n n 20 q2) (fun s=>⟨ar [(0,.slice 999999 0 l.length),(1,.p (J n)),(2,.p (cfD rD)),(6,.p (J s.2.1))],fh s.2.2⟩) (fun s=>s.1) (n,20,q2) ⟨by simp only;omega,by simp only;omega,by simp only;omega,g4,g3,rfl⟩ (Sub.toG [0,1,2,6] []) ?_;rintro⟨f,s,p⟩ ⟨s1,s2,s3,s4,s5,s6⟩;simp only at s1 s2 s3 s4 s5 s6;have hpl:=s4.length_eq;have hcp:=hc.perm s4;by_cases hs:s<n
  ·have hsI:(s:Int)<(n:Int):=by omega
   rcases f with _ | f
   ·omega
   rw[ph3,if_pos hs] at s6;obtain⟨u1,u2⟩:=vX ho s1 hcp (by omega) (by omega) s5;have hdm:=Nat.div_add_mod n (2*s);have hmm:=Nat.mod_lt n (show 0<2*s by omega);rw[z8U] at hdm;obtain⟨w,hw⟩:∃w,w=2*s:=⟨_,rfl⟩
   have ew:2*(s:Int)=(w:Int):=by omega
   have ew2:(s:Int)*2=(w:Int):=by omega
   have hT:phT rD lt n s p=if n / w*w+s<n then mgS rD lt (ph2 rD lt s (n / w) p 0) (n / w*w) (n / w*w+s) n else ph2 rD lt s (n / w) p 0:=by rw[hw];rfl
   rw[←hw] at hdm hmm s6 u1;(repeat first|with_reducible refine kp [0,1,2,6,30] ?_|simp only[kV,simprocAttr,csV,hsI]|refine aN ?_);(try simp only[kV,simprocAttr,csV,hsI,ew]);refine ulk ?_;(repeat first|simp only[kV,simprocAttr,csV,hsI,ew]|refine aN ?_);refine kp [0,1,2,6] ?_;(repeat first|simp only[kV,simprocAttr,csV,hsI,ew]|refine aN ?_);refine kp [0,1,2,6,7,8] ?_;(repeat first|simp only[kV,simprocAttr,csV,hsI,ew]|refine aN ?_);refine aB (ι:=Nat×Nat×Nat×List Tm) (fun t=>t.2.1=t.1*w∧t.2.2.1=t.2.1+w∧t.1≤n / w∧t.2.2.2.Perm l∧Dbl (aI lt) t.2.2.2 n s t.1∧ph2 rD lt s (n / w-t.1) t.2.2.2 t.1=ph2 rD lt s (n / w) p 0) (fun t=>⟨ar [(0,.slice 999999 0 l.length),(1,.p (J n)),(2,.p (cfD rD)),(6,.p (J s)),(7,.p (J t.2.1)),(8,.p (J t.2.2.1))],fh t.2.2.2⟩) (fun t=>n / w-t.1) (0,0,w,p) ⟨by simp,by simp,z9O _,s4,Dbl.of s5,rfl⟩ (Sub.toG [0,1,2,6,7,8] []) ?_;rintro⟨k,A,B,q⟩ ⟨kA',kB',j1,j2,j3,j4⟩;simp only at kA' kB' j1 j2 j3 j4;have hql:=j2.length_eq;have hrq:=row q j2;have hcq:=hc.perm j2;by_cases h':k<n / w
   ·have hst:=Sy.mul_step (s:=w) h';have hI:(B:Int)≤(n:Int):=by omega
    obtain⟨r,hr⟩:∃r,n / w-k=r+1:=⟨n / w-k-1,by omega⟩
    obtain⟨M,hM⟩:∃M,M=A+s:=⟨_,rfl⟩
    have eM:(A:Int)+(s:Int)=(M:Int):=by omega
    rw[hr,ph2,←hw,←kA',←kB',←hM] at j4;obtain⟨g1,g2,g3⟩:=mg ho (b:=B) hcq (by omega) (by omega) s1 (by rw[←hw];omega) (by rw[←hw];omega) j3;rw[←hw,←kA',←hM] at g1 g2 g3;have c2:=g3.x;have hj:=g2.trans j2;have hjl:=hj.length_eq;generalize mgS rD lt q A M B=q3 at *;have e8:(B:Int)+(w:Int)=((B+w:Nat):Int):=by omega
    (repeat first|with_reducible refine kp [0,1,2,6,7,8,35] ?_|simp only[kV,simprocAttr,csV,hI]|refine aN ?_);(try simp only[kV,simprocAttr,csV,hI,hql,hrq,eM]);refine ulk ?_;(repeat first|with_reducible refine kp [0,1,2,6,7,8] ?_|simp only[kV,simprocAttr,csV,hI,hql,hrq,eM]|refine aN ?_);refine⟨_,_,c2,?_⟩;(repeat first|with_reducible refine kp [0,1,2,6,7,8] ?_|simp only[kV,simprocAttr,csV,hrq,ew,e8]|refine aN ?_);exact⟨(k+1,B,B+w,q3),⟨by simp only;rw[z9F,Nat.one_mul];omega,rfl,by simp only;omega,hj,g1,by simp only;rw[show n / w-(k+1)=r by omega];exact j4⟩,(Sub.toG [0,1,2,6,7,8] []),by simp only;omega⟩
   ·have hI:¬ (B:Int)≤(n:Int):=by
     have:n / w≤k:=by omega
     have:=z92 w this;omega
    obtain rfl:k=n / w:=by omega
    rw[Nat.sub_self] at j4;have hq1:q=ph2 rD lt s (n / w) p 0:=j4;rw[←hq1,←kA'] at hT;obtain⟨M,hM⟩:∃M,M=A+s:=⟨_,rfl⟩
    have eM:(A:Int)+(s:Int)=(M:Int):=by omega
    rw[←hM] at hT;by_cases hl2:M<n
    ·have hMI:(M:Int)<(n:Int):=by omega
     rw[if_pos hl2] at hT;obtain⟨g1,g2,g3⟩:=mg ho (b:=n) hcq (by omega) (by omega) s1 (by rw[←hw];omega) (by rw[←hw];omega) j3;rw[←hw,←kA',←hM] at g3;have c2:=g3.x;rw[←hT] at c2;have hTl:=(u2.trans s4).length_eq;generalize phT rD lt n s p=q3 at *;(repeat first|with_reducible refine kp [0,1,2,6,7,8,35] ?_|simp only[kV,simprocAttr,csV,hI]|refine aN ?_);(try simp only[kV,simprocAttr,csV,hI,eM]);refine ulk ?_;(repeat first|with_reducible refine kp [0,1,2,6,7,9,54] ?_|simp only[kV,simprocAttr,csV,hI,eM]|refine aN ?_);(try simp only[kV,simprocAttr,csV,hMI,hql,hrq]);refine ulk ?_;(repeat first|simp only[kV,simprocAttr,csV,hMI,hql,hrq]|refine aN ?_);refine⟨_,_,c2,?_⟩;(repeat first|with_reducible refine kp [0,1,2,6] ?_|simp only[kV,simprocAttr,csV,hrq,ew2]|refine aN ?_);exact⟨(f,w,q3),⟨by simp only;omega,by simp only;omega,by simp only;omega,u2.trans s4,u1,s6⟩,(Sub.toG [0,1,2,6] []),by simp only;omega⟩
    ·have hMI:¬ (M:Int)<(n:Int):=by omega
     rw[if_neg hl2] at hT;rw[hT] at u1 u2 s6;(repeat first|with_reducible refine kp [0,1,2,6,7,8,35] ?_|simp only[kV,simprocAttr,csV,hI]|refine aN ?_);(try simp only[kV,simprocAttr,csV,hI,eM]);refine ulk ?_;(repeat first|with_reducible refine kp [0,1,2,6,7,9,54] ?_|simp only[kV,simprocAttr,csV,hI,eM]|refine aN ?_);(try simp only[kV,simprocAttr,csV,hMI,ew2]);refine ulk ?_;(repeat first|with_reducible refine kp [0,1,2,6] ?_|simp only[kV,simprocAttr,csV,hMI,ew2]|refine aN ?_);exact⟨(f,w,q),⟨by simp only;omega,by simp only;omega,by simp only;omega,j2,u1,s6⟩,(Sub.toG [0,1,2,6] []),by simp only;omega⟩
  ·have hsI:¬ (s:Int)<(n:Int):=by omega
   have hp3:ph3 rD lt n f s p=p:=by
    rcases f with _ | f
    ·rfl
    ·rw[ph3,if_neg hs]
   rw[hp3] at s6;subst s6;(repeat first|with_reducible refine kp [0,1,2,6,30] ?_|simp only[kV,simprocAttr,csV,hsI]|refine aN ?_);refine ulk ?_;(repeat first|simp only[kV,simprocAttr,csV,hsI]|refine aN ?_);exact ResLt.unit _
end Go.Proofs.YtbnhgnhgbhjkcaaGreat.M
