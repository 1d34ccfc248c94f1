/- Lemmas. -/
import Derived.Test.YtbnhgnhgbhjkcaaGreatV40
set_option linter.defProp false
set_option linter.unusedSimpArgs false
set_option linter.unusedVariables false
namespace Go.Proofs.YtbnhgnhgbhjkcaaGreat.M
open Go.RowKit Go.Proofs.YtbnhgnhgbhjkcaaGreat.Sy
set_option maxRecDepth 20000
set_option maxHeartbeats 2000000
theorem XR (x:Int):inK .u64 x=decide (0≤x∧x≤18446744073709551615):=rfl
theorem XS:((IntKind.u64.bits:Nat):Int)=64:=rfl
theorem XT:Int.toNat 1=1:=rfl
def csV:=an @XR (an @XS (an @XT @csU))
theorem kQ (i j:Nat):((i:Int)+(j:Int)) / 2=(((i+j) / 2:Nat):Int):=by omega
theorem nw {rD:D}{l:List Tm}{lt:Tm→Tm→Bool}{cz:Tm→Tm→Int} (hc:Cmp rD l lt cz){x y:Nat} (hx:x<l.length) (hy:y<l.length) :
  Con Tryz.prog AN 110 [tI (Sy.at_ l x),tI (Sy.at_ l y),.ref rD] (J (cz (Sy.at_ l x) (Sy.at_ l y)))∧(lt (Sy.at_ l x) (Sy.at_ l y)=true→cz (Sy.at_ l x) (Sy.at_ l y)<0)∧(lt (Sy.at_ l x) (Sy.at_ l y)=false→¬ cz (Sy.at_ l x) (Sy.at_ l y)<0):=by
 have h1:=at_mem hx;have h2:=at_mem hy;have h3:=hc.lt _ h1 _ h2;exact⟨hc.con _ h1 _ h2,h3.2,fun h hh=>by rw[h3.1 hh] at h;cases h⟩
theorem XU (rD:D) (l:List Tm) (lt:Tm→Tm→Bool) (cz:Tm→Tm→Int) (hc:Cmp rD l lt cz) (a m b s:Nat) (hm:m=a+1) (hmb:m<b) (h2:b≤l.length) (h3:l.length≤1000000000)
  (hs:Sy.bs (fun h=>lt (Sy.at_ l h) (Sy.at_ l a)) m b=s) (hs1:m≤s) (hs2:s≤b) :
  df Tryz.prog AN 148 0 [LM l,J a,J m,J b,cfD rD] TT 8 (l.map tI) (.tup []) ((cQ l a m s).map tI):=by
 have hI1:(m:Int)-(a:Int)=1:=by omega
 have ga:=bY (l:=l) (i:=a) (by omega);have e0:((a:Int)<(l.length:Int)):=by omega
 refine ke.conL rfl (by simp) rfl (by simp) ?_;(repeat first|with_reducible refine kp [0,1,2,3,4,28] ?_|simp only[kV,simprocAttr,csV,eL,hI1]|refine aN ?_);refine ulk ?_;(repeat first|simp only[kV,simprocAttr,csV,hI1]|refine aN ?_);refine kp [0,1,3,4,10] ?_;(repeat first|simp only[kV,simprocAttr,csV,hI1]|refine aN ?_);refine kp [0,1,4,10,11] ?_;(repeat first|simp only[kV,simprocAttr,csV,hI1]|refine aN ?_);refine aE (ι:=Nat×Nat) (fun s'=>m≤s'.1∧s'.1≤s'.2∧s'.2≤b∧Sy.bs (fun h=>lt (Sy.at_ l h) (Sy.at_ l a)) s'.1 s'.2=s) (fun s'=>⟨ai [(0,.slice 999999 0 l.length),(1,.p (J a)),(4,.p (cfD rD)),(10,.p (J s'.1)),(11,.p (J s'.2))],aw [(999999,⟨TT,8,.row (l.map tI),false⟩)]⟩) (fun s'=>s'.2-s'.1) (m,b) ⟨Nat.le_refl _,by simp only;omega,Nat.le_refl _,hs⟩ (Sub.toG [0,1,4,10,11] []) ?_;rintro⟨i,j⟩ ⟨k1,k2,k3,k4⟩;simp only at k1 k2 k3 k4;by_cases h:i<j
 ·have hI:(i:Int)<(j:Int):=by omega
  have eh:=kQ i j;obtain⟨q,hq⟩:∃q,q=(i+j) / 2:=⟨_,rfl⟩
  rw[←hq] at eh;have gq:=bY (l:=l) (i:=q) (by omega);obtain⟨c1,c2,c3⟩:=nw hc (x:=q) (y:=a) (by omega) (by omega);cases hb:lt (Sy.at_ l q) (Sy.at_ l a) with
  |true =>
   have hz:=c2 hb;rw[kT h (by rw[←hq];exact hb),←hq] at k4;(repeat first|with_reducible refine kp [0,1,4,10,11,33] ?_|simp only[kV,simprocAttr,csV,hI]|refine aN ?_);(try simp only[kV,simprocAttr,csV,hI,eh,gq,ga]);refine ulk ?_;(repeat first|with_reducible refine kp [0,1,4,10,11,12] ?_|simp only[kV,simprocAttr,csV,hI,eh,gq,ga]|refine aN ?_);refine⟨by decide,_,cx (c1),ulc ?_⟩;(repeat first|with_reducible refine kp [0,1,4,10,11,12,50] ?_|simp only[kV,simprocAttr,csV,hz]|refine aN ?_);refine ulk ?_;(repeat first|simp only[kV,simprocAttr,csV,hz]|refine aN ?_);exact⟨(q+1,j),⟨by simp only;omega,by simp only;omega,k3,k4⟩,(Sub.toG [0,1,4,10,11] []),by simp only;omega⟩
  |false =>
   have hz:=c3 hb;rw[kU h (by rw[←hq];exact hb),←hq] at k4;(repeat first|with_reducible refine kp [0,1,4,10,11,33] ?_|simp only[kV,simprocAttr,csV,hI]|refine aN ?_);(try simp only[kV,simprocAttr,csV,hI,eh,gq,ga]);refine ulk ?_;(repeat first|with_reducible refine kp [0,1,4,10,11,12] ?_|simp only[kV,simprocAttr,csV,hI,eh,gq,ga]|refine aN ?_);refine⟨by decide,_,cx (c1),ulc ?_⟩;(repeat first|with_reducible refine kp [0,1,4,10,11,12,50] ?_|simp only[kV,simprocAttr,csV,hz]|refine aN ?_);refine ulk ?_;(repeat first|simp only[kV,simprocAttr,csV,hz]|refine aN ?_);exact⟨(i,q),⟨k1,by simp only;omega,by simp only;omega,k4⟩,(Sub.toG [0,1,4,10,11] []),by simp only;omega⟩
 ·have hI:¬ (i:Int)<(j:Int):=by omega
  rw[ji h] at k4;subst k4;(repeat first|with_reducible refine kp [0,1,4,10,11,33] ?_|simp only[kV,simprocAttr,csV,hI]|refine aN ?_);refine ulk ?_;(repeat first|simp only[kV,simprocAttr,csV,hI]|refine aN ?_);refine kp [0,1,10] ?_;(repeat first|simp only[kV,simprocAttr,csV,hI]|refine aN ?_);refine kp [0,10,13] ?_;(repeat first|simp only[kV,simprocAttr,csV,hI]|refine aN ?_);refine aE (ι:=Nat×List Tm) (fun s'=>a≤s'.1∧s'.1+1≤i∧s'.2.length=l.length∧Rot l s'.2 a (a+1) (s'.1+1)) (fun s'=>⟨ai [(0,.slice 999999 0 l.length),(10,.p (J i)),(13,.p (J s'.1))],aw [(999999,⟨TT,8,.row (s'.2.map tI),false⟩)]⟩) (fun s'=>i-s'.1) (a,l) ⟨Nat.le_refl _,by simp only;omega,rfl,Rot.id (by omega) (by omega) (by omega)⟩ (Sub.toG [0,10,13] []) ?_;rintro⟨k,q⟩ ⟨q1,q2,q3,q4⟩;simp only at q1 q2 q3 q4;by_cases g:k+1<i
  ·have gI:(k:Int)<(i:Int)-1:=by omega
   have g1:=bY (l:=q) (i:=k) (by omega);obtain⟨y,hy⟩:∃y,y=k+1:=⟨_,rfl⟩
   have g2:=bY (l:=q) (i:=y) (by omega);have e1:(k:Int)+1=(y:Int):=by omega
   have hup:=q4.up (by omega) (by omega);rw[show k+2=y+1 by omega,←hy] at hup;(repeat first|with_reducible refine kp [0,10,13,58] ?_|simp only[kV,simprocAttr,csV,gI]|refine aN ?_);(try simp only[kV,simprocAttr,csV,gI,e1,g1,g2,q3]);refine ulk ?_;(repeat first|with_reducible refine kp [0,10,13] ?_|simp only[kV,simprocAttr,csV,gI,e1,g1,g2,q3]|refine aN ?_);exact⟨(y,Sy.swp q k y),⟨by simp only;omega,by simp only;omega,by simp only;rw[gK,q3],hup⟩,(Sub.toG [0,10,13] []),by simp only;omega⟩
  ·have gI:¬ (k:Int)<(i:Int)-1:=by omega
   rw[show k+1=i by omega] at q4;have hr:=q4.eq (by omega) (by omega) (by omega);subst hm;subst hr;(repeat first|with_reducible refine kp [0,10,13,58] ?_|simp only[kV,simprocAttr,csV,gI]|refine aN ?_);refine ulk ?_;(repeat first|with_reducible refine kp [] ?_|simp only[kV,simprocAttr,csV,ac,ah,ae,af,gI]|refine aN ?_);exact ResLt.unit _
theorem XV (rD:D) (l:List Tm) (lt:Tm→Tm→Bool) (cz:Tm→Tm→Int) (hc:Cmp rD l lt cz) (a m b s:Nat) (ham:a+1<m) (hm:b=m+1) (h2:b≤l.length) (h3:l.length≤1000000000)
  (hs:Sy.bs (fun h => !lt (Sy.at_ l m) (Sy.at_ l h)) a m=s) (hs1:a≤s) (hs2:s≤m) :
  df Tryz.prog AN 148 0 [LM l,J a,J m,J b,cfD rD] TT 8 (l.map tI) (.tup []) ((cQ l s m b).map tI):=by
 have hI1:¬ (m:Int)-(a:Int)=1:=by omega
 have hI2:(b:Int)-(m:Int)=1:=by omega
 have ga:=bY (l:=l) (i:=m) (by omega);have e0:((m:Int)<(l.length:Int)):=by omega
 refine ke.conL rfl (by simp) rfl (by simp) ?_;(repeat first|with_reducible refine kp [0,1,2,3,4,28] ?_|simp only[kV,simprocAttr,csV,eL,hI1]|refine aN ?_);(try simp only[kV,simprocAttr,csV,hI1,hI2]);refine ulk ?_;(repeat first|with_reducible refine kp [0,1,2,3,4,80] ?_|simp only[kV,simprocAttr,csV,hI1,hI2]|refine aN ?_);refine ulk ?_;(repeat first|simp only[kV,simprocAttr,csV,hI1,hI2]|refine aN ?_);refine kp [0,2,4,14] ?_;(repeat first|simp only[kV,simprocAttr,csV,hI1,hI2]|refine aN ?_);refine kp [0,2,4,14,15] ?_;(repeat first|simp only[kV,simprocAttr,csV,hI1,hI2]|refine aN ?_);refine aE (ι:=Nat×Nat) (fun s'=>a≤s'.1∧s'.1≤s'.2∧s'.2≤m∧Sy.bs (fun h => !lt (Sy.at_ l m) (Sy.at_ l h)) s'.1 s'.2=s) (fun s'=>⟨ai [(0,.slice 999999 0 l.length),(2,.p (J m)),(4,.p (cfD rD)),(14,.p (J s'.1)),(15,.p (J s'.2))],aw [(999999,⟨TT,8,.row (l.map tI),false⟩)]⟩) (fun s'=>s'.2-s'.1) (a,m) ⟨Nat.le_refl _,by simp only;omega,Nat.le_refl _,hs⟩ (Sub.toG [0,2,4,14,15] []) ?_;rintro⟨i,j⟩ ⟨k1,k2,k3,k4⟩;simp only at k1 k2 k3 k4;by_cases h:i<j
 ·have hI:(i:Int)<(j:Int):=by omega
  have eh:=kQ i j;obtain⟨q,hq⟩:∃q,q=(i+j) / 2:=⟨_,rfl⟩
  rw[←hq] at eh;have gq:=bY (l:=l) (i:=q) (by omega);obtain⟨c1,c2,c3⟩:=nw hc (x:=m) (y:=q) (by omega) (by omega);cases hb:lt (Sy.at_ l m) (Sy.at_ l q) with
  |false =>
   have hz:=c3 hb;rw[kT h (by simp only[←hq,hb];rfl),←hq] at k4;(repeat first|with_reducible refine kp [0,2,4,14,15,85] ?_|simp only[kV,simprocAttr,csV,hI]|refine aN ?_);(try simp only[kV,simprocAttr,csV,hI,eh,gq,ga]);refine ulk ?_;(repeat first|with_reducible refine kp [0,2,4,14,15,16] ?_|simp only[kV,simprocAttr,csV,hI,eh,gq,ga]|refine aN ?_);refine⟨by decide,_,cx (c1),ulc ?_⟩;(repeat first|with_reducible refine kp [0,2,4,14,15,16,103] ?_|simp only[kV,simprocAttr,csV,hz]|refine aN ?_);refine ulk ?_;(repeat first|simp only[kV,simprocAttr,csV,hz]|refine aN ?_);exact⟨(q+1,j),⟨by simp only;omega,by simp only;omega,k3,k4⟩,(Sub.toG [0,2,4,14,15] []),by simp only;omega⟩
  |true =>
   have hz:=c2 hb;rw[kU h (by simp only[←hq,hb];rfl),←hq] at k4;(repeat first|with_reducible refine kp [0,2,4,14,15,85] ?_|simp only[kV,simprocAttr,csV,hI]|refine aN ?_);(try simp only[kV,simprocAttr,csV,hI,eh,gq,ga]);refine ulk ?_;(repeat first|with_reducible refine kp [0,2,4,14,15,16] ?_|simp only[kV,simprocAttr,csV,hI,eh,gq,ga]|refine aN ?_);refine⟨by decide,_,cx (c1),ulc ?_⟩;(repeat first|with_reducible refine kp [0,2,4,14,15,16,103] ?_|simp only[kV,simprocAttr,csV,hz]|refine aN ?_);refine ulk ?_;(repeat first|simp only[kV,simprocAttr,csV,hz]|refine aN ?_);exact⟨(i,q),⟨k1,by simp only;omega,by simp only;omega,k4⟩,(Sub.toG [0,2,4,14,15] []),by simp only;omega⟩
 ·have hI:¬ (i:Int)<(j:Int):=by omega
  rw[ji h] at k4;subst k4;(repeat first|with_reducible refine kp [0,2,4,14,15,85] ?_|simp only[kV,simprocAttr,csV,hI]|refine aN ?_);refine ulk ?_;(repeat first|simp only[kV,simprocAttr,csV,hI]|refine aN ?_);refine kp [0,2,14] ?_;(repeat first|simp only[kV,simprocAttr,csV,hI]|refine aN ?_);refine kp [0,14,17] ?_;(repeat first|simp only[kV,simprocAttr,csV,hI]|refine aN ?_);refine aE (ι:=Nat×List Tm) (fun s'=>i≤s'.1∧s'.1≤m∧s'.2.length=l.length∧Rot l s'.2 s'.1 m (m+1)) (fun s'=>⟨ai [(0,.slice 999999 0 l.length),(14,.p (J i)),(17,.p (J s'.1))],aw [(999999,⟨TT,8,.row (s'.2.map tI),false⟩)]⟩) (fun s'=>s'.1-i) (m,l) ⟨by simp only;omega,Nat.le_refl _,rfl,Rot.id (by omega) (by omega) (by omega)⟩ (Sub.toG [0,14,17] []) ?_;rintro⟨k,q⟩ ⟨q1,q2,q3,q4⟩;simp only at q1 q2 q3 q4;by_cases g:i<k
  ·have gI:(i:Int)<(k:Int):=by omega
   have g1:=bY (l:=q) (i:=k) (by omega);obtain⟨y,hy⟩:∃y,k=y+1:=⟨k-1,by omega⟩
   have g2:=bY (l:=q) (i:=y) (by omega);have e1:(k:Int)-1=(y:Int):=by omega
   rw[hy] at q4;have hup:=q4.down (by omega) (by omega);rw[←hy] at hup;(repeat first|with_reducible refine kp [0,14,17,110] ?_|simp only[kV,simprocAttr,csV,gI]|refine aN ?_);(try simp only[kV,simprocAttr,csV,gI,e1,g1,g2,q3]);refine ulk ?_;(repeat first|with_reducible refine kp [0,14,17] ?_|simp only[kV,simprocAttr,csV,gI,e1,g1,g2,q3]|refine aN ?_);exact⟨(y,Sy.swp q k y),⟨by simp only;omega,by simp only;omega,by simp only;rw[gK,q3],hup⟩,(Sub.toG [0,14,17] []),by simp only;omega⟩
  ·have gI:¬ (i:Int)<(k:Int):=by omega
   obtain rfl:k=i:=by omega
   have hr:=q4.eq (by omega) (by omega) (by omega);subst hm;subst hr;(repeat first|with_reducible refine kp [0,14,17,110] ?_|simp only[kV,simprocAttr,csV,gI]|refine aN ?_);refine ulk ?_;(repeat first|with_reducible refine kp [] ?_|simp only[kV,simprocAttr,csV,ac,ah,ae,af,gI]|refine aN ?_);exact ResLt.unit _
abbrev eW (l:List Tm):Mem:=aw [(999999,⟨TT,8,.row (l.map tI),false⟩)]
abbrev dj (rD:D) (l:List Tm) (a m b:Nat) (l':List Tm):Prop:=cZ Tryz.prog AN 148 0 [LM l,J a,J m,J b,cfD rD] TT 8 (l.map tI) (.tup []) (l'.map tI)
theorem jr {l:List Tm} (h:0<l.length):¬ l.map tI=[]:=fun e=>by
 have:l=[]:=by simpa using e
 rw[this] at h;cases h
theorem nU (rD:D) (l3 l4:List Tm) (N mid e b:Nat) (hN:l3.length=N) (hN4:l4.length=N) (hN0:0<N) (hN1:N≤1000000000) (hb:b≤N) (h1:mid<e∧e<b→dj rD l3 mid e b l4) (h2:¬ (mid<e∧e<b)→l4=l3) :
  cw [4001224,4001184,5000047,5000049,5000050,5000070,5000083,5000110,5000114,145] (ConX Tryz.prog AN) qk (gN TT 8 (l4.map tI) (.tup []) []) ⟨ai [(0,.slice 999999 0 N),(3,.p (J b)),(4,.p (cfD rD)),(18,.p (J mid)),(24,.p (J e))],eW l3⟩:=by
 have hr3:=jr (l:=l3) (by omega);by_cases g1:mid<e
 ·have i1:(mid:Int)<(e:Int):=by omega
  by_cases g2:e<b
  ·have i2:(e:Int)<(b:Int):=by omega
   have c1:=(h1 ⟨g1,g2⟩).x;skip
   (repeat first|with_reducible refine kp [0,3,4,18,24,213] ?_|simp only[kV,simprocAttr,csV,i1,i2]|refine aN ?_);(try simp only[kV,simprocAttr,csV,i1,i2,hN,hr3]);refine ulk ?_;(repeat first|simp only[kV,simprocAttr,csV,i1,i2,hN,hr3]|refine aN ?_);refine⟨_,_,c1,?_⟩;(repeat first|simp only[kV,simprocAttr,csV,hr3]|refine aN ?_);exact ResLt.unit _
  ·have i2:¬ (e:Int)<(b:Int):=by omega
   have e4:=h2 fun h=>g2 h.2
   subst e4;skip
   (repeat first|with_reducible refine kp [0,3,4,18,24,213] ?_|simp only[kV,simprocAttr,csV,i1,i2]|refine aN ?_);refine ulk ?_;(repeat first|simp only[kV,simprocAttr,csV,i1,i2]|refine aN ?_);exact ResLt.unit _
 ·have i1:¬ (mid:Int)<(e:Int):=by omega
  have e4:=h2 fun h=>g1 h.1
  subst e4;skip
  (repeat first|with_reducible refine kp [0,3,4,18,24,213] ?_|simp only[kV,simprocAttr,csV,i1]|refine aN ?_);refine ulk ?_;(repeat first|simp only[kV,simprocAttr,csV,i1]|refine aN ?_);exact ResLt.unit _
theorem nV (rD:D) (l2 l3 l4:List Tm) (N a s mid e b:Nat) (hN2:l2.length=N) (hN:l3.length=N) (hN4:l4.length=N) (hN0:0<N) (hN1:N≤1000000000) (hb:b≤N) (k1:a<s∧s<mid→dj rD l2 a s mid l3) (k2:¬ (a<s∧s<mid)→l3=l2) (h1:mid<e∧e<b→dj rD l3 mid e b l4) (h2:¬ (mid<e∧e<b)→l4=l3) :
  cw [4001224,4001184,5000047,5000049,5000050,5000070,5000083,5000110,5000114,145] (ConX Tryz.prog AN) qm (gN TT 8 (l4.map tI) (.tup []) []) ⟨ai [(0,.slice 999999 0 N),(1,.p (J a)),(3,.p (J b)),(4,.p (cfD rD)),(18,.p (J mid)),(20,.p (J s)),(24,.p (J e))],eW l2⟩:=by
 have hr2:=jr (l:=l2) (by omega);by_cases g1:a<s
 ·have i1:(a:Int)<(s:Int):=by omega
  by_cases g2:s<mid
  ·have i2:(s:Int)<(mid:Int):=by omega
   have c1:=(k1 ⟨g1,g2⟩).x;skip
   (repeat first|with_reducible refine kp [0,1,3,4,18,20,24,199] ?_|simp only[kV,simprocAttr,csV,i1,i2]|refine aN ?_);(try simp only[kV,simprocAttr,csV,i1,i2,hN2,hr2]);refine ulk ?_;(repeat first|simp only[kV,simprocAttr,csV,i1,i2,hN2,hr2]|refine aN ?_);refine⟨_,_,c1,?_⟩;(repeat first|simp only[kV,simprocAttr,csV,hr2]|refine aN ?_);exact⟨_,(Sub.toG [0,3,4,18,24] []),nU rD l3 l4 N mid e b hN hN4 hN0 hN1 hb h1 h2⟩
  ·have i2:¬ (s:Int)<(mid:Int):=by omega
   have e4:=k2 fun h=>g2 h.2
   subst e4;skip
   (repeat first|with_reducible refine kp [0,1,3,4,18,20,24,199] ?_|simp only[kV,simprocAttr,csV,i1,i2]|refine aN ?_);refine ulk ?_;(repeat first|simp only[kV,simprocAttr,csV,i1,i2]|refine aN ?_);exact⟨_,(Sub.toG [0,3,4,18,24] []),nU rD l3 l4 N mid e b hN hN4 hN0 hN1 hb h1 h2⟩
 ·have i1:¬ (a:Int)<(s:Int):=by omega
  have e4:=k2 fun h=>g1 h.1
  subst e4;skip
  (repeat first|with_reducible refine kp [0,1,3,4,18,20,24,199] ?_|simp only[kV,simprocAttr,csV,i1]|refine aN ?_);refine ulk ?_;(repeat first|simp only[kV,simprocAttr,csV,i1]|refine aN ?_);exact⟨_,(Sub.toG [0,3,4,18,24] []),nU rD l3 l4 N mid e b hN hN4 hN0 hN1 hb h1 h2⟩
abbrev tB (rD:D) (l:List Tm) (a m b:Nat) (l':List Tm):Prop:=cZ Tryz.prog AN 153 0 [LM l,J a,J m,J b,cfD rD] TT 8 (l.map tI) (.tup []) (l'.map tI)
theorem tC (rD:D) (l l2 l3 l4:List Tm) (lt:Tm→Tm→Bool) (cz:Tm→Tm→Int) (hc:Cmp rD l lt cz) (N a s mid e b m n s0 r0:Nat) (hN':l.length=N) (hN2:l2.length=N) (hN:l3.length=N) (hN4:l4.length=N) (hN0:0<N) (hN1:N≤1000000000) (hb:b≤N)
  (hn:n=mid+m) (he:e+s=n) (hs:Sy.bs (fun c => !lt (Sy.at_ l (n-1-c)) (Sy.at_ l c)) s0 r0=s) (hs0:s0≤r0) (hr0:r0≤m) (hmb:m≤b) (hr1:r0≤mid) (hns:n≤b+s0) (hmb2:mid≤b)
  (q1:s<m∧m<e→tB rD l s m e l2) (q2:¬ (s<m∧m<e)→l2=l) (k1:a<s∧s<mid→dj rD l2 a s mid l3) (k2:¬ (a<s∧s<mid)→l3=l2) (h1:mid<e∧e<b→dj rD l3 mid e b l4) (h2:¬ (mid<e∧e<b)→l4=l3) :
  cw [4001224,4001184,5000047,5000049,5000050,5000070,5000083,5000110,5000114,145] (ConX Tryz.prog AN) qn (gN TT 8 (l4.map tI) (.tup []) []) ⟨ai [(0,.slice 999999 0 N),(1,.p (J a)),(2,.p (J m)),(3,.p (J b)),(4,.p (cfD rD)),(18,.p (J mid)),(19,.p (J n)),(20,.p (J s0)),(21,.p (J r0))],eW l⟩:=by
 have hr:=jr (l:=l) (by omega);skip
 (repeat first|simp only[kV,simprocAttr,csV]|refine aN ?_);refine kp [0,1,2,3,4,18,19,20,21,22] ?_;(repeat first|simp only[kV,simprocAttr,csV]|refine aN ?_);refine aE (ι:=Nat×Nat) (fun s'=>s0≤s'.1∧s'.1≤s'.2∧s'.2≤r0∧Sy.bs (fun c => !lt (Sy.at_ l (n-1-c)) (Sy.at_ l c)) s'.1 s'.2=s) (fun s'=>⟨ai [(0,.slice 999999 0 N),(1,.p (J a)),(2,.p (J m)),(3,.p (J b)),(4,.p (cfD rD)),(18,.p (J mid)),(19,.p (J n)),(20,.p (J s'.1)),(21,.p (J s'.2)),(22,.p (J ((n:Int)-1)))],eW l⟩) (fun s'=>s'.2-s'.1) (s0,r0) ⟨Nat.le_refl _,hs0,Nat.le_refl _,hs⟩ (Sub.toG [0,1,2,3,4,18,19,20,21,22] []) ?_;rintro⟨i,j⟩ ⟨x1,x2,x3,x4⟩;simp only at x1 x2 x3 x4;by_cases h:i<j
 ·have hI:(i:Int)<(j:Int):=by omega
  have eh:=kQ i j;obtain⟨q,hq⟩:∃q,q=(i+j) / 2:=⟨_,rfl⟩
  rw[←hq] at eh;have gq:=bY (l:=l) (i:=q) (by omega);obtain⟨p,hp⟩:∃p,p=n-1-q:=⟨_,rfl⟩
  have gp:=bY (l:=l) (i:=p) (by omega);have ep:(n:Int)-1-(q:Int)=(p:Int):=by omega
  obtain⟨c1,c2,c3⟩:=nw hc (x:=p) (y:=q) (by omega) (by omega);cases hb':lt (Sy.at_ l p) (Sy.at_ l q) with
  |false =>
   have hz:=c3 hb';rw[kT h (by simp only[←hq,←hp,hb'];rfl),←hq] at x4;(repeat first|with_reducible refine kp [0,1,2,3,4,18,19,20,21,22,151] ?_|simp only[kV,simprocAttr,csV,hI]|refine aN ?_);(try simp only[kV,simprocAttr,csV,hI,eh,ep,gq,gp]);refine ulk ?_;(repeat first|with_reducible refine kp [0,1,2,3,4,18,19,20,21,22,23] ?_|simp only[kV,simprocAttr,csV,hI,eh,ep,gq,gp]|refine aN ?_);refine⟨by decide,_,cx (c1),ulc ?_⟩;(repeat first|with_reducible refine kp [0,1,2,3,4,18,19,20,21,22,23,171] ?_|simp only[kV,simprocAttr,csV,hz]|refine aN ?_);refine ulk ?_;(repeat first|simp only[kV,simprocAttr,csV,hz]|refine aN ?_);exact⟨(q+1,j),⟨by simp only;omega,by simp only;omega,x3,x4⟩,(Sub.toG [0,1,2,3,4,18,19,20,21,22] []),by simp only;omega⟩
  |true =>
   have hz:=c2 hb';rw[kU h (by simp only[←hq,←hp,hb'];rfl),←hq] at x4;(repeat first|with_reducible refine kp [0,1,2,3,4,18,19,20,21,22,151] ?_|simp only[kV,simprocAttr,csV,hI]|refine aN ?_);(try simp only[kV,simprocAttr,csV,hI,eh,ep,gq,gp]);refine ulk ?_;(repeat first|with_reducible refine kp [0,1,2,3,4,18,19,20,21,22,23] ?_|simp only[kV,simprocAttr,csV,hI,eh,ep,gq,gp]|refine aN ?_);refine⟨by decide,_,cx (c1),ulc ?_⟩;(repeat first|with_reducible refine kp [0,1,2,3,4,18,19,20,21,22,23,171] ?_|simp only[kV,simprocAttr,csV,hz]|refine aN ?_);refine ulk ?_;(repeat first|simp only[kV,simprocAttr,csV,hz]|refine aN ?_);exact⟨(i,q),⟨x1,by simp only;omega,by simp only;omega,x4⟩,(Sub.toG [0,1,2,3,4,18,19,20,21,22] []),by simp only;omega⟩
 ·have hI:¬ (i:Int)<(j:Int):=by omega
  rw[ji h] at x4;subst x4;have ee:(n:Int)-(i:Int)=(e:Int):=by omega
  by_cases g1:i<m
  ·have i1:(i:Int)<(m:Int):=by omega
   by_cases g2:m<e
   ·have i2:(m:Int)<(e:Int):=by omega
    have c1:=(q1 ⟨g1,g2⟩).x;(repeat first|with_reducible refine kp [0,1,2,3,4,18,19,20,21,22,151] ?_|simp only[kV,simprocAttr,csV,hI]|refine aN ?_);(try simp only[kV,simprocAttr,csV,hI,ee,i1,i2]);refine ulk ?_;(repeat first|with_reducible refine kp [0,1,2,3,4,18,19,20,24,185] ?_|simp only[kV,simprocAttr,csV,hI,ee,i1,i2]|refine aN ?_);(try simp only[kV,simprocAttr,csV,i1,i2,hN',hr]);refine ulk ?_;(repeat first|simp only[kV,simprocAttr,csV,i1,i2,hN',hr]|refine aN ?_);refine⟨_,_,c1,?_⟩;(repeat first|simp only[kV,simprocAttr,csV,hr]|refine aN ?_);exact⟨_,(Sub.toG [0,1,3,4,18,20,24] []),nV rD l2 l3 l4 N a i mid e b hN2 hN hN4 hN0 hN1 hb k1 k2 h1 h2⟩
   ·have i2:¬ (m:Int)<(e:Int):=by omega
    have e4:=q2 fun h=>g2 h.2
    subst e4;(repeat first|with_reducible refine kp [0,1,2,3,4,18,19,20,21,22,151] ?_|simp only[kV,simprocAttr,csV,hI]|refine aN ?_);(try simp only[kV,simprocAttr,csV,hI,ee,i1,i2]);refine ulk ?_;(repeat first|with_reducible refine kp [0,1,2,3,4,18,19,20,24,185] ?_|simp only[kV,simprocAttr,csV,hI,ee,i1,i2]|refine aN ?_);refine ulk ?_;(repeat first|simp only[kV,simprocAttr,csV,i1,i2]|refine aN ?_);exact⟨_,(Sub.toG [0,1,3,4,18,20,24] []),nV rD l2 l3 l4 N a i mid e b hN2 hN hN4 hN0 hN1 hb k1 k2 h1 h2⟩
  ·have i1:¬ (i:Int)<(m:Int):=by omega
   have e4:=q2 fun h=>g1 h.1
   subst e4;(repeat first|with_reducible refine kp [0,1,2,3,4,18,19,20,21,22,151] ?_|simp only[kV,simprocAttr,csV,hI]|refine aN ?_);(try simp only[kV,simprocAttr,csV,hI,ee,i1]);refine ulk ?_;(repeat first|with_reducible refine kp [0,1,2,3,4,18,19,20,24,185] ?_|simp only[kV,simprocAttr,csV,hI,ee,i1]|refine aN ?_);refine ulk ?_;(repeat first|simp only[kV,simprocAttr,csV,i1]|refine aN ?_);exact⟨_,(Sub.toG [0,1,3,4,18,20,24] []),nV rD l2 l3 l4 N a i mid e b hN2 hN hN4 hN0 hN1 hb k1 k2 h1 h2⟩
def aH (lt:Tm→Tm→Bool) (x y:Tm):Prop:=lt y x=false
theorem qB {lt:Tm→Tm→Bool} (x y:Tm):lt x y=true↔¬ aH lt y x:=by
 unfold aH;cases lt x y<;>simp
theorem IS (rD:D) (l l2 l3 l4:List Tm) (lt:Tm→Tm→Bool) (cz:Tm→Tm→Int) (hc:Cmp rD l lt cz) (N a s mid e b m n s0 r0:Nat) (ham:a+1<m) (hmb':m+1<b) (hmid:mid=(a+b) / 2) (hN':l.length=N) (hN2:l2.length=N) (hN:l3.length=N) (hN4:l4.length=N) (hN0:0<N) (hN1:N≤1000000000) (hb:b≤N)
  (hn:n=mid+m) (he:e+s=n) (hs:Sy.bs (fun c => !lt (Sy.at_ l (n-1-c)) (Sy.at_ l c)) s0 r0=s) (hs0:s0≤r0) (hx1:mid<m→s0+b=n∧r0=mid) (hx2:¬ mid<m→s0=a∧r0=m)
  (q1:s<m∧m<e→tB rD l s m e l2) (q2:¬ (s<m∧m<e)→l2=l) (k1:a<s∧s<mid→dj rD l2 a s mid l3) (k2:¬ (a<s∧s<mid)→l3=l2) (h1:mid<e∧e<b→dj rD l3 mid e b l4) (h2:¬ (mid<e∧e<b)→l4=l3) :
  df Tryz.prog AN 148 0 [LM l,J a,J m,J b,cfD rD] TT 8 (l.map tI) (.tup []) (l4.map tI):=by
 have hI1:¬ (m:Int)-(a:Int)=1:=by omega
 have hI2:¬ (b:Int)-(m:Int)=1:=by omega
 have eh:=kQ a b;rw[←hmid] at eh;have en:(mid:Int)+(m:Int)=(n:Int):=by omega
 subst hN';by_cases hg:mid<m
 ·have hgI:(mid:Int)<(m:Int):=by omega
  obtain⟨f1,f2⟩:=hx1 hg;have es:(n:Int)-(b:Int)=(s0:Int):=by omega
  subst f2;refine ke.conL rfl (by simp) rfl (by simp) ?_;(repeat first|with_reducible refine kp [0,1,2,3,4,28] ?_|simp only[kV,simprocAttr,csV,eL,hI1]|refine aN ?_);(try simp only[kV,simprocAttr,csV,hI1,hI2]);refine ulk ?_;(repeat first|with_reducible refine kp [0,1,2,3,4,80] ?_|simp only[kV,simprocAttr,csV,hI1,hI2]|refine aN ?_);(try simp only[kV,simprocAttr,csV,hI1,hI2,eh,en,hgI]);refine ulk ?_;(repeat first|with_reducible refine kp [0,1,2,3,4,18,19,140] ?_|simp only[kV,simprocAttr,csV,hI1,hI2,eh,en,hgI]|refine aN ?_);(try simp only[kV,simprocAttr,csV,hgI,es]);refine ulk ?_;(repeat first|simp only[kV,simprocAttr,csV,hgI,es]|refine aN ?_);refine kp [0,1,2,3,4,18,19,20] ?_;(repeat first|simp only[kV,simprocAttr,csV,hgI,es]|refine aN ?_);exact⟨_,(Sub.toG [0,1,2,3,4,18,19,20,21] []),tC rD l l2 l3 l4 lt cz hc _ a s r0 e b m n s0 r0 rfl hN2 hN hN4 hN0 hN1 hb hn he hs hs0 (by omega) (by omega) (by omega) (by omega) (by omega) q1 q2 k1 k2 h1 h2⟩
 ·have hgI:¬ (mid:Int)<(m:Int):=by omega
  obtain⟨f1,f2⟩:=hx2 hg;subst f1 f2;refine ke.conL rfl (by simp) rfl (by simp) ?_;(repeat first|with_reducible refine kp [0,1,2,3,4,28] ?_|simp only[kV,simprocAttr,csV,eL,hI1]|refine aN ?_);(try simp only[kV,simprocAttr,csV,hI1,hI2]);refine ulk ?_;(repeat first|with_reducible refine kp [0,1,2,3,4,80] ?_|simp only[kV,simprocAttr,csV,hI1,hI2]|refine aN ?_);(try simp only[kV,simprocAttr,csV,hI1,hI2,eh,en,hgI]);refine ulk ?_;(repeat first|with_reducible refine kp [0,1,2,3,4,18,19,140] ?_|simp only[kV,simprocAttr,csV,hI1,hI2,eh,en,hgI]|refine aN ?_);refine ulk ?_;(repeat first|simp only[kV,simprocAttr,csV,hgI]|refine aN ?_);refine kp [0,1,2,3,4,18,19,20] ?_;(repeat first|simp only[kV,simprocAttr,csV,hgI]|refine aN ?_);exact⟨_,(Sub.toG [0,1,2,3,4,18,19,20,21] []),tC rD l l2 l3 l4 lt cz hc _ s0 s mid e b r0 n s0 r0 rfl hN2 hN hN4 hN0 hN1 hb hn he hs hs0 (by omega) (by omega) (by omega) (by omega) (by omega) q1 q2 k1 k2 h1 h2⟩
theorem ib {f:FuncId}{l l':List Tm}{ds:List D} (hf:f<LB) (h0:ds[0]? = some (LM l)) (hl:0<l.length) (hl':l'.length=l.length) (h:df Tryz.prog AN f 0 ds TT 8 (l.map tI) (.tup []) (l'.map tI)):cZ Tryz.prog AN f 0 ds TT 8 (l.map tI) (.tup []) (l'.map tI):=
 ⟨hf,by decide,h0,by simp[hl'],fun e=>absurd e (jr hl),fun _=>h⟩
theorem IT (rD:D) (lt:Tm→Tm→Bool) (cz:Tm→Tm→Int) (ho:Ord (aH lt)):∀(k:Nat) (l:List Tm) (a m b:Nat),b-a≤k→Cmp rD l lt cz→l.length≤1000000000→a<m→m<b→b≤l.length→Srt (aH lt) l a m→Srt (aH lt) l m b →
  ∃l',Srt (aH lt) l' a b∧Pm l l' a b∧dj rD l a m b l':=by
 intro k;induction k with
 |zero=>intro l a m b hk _ _ h1 h2;omega
 |succ k ih =>
  intro l a m b hk hc hl h1 h2 h3 s1 s2;have lt_or:∀x y,aH lt x y∨¬ aH lt x y:=fun x y=>Classical.em _
  by_cases c1:m=a+1
  ·-- one element ahead
   obtain⟨t1,t2,t3,t4⟩:=jk (P:=fun h=>lt (Sy.at_ l h) (Sy.at_ l a)) (b-m) m b (Nat.le_refl _) (by omega) fun c d g1 g2 g3 g4=>by
    by_cases e:d=c
    ·rw[e];exact g4
    ·refine Classical.byContradiction fun hn => ?_
     have hle:aH lt (Sy.at_ l a) (Sy.at_ l d):=by unfold aH;simpa using hn
     have:=ho.trans _ _ _ hle (s2 d c (by omega) (by omega) g3);unfold aH at this;rw[g4] at this;cases this
   obtain⟨s,hs⟩:∃s,Sy.bs (fun h=>lt (Sy.at_ l h) (Sy.at_ l a)) m b=s:=⟨_,rfl⟩
   rw[hs] at t1 t2 t3 t4;have hr:=kW l (a:=a) (m:=m) (b:=s) (by omega) (by omega) (by omega);subst c1;refine⟨cQ l a (a+1) s,Xs ho hr (by omega) t2 s2 (fun k g1 g2=>(qB _ _).1 (t3 k g1 g2)) (fun k g1 g2=>t4 k g1 g2),(hr.pm (by omega) (by omega) (by omega)).mono (by omega) t2,?_⟩;exact ib (by decide) rfl (by omega) (jl l (by omega) (by omega) (by omega)) (XU rD l lt cz hc a (a+1) b s rfl h2 h3 hl hs t1 t2)
  ·by_cases c2:b=m+1
   ·obtain⟨t1,t2,t3,t4⟩:=jk (P:=fun h => !lt (Sy.at_ l m) (Sy.at_ l h)) (m-a) a m (Nat.le_refl _) (by omega) fun c d g1 g2 g3 g4=>by
     by_cases e:d=c
     ·rw[e];exact g4
     ·have g5:aH lt (Sy.at_ l c) (Sy.at_ l m):=by unfold aH;simpa using g4
      have:=ho.trans _ _ _ (s1 d c (by omega) (by omega) g3) g5;unfold aH at this;show (!lt (Sy.at_ l m) (Sy.at_ l d))=true
      rw[this];rfl
    obtain⟨s,hs⟩:∃s,Sy.bs (fun h => !lt (Sy.at_ l m) (Sy.at_ l h)) a m=s:=⟨_,rfl⟩
    rw[hs] at t1 t2 t3 t4;have hr:=kW l (a:=s) (m:=m) (b:=b) (by omega) (by omega) (by omega);subst c2;refine⟨cQ l s m (m+1),Xt ho hr t1 t2 s1 (fun k g1 g2=>by have:=t3 k g1 g2;unfold aH;simpa using this) (fun k g1 g2=>by
     have:=t4 k g1 g2;unfold aH;simpa using this),(hr.pm (by omega) (by omega) (by omega)).mono t1 (by omega),?_⟩
    exact ib (by decide) rfl (by omega) (jl l (by omega) (by omega) (by omega)) (XV rD l lt cz hc a m (m+1) s (by omega) rfl h3 hl hs t1 t2)
   ·-- the long way
    obtain⟨mid,hmid⟩:∃mid,mid=(a+b) / 2:=⟨_,rfl⟩
    obtain⟨n,hn⟩:∃n,n=mid+m:=⟨_,rfl⟩
    obtain⟨s0,r0,hx1,hx2⟩:∃s0 r0:Nat,(mid<m→s0+b=n∧r0=mid)∧(¬ mid<m→s0=a∧r0=m):=by
     by_cases g:mid<m
     ·exact⟨n-b,mid,fun _=>⟨by omega,rfl⟩,fun h=>absurd g h⟩
     ·exact⟨a,m,fun h=>absurd h g,fun _=>⟨rfl,rfl⟩⟩
    have hb0:a≤s0∧s0≤r0∧r0≤m∧r0≤mid∧n≤b+s0∧mid<b:=by
     by_cases g:mid<m
     ·obtain⟨f1,f2⟩:=hx1 g;omega
     ·obtain⟨f1,f2⟩:=hx2 g;omega
    obtain⟨b1,b2,b3,b4,b5,b6⟩:=hb0;obtain⟨t1,t2,t3,t4⟩:=jk (P:=fun c => !lt (Sy.at_ l (n-1-c)) (Sy.at_ l c)) (r0-s0) s0 r0 (Nat.le_refl _) b2 fun c d g1 g2 g3 g4=>by
     have g5:aH lt (Sy.at_ l c) (Sy.at_ l (n-1-c)):=by unfold aH;simpa using g4
     have:=Xx ho s1 s2 (n:=n) (c:=c) (d:=d) (by omega) g2 (by omega) (by omega) (by omega) g5;unfold aH at this;show (!lt (Sy.at_ l (n-1-d)) (Sy.at_ l d))=true
     rw[this];rfl
    obtain⟨s,hs⟩:∃s,Sy.bs (fun c => !lt (Sy.at_ l (n-1-c)) (Sy.at_ l c)) s0 r0=s:=⟨_,rfl⟩
    rw[hs] at t1 t2 t3 t4;obtain⟨e,he⟩:∃e,e+s=n:=⟨n-s,by omega⟩
    have hcut:Cut (aH lt) l n s0 s r0:=⟨fun c g1 g2=>by have:=t3 c g1 g2;unfold aH;simpa using this,fun c g1 g2=>by
     have:=t4 c g1 g2;unfold aH;simpa using this⟩
    have hme:m≤e:=by omega
    have heb:e≤b:=by omega
    have hr:=kW l (a:=s) (m:=m) (b:=e) (by omega) hme (by omega);have hml:=Xv ho (a:=a) (b:=b) (mid:=mid) s1 s2 hn he hr hcut t1 t2 (by omega) (by omega) hme heb (fun g=>by
     by_cases q:mid<m
     ·obtain⟨f1,f2⟩:=hx1 q;omega
     ·obtain⟨f1,f2⟩:=hx2 q;omega) (fun g=>by
     by_cases q:mid<m
     ·obtain⟨f1,f2⟩:=hx1 q;omega
     ·obtain⟨f1,f2⟩:=hx2 q;omega)
    obtain⟨m1,m2,m3,m4,m5⟩:=hml;have hlen2:(cQ l s m e).length=l.length:=jl l (by omega) hme (by omega);have hp2:Pm l (cQ l s m e) a b:=(hr.pm (by omega) hme (by omega)).mono (by omega) heb;have hc2:Cmp rD (cQ l s m e) lt cz:=hc.perm hp2.perm;generalize hl2:cQ l s m e=l2 at *;obtain⟨l3,p1,p2,p3,p4⟩:∃l3,Srt (aH lt) l3 a mid∧Pm l2 l3 a mid∧(a<s∧s<mid→dj rD l2 a s mid l3)∧(¬ (a<s∧s<mid)→l3=l2):=by
     by_cases g:a<s∧s<mid
     ·obtain⟨l3,x1,x2,x3⟩:=ih l2 a s mid (by omega) hc2 (by omega) g.1 g.2 (by omega) m1 m2;exact⟨l3,x1,x2,fun _=>x3,fun h=>absurd g h⟩
     ·refine⟨l2,?_,Pm.rf _ _ _,fun h=>absurd h g,fun _=>rfl⟩;rcases Nat.lt_or_ge a s with x | x
      ·rw[show mid=s by omega];exact m1
      ·rw[show a=s by omega];exact m2
    have hlen3:=p2.len;have hc3:Cmp rD l3 lt cz:=hc2.perm p2.perm;have m3':Srt (aH lt) l3 mid e:=m3.congr fun i g1 g2=>p2.out i (.inr g1)
    have m4':Srt (aH lt) l3 e b:=m4.congr fun i g1 g2=>p2.out i (by omega)
    obtain⟨l4,r1,r2,r3,r4⟩:∃l4,Srt (aH lt) l4 mid b∧Pm l3 l4 mid b∧(mid<e∧e<b→dj rD l3 mid e b l4)∧(¬ (mid<e∧e<b)→l4=l3):=by
     by_cases g:mid<e∧e<b
     ·obtain⟨l4,x1,x2,x3⟩:=ih l3 mid e b (by omega) hc3 (by omega) g.1 g.2 (by omega) m3' m4';exact⟨l4,x1,x2,fun _=>x3,fun h=>absurd g h⟩
     ·refine⟨l3,?_,Pm.rf _ _ _,fun h=>absurd h g,fun _=>rfl⟩;rcases Nat.lt_or_ge mid e with x | x
      ·rw[show b=e by omega];exact m3'
      ·rw[show mid=e by omega];exact m4'
    have hlen4:=r2.len;obtain⟨z1,z2⟩:=Xw (by omega) (by omega) (by omega) m5 p1 p2 r1 r2;refine⟨l4,z1,hp2.tr z2,ib (by decide) rfl (by omega) (by omega) ?_⟩;refine IS rD l l2 l3 l4 lt cz hc _ a s mid e b m n s0 r0 (by omega) (by omega) hmid rfl (by omega) (by omega) (by omega) (by omega) hl h3 hn he hs b2 hx1 hx2 (fun g => ?_) (fun g => ?_) p3 p4 r3 r4
    ·rw[←hl2];exact ib (by decide) rfl (by omega) (jl l (by omega) hme (by omega)) (yi l s m e (cfD rD) (fun h=>by rw[h] at h3;simp at h3;omega) g.1 g.2 (by omega) hl)
    ·rw[←hl2];exact (Rot.eq (Rot.id (l:=l) (a:=s) (m:=m) (b:=e) (by omega) (by omega) hme) (by omega) hme (by omega)).symm
end Go.Proofs.YtbnhgnhgbhjkcaaGreat.M
