/- Lemmas. -/
import Derived.Test.YtbnhgnhgbhjkcaaGreatQ39
import Derived.Test.YtbnhgnhgbhjkcaaGreatQ4
import Derived.Test.YtbnhgnhgbhjkcaaGreatQ3
import Derived.Test.YtbnhgnhgbhjkcaaGreatQ28
set_option linter.defProp false
set_option linter.unusedSimpArgs false
set_option linter.unusedVariables false
namespace Go.Proofs.YtbnhgnhgbhjkcaaGreat.M
set_option linter.unusedSimpArgs false
set_option maxRecDepth 20000
set_option maxHeartbeats 1000000
open Go.RowKit Go.Proofs.YtbnhgnhgbhjkcaaGreat.Sy
abbrev J (n:Int):D:=.int .i64 n
abbrev Tm:=Rat×Int×Int×Int×Int
def tI (t:Tm):D:=.agg [hI t.1.num,lI t.1.num,hI ((t.1.den:Int)-1),lI ((t.1.den:Int)-1),J t.2.1,J t.2.2.1,J t.2.2.2.1,J t.2.2.2.2]
abbrev TT:Nat:=145
abbrev LM (l:List Tm):D:=.list TT 8 (l.map tI)
theorem yM (t:Tm):(tI t).isAgg=true:=rfl
theorem yN (t:Tm):(tI t).one=false:=rfl
theorem yO (t:Tm):(tI t).cells.length=8:=rfl
theorem yP (t:Tm):(tI t).cells.all D.one=true:=rfl
theorem yQ (t:Tm):(AV.p (tI t)).isAgg=some true:=rfl
theorem yR (t:Tm):(AV.p (tI t)).get 0 8 8 true=some (.p (tI t)):=rfl
theorem yS (l:List Tm) (i:Nat) (x:Tm):(l.map tI).set i (tI x)=(l.set i x).map tI:=List.map_set.symm
theorem co {l:List Tm}{i:Nat} (h:i<l.length):(l.map tI).getD i default=tI (Sy.at_ l i):=by simp[Sy.at_,h]
def csU:=an @yM (an @yN (an @yO (an @yP (an @yQ (an @yR (an @yS (an @List.length_map.{0,0} (@r7))))))))
theorem yT (l:List Tm) (a b n:Nat) (cf:D) (h1:a+n≤b) (h2:b+n≤l.length) (h3:l.length≤1000000000):dF Tryz.prog AN 154 0 [LM l,J a,J b,J n,cf] TT 8 (l.map tI) (.tup []) ((swR l a b n).map tI):=by
 refine Dg.conL rfl (by simp) rfl (by simp) ?_;(repeat first|simp only[kV,simprocAttr,csU,eW]|refine aN ?_);refine kp [0,1,2,3,10] ?_;(repeat first|simp only[kV,simprocAttr,csU,eW]|refine aN ?_);refine aB (ι:=Nat) (fun k=>k≤n) (fun k=>⟨ar [(0,.slice 999999 0 l.length),(1,.p (J a)),(2,.p (J b)),(3,.p (J n)),(10,.p (J k))],au [(999999,⟨TT,8,.row ((swR l a b k).map tI),false⟩)]⟩) (fun k=>n-k) 0 (by omega) (Sub.toG [0,1,2,3,10] []) ?_;intro k hk;have hL:=fV l a b k;by_cases h:k<n
 ·have hI:(k:Int)<(n:Int):=by omega
  have e1:(a:Int)+(k:Int)=((a+k:Nat):Int):=by omega
  have e2:(b:Int)+(k:Int)=((b+k:Nat):Int):=by omega
  have g1:=co (l:=swR l a b k) (i:=a+k) (by omega);have g2:=co (l:=swR l a b k) (i:=b+k) (by omega);(repeat first|with_reducible refine kp [0,1,2,3,10,13] ?_|simp only[kV,simprocAttr,csU,hI]|refine aN ?_);(try simp only[kV,simprocAttr,csU,hI,e1,e2,g1,g2,hL]);refine ulk ?_;(repeat first|with_reducible refine kp [0,1,2,3,10] ?_|simp only[kV,simprocAttr,csU,hI,e1,e2,g1,g2,hL]|refine aN ?_);exact⟨k+1,h,(Sub.toG [0,1,2,3,10] []),by omega⟩
 ·have hI:¬ (k:Int)<(n:Int):=by omega
  obtain rfl:k=n:=by omega
  (repeat first|with_reducible refine kp [0,1,2,3,10,13] ?_|simp only[kV,simprocAttr,csU,hI]|refine aN ?_);refine ulk ?_;(repeat first|simp only[kV,simprocAttr,csU,hI]|refine aN ?_);exact ResLt.unit _
theorem yU (l:List Tm) (a m b:Nat) (cf:D) (hn:l≠[]) (h0:a<m) (h1:m<b) (h2:b≤l.length) (h3:l.length≤1000000000):dF Tryz.prog AN 153 0 [LM l,J a,J m,J b,cf] TT 8 (l.map tI) (.tup []) ((de l a m b).map tI):=by
 obtain⟨i0,hi0⟩:∃i0,i0=m-a:=⟨_,rfl⟩
 obtain⟨j0,hj0⟩:∃j0,j0=b-m:=⟨_,rfl⟩
 have e1:(m:Int)-(a:Int)=(i0:Int):=by omega
 have e2:(b:Int)-(m:Int)=(j0:Int):=by omega
 have lent:∀(q:List Tm) (x y n:Nat),q.length=l.length→x+n≤y→y+n≤q.length→du Tryz.prog AN 154 0 [LM q,J x,J y,J n,cf] TT 8 (q.map tI) (.tup []) ((swR q x y n).map tI):=fun q x y n hq k1 k2 =>
  ⟨by decide,by decide,rfl,by simp[fV],fun e=>absurd e (by
   intro e;have:q=[]:=by simpa using e
   rw[this] at hq;exact hn (z9Z hq.symm)),fun _=>yT q x y n cf k1 k2 (by omega)⟩
 have hne:∀q:List Tm,q.length=l.length→¬ q.map tI=[]:=fun q hq e=>by
  have:q=[]:=by simpa using e
  rw[this] at hq;exact hn (z9Z hq.symm)
 refine Dv.conL rfl (by simp) rfl (by simp) ?_;(repeat first|simp only[kV,simprocAttr,csU,eW,e1,e2]|refine aN ?_);refine kp [0,2,3,4,10] ?_;(repeat first|simp only[kV,simprocAttr,csU,eW,e1,e2]|refine aN ?_);refine kp [0,2,4,10,11] ?_;(repeat first|simp only[kV,simprocAttr,csU,eW,e1,e2]|refine aN ?_);refine aB (ι:=Nat×Nat×List Tm) (fun s=>0<s.1∧s.1≤m-a∧0<s.2.1∧s.2.1≤b-m∧s.2.2.length=l.length∧∀q,Rot s.2.2 q (m-s.1) m (m+s.2.1)→Rot l q a m b) (fun s=>⟨ar [(0,.slice 999999 0 l.length),(2,.p (J m)),(4,.p cf),(10,.p (J s.1)),(11,.p (J s.2.1))],au [(999999,⟨TT,8,.row (s.2.2.map tI),false⟩)]⟩) (fun s=>s.1+s.2.1) (i0,j0,l) ⟨by simp only;omega,by simp only;omega,by simp only;omega,by simp only;omega,rfl,fun q hq=>by
  simp only at hq
  rwa[show m-i0=a by omega,show m+j0=b by omega] at hq⟩ (Sub.toG [0,2,4,10,11] []) ?_
 rintro⟨i,j,q⟩ ⟨hi,hi2,hj,hj2,hq,hR⟩;simp only at hi hi2 hj hj2 hq hR;have e3:(m:Int)-(i:Int)=((m-i:Nat):Int):=by omega
 have hq0:=hne q hq;by_cases h:i=j
 ·subst h;have hr:swR q (m-i) m i=de l a m b:=(hR _ (Rot.of_swp (by rw[show m-(m-i)=i by omega];exact ls q (by omega) (by omega) i (z95 _)) (by omega) (by omega) (by omega))).eq (by omega) (by omega) h2;have c1:=(lent q (m-i) m i hq (by omega) (by omega)).x;rw[hr] at c1;(repeat first|with_reducible refine kp [0,2,4,10,11,20] ?_|simp only[kV,simprocAttr,csU]|refine aN ?_);(try simp only[kV,simprocAttr,csU,e3,hq,hq0]);refine ulk ?_;(repeat first|with_reducible refine kp [0,2,4,10] ?_|simp only[kV,simprocAttr,csU,e3,hq,hq0]|refine aN ?_);refine⟨_,_,c1,?_⟩;(repeat first|simp only[kV,simprocAttr,csU,hq0]|refine aN ?_);exact ResLt.unit _
 ·have hI:¬ (i:Int)=(j:Int):=by omega
  by_cases g:j<i
  ·have hgI:(j:Int)<(i:Int):=by omega
   have c1:=(lent q (m-i) m j hq (by omega) (by omega)).x;have e4:(i:Int)-(j:Int)=((i-j:Nat):Int):=by omega
   have hn2:¬ (swR q (m-i) m j).map tI=[]:=hne _ (by rw[fV,hq]);(repeat first|with_reducible refine kp [0,2,4,10,11,20] ?_|simp only[kV,simprocAttr,csU,hI]|refine aN ?_);(try simp only[kV,simprocAttr,csU,hI,hgI]);refine ulk ?_;(repeat first|with_reducible refine kp [0,2,4,10,11,23] ?_|simp only[kV,simprocAttr,csU,hI,hgI]|refine aN ?_);(try simp only[kV,simprocAttr,csU,e3,e4,hq,hq0]);refine ulk ?_;(repeat first|simp only[kV,simprocAttr,csU,e3,e4,hq,hq0]|refine aN ?_);refine⟨_,_,c1,?_⟩;(repeat first|with_reducible refine kp [0,2,4,10,11] ?_|simp only[kV,simprocAttr,csU,e4,hq0,fV,hq]|refine aN ?_);exact⟨(i-j,j,swR q (m-i) m j),⟨by simp only;omega,by simp only;omega,hj,hj2,by simp only;rw[fV,hq],fun p hp=>hR p (Rot.gt (b:=m+j) (by rw[show m+j-m=j by omega];exact ls q (by omega) (by omega) j (z95 _)) (by omega) (by omega) (by
    simp only at hp
    rwa[show m-i+(m+j-m)=m-(i-j) by omega]))⟩,(Sub.toG [0,2,4,10,11] []),by simp only;omega⟩
  ·have hgI:¬ (j:Int)<(i:Int):=by omega
   have c1:=(lent q (m-i) (m+j-i) i hq (by omega) (by omega)).x;have e4:(j:Int)-(i:Int)=((j-i:Nat):Int):=by omega
   have e5:(m:Int)+(j:Int)-(i:Int)=((m+j-i:Nat):Int):=by omega
   (repeat first|with_reducible refine kp [0,2,4,10,11,20] ?_|simp only[kV,simprocAttr,csU,hI]|refine aN ?_);(try simp only[kV,simprocAttr,csU,hI,hgI]);refine ulk ?_;(repeat first|with_reducible refine kp [0,2,4,10,11,23] ?_|simp only[kV,simprocAttr,csU,hI,hgI]|refine aN ?_);(try simp only[kV,simprocAttr,csU,e3,e5,hq,hq0]);refine ulk ?_;(repeat first|simp only[kV,simprocAttr,csU,e3,e5,hq,hq0]|refine aN ?_);refine⟨_,_,c1,?_⟩;(repeat first|with_reducible refine kp [0,2,4,10,11] ?_|simp only[kV,simprocAttr,csU,e4,hq0,fV,hq]|refine aN ?_);exact⟨(i,j-i,swR q (m-i) (m+j-i) i),⟨hi,hi2,by simp only;omega,by simp only;omega,by simp only;rw[fV,hq],fun p hp=>hR p (Rot.lt (b:=m+j) (by rw[show m-(m-i)=i by omega];exact ls q (by omega) (by omega) i (z95 _)) (by omega) (by omega) (by
    simp only at hp
    rwa[show m+j-(m-(m-i))=m+(j-i) by omega]))⟩,(Sub.toG [0,2,4,10,11] []),by simp only;omega⟩
set_option linter.unusedSimpArgs false
set_option maxRecDepth 20000
set_option maxHeartbeats 2000000
open Go.RowKit
def Dz (D X:Nat) (l:Mp.TL):Prop:=∀x∈l,Db D X x.1
theorem Dz.mono {D X Y:Nat}{l:Mp.TL} (h:Dz D X l) (k:X≤Y):Dz D Y l:=fun x hx=>(h x hx).mono k
theorem Dz.nil {D X:Nat}:Dz D X []:=fun x hx=>by cases hx
theorem Dz.sub {D X:Nat}{l m:Mp.TL} (h:Dz D X l) (k:∀x∈m,x∈l):Dz D X m:=fun x hx=>h x (k x hx)
theorem uh {D X Y:Nat}{t:Zm} (ht:Db D Y t.1):∀{l:Mp.TL},Dz D X l→Dz D (X+Y) (Mp.grow l t)
 |[],_=>by
  unfold Mp.grow;split
  ·exact Dz.nil
  ·intro x hx;rw[z9e] at hx;rw[hx];exact ht.mono (by omega)
 |x::l,h=>by
  have h1:=h x z9X;have h2:Dz D X l:=h.sub fun y hy=>z9T _ hy
  unfold Mp.grow;split
  ·split
   ·exact h2.mono (by omega)
   ·intro y hy;rcases z9L.1 hy with rfl | hy
    ·exact h1.add ht
    ·exact (h2 y hy).mono (by omega)
  ·intro y hy;rcases z9L.1 hy with rfl | hy
   ·exact h1.mono (by omega)
   ·exact uh ht h2 y hy
theorem fp {D Y:Nat}:∀{l a:Mp.TL}{X:Nat},Dz D Y l→Dz D X a→Dz D (X+l.length*Y) (Mp.growL a l)
 |[],a,X,_,h=>by rw[List.length_nil,Nat.zero_mul,Nat.add_zero];exact h
 |t::l,a,X,hl,h=>by
  have h1:=uh (hl t z9X) h;have h2:=fp (l:=l) (hl.sub fun y hy=>z9T _ hy) h1;rw[List.length_cons,z8Z,Nat.add_comm (l.length*Y) Y,←Nat.add_assoc];exact h2
theorem lG (m:Mp.TL) (t:Zm){n D X Y p:Nat} (hw:Mp.Wd n m) (ht:t.2.length=n) (hm:Dz D X m) (hy:Db D Y t.1) (hl:m.length≤1000000000) (hn:n≤1000000000) (hD:D<2^p) (hX:X+Y<2^p) (hp:p≤2048000000000) :
  Con Tryz.prog AN 53 [MZ m,tZ t] (MZ (Mp.grow m t)):=
 zca m t (fun x hx=>by rw[hw x hx,ht]) (fun x hx=>⟨(hm x hx).Bq hD (by omega),((hm x hx).add hy).Bq hD hX⟩) (hy.Bq hD (by omega)) hl (by omega) hp
theorem lH (c:Rat) (e:Mp.Mo):D.agg [hZ c.num,lZ c.num,hZ (c.den:Int),lZ (c.den:Int),.list 3 1 (e.map (D.int .i64))]=tZ (c,e):=rfl
theorem oF (t:Zm):(tZ t).isAgg=true:=rfl
theorem oG (t:Zm):(tZ t).cells.length=5:=rfl
theorem oH {a m:Mp.TL}{i:Nat} (h:i<m.length):Mp.growL a (m.take (i+1))=Mp.grow (Mp.growL a (m.take i)) (zt m i):=by rw[jN h,Mp.growL_snoc]
theorem oI {n:Nat}{l:Mp.TL} (h:Mp.Wd n l) (i:Nat):Mp.Wd n (l.take i):=fun x hx=>h x (z9M hx)
theorem Dz.take {D X:Nat}{l:Mp.TL} (h:Dz D X l) (i:Nat):Dz D X (l.take i):=h.sub fun x hx=>z9M hx
theorem Z1 (a b:Mp.TL){n D X Y p:Nat} (hwa:Mp.Wd n a) (hwb:Mp.Wd n b) (ha:Dz D X a) (hb:Dz D Y b) (hl:a.length+b.length≤1000000000) (hn:n≤1000000000) (hD:D<2^p) (hX:X+(b.length+1)*Y<2^p) (hp:p≤2048000000000) :
  Con Tryz.prog AN 19 [MZ a,MZ b] (MZ (Mp.growL a b)):=by
 refine PV.con rfl (by simp) ?_;(repeat first|simp only[kV,simprocAttr,csZ,ax]|refine aN ?_);refine kp [0,1] ?_;(repeat first|simp only[kV,simprocAttr,csZ,ax]|refine aN ?_);refine kp [0,1,5] ?_;(repeat first|simp only[kV,simprocAttr,csZ,ax]|refine aN ?_);refine aB (ι:=Nat) (fun i=>i≤b.length) (fun i=>⟨ar [(0,.p (MZ (Mp.growL a (b.take i)))),(1,.p (MZ b)),(5,.p (.int .i64 i))],au []⟩) (fun i=>b.length-i) 0 (z9O _) (Sub.toG [0,1,5] []) ?_;intro i hi;by_cases h:i<b.length
 ·have hI:(i:Int)<(b.length:Int):=by omega
  have g1:=fG h;have hst:=oH (a:=a) h;have hgl:=Mp.growL_len (b.take i) a;rw[z9N,z9f hi] at hgl;have hgd:=fp (hb.take i) ha;rw[z9N,z9f hi] at hgd;have hgw:=Mp.growL_wd hwa (oI hwb i);have hbd:=hb _ (cO h);have hbw:=hwb _ (cO h);generalize Mp.growL a (b.take i)=q at *;generalize zt b i=t at *;have hmul:(i+1)*Y≤(b.length+1)*Y:=z92 _ (by omega);rw[z8Z] at hmul;have c1:=lG q t hgw hbw hgd hbd (by omega) hn hD (by omega) hp;obtain⟨c,e⟩:=t;have ft:=lH c e;(repeat first|with_reducible refine kp [0,1,5,9] ?_|simp only[kV,simprocAttr,csZ,hI]|refine aN ?_);(try simp only[kV,simprocAttr,csZ,hI,g1,h,ft,oF,oG]);refine ulk ?_;(repeat first|with_reducible refine kp [0,1,5] ?_|simp only[kV,simprocAttr,csZ,hI,g1,h,ft,oF,oG]|refine aN ?_);refine⟨_,cx (c1),ulc ?_⟩;(repeat first|with_reducible refine kp [0,1,5] ?_|simp only[kV,simprocAttr,csZ]|refine aN ?_);exact⟨i+1,h,by rw[hst];exact (Sub.toG [0,1,5] []),by omega⟩
 ·have hI:¬ (i:Int)<(b.length:Int):=by omega
  obtain rfl:i=b.length:=by omega
  rw[z9x];(repeat first|with_reducible refine kp [0,1,5,9] ?_|simp only[kV,simprocAttr,csZ,hI]|refine aN ?_);refine ulk ?_;(repeat first|with_reducible refine kp [0,4] ?_|simp only[kV,simprocAttr,csZ,af,ai,aq,ah,hI]|refine aN ?_)
set_option linter.unusedSimpArgs false
set_option maxRecDepth 20000
set_option maxHeartbeats 2000000
open Go.RowKit Go.Proofs.YtbnhgnhgbhjkcaaGreat.Sy
structure Cmp (rD:D) (l:List Tm) (lt:Tm→Tm→Bool) (cz:Tm→Tm→Int):Prop where
 con:∀x∈l,∀y∈l,Con Tryz.prog AN 110 [tI x,tI y,.ref rD] (J (cz x y))
 lt:∀x∈l,∀y∈l,(cz x y<0↔lt x y=true)
abbrev cfD (rD:D):D:=.fn (.func 110) [] [.ref rD]
theorem Cmp.perm {rD:D}{l m:List Tm}{lt:Tm→Tm→Bool}{cz:Tm→Tm→Int} (h:Cmp rD l lt cz) (p:m.Perm l):Cmp rD m lt cz:=
 ⟨fun x hx y hy=>h.con x (p.mem_iff.1 hx) y (p.mem_iff.1 hy),fun x hx y hy=>h.lt x (p.mem_iff.1 hx) y (p.mem_iff.1 hy)⟩
theorem at_mem {l:List Tm}{i:Nat} (h:i<l.length):Sy.at_ l i∈l:=by
 have:Sy.at_ l i=l[i]:=by simp[Sy.at_,h]
 rw[this];exact z9a h
theorem wY {l:List Tm}{k:Nat} (h:k+1<l.length):(Sy.swp l (k+1) k).Perm l:=
 (Rot.pm (Rot.down (l':=l) (Rot.id (l:=l) (a:=k+1) (m:=k+1) (b:=k+1+1) (by omega) (by omega) (by omega)) (z95 _) h) (by omega) (by omega) (by omega)).perm
theorem wZ (rD:D) (l:List Tm) (lt:Tm→Tm→Bool) (cz:Tm→Tm→Int) (hc:Cmp rD l lt cz) (a b n:Nat) (h1:a+1+n=b∨(b≤a+1∧n=0)) (h2:b≤l.length) (h3:l.length≤1000000000) (ha:a≤1000000000) :
  dF Tryz.prog AN 147 0 [LM l,J a,J b,cfD rD] TT 8 (l.map tI) (.tup []) ((isF lt a n l (a+1)).map tI):=by
 refine mW.conL rfl (by simp) rfl (by simp) ?_;(repeat first|simp only[kV,simprocAttr,csU,r9]|refine aN ?_);refine kp [0,1,2,3,8] ?_;(repeat first|simp only[kV,simprocAttr,csU,r9]|refine aN ?_);refine aB (ι:=Nat×Nat×List Tm) (fun s=>a+1≤s.1∧(s.1+s.2.1=b∨(b≤s.1∧s.2.1=0))∧s.2.2.Perm l∧isF lt a s.2.1 s.2.2 s.1=isF lt a n l (a+1)) (fun s=>⟨ar [(0,.slice 999999 0 l.length),(1,.p (J a)),(2,.p (J b)),(3,.p (cfD rD)),(8,.p (J s.1))],au [(999999,⟨TT,8,.row (s.2.2.map tI),false⟩)]⟩) (fun s=>s.2.1) (a+1,n,l) ⟨z95 _,h1,.refl _,rfl⟩ (Sub.toG [0,1,2,3,8] []) ?_;rintro⟨i,k,q⟩ ⟨hi,hk,hp,hF⟩;simp only at hi hk hp hF;have hql:=hp.length_eq;rcases k with _ | k
 ·have hI:¬ (i:Int)<(b:Int):=by omega
  have hF':q=isF lt a n l (a+1):=hF;subst hF';(repeat first|with_reducible refine kp [0,1,2,3,8,14] ?_|simp only[kV,simprocAttr,csU,hI]|refine aN ?_);refine ulk ?_;(repeat first|simp only[kV,simprocAttr,csU,hI]|refine aN ?_);exact ResLt.unit _
 ·have hib:i<b:=by omega
  have hI:(i:Int)<(b:Int):=by omega
  (repeat first|with_reducible refine kp [0,1,2,3,8,14] ?_|simp only[kV,simprocAttr,csU,hI]|refine aN ?_);refine ulk ?_;(repeat first|simp only[kV,simprocAttr,csU,hI]|refine aN ?_);refine kp [0,1,2,3,8] ?_;(repeat first|simp only[kV,simprocAttr,csU,hI]|refine aN ?_);refine kp [0,1,2,3,8,9] ?_;(repeat first|simp only[kV,simprocAttr,csU,hI]|refine aN ?_);refine aB (ι:=Nat×List Tm) (fun s=>a≤s.1∧s.1≤i∧s.2.Perm l∧dnF lt a s.2 s.1=dnF lt a q i) (fun s=>⟨ar [(0,.slice 999999 0 l.length),(1,.p (J a)),(2,.p (J b)),(3,.p (cfD rD)),(8,.p (J i)),(9,.p (J s.1))],au [(999999,⟨TT,8,.row (s.2.map tI),false⟩)]⟩) (fun s=>s.1) (i,q) ⟨by simp only;omega,z95 _,hp,rfl⟩ (Sub.toG [0,1,2,3,8,9] []) ?_;rintro⟨j,p⟩ ⟨hj,hji,hpp,hD⟩;simp only at hj hji hpp hD;have hpl:=hpp.length_eq;by_cases h:a<j
  ·obtain⟨j,rfl⟩:∃y,j=y+1:=⟨j-1,by omega⟩
   have hJ:(a:Int)<((j+1:Nat):Int):=by omega
   have hJ2:(a:Int)<(j:Int)+1:=by omega
   have e1:((j+1:Nat):Int)-1=(j:Int):=by omega
   have e2:(j:Int)+1-1=(j:Int):=by omega
   have e3:(j:Int)+1=((j+1:Nat):Int):=by omega
   have g1:=co (l:=p) (i:=j+1) (by omega);have g2:=co (l:=p) (i:=j) (by omega);have hx:Sy.at_ p (j+1)∈l:=hpp.mem_iff.1 (at_mem (by omega));have hy:Sy.at_ p j∈l:=hpp.mem_iff.1 (at_mem (by omega));have hcon:=hc.con _ hx _ hy;have hlt:=hc.lt _ hx _ hy;cases hb:lt (Sy.at_ p (j+1)) (Sy.at_ p j) with
   |true =>
    have hz:cz (Sy.at_ p (j+1)) (Sy.at_ p j)<0:=hlt.2 hb;rw[tD h hb] at hD;(repeat first|simp only[kV,simprocAttr,csU,hJ,hJ2,e1,e2,g1,g2,hpl]|refine aN ?_);refine⟨by decide,_,cx (hcon),ulc ?_⟩;(repeat first|with_reducible refine kp [0,1,2,3,8,9,34] ?_|simp only[kV,simprocAttr,csU,hJ,hJ2,hz]|refine aN ?_);(try simp only[kV,simprocAttr,csU,hJ,hJ2,e1,e2,g1,g2,hpl]);refine ulk ?_;(repeat first|with_reducible refine kp [0,1,2,3,8,9] ?_|simp only[kV,simprocAttr,csU,hJ,hJ2,e1,e2,g1,g2,hpl]|refine aN ?_);exact⟨(j,Sy.swp p (j+1) j),⟨by simp only;omega,by simp only;omega,(wY (by omega)).trans hpp,hD⟩,(Sub.toG [0,1,2,3,8,9] []),by simp only;omega⟩
   |false =>
    have hz:¬ cz (Sy.at_ p (j+1)) (Sy.at_ p j)<0:=fun hh=>by rw[hlt.1 hh] at hb;cases hb
    rw[tE (.inr ⟨j,rfl,hb⟩)] at hD;subst hD;(repeat first|simp only[kV,simprocAttr,csU,hJ,hJ2,e1,e2,g1,g2,hpl]|refine aN ?_);refine⟨by decide,_,cx (hcon),ulc ?_⟩;(repeat first|with_reducible refine kp [0,1,2,3,8,9,34] ?_|simp only[kV,simprocAttr,csU,hJ,hJ2,hz]|refine aN ?_);refine ulk ?_;(repeat first|with_reducible refine kp [0,1,2,3,8] ?_|simp only[kV,simprocAttr,csU,hJ,hJ2]|refine aN ?_);exact⟨(i+1,k,dnF lt a q i),⟨by simp only;omega,by simp only;omega,hpp,hF⟩,(Sub.toG [0,1,2,3,8] []),by simp only;omega⟩
  ·have hJ:¬ (a:Int)<(j:Int):=by omega
   obtain rfl:j=a:=by omega
   rw[tE (.inl rfl)] at hD;subst hD;(repeat first|simp only[kV,simprocAttr,csU,hJ]|refine aN ?_);refine ulc ?_;(repeat first|with_reducible refine kp [0,1,2,3,8,9,34] ?_|simp only[kV,simprocAttr,csU,hJ]|refine aN ?_);refine ulk ?_;(repeat first|with_reducible refine kp [0,1,2,3,8] ?_|simp only[kV,simprocAttr,csU,hJ]|refine aN ?_);exact⟨(i+1,k,dnF lt j q i),⟨by simp only;omega,by simp only;omega,hpp,hF⟩,(Sub.toG [0,1,2,3,8] []),by simp only;omega⟩
set_option linter.unusedSimpArgs false
set_option maxRecDepth 20000
set_option maxHeartbeats 2000000
open Go.RowKit Go.Proofs.YtbnhgnhgbhjkcaaGreat.Sy
theorem WJ (x:Int):inK .u64 x=decide (0≤x∧x≤18446744073709551615):=rfl
theorem WK:((IntKind.u64.bits:Nat):Int)=64:=rfl
theorem WL:Int.toNat 1=1:=rfl
def csV:=an @WJ (an @WK (an @WL @csU))
theorem lg (i j:Nat):((i:Int)+(j:Int)) / 2=(((i+j) / 2:Nat):Int):=by omega
theorem n5 {rD:D}{l:List Tm}{lt:Tm→Tm→Bool}{cz:Tm→Tm→Int} (hc:Cmp rD l lt cz){x y:Nat} (hx:x<l.length) (hy:y<l.length) :
  Con Tryz.prog AN 110 [tI (Sy.at_ l x),tI (Sy.at_ l y),.ref rD] (J (cz (Sy.at_ l x) (Sy.at_ l y)))∧(lt (Sy.at_ l x) (Sy.at_ l y)=true→cz (Sy.at_ l x) (Sy.at_ l y)<0)∧(lt (Sy.at_ l x) (Sy.at_ l y)=false→¬ cz (Sy.at_ l x) (Sy.at_ l y)<0):=by
 have h1:=at_mem hx;have h2:=at_mem hy;have h3:=hc.lt _ h1 _ h2;exact⟨hc.con _ h1 _ h2,h3.2,fun h hh=>by rw[h3.1 hh] at h;cases h⟩
theorem WM (rD:D) (l:List Tm) (lt:Tm→Tm→Bool) (cz:Tm→Tm→Int) (hc:Cmp rD l lt cz) (a m b s:Nat) (hm:m=a+1) (hmb:m<b) (h2:b≤l.length) (h3:l.length≤1000000000)
  (hs:Sy.bs (fun h=>lt (Sy.at_ l h) (Sy.at_ l a)) m b=s) (hs1:m≤s) (hs2:s≤b) :
  dF Tryz.prog AN 148 0 [LM l,J a,J m,J b,cfD rD] TT 8 (l.map tI) (.tup []) ((de l a m s).map tI):=by
 have hI1:(m:Int)-(a:Int)=1:=by omega
 have ga:=co (l:=l) (i:=a) (by omega);have e0:((a:Int)<(l.length:Int)):=by omega
 refine ky.conL rfl (by simp) rfl (by simp) ?_;(repeat first|with_reducible refine kp [0,1,2,3,4,28] ?_|simp only[kV,simprocAttr,csV,eW,hI1]|refine aN ?_);refine ulk ?_;(repeat first|simp only[kV,simprocAttr,csV,hI1]|refine aN ?_);refine kp [0,1,3,4,10] ?_;(repeat first|simp only[kV,simprocAttr,csV,hI1]|refine aN ?_);refine kp [0,1,4,10,11] ?_;(repeat first|simp only[kV,simprocAttr,csV,hI1]|refine aN ?_);refine aB (ι:=Nat×Nat) (fun s'=>m≤s'.1∧s'.1≤s'.2∧s'.2≤b∧Sy.bs (fun h=>lt (Sy.at_ l h) (Sy.at_ l a)) s'.1 s'.2=s) (fun s'=>⟨ar [(0,.slice 999999 0 l.length),(1,.p (J a)),(4,.p (cfD rD)),(10,.p (J s'.1)),(11,.p (J s'.2))],au [(999999,⟨TT,8,.row (l.map tI),false⟩)]⟩) (fun s'=>s'.2-s'.1) (m,b) ⟨z95 _,by simp only;omega,z95 _,hs⟩ (Sub.toG [0,1,4,10,11] []) ?_;rintro⟨i,j⟩ ⟨k1,k2,k3,k4⟩;simp only at k1 k2 k3 k4;by_cases h:i<j
 ·have hI:(i:Int)<(j:Int):=by omega
  have eh:=lg i j;obtain⟨q,hq⟩:∃q,q=(i+j) / 2:=⟨_,rfl⟩
  rw[←hq] at eh;have gq:=co (l:=l) (i:=q) (by omega);obtain⟨c1,c2,c3⟩:=n5 hc (x:=q) (y:=a) (by omega) (by omega);cases hb:lt (Sy.at_ l q) (Sy.at_ l a) with
  |true =>
   have hz:=c2 hb;rw[lk h (by rw[←hq];exact hb),←hq] at k4;(repeat first|with_reducible refine kp [0,1,4,10,11,33] ?_|simp only[kV,simprocAttr,csV,hI]|refine aN ?_);(try simp only[kV,simprocAttr,csV,hI,eh,gq,ga]);refine ulk ?_;(repeat first|with_reducible refine kp [0,1,4,10,11,12] ?_|simp only[kV,simprocAttr,csV,hI,eh,gq,ga]|refine aN ?_);refine⟨by decide,_,cx (c1),ulc ?_⟩;(repeat first|with_reducible refine kp [0,1,4,10,11,12,50] ?_|simp only[kV,simprocAttr,csV,hz]|refine aN ?_);refine ulk ?_;(repeat first|simp only[kV,simprocAttr,csV,hz]|refine aN ?_);exact⟨(q+1,j),⟨by simp only;omega,by simp only;omega,k3,k4⟩,(Sub.toG [0,1,4,10,11] []),by simp only;omega⟩
  |false =>
   have hz:=c3 hb;rw[ln h (by rw[←hq];exact hb),←hq] at k4;(repeat first|with_reducible refine kp [0,1,4,10,11,33] ?_|simp only[kV,simprocAttr,csV,hI]|refine aN ?_);(try simp only[kV,simprocAttr,csV,hI,eh,gq,ga]);refine ulk ?_;(repeat first|with_reducible refine kp [0,1,4,10,11,12] ?_|simp only[kV,simprocAttr,csV,hI,eh,gq,ga]|refine aN ?_);refine⟨by decide,_,cx (c1),ulc ?_⟩;(repeat first|with_reducible refine kp [0,1,4,10,11,12,50] ?_|simp only[kV,simprocAttr,csV,hz]|refine aN ?_);refine ulk ?_;(repeat first|simp only[kV,simprocAttr,csV,hz]|refine aN ?_);exact⟨(i,q),⟨k1,by simp only;omega,by simp only;omega,k4⟩,(Sub.toG [0,1,4,10,11] []),by simp only;omega⟩
 ·have hI:¬ (i:Int)<(j:Int):=by omega
  rw[jr h] at k4;subst k4;(repeat first|with_reducible refine kp [0,1,4,10,11,33] ?_|simp only[kV,simprocAttr,csV,hI]|refine aN ?_);refine ulk ?_;(repeat first|simp only[kV,simprocAttr,csV,hI]|refine aN ?_);refine kp [0,1,10] ?_;(repeat first|simp only[kV,simprocAttr,csV,hI]|refine aN ?_);refine kp [0,10,13] ?_;(repeat first|simp only[kV,simprocAttr,csV,hI]|refine aN ?_);refine aB (ι:=Nat×List Tm) (fun s'=>a≤s'.1∧s'.1+1≤i∧s'.2.length=l.length∧Rot l s'.2 a (a+1) (s'.1+1)) (fun s'=>⟨ar [(0,.slice 999999 0 l.length),(10,.p (J i)),(13,.p (J s'.1))],au [(999999,⟨TT,8,.row (s'.2.map tI),false⟩)]⟩) (fun s'=>i-s'.1) (a,l) ⟨z95 _,by simp only;omega,rfl,Rot.id (by omega) (by omega) (by omega)⟩ (Sub.toG [0,10,13] []) ?_;rintro⟨k,q⟩ ⟨q1,q2,q3,q4⟩;simp only at q1 q2 q3 q4;by_cases g:k+1<i
  ·have gI:(k:Int)<(i:Int)-1:=by omega
   have g1:=co (l:=q) (i:=k) (by omega);obtain⟨y,hy⟩:∃y,y=k+1:=⟨_,rfl⟩
   have g2:=co (l:=q) (i:=y) (by omega);have e1:(k:Int)+1=(y:Int):=by omega
   have hup:=q4.up (by omega) (by omega);rw[show k+2=y+1 by omega,←hy] at hup;(repeat first|with_reducible refine kp [0,10,13,58] ?_|simp only[kV,simprocAttr,csV,gI]|refine aN ?_);(try simp only[kV,simprocAttr,csV,gI,e1,g1,g2,q3]);refine ulk ?_;(repeat first|with_reducible refine kp [0,10,13] ?_|simp only[kV,simprocAttr,csV,gI,e1,g1,g2,q3]|refine aN ?_);exact⟨(y,Sy.swp q k y),⟨by simp only;omega,by simp only;omega,by simp only;rw[gM,q3],hup⟩,(Sub.toG [0,10,13] []),by simp only;omega⟩
  ·have gI:¬ (k:Int)<(i:Int)-1:=by omega
   rw[show k+1=i by omega] at q4;have hr:=q4.eq (by omega) (by omega) (by omega);subst hm;subst hr;(repeat first|with_reducible refine kp [0,10,13,58] ?_|simp only[kV,simprocAttr,csV,gI]|refine aN ?_);refine ulk ?_;(repeat first|with_reducible refine kp [] ?_|simp only[kV,simprocAttr,csV,af,ai,aq,ah,gI]|refine aN ?_);exact ResLt.unit _
theorem WN (rD:D) (l:List Tm) (lt:Tm→Tm→Bool) (cz:Tm→Tm→Int) (hc:Cmp rD l lt cz) (a m b s:Nat) (ham:a+1<m) (hm:b=m+1) (h2:b≤l.length) (h3:l.length≤1000000000)
  (hs:Sy.bs (fun h => !lt (Sy.at_ l m) (Sy.at_ l h)) a m=s) (hs1:a≤s) (hs2:s≤m) :
  dF Tryz.prog AN 148 0 [LM l,J a,J m,J b,cfD rD] TT 8 (l.map tI) (.tup []) ((de l s m b).map tI):=by
 have hI1:¬ (m:Int)-(a:Int)=1:=by omega
 have hI2:(b:Int)-(m:Int)=1:=by omega
 have ga:=co (l:=l) (i:=m) (by omega);have e0:((m:Int)<(l.length:Int)):=by omega
 refine ky.conL rfl (by simp) rfl (by simp) ?_;(repeat first|with_reducible refine kp [0,1,2,3,4,28] ?_|simp only[kV,simprocAttr,csV,eW,hI1]|refine aN ?_);(try simp only[kV,simprocAttr,csV,hI1,hI2]);refine ulk ?_;(repeat first|with_reducible refine kp [0,1,2,3,4,80] ?_|simp only[kV,simprocAttr,csV,hI1,hI2]|refine aN ?_);refine ulk ?_;(repeat first|simp only[kV,simprocAttr,csV,hI1,hI2]|refine aN ?_);refine kp [0,2,4,14] ?_;(repeat first|simp only[kV,simprocAttr,csV,hI1,hI2]|refine aN ?_);refine kp [0,2,4,14,15] ?_;(repeat first|simp only[kV,simprocAttr,csV,hI1,hI2]|refine aN ?_);refine aB (ι:=Nat×Nat) (fun s'=>a≤s'.1∧s'.1≤s'.2∧s'.2≤m∧Sy.bs (fun h => !lt (Sy.at_ l m) (Sy.at_ l h)) s'.1 s'.2=s) (fun s'=>⟨ar [(0,.slice 999999 0 l.length),(2,.p (J m)),(4,.p (cfD rD)),(14,.p (J s'.1)),(15,.p (J s'.2))],au [(999999,⟨TT,8,.row (l.map tI),false⟩)]⟩) (fun s'=>s'.2-s'.1) (a,m) ⟨z95 _,by simp only;omega,z95 _,hs⟩ (Sub.toG [0,2,4,14,15] []) ?_;rintro⟨i,j⟩ ⟨k1,k2,k3,k4⟩;simp only at k1 k2 k3 k4;by_cases h:i<j
 ·have hI:(i:Int)<(j:Int):=by omega
  have eh:=lg i j;obtain⟨q,hq⟩:∃q,q=(i+j) / 2:=⟨_,rfl⟩
  rw[←hq] at eh;have gq:=co (l:=l) (i:=q) (by omega);obtain⟨c1,c2,c3⟩:=n5 hc (x:=m) (y:=q) (by omega) (by omega);cases hb:lt (Sy.at_ l m) (Sy.at_ l q) with
  |false =>
   have hz:=c3 hb;rw[lk h (by simp only[←hq,hb];rfl),←hq] at k4;(repeat first|with_reducible refine kp [0,2,4,14,15,85] ?_|simp only[kV,simprocAttr,csV,hI]|refine aN ?_);(try simp only[kV,simprocAttr,csV,hI,eh,gq,ga]);refine ulk ?_;(repeat first|with_reducible refine kp [0,2,4,14,15,16] ?_|simp only[kV,simprocAttr,csV,hI,eh,gq,ga]|refine aN ?_);refine⟨by decide,_,cx (c1),ulc ?_⟩;(repeat first|with_reducible refine kp [0,2,4,14,15,16,103] ?_|simp only[kV,simprocAttr,csV,hz]|refine aN ?_);refine ulk ?_;(repeat first|simp only[kV,simprocAttr,csV,hz]|refine aN ?_);exact⟨(q+1,j),⟨by simp only;omega,by simp only;omega,k3,k4⟩,(Sub.toG [0,2,4,14,15] []),by simp only;omega⟩
  |true =>
   have hz:=c2 hb;rw[ln h (by simp only[←hq,hb];rfl),←hq] at k4;(repeat first|with_reducible refine kp [0,2,4,14,15,85] ?_|simp only[kV,simprocAttr,csV,hI]|refine aN ?_);(try simp only[kV,simprocAttr,csV,hI,eh,gq,ga]);refine ulk ?_;(repeat first|with_reducible refine kp [0,2,4,14,15,16] ?_|simp only[kV,simprocAttr,csV,hI,eh,gq,ga]|refine aN ?_);refine⟨by decide,_,cx (c1),ulc ?_⟩;(repeat first|with_reducible refine kp [0,2,4,14,15,16,103] ?_|simp only[kV,simprocAttr,csV,hz]|refine aN ?_);refine ulk ?_;(repeat first|simp only[kV,simprocAttr,csV,hz]|refine aN ?_);exact⟨(i,q),⟨k1,by simp only;omega,by simp only;omega,k4⟩,(Sub.toG [0,2,4,14,15] []),by simp only;omega⟩
 ·have hI:¬ (i:Int)<(j:Int):=by omega
  rw[jr h] at k4;subst k4;(repeat first|with_reducible refine kp [0,2,4,14,15,85] ?_|simp only[kV,simprocAttr,csV,hI]|refine aN ?_);refine ulk ?_;(repeat first|simp only[kV,simprocAttr,csV,hI]|refine aN ?_);refine kp [0,2,14] ?_;(repeat first|simp only[kV,simprocAttr,csV,hI]|refine aN ?_);refine kp [0,14,17] ?_;(repeat first|simp only[kV,simprocAttr,csV,hI]|refine aN ?_);refine aB (ι:=Nat×List Tm) (fun s'=>i≤s'.1∧s'.1≤m∧s'.2.length=l.length∧Rot l s'.2 s'.1 m (m+1)) (fun s'=>⟨ar [(0,.slice 999999 0 l.length),(14,.p (J i)),(17,.p (J s'.1))],au [(999999,⟨TT,8,.row (s'.2.map tI),false⟩)]⟩) (fun s'=>s'.1-i) (m,l) ⟨by simp only;omega,z95 _,rfl,Rot.id (by omega) (by omega) (by omega)⟩ (Sub.toG [0,14,17] []) ?_;rintro⟨k,q⟩ ⟨q1,q2,q3,q4⟩;simp only at q1 q2 q3 q4;by_cases g:i<k
  ·have gI:(i:Int)<(k:Int):=by omega
   have g1:=co (l:=q) (i:=k) (by omega);obtain⟨y,hy⟩:∃y,k=y+1:=⟨k-1,by omega⟩
   have g2:=co (l:=q) (i:=y) (by omega);have e1:(k:Int)-1=(y:Int):=by omega
   rw[hy] at q4;have hup:=q4.down (by omega) (by omega);rw[←hy] at hup;(repeat first|with_reducible refine kp [0,14,17,110] ?_|simp only[kV,simprocAttr,csV,gI]|refine aN ?_);(try simp only[kV,simprocAttr,csV,gI,e1,g1,g2,q3]);refine ulk ?_;(repeat first|with_reducible refine kp [0,14,17] ?_|simp only[kV,simprocAttr,csV,gI,e1,g1,g2,q3]|refine aN ?_);exact⟨(y,Sy.swp q k y),⟨by simp only;omega,by simp only;omega,by simp only;rw[gM,q3],hup⟩,(Sub.toG [0,14,17] []),by simp only;omega⟩
  ·have gI:¬ (i:Int)<(k:Int):=by omega
   obtain rfl:k=i:=by omega
   have hr:=q4.eq (by omega) (by omega) (by omega);subst hm;subst hr;(repeat first|with_reducible refine kp [0,14,17,110] ?_|simp only[kV,simprocAttr,csV,gI]|refine aN ?_);refine ulk ?_;(repeat first|with_reducible refine kp [] ?_|simp only[kV,simprocAttr,csV,af,ai,aq,ah,gI]|refine aN ?_);exact ResLt.unit _
set_option linter.unusedSimpArgs false
set_option maxRecDepth 20000
set_option maxHeartbeats 2000000
open Go.RowKit Go.Proofs.YtbnhgnhgbhjkcaaGreat.Sy
abbrev fh (l:List Tm):Mem:=au [(999999,⟨TT,8,.row (l.map tI),false⟩)]
abbrev dH (rD:D) (l:List Tm) (a m b:Nat) (l':List Tm):Prop:=du Tryz.prog AN 148 0 [LM l,J a,J m,J b,cfD rD] TT 8 (l.map tI) (.tup []) (l'.map tI)
theorem jy {l:List Tm} (h:0<l.length):¬ l.map tI=[]:=fun e=>by
 have:l=[]:=by simpa using e
 rw[this] at h;cases h
theorem oB (rD:D) (l3 l4:List Tm) (N mid e b:Nat) (hN:l3.length=N) (hN4:l4.length=N) (hN0:0<N) (hN1:N≤1000000000) (hb:b≤N) (h1:mid<e∧e<b→dH rD l3 mid e b l4) (h2:¬ (mid<e∧e<b)→l4=l3) :
  cw [4001224,4001184,5000047,5000049,5000050,5000070,5000083,5000110,5000114,145] (ConX Tryz.prog AN) qQ (fi TT 8 (l4.map tI) (.tup []) []) ⟨ar [(0,.slice 999999 0 N),(3,.p (J b)),(4,.p (cfD rD)),(18,.p (J mid)),(24,.p (J e))],fh l3⟩:=by
 have hr3:=jy (l:=l3) (by omega);by_cases g1:mid<e
 ·have i1:(mid:Int)<(e:Int):=by omega
  by_cases g2:e<b
  ·have i2:(e:Int)<(b:Int):=by omega
   have c1:=(h1 ⟨g1,g2⟩).x;skip
   (repeat first|with_reducible refine kp [0,3,4,18,24,213] ?_|simp only[kV,simprocAttr,csV,i1,i2]|refine aN ?_);(try simp only[kV,simprocAttr,csV,i1,i2,hN,hr3]);refine ulk ?_;(repeat first|simp only[kV,simprocAttr,csV,i1,i2,hN,hr3]|refine aN ?_);refine⟨_,_,c1,?_⟩;(repeat first|simp only[kV,simprocAttr,csV,hr3]|refine aN ?_);exact ResLt.unit _
  ·have i2:¬ (e:Int)<(b:Int):=by omega
   have e4:=h2 fun h=>g2 h.2
   subst e4;skip
   (repeat first|with_reducible refine kp [0,3,4,18,24,213] ?_|simp only[kV,simprocAttr,csV,i1,i2]|refine aN ?_);refine ulk ?_;(repeat first|simp only[kV,simprocAttr,csV,i1,i2]|refine aN ?_);exact ResLt.unit _
 ·have i1:¬ (mid:Int)<(e:Int):=by omega
  have e4:=h2 fun h=>g1 h.1
  subst e4;skip
  (repeat first|with_reducible refine kp [0,3,4,18,24,213] ?_|simp only[kV,simprocAttr,csV,i1]|refine aN ?_);refine ulk ?_;(repeat first|simp only[kV,simprocAttr,csV,i1]|refine aN ?_);exact ResLt.unit _
theorem oC (rD:D) (l2 l3 l4:List Tm) (N a s mid e b:Nat) (hN2:l2.length=N) (hN:l3.length=N) (hN4:l4.length=N) (hN0:0<N) (hN1:N≤1000000000) (hb:b≤N) (k1:a<s∧s<mid→dH rD l2 a s mid l3) (k2:¬ (a<s∧s<mid)→l3=l2) (h1:mid<e∧e<b→dH rD l3 mid e b l4) (h2:¬ (mid<e∧e<b)→l4=l3) :
  cw [4001224,4001184,5000047,5000049,5000050,5000070,5000083,5000110,5000114,145] (ConX Tryz.prog AN) qS (fi TT 8 (l4.map tI) (.tup []) []) ⟨ar [(0,.slice 999999 0 N),(1,.p (J a)),(3,.p (J b)),(4,.p (cfD rD)),(18,.p (J mid)),(20,.p (J s)),(24,.p (J e))],fh l2⟩:=by
 have hr2:=jy (l:=l2) (by omega);by_cases g1:a<s
 ·have i1:(a:Int)<(s:Int):=by omega
  by_cases g2:s<mid
  ·have i2:(s:Int)<(mid:Int):=by omega
   have c1:=(k1 ⟨g1,g2⟩).x;skip
   (repeat first|with_reducible refine kp [0,1,3,4,18,20,24,199] ?_|simp only[kV,simprocAttr,csV,i1,i2]|refine aN ?_);(try simp only[kV,simprocAttr,csV,i1,i2,hN2,hr2]);refine ulk ?_;(repeat first|simp only[kV,simprocAttr,csV,i1,i2,hN2,hr2]|refine aN ?_);refine⟨_,_,c1,?_⟩;(repeat first|simp only[kV,simprocAttr,csV,hr2]|refine aN ?_);exact⟨_,(Sub.toG [0,3,4,18,24] []),oB rD l3 l4 N mid e b hN hN4 hN0 hN1 hb h1 h2⟩
  ·have i2:¬ (s:Int)<(mid:Int):=by omega
   have e4:=k2 fun h=>g2 h.2
   subst e4;skip
   (repeat first|with_reducible refine kp [0,1,3,4,18,20,24,199] ?_|simp only[kV,simprocAttr,csV,i1,i2]|refine aN ?_);refine ulk ?_;(repeat first|simp only[kV,simprocAttr,csV,i1,i2]|refine aN ?_);exact⟨_,(Sub.toG [0,3,4,18,24] []),oB rD l3 l4 N mid e b hN hN4 hN0 hN1 hb h1 h2⟩
 ·have i1:¬ (a:Int)<(s:Int):=by omega
  have e4:=k2 fun h=>g1 h.1
  subst e4;skip
  (repeat first|with_reducible refine kp [0,1,3,4,18,20,24,199] ?_|simp only[kV,simprocAttr,csV,i1]|refine aN ?_);refine ulk ?_;(repeat first|simp only[kV,simprocAttr,csV,i1]|refine aN ?_);exact⟨_,(Sub.toG [0,3,4,18,24] []),oB rD l3 l4 N mid e b hN hN4 hN0 hN1 hb h1 h2⟩
abbrev tX (rD:D) (l:List Tm) (a m b:Nat) (l':List Tm):Prop:=du Tryz.prog AN 153 0 [LM l,J a,J m,J b,cfD rD] TT 8 (l.map tI) (.tup []) (l'.map tI)
theorem tY (rD:D) (l l2 l3 l4:List Tm) (lt:Tm→Tm→Bool) (cz:Tm→Tm→Int) (hc:Cmp rD l lt cz) (N a s mid e b m n s0 r0:Nat) (hN':l.length=N) (hN2:l2.length=N) (hN:l3.length=N) (hN4:l4.length=N) (hN0:0<N) (hN1:N≤1000000000) (hb:b≤N)
  (hn:n=mid+m) (he:e+s=n) (hs:Sy.bs (fun c => !lt (Sy.at_ l (n-1-c)) (Sy.at_ l c)) s0 r0=s) (hs0:s0≤r0) (hr0:r0≤m) (hmb:m≤b) (hr1:r0≤mid) (hns:n≤b+s0) (hmb2:mid≤b)
  (q1:s<m∧m<e→tX rD l s m e l2) (q2:¬ (s<m∧m<e)→l2=l) (k1:a<s∧s<mid→dH rD l2 a s mid l3) (k2:¬ (a<s∧s<mid)→l3=l2) (h1:mid<e∧e<b→dH rD l3 mid e b l4) (h2:¬ (mid<e∧e<b)→l4=l3) :
  cw [4001224,4001184,5000047,5000049,5000050,5000070,5000083,5000110,5000114,145] (ConX Tryz.prog AN) qT (fi TT 8 (l4.map tI) (.tup []) []) ⟨ar [(0,.slice 999999 0 N),(1,.p (J a)),(2,.p (J m)),(3,.p (J b)),(4,.p (cfD rD)),(18,.p (J mid)),(19,.p (J n)),(20,.p (J s0)),(21,.p (J r0))],fh l⟩:=by
 have hr:=jy (l:=l) (by omega);skip
 (repeat first|simp only[kV,simprocAttr,csV]|refine aN ?_);refine kp [0,1,2,3,4,18,19,20,21,22] ?_;(repeat first|simp only[kV,simprocAttr,csV]|refine aN ?_);refine aB (ι:=Nat×Nat) (fun s'=>s0≤s'.1∧s'.1≤s'.2∧s'.2≤r0∧Sy.bs (fun c => !lt (Sy.at_ l (n-1-c)) (Sy.at_ l c)) s'.1 s'.2=s) (fun s'=>⟨ar [(0,.slice 999999 0 N),(1,.p (J a)),(2,.p (J m)),(3,.p (J b)),(4,.p (cfD rD)),(18,.p (J mid)),(19,.p (J n)),(20,.p (J s'.1)),(21,.p (J s'.2)),(22,.p (J ((n:Int)-1)))],fh l⟩) (fun s'=>s'.2-s'.1) (s0,r0) ⟨z95 _,hs0,z95 _,hs⟩ (Sub.toG [0,1,2,3,4,18,19,20,21,22] []) ?_;rintro⟨i,j⟩ ⟨x1,x2,x3,x4⟩;simp only at x1 x2 x3 x4;by_cases h:i<j
 ·have hI:(i:Int)<(j:Int):=by omega
  have eh:=lg i j;obtain⟨q,hq⟩:∃q,q=(i+j) / 2:=⟨_,rfl⟩
  rw[←hq] at eh;have gq:=co (l:=l) (i:=q) (by omega);obtain⟨p,hp⟩:∃p,p=n-1-q:=⟨_,rfl⟩
  have gp:=co (l:=l) (i:=p) (by omega);have ep:(n:Int)-1-(q:Int)=(p:Int):=by omega
  obtain⟨c1,c2,c3⟩:=n5 hc (x:=p) (y:=q) (by omega) (by omega);cases hb':lt (Sy.at_ l p) (Sy.at_ l q) with
  |false =>
   have hz:=c3 hb';rw[lk h (by simp only[←hq,←hp,hb'];rfl),←hq] at x4;(repeat first|with_reducible refine kp [0,1,2,3,4,18,19,20,21,22,151] ?_|simp only[kV,simprocAttr,csV,hI]|refine aN ?_);(try simp only[kV,simprocAttr,csV,hI,eh,ep,gq,gp]);refine ulk ?_;(repeat first|with_reducible refine kp [0,1,2,3,4,18,19,20,21,22,23] ?_|simp only[kV,simprocAttr,csV,hI,eh,ep,gq,gp]|refine aN ?_);refine⟨by decide,_,cx (c1),ulc ?_⟩;(repeat first|with_reducible refine kp [0,1,2,3,4,18,19,20,21,22,23,171] ?_|simp only[kV,simprocAttr,csV,hz]|refine aN ?_);refine ulk ?_;(repeat first|simp only[kV,simprocAttr,csV,hz]|refine aN ?_);exact⟨(q+1,j),⟨by simp only;omega,by simp only;omega,x3,x4⟩,(Sub.toG [0,1,2,3,4,18,19,20,21,22] []),by simp only;omega⟩
  |true =>
   have hz:=c2 hb';rw[ln h (by simp only[←hq,←hp,hb'];rfl),←hq] at x4;(repeat first|with_reducible refine kp [0,1,2,3,4,18,19,20,21,22,151] ?_|simp only[kV,simprocAttr,csV,hI]|refine aN ?_);(try simp only[kV,simprocAttr,csV,hI,eh,ep,gq,gp]);refine ulk ?_;(repeat first|with_reducible refine kp [0,1,2,3,4,18,19,20,21,22,23] ?_|simp only[kV,simprocAttr,csV,hI,eh,ep,gq,gp]|refine aN ?_);refine⟨by decide,_,cx (c1),ulc ?_⟩;(repeat first|with_reducible refine kp [0,1,2,3,4,18,19,20,21,22,23,171] ?_|simp only[kV,simprocAttr,csV,hz]|refine aN ?_);refine ulk ?_;(repeat first|simp only[kV,simprocAttr,csV,hz]|refine aN ?_);exact⟨(i,q),⟨x1,by simp only;omega,by simp only;omega,x4⟩,(Sub.toG [0,1,2,3,4,18,19,20,21,22] []),by simp only;omega⟩
 ·have hI:¬ (i:Int)<(j:Int):=by omega
  rw[jr h] at x4;subst x4;have ee:(n:Int)-(i:Int)=(e:Int):=by omega
  by_cases g1:i<m
  ·have i1:(i:Int)<(m:Int):=by omega
   by_cases g2:m<e
   ·have i2:(m:Int)<(e:Int):=by omega
    have c1:=(q1 ⟨g1,g2⟩).x;(repeat first|with_reducible refine kp [0,1,2,3,4,18,19,20,21,22,151] ?_|simp only[kV,simprocAttr,csV,hI]|refine aN ?_);(try simp only[kV,simprocAttr,csV,hI,ee,i1,i2]);refine ulk ?_;(repeat first|with_reducible refine kp [0,1,2,3,4,18,19,20,24,185] ?_|simp only[kV,simprocAttr,csV,hI,ee,i1,i2]|refine aN ?_);(try simp only[kV,simprocAttr,csV,i1,i2,hN',hr]);refine ulk ?_;(repeat first|simp only[kV,simprocAttr,csV,i1,i2,hN',hr]|refine aN ?_);refine⟨_,_,c1,?_⟩;(repeat first|simp only[kV,simprocAttr,csV,hr]|refine aN ?_);exact⟨_,(Sub.toG [0,1,3,4,18,20,24] []),oC rD l2 l3 l4 N a i mid e b hN2 hN hN4 hN0 hN1 hb k1 k2 h1 h2⟩
   ·have i2:¬ (m:Int)<(e:Int):=by omega
    have e4:=q2 fun h=>g2 h.2
    subst e4;(repeat first|with_reducible refine kp [0,1,2,3,4,18,19,20,21,22,151] ?_|simp only[kV,simprocAttr,csV,hI]|refine aN ?_);(try simp only[kV,simprocAttr,csV,hI,ee,i1,i2]);refine ulk ?_;(repeat first|with_reducible refine kp [0,1,2,3,4,18,19,20,24,185] ?_|simp only[kV,simprocAttr,csV,hI,ee,i1,i2]|refine aN ?_);refine ulk ?_;(repeat first|simp only[kV,simprocAttr,csV,i1,i2]|refine aN ?_);exact⟨_,(Sub.toG [0,1,3,4,18,20,24] []),oC rD l2 l3 l4 N a i mid e b hN2 hN hN4 hN0 hN1 hb k1 k2 h1 h2⟩
  ·have i1:¬ (i:Int)<(m:Int):=by omega
   have e4:=q2 fun h=>g1 h.1
   subst e4;(repeat first|with_reducible refine kp [0,1,2,3,4,18,19,20,21,22,151] ?_|simp only[kV,simprocAttr,csV,hI]|refine aN ?_);(try simp only[kV,simprocAttr,csV,hI,ee,i1]);refine ulk ?_;(repeat first|with_reducible refine kp [0,1,2,3,4,18,19,20,24,185] ?_|simp only[kV,simprocAttr,csV,hI,ee,i1]|refine aN ?_);refine ulk ?_;(repeat first|simp only[kV,simprocAttr,csV,i1]|refine aN ?_);exact⟨_,(Sub.toG [0,1,3,4,18,20,24] []),oC rD l2 l3 l4 N a i mid e b hN2 hN hN4 hN0 hN1 hb k1 k2 h1 h2⟩
end Go.Proofs.YtbnhgnhgbhjkcaaGreat.M
