/- Lemmas. -/
import Derived.Test.YtbnhgnhgbhjkcaaGreatQ40
set_option linter.defProp false
set_option linter.unusedSimpArgs false
set_option linter.unusedVariables false
namespace Go.Proofs.YtbnhgnhgbhjkcaaGreat.M
set_option linter.unusedSimpArgs false
set_option maxRecDepth 20000
set_option maxHeartbeats 2000000
open Go.RowKit Go.Proofs.YtbnhgnhgbhjkcaaGreat.Sy
def aI (lt:Tm→Tm→Bool) (x y:Tm):Prop:=lt y x=false
theorem ro {lt:Tm→Tm→Bool} (x y:Tm):lt x y=true↔¬ aI lt y x:=by
 unfold aI;cases lt x y<;>simp
theorem LS (rD:D) (l l2 l3 l4:List Tm) (lt:Tm→Tm→Bool) (cz:Tm→Tm→Int) (hc:Cmp rD l lt cz) (N a s mid e b m n s0 r0:Nat) (ham:a+1<m) (hmb':m+1<b) (hmid:mid=(a+b) / 2) (hN':l.length=N) (hN2:l2.length=N) (hN:l3.length=N) (hN4:l4.length=N) (hN0:0<N) (hN1:N≤1000000000) (hb:b≤N)
  (hn:n=mid+m) (he:e+s=n) (hs:Sy.bs (fun c => !lt (Sy.at_ l (n-1-c)) (Sy.at_ l c)) s0 r0=s) (hs0:s0≤r0) (hx1:mid<m→s0+b=n∧r0=mid) (hx2:¬ mid<m→s0=a∧r0=m)
  (q1:s<m∧m<e→tX rD l s m e l2) (q2:¬ (s<m∧m<e)→l2=l) (k1:a<s∧s<mid→dH rD l2 a s mid l3) (k2:¬ (a<s∧s<mid)→l3=l2) (h1:mid<e∧e<b→dH rD l3 mid e b l4) (h2:¬ (mid<e∧e<b)→l4=l3) :
  dF Tryz.prog AN 148 0 [LM l,J a,J m,J b,cfD rD] TT 8 (l.map tI) (.tup []) (l4.map tI):=by
 have hI1:¬ (m:Int)-(a:Int)=1:=by omega
 have hI2:¬ (b:Int)-(m:Int)=1:=by omega
 have eh:=lg a b;rw[←hmid] at eh;have en:(mid:Int)+(m:Int)=(n:Int):=by omega
 subst hN';by_cases hg:mid<m
 ·have hgI:(mid:Int)<(m:Int):=by omega
  obtain⟨f1,f2⟩:=hx1 hg;have es:(n:Int)-(b:Int)=(s0:Int):=by omega
  subst f2;refine ky.conL rfl (by simp) rfl (by simp) ?_;(repeat first|with_reducible refine kp [0,1,2,3,4,28] ?_|simp only[kV,simprocAttr,csV,eW,hI1]|refine aN ?_);(try simp only[kV,simprocAttr,csV,hI1,hI2]);refine ulk ?_;(repeat first|with_reducible refine kp [0,1,2,3,4,80] ?_|simp only[kV,simprocAttr,csV,hI1,hI2]|refine aN ?_);(try simp only[kV,simprocAttr,csV,hI1,hI2,eh,en,hgI]);refine ulk ?_;(repeat first|with_reducible refine kp [0,1,2,3,4,18,19,140] ?_|simp only[kV,simprocAttr,csV,hI1,hI2,eh,en,hgI]|refine aN ?_);(try simp only[kV,simprocAttr,csV,hgI,es]);refine ulk ?_;(repeat first|simp only[kV,simprocAttr,csV,hgI,es]|refine aN ?_);refine kp [0,1,2,3,4,18,19,20] ?_;(repeat first|simp only[kV,simprocAttr,csV,hgI,es]|refine aN ?_);exact⟨_,(Sub.toG [0,1,2,3,4,18,19,20,21] []),tY rD l l2 l3 l4 lt cz hc _ a s r0 e b m n s0 r0 rfl hN2 hN hN4 hN0 hN1 hb hn he hs hs0 (by omega) (by omega) (by omega) (by omega) (by omega) q1 q2 k1 k2 h1 h2⟩
 ·have hgI:¬ (mid:Int)<(m:Int):=by omega
  obtain⟨f1,f2⟩:=hx2 hg;subst f1 f2;refine ky.conL rfl (by simp) rfl (by simp) ?_;(repeat first|with_reducible refine kp [0,1,2,3,4,28] ?_|simp only[kV,simprocAttr,csV,eW,hI1]|refine aN ?_);(try simp only[kV,simprocAttr,csV,hI1,hI2]);refine ulk ?_;(repeat first|with_reducible refine kp [0,1,2,3,4,80] ?_|simp only[kV,simprocAttr,csV,hI1,hI2]|refine aN ?_);(try simp only[kV,simprocAttr,csV,hI1,hI2,eh,en,hgI]);refine ulk ?_;(repeat first|with_reducible refine kp [0,1,2,3,4,18,19,140] ?_|simp only[kV,simprocAttr,csV,hI1,hI2,eh,en,hgI]|refine aN ?_);refine ulk ?_;(repeat first|simp only[kV,simprocAttr,csV,hgI]|refine aN ?_);refine kp [0,1,2,3,4,18,19,20] ?_;(repeat first|simp only[kV,simprocAttr,csV,hgI]|refine aN ?_);exact⟨_,(Sub.toG [0,1,2,3,4,18,19,20,21] []),tY rD l l2 l3 l4 lt cz hc _ s0 s mid e b r0 n s0 r0 rfl hN2 hN hN4 hN0 hN1 hb hn he hs hs0 (by omega) (by omega) (by omega) (by omega) (by omega) q1 q2 k1 k2 h1 h2⟩
theorem ig {f:FuncId}{l l':List Tm}{ds:List D} (hf:f<LB) (h0:ds[0]? = some (LM l)) (hl:0<l.length) (hl':l'.length=l.length) (h:dF Tryz.prog AN f 0 ds TT 8 (l.map tI) (.tup []) (l'.map tI)):du Tryz.prog AN f 0 ds TT 8 (l.map tI) (.tup []) (l'.map tI):=
 ⟨hf,by decide,h0,by simp[hl'],fun e=>absurd e (jy hl),fun _=>h⟩
theorem LT (rD:D) (lt:Tm→Tm→Bool) (cz:Tm→Tm→Int) (ho:Ord (aI lt)):∀(k:Nat) (l:List Tm) (a m b:Nat),b-a≤k→Cmp rD l lt cz→l.length≤1000000000→a<m→m<b→b≤l.length→Srt (aI lt) l a m→Srt (aI lt) l m b →
  ∃l',Srt (aI lt) l' a b∧Pm l l' a b∧dH rD l a m b l':=by
 intro k;induction k with
 |zero=>intro l a m b hk _ _ h1 h2;omega
 |succ k ih =>
  intro l a m b hk hc hl h1 h2 h3 s1 s2;have lt_or:∀x y,aI lt x y∨¬ aI lt x y:=fun x y=>Classical.em _
  by_cases c1:m=a+1
  ·-- one element ahead
   obtain⟨t1,t2,t3,t4⟩:=js (P:=fun h=>lt (Sy.at_ l h) (Sy.at_ l a)) (b-m) m b (z95 _) (by omega) fun c d g1 g2 g3 g4=>by
    by_cases e:d=c
    ·rw[e];exact g4
    ·refine Classical.byContradiction fun hn => ?_
     have hle:aI lt (Sy.at_ l a) (Sy.at_ l d):=by unfold aI;simpa using hn
     have:=ho.trans _ _ _ hle (s2 d c (by omega) (by omega) g3);unfold aI at this;rw[g4] at this;cases this
   obtain⟨s,hs⟩:∃s,Sy.bs (fun h=>lt (Sy.at_ l h) (Sy.at_ l a)) m b=s:=⟨_,rfl⟩
   rw[hs] at t1 t2 t3 t4;have hr:=lq l (a:=a) (m:=m) (b:=s) (by omega) (by omega) (by omega);subst c1;refine⟨de l a (a+1) s,Wy ho hr (by omega) t2 s2 (fun k g1 g2=>(ro _ _).1 (t3 k g1 g2)) (fun k g1 g2=>t4 k g1 g2),(hr.pm (by omega) (by omega) (by omega)).mono (by omega) t2,?_⟩;exact ig (by decide) rfl (by omega) (jt l (by omega) (by omega) (by omega)) (WM rD l lt cz hc a (a+1) b s rfl h2 h3 hl hs t1 t2)
  ·by_cases c2:b=m+1
   ·obtain⟨t1,t2,t3,t4⟩:=js (P:=fun h => !lt (Sy.at_ l m) (Sy.at_ l h)) (m-a) a m (z95 _) (by omega) fun c d g1 g2 g3 g4=>by
     by_cases e:d=c
     ·rw[e];exact g4
     ·have g5:aI lt (Sy.at_ l c) (Sy.at_ l m):=by unfold aI;simpa using g4
      have:=ho.trans _ _ _ (s1 d c (by omega) (by omega) g3) g5;unfold aI at this;show (!lt (Sy.at_ l m) (Sy.at_ l d))=true
      rw[this];rfl
    obtain⟨s,hs⟩:∃s,Sy.bs (fun h => !lt (Sy.at_ l m) (Sy.at_ l h)) a m=s:=⟨_,rfl⟩
    rw[hs] at t1 t2 t3 t4;have hr:=lq l (a:=s) (m:=m) (b:=b) (by omega) (by omega) (by omega);subst c2;refine⟨de l s m (m+1),Wz ho hr t1 t2 s1 (fun k g1 g2=>by have:=t3 k g1 g2;unfold aI;simpa using this) (fun k g1 g2=>by
     have:=t4 k g1 g2;unfold aI;simpa using this),(hr.pm (by omega) (by omega) (by omega)).mono t1 (by omega),?_⟩
    exact ig (by decide) rfl (by omega) (jt l (by omega) (by omega) (by omega)) (WN rD l lt cz hc a m (m+1) s (by omega) rfl h3 hl hs t1 t2)
   ·-- the long way
    obtain⟨mid,hmid⟩:∃mid,mid=(a+b) / 2:=⟨_,rfl⟩
    obtain⟨n,hn⟩:∃n,n=mid+m:=⟨_,rfl⟩
    obtain⟨s0,r0,hx1,hx2⟩:∃s0 r0:Nat,(mid<m→s0+b=n∧r0=mid)∧(¬ mid<m→s0=a∧r0=m):=by
     by_cases g:mid<m
     ·exact⟨n-b,mid,fun _=>⟨by omega,rfl⟩,fun h=>absurd g h⟩
     ·exact⟨a,m,fun h=>absurd h g,fun _=>⟨rfl,rfl⟩⟩
    have hb0:a≤s0∧s0≤r0∧r0≤m∧r0≤mid∧n≤b+s0∧mid<b:=by
     by_cases g:mid<m
     ·obtain⟨f1,f2⟩:=hx1 g;omega
     ·obtain⟨f1,f2⟩:=hx2 g;omega
    obtain⟨b1,b2,b3,b4,b5,b6⟩:=hb0;obtain⟨t1,t2,t3,t4⟩:=js (P:=fun c => !lt (Sy.at_ l (n-1-c)) (Sy.at_ l c)) (r0-s0) s0 r0 (z95 _) b2 fun c d g1 g2 g3 g4=>by
     have g5:aI lt (Sy.at_ l c) (Sy.at_ l (n-1-c)):=by unfold aI;simpa using g4
     have:=WD ho s1 s2 (n:=n) (c:=c) (d:=d) (by omega) g2 (by omega) (by omega) (by omega) g5;unfold aI at this;show (!lt (Sy.at_ l (n-1-d)) (Sy.at_ l d))=true
     rw[this];rfl
    obtain⟨s,hs⟩:∃s,Sy.bs (fun c => !lt (Sy.at_ l (n-1-c)) (Sy.at_ l c)) s0 r0=s:=⟨_,rfl⟩
    rw[hs] at t1 t2 t3 t4;obtain⟨e,he⟩:∃e,e+s=n:=⟨n-s,by omega⟩
    have hcut:Cut (aI lt) l n s0 s r0:=⟨fun c g1 g2=>by have:=t3 c g1 g2;unfold aI;simpa using this,fun c g1 g2=>by
     have:=t4 c g1 g2;unfold aI;simpa using this⟩
    have hme:m≤e:=by omega
    have heb:e≤b:=by omega
    have hr:=lq l (a:=s) (m:=m) (b:=e) (by omega) hme (by omega);have hml:=WB ho (a:=a) (b:=b) (mid:=mid) s1 s2 hn he hr hcut t1 t2 (by omega) (by omega) hme heb (fun g=>by
     by_cases q:mid<m
     ·obtain⟨f1,f2⟩:=hx1 q;omega
     ·obtain⟨f1,f2⟩:=hx2 q;omega) (fun g=>by
     by_cases q:mid<m
     ·obtain⟨f1,f2⟩:=hx1 q;omega
     ·obtain⟨f1,f2⟩:=hx2 q;omega)
    obtain⟨m1,m2,m3,m4,m5⟩:=hml;have hlen2:(de l s m e).length=l.length:=jt l (by omega) hme (by omega);have hp2:Pm l (de l s m e) a b:=(hr.pm (by omega) hme (by omega)).mono (by omega) heb;have hc2:Cmp rD (de l s m e) lt cz:=hc.perm hp2.perm;generalize hl2:de l s m e=l2 at *;obtain⟨l3,p1,p2,p3,p4⟩:∃l3,Srt (aI lt) l3 a mid∧Pm l2 l3 a mid∧(a<s∧s<mid→dH rD l2 a s mid l3)∧(¬ (a<s∧s<mid)→l3=l2):=by
     by_cases g:a<s∧s<mid
     ·obtain⟨l3,x1,x2,x3⟩:=ih l2 a s mid (by omega) hc2 (by omega) g.1 g.2 (by omega) m1 m2;exact⟨l3,x1,x2,fun _=>x3,fun h=>absurd g h⟩
     ·refine⟨l2,?_,Pm.rf _ _ _,fun h=>absurd h g,fun _=>rfl⟩;rcases z8V a s with x | x
      ·rw[show mid=s by omega];exact m1
      ·rw[show a=s by omega];exact m2
    have hlen3:=p2.len;have hc3:Cmp rD l3 lt cz:=hc2.perm p2.perm;have m3':Srt (aI lt) l3 mid e:=m3.congr fun i g1 g2=>p2.out i (.inr g1)
    have m4':Srt (aI lt) l3 e b:=m4.congr fun i g1 g2=>p2.out i (by omega)
    obtain⟨l4,r1,r2,r3,r4⟩:∃l4,Srt (aI lt) l4 mid b∧Pm l3 l4 mid b∧(mid<e∧e<b→dH rD l3 mid e b l4)∧(¬ (mid<e∧e<b)→l4=l3):=by
     by_cases g:mid<e∧e<b
     ·obtain⟨l4,x1,x2,x3⟩:=ih l3 mid e b (by omega) hc3 (by omega) g.1 g.2 (by omega) m3' m4';exact⟨l4,x1,x2,fun _=>x3,fun h=>absurd g h⟩
     ·refine⟨l3,?_,Pm.rf _ _ _,fun h=>absurd h g,fun _=>rfl⟩;rcases z8V mid e with x | x
      ·rw[show b=e by omega];exact m3'
      ·rw[show mid=e by omega];exact m4'
    have hlen4:=r2.len;obtain⟨z1,z2⟩:=WC (by omega) (by omega) (by omega) m5 p1 p2 r1 r2;refine⟨l4,z1,hp2.tr z2,ig (by decide) rfl (by omega) (by omega) ?_⟩;refine LS rD l l2 l3 l4 lt cz hc _ a s mid e b m n s0 r0 (by omega) (by omega) hmid rfl (by omega) (by omega) (by omega) (by omega) hl h3 hn he hs b2 hx1 hx2 (fun g => ?_) (fun g => ?_) p3 p4 r3 r4
    ·rw[←hl2];exact ig (by decide) rfl (by omega) (jt l (by omega) hme (by omega)) (yU l s m e (cfD rD) (fun h=>by rw[h] at h3;simp at h3;omega) g.1 g.2 (by omega) hl)
    ·rw[←hl2];exact (Rot.eq (Rot.id (l:=l) (a:=s) (m:=m) (b:=e) (by omega) (by omega) hme) (by omega) hme (by omega)).symm
end Go.Proofs.YtbnhgnhgbhjkcaaGreat.M
