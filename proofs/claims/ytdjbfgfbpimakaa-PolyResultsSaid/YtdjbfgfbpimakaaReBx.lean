/- Polynomials: the resultant walked, with sharper sizes. -/
import Derived.Test.YtdjbfgfbpimakaaReAx
namespace Go.Proofs.Ytdjbfgfbpimakaa.M
open Go.RowKit
set_option linter.unusedSimpArgs false
set_option linter.unusedVariables false
set_option linter.defProp false
theorem mul3 (a b c:Nat):a*b+a*c=a*(b+c):=(Nat.mul_add a b c).symm
structure RJ (P Q:List Rat) (e r L c:Nat) (A B:List Rat) (out:Rat):Prop where
 bi:∃ U0 U1,BI P Q e r L A B U0 U1
 a0:A≠[]
 b0:B≠[]
 ev:out*resQ A B=resQ P Q
 hc:c=gS e r L+1
 dA:Bq (c*(2*(L+1-A.length))) (ld A)
 dB:Bq (c*(2*(L+1-B.length))) (ld B)
 ob:Bq (1+c*(2*((L+1-A.length)*(L+1-B.length)))) out
theorem RJ.start {P Q:List Rat} (nP:Nf P) (nQ:Nf Q) {e r L c:Nat} (hP:Sz e P) (hQ:Sz e Q) (h1:P.length≤L) (h2:Q.length≤L) (p0:P≠[]) (q0:Q≠[]) (hc:c=gS e r L+1):RJ P Q e r L c P Q 1:=by
 have hg:=gS_le e r L
 have hd:∀ a,a≤L→e+1≤c*(2*(L+1-a)):=fun a ha=>Nat.le_trans (show e+1≤c*1 by omega) (Nat.mul_le_mul_left _ (by omega))
 exact⟨⟨_,_,BI.start nP nQ hP hQ h1 h2 q0⟩,p0,q0,by grind,hc,hP.ld.mono (hd _ h1),hQ.ld.mono (hd _ h2),bq_1 _ (by omega)⟩
theorem RJ.swap {P Q A B:List Rat} {e r L c:Nat} {out:Rat} (nP:Nf P) (nQ:Nf Q) (hP:Sz e P) (hQ:Sz e Q) (h1:P.length≤L) (h2:Q.length≤L) (hr:L≤2^r) (h:RJ P Q e r L c A B out) (hlt:A.length<B.length) :
  RJ P Q e r L c B A (sg ((A.length-1)*(B.length-1))*out):=by
 obtain⟨U0,U1,b⟩:=h.bi
 have hb:=b.next nP nQ hP hQ h1 h2 hr h.b0
 rw[(nil_div b.nA b.nB hlt).2] at hb
 refine⟨⟨_,_,hb⟩,h.b0,h.a0,?_,h.hc,h.dB,h.dA,?_⟩
 ·have h3:=h.ev
  rw[res_swap h.a0 h.b0,←Rat.mul_assoc,Rat.mul_comm out] at h3
  exact h3
 ·rw[Nat.mul_comm (L+1-B.length)]
  exact sg_bq h.ob _
theorem RJ.dR {P Q A B:List Rat} {e r L c:Nat} {out:Rat} (h:RJ P Q e r L c A B out) (hle:B.length≤A.length):Bq (c*(2*(L+1-(remQ A B).length))) (ld (remQ A B)):=by
 obtain⟨U0,U1,b⟩:=h.bi
 have hlt:=(dvSpec b.nB h.b0 A).lt
 have hlA:=b.lA
 have h1:=(rem_scl (A:=monQ A) b.nB h.b0 (ld A)).2
 rw[mon_back b.nA] at h1
 obtain⟨s1,_⟩:=dv_sz b.nB h.b0 b.sA b.sB h.dB (S:=A.length+1-B.length) (by rw[mon_len_eq b.nA];omega)
 have h2:ld (remQ A B)=cf (remQ (monQ A) B) ((remQ A B).length-1)*ld A:=by
  have:=cf_scl (remQ (monQ A) B) (ld A) ((remQ A B).length-1)
  rw[←h1] at this
  exact this
 rw[h2]
 refine Bq.mono ((s1.bl (Nat.lt_add_one _) _).mul h.dA) ?_
 rw[←h.hc]
 have e1:gS e r L+c*(A.length+1-B.length)+1=c*(A.length+2-B.length):=by
  rw[show A.length+2-B.length=(A.length+1-B.length)+1 by omega,Nat.mul_succ,h.hc];omega
 rw[e1,mul3]
 exact Nat.mul_le_mul_left _ (by omega)
theorem RJ.next {P Q A B:List Rat} {e r L c:Nat} {out:Rat} (nP:Nf P) (nQ:Nf Q) (hP:Sz e P) (hQ:Sz e Q) (h1:P.length≤L) (h2:Q.length≤L) (hr:L≤2^r) (h:RJ P Q e r L c A B out) (hle:B.length≤A.length) (hR:remQ A B≠[]) :
  RJ P Q e r L c B (remQ A B) (sg ((A.length-1)*(B.length-1))*out*M.ld B^(A.length-(remQ A B).length)):=by
 have hdR:=h.dR hle
 obtain⟨U0,U1,b⟩:=h.bi
 have hd:=dvSpec b.nB h.b0 A
 have hlt:=hd.lt
 have lA:=b.lA
 have lB:=b.lB
 refine⟨⟨_,_,b.next nP nQ hP hQ h1 h2 hr h.b0⟩,h.b0,hR,?_,h.hc,h.dB,hdR,?_⟩
 ·have h3:=h.ev
  rw[res_step hd b.nB h.b0 hle hR] at h3
  rw[←h3];grind
 ·have h4:=(sg_bq h.ob ((A.length-1)*(B.length-1))).mul (h.dB.pow1 (s:=A.length-(remQ A B).length) (by omega))
  refine h4.mono ?_
  obtain⟨u,hu⟩:∃ u,u=L+1-A.length:=⟨_,rfl⟩
  obtain⟨v,hv⟩:∃ v,v=L+1-B.length:=⟨_,rfl⟩
  obtain⟨s,hs⟩:∃ s,s=A.length-(remQ A B).length:=⟨_,rfl⟩
  rw[←hu,←hv,←hs,show L+1-(remQ A B).length=u+s by omega,Nat.mul_assoc c,Nat.add_assoc,mul3,show 2*(u*v)+2*v*s=2*(v*(u+s)) by grind]
  exact Nat.le_refl _
theorem RJ.zero {P Q A B:List Rat} {e r L c:Nat} {out:Rat} (h:RJ P Q e r L c A B out) (hle:B.length≤A.length) (h2:¬ B.length=1) (hR:remQ A B=[]):resQ P Q=0:=by
 obtain⟨U0,U1,b⟩:=h.bi
 have hd:=dvSpec b.nB h.b0 A
 have hl:=List.length_pos_iff.2 h.b0
 rw[hR] at hd
 rw[←h.ev,res_zero hd b.nB (by omega) hle];grind
theorem RJ.const {P Q A B:List Rat} {e r L c:Nat} {out:Rat} (h:RJ P Q e r L c A B out) (h2:B.length=1):out*cf B 0^(A.length-1)=resQ P Q:=by
 rw[←h.ev,res_const h.a0 h2]
structure ResT (P Q:List Rat) (e r L n:Nat):Prop where
 nP:Nf P
 nQ:Nf Q
 hP:Sz e P
 hQ:Sz e Q
 l1:P.length≤L
 l2:Q.length≤L
 hr:L≤2^r
 hL:L≤900
 L1:1≤L
 hn:12+(gS e r L+1)*(2*(L*L)+6*L+10)<n
 nb:n≤big
theorem RJ.ldB {P Q A B:List Rat} {e r L c:Nat} {out:Rat} (h:RJ P Q e r L c A B out):Bq (c*(2*L)) (ld A)∧Bq (c*(2*L)) (ld B):=by
 have h1:=List.length_pos_iff.2 h.a0
 have h2:=List.length_pos_iff.2 h.b0
 exact⟨h.dA.mono (Nat.mul_le_mul_left _ (by omega)),h.dB.mono (Nat.mul_le_mul_left _ (by omega))⟩
theorem RJ.dv {P Q A B:List Rat} {e r L c n:Nat} {out:Rat} (hs:ResT P Q e r L n) (h:RJ P Q e r L c A B out) :
  Con Try.prog AN 41 [pI A,pI B] (.tup [pI (quoQ A B),pI (remQ A B),flt 0 0])∧(remQ A B).length<B.length:=by
 obtain⟨U0,U1,b⟩:=h.bi
 have hL:=hs.hL
 have L1:=hs.L1
 have lA:=b.lA
 have lB:=b.lB
 have hn:=hs.hn
 have hc:=h.hc
 rw[←hc] at hn
 have hg:1≤gS e r L:=by unfold gS;omega
 have h4:c*(2*L)+c*(2*L)+c*(L+1)+c*9=c*(5*L+10):=by rw[mul3,mul3,mul3];congr 1;omega
 have h5:c*(5*L+10)≤c*(2*(L*L)+6*L+10):=Nat.mul_le_mul_left _ (by omega)
 have h6:10≤c*(2*L)+10:=by omega
 have h7:c*1≤c*9:=Nat.mul_le_mul_left _ (by omega)
 have h8:(gS e r L+1)*(L+1)=c*(L+1):=by rw[hc]
 exact⟨dvi_con b.nA b.nB h.b0 (b.sA.back b.nA h.ldB.1) b.sB (h.ldB.2.mono (show c*(2*L)≤c*(2*L)+10 by omega)) (S:=L+1) (by omega) (by omega) (by omega) (n:=n) (by omega) (by omega) hs.nb (by omega) (by omega),(dvSpec b.nB h.b0 A).lt⟩
theorem RJ.bq {P Q:List Rat} {e r L n:Nat} (hs:ResT P Q e r L n) {c:Nat}:∀ (N:Nat) {A B:List Rat} {out:Rat},A.length+2*B.length≤N→RJ P Q e r L c A B out→Bq (2+c*(2*(L*L))) (resQ P Q)
 | 0,A,B,out,hN,h=>absurd (List.length_pos_iff.2 h.a0) (by omega)
 | N+1,A,B,out,hN,h=>by
  by_cases h1:B.length=1
  ·rw[←h.const h1]
   have lA:A.length≤L:=by obtain⟨U0,U1,b⟩:=h.bi;exact b.lA
   have hA:=List.length_pos_iff.2 h.a0
   have h2:=h.dB
   unfold M.ld at h2
   rw[h1] at h2
   have h3:=h.ob
   rw[h1,Nat.add_sub_cancel] at h3
   rw[Nat.add_sub_cancel] at h2
   refine (h3.mul (h2.pow _)).mono ?_
   have h4:c*(2*((L+1-A.length)*L))+c*(2*L)*(A.length-1)=c*(2*(L*L)):=by
    obtain⟨u,hu⟩:∃ u,u=L+1-A.length:=⟨_,rfl⟩
    obtain⟨k,hk⟩:∃ k,k=A.length-1:=⟨_,rfl⟩
    rw[←hu,←hk,Nat.mul_assoc c,mul3]
    congr 1
    rw[Nat.mul_assoc 2,mul3]
    congr 1
    rw[Nat.mul_comm u,mul3]
    congr 1
    omega
   omega
  ·by_cases h2:A.length<B.length
   ·exact RJ.bq hs N (by omega) (h.swap hs.nP hs.nQ hs.hP hs.hQ hs.l1 hs.l2 hs.hr h2)
   ·by_cases hR:remQ A B=[]
    ·rw[h.zero (by omega) h1 hR];exact Bq.zero _ (by omega)
    ·have hlt:=(h.dv hs).2
     exact RJ.bq hs N (by omega) (h.next hs.nP hs.nQ hs.hP hs.hQ hs.l1 hs.l2 hs.hr (by omega) hR)
theorem ResT.bqs {P Q:List Rat} {e r L n:Nat} (hs:ResT P Q e r L n):Bq (2+(gS e r L+1)*(2*(L*L))) (resQ P Q):=by
 by_cases h0:P=[]∨Q=[]
 ·rw[show resQ P Q=0 from if_pos h0];exact Bq.zero _ (by omega)
 ·exact RJ.bq hs _ (Nat.le_refl _) (RJ.start hs.nP hs.nQ hs.hP hs.hQ hs.l1 hs.l2 (fun h=>h0 (.inl h)) (fun h=>h0 (.inr h)) rfl)
theorem ResT.bq {P Q:List Rat} {e r L n:Nat} (hs:ResT P Q e r L n):Bq n (resQ P Q):=by
 by_cases h0:P=[]∨Q=[]
 ·rw[show resQ P Q=0 from if_pos h0];exact Bq.zero _ (by have:=hs.hn;omega)
 ·refine (RJ.bq hs _ (Nat.le_refl _) (RJ.start hs.nP hs.nQ hs.hP hs.hQ hs.l1 hs.l2 (fun h=>h0 (.inl h)) (fun h=>h0 (.inr h)) rfl)).mono ?_
  have h1:=hs.hn
  have h2:(gS e r L+1)*(2*(L*L))≤(gS e r L+1)*(2*(L*L)+6*L+10):=Nat.mul_le_mul_left _ (by omega)
  omega
set_option maxHeartbeats 8000000 in
theorem resT_con {P Q:List Rat} {e r L n:Nat} (hs:ResT P Q e r L n):Con Try.prog AN 9 [pI P,pI Q] (qI (resQ P Q)):=by
 have hL:=hs.hL
 have L1:=hs.L1
 have hnb:=hs.nb
 have hn:=hs.hn
 obtain⟨c,hc⟩:∃ c,c=gS e r L+1:=⟨_,rfl⟩
 rw[←hc] at hn
 by_cases h0:P=[]∨Q=[]
 ·have hq:resQ P Q=0:=if_pos h0
  rw[hq]
  refine fn9.con rfl (by simp) ?_
  simp only[c9,c9_82,c9_1,l9_0,csP,init2,cw,csW,apartV,bne,cops,reduceCtorEq,Nat.reduceEqDiff]
  refine keep [2,3,4] ?_
  simp only[c9_81,c9_5,l9_2,csW,reduceCtorEq,Nat.reduceEqDiff,cw,apartV,bne,cops]
  refine⟨_,cOf 1 (by omega),?_⟩
  simp only[l9_3,cops,csW,Nat.reduceEqDiff]
  refine⟨_,qWhole 1 n (bq_one (by omega)).1 hnb,?_⟩
  simp only[l9_4,csP,rat_one,cops,csW,Nat.reduceEqDiff,Nat.reduceAdd]
  refine keep [2,3,4,5] ?_
  simp only[c9_80,csW,Nat.reduceEqDiff,cw]
  refine loop_of (ι:=Nat) (fun i=>i≤0) (fun i=>⟨look [(2,.ptr 2 0 0),(3,.ptr 3 0 0),(4,.ptr 4 0 0),(5,.ptr 5 0 0)],
   lookM [(2,⟨25,1,.box (.p (pI P)),false⟩),(3,⟨25,1,.box (.p (pI Q)),false⟩),(4,⟨39,4,.box (.p (qI 0)),false⟩),(5,⟨39,4,.box (.p (qI 1)),false⟩)]⟩) (fun i=>i) 0 (by omega) (Sub.toG [2,3,4,5] [6,7,8] (by rfl) (by rfl) (by rfl) (by rfl)) ?_
  rintro i hi
  by_cases p0:P=[]
  ·have hI:(P.length:Int)=0:=by rw[p0];rfl
   simp only[c9_78,c9_77,c9_12,c9_7,l9_6,cw,csW,apartV,bne,cops,csP,Nat.reduceEqDiff,hI]
   refine keep [2,3,4,5,20] ?_
   simp only[c9_11,csW,Nat.reduceEqDiff,cw]
   simp only[c9_10,c9_9,l9_8,cw,csW,apartV,bne,cops,csP,Nat.reduceEqDiff,Nat.reduceAdd]
   refine keep [4] ?_
   simp only[Ends,resD,resL,resV,csW,Nat.reduceEqDiff,csP,Nat.reduceAdd]
  ·have q0:Q=[]:=h0.resolve_left p0
   have hI:¬ (P.length:Int)=0:=by have:=List.length_pos_iff.2 p0;omega
   have hJ:(Q.length:Int)=0:=by rw[q0];rfl
   simp only[c9_78,c9_77,c9_12,c9_7,l9_6,cw,csW,apartV,bne,cops,csP,Nat.reduceEqDiff,hI,hJ]
   refine keep [2,3,4,5,20] ?_
   simp only[c9_11,csW,Nat.reduceEqDiff,cw]
   simp only[c9_10,c9_9,l9_8,cw,csW,apartV,bne,cops,csP,Nat.reduceEqDiff,Nat.reduceAdd]
   refine keep [4] ?_
   simp only[Ends,resD,resL,resV,csW,Nat.reduceEqDiff,csP,Nat.reduceAdd]
 ·have p0:P≠[]:=fun h=>h0 (.inl h)
  have q0:Q≠[]:=fun h=>h0 (.inr h)
  refine fn9.con rfl (by simp) ?_
  simp only[c9,c9_82,c9_1,l9_0,csP,init2,cw,csW,apartV,bne,cops,reduceCtorEq,Nat.reduceEqDiff]
  refine keep [2,3,4] ?_
  simp only[c9_81,c9_5,l9_2,csW,reduceCtorEq,Nat.reduceEqDiff,cw,apartV,bne,cops]
  refine⟨_,cOf 1 (by omega),?_⟩
  simp only[l9_3,cops,csW,Nat.reduceEqDiff]
  refine⟨_,qWhole 1 n (bq_one (by omega)).1 hnb,?_⟩
  simp only[l9_4,csP,rat_one,cops,csW,Nat.reduceEqDiff,Nat.reduceAdd]
  refine keep [2,3,4,5] ?_
  simp only[c9_80,csW,Nat.reduceEqDiff,cw]
  refine loop_of (ι:=List Rat × List Rat × Rat) (fun x=>RJ P Q e r L c x.1 x.2.1 x.2.2) (fun x=>⟨look [(2,.ptr 2 0 0),(3,.ptr 3 0 0),(4,.ptr 4 0 0),(5,.ptr 5 0 0)],
   lookM [(2,⟨25,1,.box (.p (pI x.1)),false⟩),(3,⟨25,1,.box (.p (pI x.2.1)),false⟩),(4,⟨39,4,.box (.p (qI 0)),false⟩),(5,⟨39,4,.box (.p (qI x.2.2)),false⟩)]⟩) (fun x=>x.1.length+2*x.2.1.length) (P,Q,1) (RJ.start hs.nP hs.nQ hs.hP hs.hQ hs.l1 hs.l2 p0 q0 hc) (Sub.toG [2,3,4,5] [6,7,8] (by rfl) (by rfl) (by rfl) (by rfl)) ?_
  rintro⟨A,B,out⟩ hi
  replace hi:RJ P Q e r L c A B out:=hi
  have hsw:=hi.swap hs.nP hs.nQ hs.hP hs.hQ hs.l1 hs.l2 hs.hr
  have hnx:=hi.next hs.nP hs.nQ hs.hP hs.hQ hs.l1 hs.l2 hs.hr
  obtain⟨hdv,hlt⟩:=hi.dv hs
  obtain⟨lA,lB⟩:A.length≤L∧B.length≤L:=by obtain⟨U0,U1,b⟩:=hi.bi;exact⟨b.lA,b.lB⟩
  obtain⟨dA,eA⟩:∃ d,A.length=d+1:=⟨A.length-1,by have:=List.length_pos_iff.2 hi.a0;omega⟩
  obtain⟨dB,eB⟩:∃ d,B.length=d+1:=⟨B.length-1,by have:=List.length_pos_iff.2 hi.b0;omega⟩
  rw[eA,eB,Nat.add_sub_cancel,Nat.add_sub_cancel] at hsw hnx
  have eAi:(A.length:Int)-1=(dA:Int):=by omega
  have eBi:(B.length:Int)-1=(dB:Int):=by omega
  have hI:¬ (A.length:Int)=0:=by omega
  have hJ:¬ (B.length:Int)=0:=by omega
  have h2D:c*(2*((L+1-A.length)*(L+1-B.length)))≤c*(2*(L*L)):=Nat.mul_le_mul_left _ (Nat.mul_le_mul_left _ (Nat.mul_le_mul (by omega) (by omega)))
  have h3D:c*(2*(L*L)+6*L+10)=c*(2*(L*L))+c*(6*L+10):=by rw[mul3];congr 1
  have hLL:c*(2*L)≤c*(6*L+10):=Nat.mul_le_mul_left _ (by omega)
  have ho:Bq n out:=hi.ob.mono (by omega)
  have ho':=sg_bq ho (dA*dB)
  obtain⟨pr0,pr1⟩:=prII (a:=dA) (b:=dB) (L:=L) (by omega) (by omega) hL
  have hpow:∀ i,i≤L→Bq n (M.ld B^i):=fun i hi'=>(hi.ldB.2.pow i).mono (by
   have:c*(2*L)*i≤c*(2*(L*L)):=by
    rw[Nat.mul_assoc c,Nat.mul_assoc 2]
    exact Nat.mul_le_mul_left _ (Nat.mul_le_mul_left _ (Nat.mul_le_mul_left _ hi'))
   omega)
  have hlB:Bq n (M.ld B):=hi.ldB.2.mono (by omega)
  by_cases h1:B.length=1
  ·have hK:(dB:Int)=0:=by omega
   have hc:=hi.const h1
   have hlB':M.ld B=cf B 0:=by unfold M.ld;rw[h1]
   rw[hlB'] at hpow hlB
   rw[eA,Nat.add_sub_cancel] at hc
   have hmul:=qMul out (cf B 0^dA) n ho (hpow _ (by omega)) hnb
   rw[hc] at hmul
   have h0B:0<B.length:=by omega
   simp only[c9_78,c9_77,c9_12,c9_7,l9_6,cw,csW,apartV,bne,cops,csP,Nat.reduceEqDiff,hI,hJ]
   refine keep [2,3,4,5,20] ?_
   simp only[c9_11,csW,Nat.reduceEqDiff,cw]
   refine keep [2,3,4,5] ?_
   simp only[c9_76,c9_23,c9_15,l9_13,csW,Nat.reduceEqDiff,cw,apartV,bne,cops,csP]
   refine⟨_,degree_con B (by omega),?_⟩
   simp only[l9_14,eBi,hK,cops,csW,Nat.reduceEqDiff]
   refine keep [2,3,4,5,24] ?_
   simp only[c9_22,csW,Nat.reduceEqDiff,cw]
   simp only[c9_21,c9_20,l9_16,csW,cw,apartV,bne,cops,csP,Nat.reduceEqDiff,Nat.reduceAdd]
   refine⟨_,degree_con A (by omega),?_⟩
   simp only[l9_17,eAi,cops,csW,csP,Nat.reduceLT,Nat.reduceEqDiff,getD_q h0B,Nat.reduceAdd]
   (repeat refine And.intro (by first | omega | (simp;omega)) ?_)
   refine⟨_,fpow_con (cf B 0) dA n (fun i hi=>hpow i (by omega)) hlB hnb (by omega) (by omega),?_⟩
   simp only[l9_18,cops,csW,Nat.reduceEqDiff]
   refine⟨_,hmul,?_⟩
   simp only[l9_19,cops,csW,Nat.reduceEqDiff,csP,Nat.reduceAdd]
   refine keep [4] ?_
   simp only[Ends,resD,resL,resV,csW,Nat.reduceEqDiff,csP,Nat.reduceAdd]
  ·have hK:¬ (dB:Int)=0:=by omega
   by_cases h2:A.length<B.length
   ·have hM:(dA:Int)<(dB:Int):=by omega
    have hx:=hsw (by omega)
    by_cases hp:dA*dB % 2=1
    ·have hP:=par1 hp
     rw[sg_neg hp] at hx
     simp only[c9_78,c9_77,c9_12,c9_7,l9_6,cw,csW,apartV,bne,cops,csP,Nat.reduceEqDiff,hI,hJ]
     refine keep [2,3,4,5,20] ?_
     simp only[c9_11,csW,Nat.reduceEqDiff,cw]
     refine keep [2,3,4,5] ?_
     simp only[c9_76,c9_23,c9_15,l9_13,csW,Nat.reduceEqDiff,cw,apartV,bne,cops,csP]
     refine⟨_,degree_con B (by omega),?_⟩
     simp only[l9_14,eBi,cops,csW,Nat.reduceEqDiff,hK]
     refine keep [2,3,4,5,24] ?_
     simp only[c9_22,csW,Nat.reduceEqDiff,cw]
     refine keep [2,3,4,5] ?_
     simp only[c9_75,c9_42,c9_27,l9_24,csW,Nat.reduceEqDiff,cw,apartV,bne,cops,csP]
     refine⟨_,degree_con A (by omega),?_⟩
     simp only[l9_25,eAi,cops,csW,Nat.reduceEqDiff,csP]
     refine⟨_,degree_con B (by omega),?_⟩
     simp only[l9_26,eBi,cops,csW,Nat.reduceEqDiff,hM]
     refine keep [2,3,4,5,38] ?_
     simp only[c9_41,csW,Nat.reduceEqDiff,cw]
     simp only[c9_40,c9_36,c9_31,l9_28,csW,cw,apartV,bne,cops,Nat.reduceEqDiff,csP]
     refine⟨_,degree_con A (by omega),?_⟩
     simp only[l9_29,eAi,cops,csW,Nat.reduceEqDiff,csP]
     refine⟨_,degree_con B (by omega),?_⟩
     simp only[l9_30,eBi,cops,csW,Nat.reduceEqDiff,hP]
     (repeat refine And.intro (by first | omega | (simp;omega)) ?_)
     refine keep [2,3,4,5,45] ?_
     simp only[c9_35,csW,Nat.reduceEqDiff,cw]
     simp only[c9_34,l9_32,csW,cw,apartV,bne,cops,Nat.reduceEqDiff,csP,Nat.reduceAdd]
     refine⟨_,qNeg out n ho hnb,?_⟩
     simp only[l9_33,cops,csW,Nat.reduceEqDiff,csP,Nat.reduceAdd]
     refine keep [2,3,4,5] ?_
     simp only[c9_39,c9_38,l9_37,csW,Nat.reduceEqDiff,cw,apartV,bne,cops,reduceCtorEq,csP]
     refine keep [2,3,4,5] ?_
     simp only[csW,Nat.reduceEqDiff]
     exact⟨(B,A,-out),hx,(Sub.toG [2,3,4,5] [6,7,8] (by rfl) (by rfl) (by rfl) (by rfl)),by simp only;omega⟩
    ·have hP:=par0 hp
     rw[sg_pos hp] at hx
     simp only[c9_78,c9_77,c9_12,c9_7,l9_6,cw,csW,apartV,bne,cops,csP,Nat.reduceEqDiff,hI,hJ]
     refine keep [2,3,4,5,20] ?_
     simp only[c9_11,csW,Nat.reduceEqDiff,cw]
     refine keep [2,3,4,5] ?_
     simp only[c9_76,c9_23,c9_15,l9_13,csW,Nat.reduceEqDiff,cw,apartV,bne,cops,csP]
     refine⟨_,degree_con B (by omega),?_⟩
     simp only[l9_14,eBi,cops,csW,Nat.reduceEqDiff,hK]
     refine keep [2,3,4,5,24] ?_
     simp only[c9_22,csW,Nat.reduceEqDiff,cw]
     refine keep [2,3,4,5] ?_
     simp only[c9_75,c9_42,c9_27,l9_24,csW,Nat.reduceEqDiff,cw,apartV,bne,cops,csP]
     refine⟨_,degree_con A (by omega),?_⟩
     simp only[l9_25,eAi,cops,csW,Nat.reduceEqDiff,csP]
     refine⟨_,degree_con B (by omega),?_⟩
     simp only[l9_26,eBi,cops,csW,Nat.reduceEqDiff,hM]
     refine keep [2,3,4,5,38] ?_
     simp only[c9_41,csW,Nat.reduceEqDiff,cw]
     simp only[c9_40,c9_36,c9_31,l9_28,csW,cw,apartV,bne,cops,Nat.reduceEqDiff,csP]
     refine⟨_,degree_con A (by omega),?_⟩
     simp only[l9_29,eAi,cops,csW,Nat.reduceEqDiff,csP]
     refine⟨_,degree_con B (by omega),?_⟩
     simp only[l9_30,eBi,cops,csW,Nat.reduceEqDiff,hP]
     (repeat refine And.intro (by first | omega | (simp;omega)) ?_)
     refine keep [2,3,4,5,45] ?_
     simp only[c9_35,csW,Nat.reduceEqDiff,cw]
     refine keep [2,3,4,5] ?_
     simp only[c9_39,c9_38,l9_37,csW,Nat.reduceEqDiff,cw,apartV,bne,cops,reduceCtorEq,csP]
     refine keep [2,3,4,5] ?_
     simp only[csW,Nat.reduceEqDiff]
     exact⟨(B,A,out),hx,(Sub.toG [2,3,4,5] [6,7,8] (by rfl) (by rfl) (by rfl) (by rfl)),by simp only;omega⟩
   ·have hM:¬ (dA:Int)<(dB:Int):=by omega
    by_cases hR:remQ A B=[]
    ·have hz:=hi.zero (by omega) h1 hR
     rw[hR] at hdv
     have hQ0:((([]:List Rat).length:Nat):Int)=0:=rfl
     rw[hz]
     simp only[c9_78,c9_77,c9_12,c9_7,l9_6,cw,csW,apartV,bne,cops,csP,Nat.reduceEqDiff,hI,hJ]
     refine keep [2,3,4,5,20] ?_
     simp only[c9_11,csW,Nat.reduceEqDiff,cw]
     refine keep [2,3,4,5] ?_
     simp only[c9_76,c9_23,c9_15,l9_13,csW,Nat.reduceEqDiff,cw,apartV,bne,cops,csP]
     refine⟨_,degree_con B (by omega),?_⟩
     simp only[l9_14,eBi,cops,csW,Nat.reduceEqDiff,hK]
     refine keep [2,3,4,5,24] ?_
     simp only[c9_22,csW,Nat.reduceEqDiff,cw]
     refine keep [2,3,4,5] ?_
     simp only[c9_75,c9_42,c9_27,l9_24,csW,Nat.reduceEqDiff,cw,apartV,bne,cops,csP]
     refine⟨_,degree_con A (by omega),?_⟩
     simp only[l9_25,eAi,cops,csW,Nat.reduceEqDiff,csP]
     refine⟨_,degree_con B (by omega),?_⟩
     simp only[l9_26,eBi,cops,csW,Nat.reduceEqDiff,hM]
     refine keep [2,3,4,5,38] ?_
     simp only[c9_41,csW,Nat.reduceEqDiff,cw]
     refine keep [2,3,4,5] ?_
     simp only[c9_74,c9_45,l9_43,csW,Nat.reduceEqDiff,cw,apartV,bne,cops,csP]
     refine⟨_,hdv,?_⟩
     simp only[l9_44,csP,cops,csW,Nat.reduceEqDiff,Nat.reduceAdd]
     refine keep [2,3,4,5,7] ?_
     simp only[c9_73,c9_52,c9_47,l9_46,csW,Nat.reduceEqDiff,cw,apartV,bne,cops,csP]
     refine keep [2,3,4,5,7,60] ?_
     simp only[c9_51,csW,Nat.reduceEqDiff,cw]
     simp only[c9_50,c9_49,l9_48,cw,csW,apartV,bne,cops,csP,Nat.reduceEqDiff,Nat.reduceAdd]
     refine keep [4] ?_
     simp only[Ends,resD,resL,resV,csW,Nat.reduceEqDiff,csP,Nat.reduceAdd]
    ·have hx:=hnx (by omega) hR
     obtain⟨R,hRR⟩:∃ R,R=remQ A B:=⟨_,rfl⟩
     rw[←hRR] at hx hdv hR hlt
     obtain⟨dR,eR⟩:∃ d,R.length=d+1:=⟨R.length-1,by have:=List.length_pos_iff.2 hR;omega⟩
     have eRi:(R.length:Int)-1=(dR:Int):=by omega
     have hQ0:¬ (R.length:Int)=0:=by omega
     obtain⟨s,hs2⟩:∃ s,s=dA-dR:=⟨_,rfl⟩
     have hsI:(dA:Int)-(dR:Int)=(s:Int):=by omega
     rw[show dA+1-R.length=s by omega] at hx
     by_cases hp:dA*dB % 2=1
     ·have hP:=par1 hp
      rw[sg_neg hp] at hx ho'
      simp only[c9_78,c9_77,c9_12,c9_7,l9_6,cw,csW,apartV,bne,cops,csP,Nat.reduceEqDiff,hI,hJ]
      refine keep [2,3,4,5,20] ?_
      simp only[c9_11,csW,Nat.reduceEqDiff,cw]
      refine keep [2,3,4,5] ?_
      simp only[c9_76,c9_23,c9_15,l9_13,csW,Nat.reduceEqDiff,cw,apartV,bne,cops,csP]
      refine⟨_,degree_con B (by omega),?_⟩
      simp only[l9_14,eBi,cops,csW,Nat.reduceEqDiff,hK]
      refine keep [2,3,4,5,24] ?_
      simp only[c9_22,csW,Nat.reduceEqDiff,cw]
      refine keep [2,3,4,5] ?_
      simp only[c9_75,c9_42,c9_27,l9_24,csW,Nat.reduceEqDiff,cw,apartV,bne,cops,csP]
      refine⟨_,degree_con A (by omega),?_⟩
      simp only[l9_25,eAi,cops,csW,Nat.reduceEqDiff,csP]
      refine⟨_,degree_con B (by omega),?_⟩
      simp only[l9_26,eBi,cops,csW,Nat.reduceEqDiff,hM]
      refine keep [2,3,4,5,38] ?_
      simp only[c9_41,csW,Nat.reduceEqDiff,cw]
      refine keep [2,3,4,5] ?_
      simp only[c9_74,c9_45,l9_43,csW,Nat.reduceEqDiff,cw,apartV,bne,cops,csP]
      refine⟨_,hdv,?_⟩
      simp only[l9_44,csP,cops,csW,Nat.reduceEqDiff,Nat.reduceAdd]
      refine keep [2,3,4,5,7] ?_
      simp only[c9_73,c9_52,c9_47,l9_46,csW,Nat.reduceEqDiff,cw,apartV,bne,cops,csP,hQ0]
      refine keep [2,3,4,5,7,60] ?_
      simp only[c9_51,csW,Nat.reduceEqDiff,cw]
      refine keep [2,3,4,5,7] ?_
      simp only[c9_72,c9_61,c9_56,l9_53,csW,Nat.reduceEqDiff,cw,apartV,bne,cops,csP]
      refine⟨_,degree_con A (by omega),?_⟩
      simp only[l9_54,eAi,cops,csW,Nat.reduceEqDiff,csP]
      refine⟨_,degree_con B (by omega),?_⟩
      simp only[l9_55,eBi,cops,csW,Nat.reduceEqDiff,hP]
      (repeat refine And.intro (by first | omega | (simp;omega)) ?_)
      refine keep [2,3,4,5,7,68] ?_
      simp only[c9_60,csW,Nat.reduceEqDiff,cw]
      simp only[c9_59,l9_57,csW,cw,apartV,bne,cops,Nat.reduceEqDiff,csP,Nat.reduceAdd]
      refine⟨_,qNeg out n ho hnb,?_⟩
      simp only[l9_58,cops,csW,Nat.reduceEqDiff,csP,Nat.reduceAdd]
      refine keep [2,3,4,5,7] ?_
      simp only[c9_71,c9_68,l9_62,csW,Nat.reduceEqDiff,cw,apartV,bne,cops,csP,Nat.reduceAdd]
      refine⟨_,lead_con B (by omega),?_⟩
      simp only[l9_63,cops,csW,Nat.reduceEqDiff,csP]
      refine⟨_,degree_con A (by omega),?_⟩
      simp only[l9_64,eAi,cops,csW,Nat.reduceEqDiff,csP]
      refine⟨_,degree_con R (by omega),?_⟩
      simp only[l9_65,eRi,cops,csW,Nat.reduceEqDiff,hsI]
      (repeat refine And.intro (by first | omega | (simp;omega)) ?_)
      refine⟨_,fpow_con (M.ld B) s n (fun i hi=>hpow i (by omega)) hlB hnb (by omega) (by omega),?_⟩
      simp only[l9_66,cops,csW,Nat.reduceEqDiff]
      refine⟨_,qMul (-out) (M.ld B^s) n ho' (hpow s (by omega)) hnb,?_⟩
      simp only[l9_67,cops,csW,Nat.reduceEqDiff,csP,Nat.reduceAdd]
      refine keep [2,3,4,5,7] ?_
      simp only[c9_70,l9_69,csW,Nat.reduceEqDiff,cw,apartV,bne,Nat.reduceBEq,cops,csP]
      exact⟨(B,R,-out*M.ld B^s),hx,(Sub.toG [2,3,4,5] [6,7,8] (by rfl) (by rfl) (by rfl) (by rfl)),by simp only;omega⟩
     ·have hP:=par0 hp
      rw[sg_pos hp] at hx
      simp only[c9_78,c9_77,c9_12,c9_7,l9_6,cw,csW,apartV,bne,cops,csP,Nat.reduceEqDiff,hI,hJ]
      refine keep [2,3,4,5,20] ?_
      simp only[c9_11,csW,Nat.reduceEqDiff,cw]
      refine keep [2,3,4,5] ?_
      simp only[c9_76,c9_23,c9_15,l9_13,csW,Nat.reduceEqDiff,cw,apartV,bne,cops,csP]
      refine⟨_,degree_con B (by omega),?_⟩
      simp only[l9_14,eBi,cops,csW,Nat.reduceEqDiff,hK]
      refine keep [2,3,4,5,24] ?_
      simp only[c9_22,csW,Nat.reduceEqDiff,cw]
      refine keep [2,3,4,5] ?_
      simp only[c9_75,c9_42,c9_27,l9_24,csW,Nat.reduceEqDiff,cw,apartV,bne,cops,csP]
      refine⟨_,degree_con A (by omega),?_⟩
      simp only[l9_25,eAi,cops,csW,Nat.reduceEqDiff,csP]
      refine⟨_,degree_con B (by omega),?_⟩
      simp only[l9_26,eBi,cops,csW,Nat.reduceEqDiff,hM]
      refine keep [2,3,4,5,38] ?_
      simp only[c9_41,csW,Nat.reduceEqDiff,cw]
      refine keep [2,3,4,5] ?_
      simp only[c9_74,c9_45,l9_43,csW,Nat.reduceEqDiff,cw,apartV,bne,cops,csP]
      refine⟨_,hdv,?_⟩
      simp only[l9_44,csP,cops,csW,Nat.reduceEqDiff,Nat.reduceAdd]
      refine keep [2,3,4,5,7] ?_
      simp only[c9_73,c9_52,c9_47,l9_46,csW,Nat.reduceEqDiff,cw,apartV,bne,cops,csP,hQ0]
      refine keep [2,3,4,5,7,60] ?_
      simp only[c9_51,csW,Nat.reduceEqDiff,cw]
      refine keep [2,3,4,5,7] ?_
      simp only[c9_72,c9_61,c9_56,l9_53,csW,Nat.reduceEqDiff,cw,apartV,bne,cops,csP]
      refine⟨_,degree_con A (by omega),?_⟩
      simp only[l9_54,eAi,cops,csW,Nat.reduceEqDiff,csP]
      refine⟨_,degree_con B (by omega),?_⟩
      simp only[l9_55,eBi,cops,csW,Nat.reduceEqDiff,hP]
      (repeat refine And.intro (by first | omega | (simp;omega)) ?_)
      refine keep [2,3,4,5,7,68] ?_
      simp only[c9_60,csW,Nat.reduceEqDiff,cw]
      refine keep [2,3,4,5,7] ?_
      simp only[c9_71,c9_68,l9_62,csW,Nat.reduceEqDiff,cw,apartV,bne,cops,csP,Nat.reduceAdd]
      refine⟨_,lead_con B (by omega),?_⟩
      simp only[l9_63,cops,csW,Nat.reduceEqDiff,csP]
      refine⟨_,degree_con A (by omega),?_⟩
      simp only[l9_64,eAi,cops,csW,Nat.reduceEqDiff,csP]
      refine⟨_,degree_con R (by omega),?_⟩
      simp only[l9_65,eRi,cops,csW,Nat.reduceEqDiff,hsI]
      (repeat refine And.intro (by first | omega | (simp;omega)) ?_)
      refine⟨_,fpow_con (M.ld B) s n (fun i hi=>hpow i (by omega)) hlB hnb (by omega) (by omega),?_⟩
      simp only[l9_66,cops,csW,Nat.reduceEqDiff]
      refine⟨_,qMul out (M.ld B^s) n ho (hpow s (by omega)) hnb,?_⟩
      simp only[l9_67,cops,csW,Nat.reduceEqDiff,csP,Nat.reduceAdd]
      refine keep [2,3,4,5,7] ?_
      simp only[c9_70,l9_69,csW,Nat.reduceEqDiff,cw,apartV,bne,Nat.reduceBEq,cops,csP]
      exact⟨(B,R,out*M.ld B^s),hx,(Sub.toG [2,3,4,5] [6,7,8] (by rfl) (by rfl) (by rfl) (by rfl)),by simp only;omega⟩
end Go.Proofs.Ytdjbfgfbpimakaa.M
