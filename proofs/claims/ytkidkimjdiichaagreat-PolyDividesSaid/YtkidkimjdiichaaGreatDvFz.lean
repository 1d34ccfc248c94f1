/- Polynomials: Bezout. -/
import Derived.Test.YtkidkimjdiichaaGreatDvBz
namespace Go.Proofs.YtkidkimjdiichaaGreat.M
open Go.RowKit
set_option linter.unusedSimpArgs false
set_option linter.unusedVariables false
set_option linter.defProp false
theorem BI.round {P Q A B U0 U1 : List Rat} {e n : Nat} (h : BI P Q e 4 12 A B U0 U1) (hB : B ≠ []) (hs : S12 e n) :
  Con Tryz.prog AN 25 [pI A,pI B] (.tup [pI (quoQ A B),pI (remQ A B),flt 0 0]) ∧ Con Tryz.prog AN 23 [pI (quoQ A B),pI U1] (pI (mulQ (quoQ A B) U1)) ∧
  Con Tryz.prog AN 19 [pI U0,pI (mulQ (quoQ A B) U1)] (pI (subQ U0 (mulQ (quoQ A B) U1))) ∧ (remQ A B).length < B.length:=by
 have hG:=gS12 e
 have hX:=xS12 e
 have h1:=hs.e10
 have h2:=hs.nn
 have lA:=h.lA
 have lB:=h.lB
 have l0:=h.l0
 have l1:=h.l1
 have hd:=dvSpec h.nB hB A
 obtain ⟨s1,s2,s3,s4⟩:=dv_sz h.nB hB h.szA h.sB h.ldB (S:=13) (by omega)
 have s5:=s2.mul (h.s1 hB) (r:=10) (by omega)
 have hml:=mul_len_le (quoQ A B) U1
 exact ⟨(dv_con h.nA h.nB hB h.szA h.sB h.ldB (S:=13) (by omega) (by omega) (by omega) (n:=n) (by omega) (by omega) hs.big (by omega) (by omega)).1,mulz_con s2 (h.s1 hB) (by omega) (by omega) (by omega) hs.big,
  subz_con h.s0 s5 (by omega) (by omega) (by omega) hs.big,s4⟩
theorem mul_zero_of {a b : List Rat} (na : Nf a) (nb : Nf b) (hb : b ≠ []) (h : ∀ x,evQ a x * evQ b x = 0) : a = []:=Classical.byContradiction fun ha => by
 have e : mulQ a b = []:=ev_0 (nf_mul _ _) fun x => by rw [ev_mul,h]
 have h1:=mul_len na nb ha hb
 have:=List.length_pos_iff.2 ha
 have:=List.length_pos_iff.2 hb
 rw [e] at h1
 simp at h1
 omega
theorem bez_unique {P Q g u v u' v' : List Rat} (nP : Nf P) (nQ : Nf Q) (hQ : Q ≠ []) (hg : IsGcd P Q g) (nu : Nf u) (nv : Nf v) (nu' : Nf u') (nv' : Nf v') (h : addQ (mulQ u P) (mulQ v Q) = g) (h' : addQ (mulQ u' P) (mulQ v' Q) = g)
  (l : u.length + g.length ≤ Q.length) (l' : u'.length + g.length ≤ Q.length) : u = u' ∧ v = v':=by
 obtain ⟨m,m0,nm,e1,g0,hl⟩:=hg.dq.len hg.ng nQ hQ
 obtain ⟨s,ns,hs⟩:=hg.dp
 have hQx : ∀ x,evQ Q x = evQ m x * evQ g x:=fun x => by rw [e1,ev_mul]
 have hx : ∀ x,evQ u x * evQ P x + evQ v x * evQ Q x = evQ g x:=fun x => by rw [← h,ev_add,ev_mul,ev_mul]
 have hx' : ∀ x,evQ u' x * evQ P x + evQ v' x * evQ Q x = evQ g x:=fun x => by rw [← h',ev_add,ev_mul,ev_mul]
 have k1 : ∀ x,evQ u x * evQ s x + evQ v x * evQ m x = 1:=fun x => by
  have e0:=mul_zero_of (a:=subQ (addQ (mulQ u s) (mulQ v m)) [1]) (nf_sub _ _) hg.ng g0 fun x => by
   have:=hx x
   rw [hs,hQx] at this
   rw [ev_sub,ev_add,ev_mul,ev_mul,ev_1];grind
  have:=congrArg (fun l => evQ l x) e0
  simp only [ev_sub,ev_add,ev_mul,ev_1,evQ_nil] at this
  grind
 have k2 : ∀ x,(evQ u x - evQ u' x) * evQ s x = (evQ v' x - evQ v x) * evQ m x:=fun x => by
  have e0:=mul_zero_of (a:=subQ (mulQ (subQ u u') s) (mulQ (subQ v' v) m)) (nf_sub _ _) hg.ng g0 fun x => by
   have q1:=hx x
   have q2:=hx' x
   rw [hs,hQx] at q1 q2
   rw [ev_sub,ev_mul,ev_mul,ev_sub,ev_sub];grind
  have:=congrArg (fun l => evQ l x) e0
  simp only [ev_sub,ev_mul,evQ_nil] at this
  grind
 have hd : subQ u u' = []:=Classical.byContradiction fun hd => by
  have e2 : subQ u u' = mulQ (addQ (mulQ u (subQ v' v)) (mulQ (subQ u u') v)) m:=ev_nf (nf_sub _ _) (nf_mul _ _) fun x => by
   have q1:=k1 x
   have q2:=k2 x
   rw [ev_mul,ev_add,ev_mul,ev_mul,ev_sub,ev_sub]
   have q3 : evQ u x - evQ u' x = (evQ u x - evQ u' x) * (evQ u x * evQ s x + evQ v x * evQ m x):=by rw [q1];grind
   rw [q3];grind
  have w0 : addQ (mulQ u (subQ v' v)) (mulQ (subQ u u') v) ≠ []:=fun e => hd (by rw [e2,e,mul_nil_l])
  have h1:=mul_len (nf_add _ _) nm w0 m0
  rw [← e2] at h1
  have h2:=sub_len u u'
  have:=List.length_pos_iff.2 w0
  have:=List.length_pos_iff.2 m0
  omega
 have hu : ∀ x,evQ u x = evQ u' x:=fun x => by
  have:=congrArg (fun l => evQ l x) hd
  simp only [ev_sub,evQ_nil] at this
  grind
 have hv : subQ v v' = []:=mul_zero_of (nf_sub _ _) nQ hQ fun x => by
  have q1:=hx x
  have q2:=hx' x
  rw [hu] at q1
  rw [ev_sub];grind
 exact ⟨ev_nf nu nu' hu,ev_nf nv nv' fun x => by
  have:=congrArg (fun l => evQ l x) hv
  simp only [ev_sub,evQ_nil] at this
  grind⟩
theorem BI.fin {P Q : List Rat} (nP : Nf P) (nQ : Nf Q) {e r L : Nat} (hP : Sz e P) (hQ : Sz e Q) (hLP : P.length ≤ L) (hLQ : Q.length ≤ L) (hr : L ≤ 2 ^ r) : ∀ (k : Nat) (A B U0 U1 : List Rat),B.length ≤ k → BI P Q e r L A B U0 U1 → ∃ A' U0' U1',BI P Q e r L A' [] U0' U1'
 | 0,A,B,U0,U1,hk,h => by
  obtain rfl : B = []:=List.length_eq_zero_iff.1 (by omega)
  exact ⟨_,_,_,h⟩
 | k + 1,A,B,U0,U1,hk,h => by
  by_cases hB : B = []
  ·subst hB;exact ⟨_,_,_,h⟩
  ·have hlt:=(dvSpec h.nB hB A).lt
   exact BI.fin nP nQ hP hQ hLP hLQ hr k _ _ _ _ (by omega) (h.next nP nQ hP hQ hLP hLQ hr hB)
structure Tl (P Q g A U0 m u v u0 : List Rat) (n : Nat) : Prop where
 lead : Con Tryz.prog AN 36 [pI A] (qI (ld A))
 quo : Con Tryz.prog AN 112 [qI 1,qI (ld A)] (.tup [qI (1 / ld A),flt 0 0])
 sg : Con Tryz.prog AN 47 [pI A,qI (1 / ld A)] (pI g)
 dm : Con Tryz.prog AN 25 [pI Q,pI g] (.tup [pI m,pI (remQ Q g),flt 0 0])
 su : Con Tryz.prog AN 47 [pI U0,qI (1 / ld A)] (pI u0)
 du : Con Tryz.prog AN 25 [pI u0,pI m] (.tup [pI (quoQ u0 m),pI u,flt 0 0])
 mu : Con Tryz.prog AN 23 [pI u,pI P] (pI (mulQ u P))
 sb : Con Tryz.prog AN 19 [pI g,pI (mulQ u P)] (pI (subQ g (mulQ u P)))
 dv : Con Tryz.prog AN 25 [pI (subQ g (mulQ u P)),pI Q] (.tup [pI v,pI (remQ (subQ g (mulQ u P)) Q),flt 0 0])
 mv : Con Tryz.prog AN 23 [pI v,pI Q] (pI (mulQ v Q))
 ad : Con Tryz.prog AN 17 [pI (mulQ u P),pI (mulQ v Q)] (pI g)
 sa : Con Tryz.prog AN 21 [pI g,pI g] (.bool true)
 lu : u.length + g.length ≤ Q.length
 lv : v.length ≤ 100
 gl : g.length ≤ 12
 gb : Bl n g
 nu : Nf u
 nv : Nf v
 eq : addQ (mulQ u P) (mulQ v Q) = g
theorem BI.tail {P Q A U0 U1 : List Rat} {e n : Nat} (h : BI P Q e 4 12 A [] U0 U1) (nP : Nf P) (nQ : Nf Q) (hP : Sz e P) (hQ : Sz e Q) (lP : P.length ≤ 12) (lQ : Q.length ≤ 12) (hQ0 : Q ≠ []) (hs : S12 e n) {g : List Rat} (hg : IsGcd P Q g) :
  ∃ m u v u0,Tl P Q g A U0 m u v u0 n:=by
 have hG:=gS12 e
 have hX:=xS12 e
 have h1:=hs.e10
 have h2:=hs.nn
 have lA:=h.lA
 have l0:=h.l0
 have hA0 : A ≠ []:=h.ne.resolve_left (by simp)
 have hld:=ld_ne h.nA hA0
 have e1 : monQ A = g:=(h.gc _ (IsGcd.fin h.nA)).unique hg
 have sg : Sz (gS e 4 12) g:=by rw [← e1];exact h.sA
 have hinv : Bq (xS e 4 12) (1 / ld A):=h.ldA.inv
 obtain ⟨V,nV,hV⟩:=h.co
 obtain ⟨u0,hu0⟩ : ∃ u0,u0 = sclQ U0 (1 / ld A):=⟨_,rfl⟩
 obtain ⟨m,hm⟩ : ∃ m,m = quoQ Q g:=⟨_,rfl⟩
 obtain ⟨u,hu⟩ : ∃ u,u = remQ u0 m:=⟨_,rfl⟩
 obtain ⟨v,hv⟩ : ∃ v,v = quoQ (subQ g (mulQ u P)) Q:=⟨_,rfl⟩
 have n0 : Nf u0:=by rw [hu0];exact nf_scl _ _
 obtain ⟨g0,m0,nm,nu,nv,hlt,hle,heq⟩:=bez_end nP nQ hQ0 hg n0 ⟨sclQ V (1 / ld A),nf_scl _ _,fun x => by rw [← e1,monQ,hu0,ev_scl,ev_scl,ev_scl,hV];grind⟩ hm hu hv
 have lg : g.length ≤ 12:=by have:=List.length_pos_iff.2 m0;omega
 have lu0 : u0.length ≤ 27:=by rw [hu0];have:=scl_len U0 (1 / ld A);omega
 have lu : u.length ≤ 12:=by have:=List.length_pos_iff.2 g0;omega
 have mg : monQ g = g:=mon_self hg.ng hg.mo
 have ldg : ld g = 1:=hg.mo.resolve_left g0
 have sg' : Sz (gS e 4 12) (monQ g):=by rw [mg];exact sg
 have su0 : Sz (gS e 4 12 + xS e 4 12 + xS e 4 12) u0:=by rw [hu0];exact h.s0.scl hinv
 obtain ⟨t1,t2,t3,t4⟩:=dv_sz hg.ng g0 hQ sg' (b:=10) (by rw [ldg];exact bq_1 10 (by omega)) (S:=13) (by omega)
 rw [← hm] at t2 t3
 obtain ⟨r1,r2,r3,r4⟩:=dv_sz nm m0 su0 (t2.mon nm) t2.ld (S:=28) (by have:=List.length_pos_iff.2 m0;omega)
 rw [← hu] at r1
 have p1:=r1.mul hP (r:=4) (by omega)
 have p2:=sg.sub p1
 have lm:=mul_len_le u P
 have ls:=sub_len g (mulQ u P)
 have lmv:=mul_len_le v Q
 obtain ⟨q1,q2,q3,q4⟩:=dv_sz nQ hQ0 p2 (hQ.mon nQ) hQ.ld (S:=26) (by omega)
 rw [← hv] at q2 q3
 have z1:=q2.mul hQ (r:=5) (by omega)
 have hadd:=addz_con (n:=n) p1 z1 (by omega) (by omega) (by omega) hs.big
 rw [heq] at hadd
 have bg : Bl n g:=sg.bl (by omega)
 have hsame:=samez_con g n hg.ng bg hs.big (by omega) (by omega)
 have hsc:=sclz_con (n:=n) h.szA hinv (by omega) (by omega) hs.big
 have e1' : sclQ A (1 / ld A) = g:=e1
 rw [e1'] at hsc
 have hsu:=sclz_con (n:=n) h.s0 hinv (by omega) (by omega) hs.big
 rw [← hu0] at hsu
 have d1:=(dv_con nQ hg.ng g0 hQ sg' (b:=10) (by rw [ldg];exact bq_1 10 (by omega)) (S:=13) (by omega) (by omega) (by omega) (n:=n) (by omega) (by omega) hs.big (by omega) (by omega)).1
 rw [← hm] at d1
 have d2:=(dv_con n0 nm m0 su0 (t2.mon nm) t2.ld (S:=28) (by have:=List.length_pos_iff.2 m0;omega) (by omega) (by omega) (n:=n) (by omega) (by omega) hs.big (by omega) (by omega)).1
 rw [← hu] at d2
 have d3:=(dv_con (nf_sub g (mulQ u P)) nQ hQ0 p2 (hQ.mon nQ) hQ.ld (S:=26) (by omega) (by omega) (by omega) (n:=n) (by omega) (by omega) hs.big (by omega) (by omega)).1
 rw [← hv] at d3
 exact ⟨m,u,v,u0,lead_con A (by omega),qQuo 1 (ld A) n (bq_one (by omega)) (h.ldA.mono (by omega)) hs.big hld,hsc,d1,hsu,d2,mulz_con r1 hP (by omega) (by omega) (by omega) hs.big,
  subz_con sg p1 (by omega) (by omega) (by omega) hs.big,d3,mulz_con q2 hQ (by omega) (by omega) (by omega) hs.big,hadd,hsame,by omega,by omega,lg,bg,nu,nv,heq⟩
structure Bez (P Q g u v : List Rat) (n : Nat) : Prop where
 bez : Con Tryz.prog AN 56 [pI P,pI Q] (.tup [pI g,pI u,pI v])
 m1 : Con Tryz.prog AN 23 [pI u,pI P] (pI (mulQ u P))
 m2 : Con Tryz.prog AN 23 [pI v,pI Q] (pI (mulQ v Q))
 ad : Con Tryz.prog AN 17 [pI (mulQ u P),pI (mulQ v Q)] (pI g)
 sa : Con Tryz.prog AN 21 [pI g,pI g] (.bool true)
 lu : u.length ≤ 100
 lv : v.length ≤ 100
 gl : g.length ≤ 12
 gb : Bl n g
 q0 : Q = [] → v = [] ∧ (P = [] → u = [])
 q1 : Q ≠ [] → u.length + g.length ≤ Q.length
set_option maxHeartbeats 8000000 in
theorem bez_0 (g : List Rat) {n : Nat} (hn : 100 < n) (hb : n ≤ big) (hg : IsGcd [] [] g) : Bez [] [] g [] [] n:=by
 obtain rfl : [] = g:=(IsGcd.fin nf_nil).unique hg
 have b0 : Bl n []:=fun i => Bq.zero n (by omega)
 have s0 : Sz 0 []:=Sz.nil 0
 have b1 : Bl 100 [1]:=(sz_one 0).bl (by omega)
 have e1 : trimQ [1] = [1]:=trim_nf nf_1
 have hof:=of_con [1] n (b1.mono (by omega)) hb (by simp)
 rw [e1] at hof
 have hm:=mulz_con (n:=n) s0 s0 (by simp) (by simp) (by omega) hb
 have ha:=addz_con (n:=n) s0 s0 (by simp) (by simp) (by omega) hb
 have hsame:=samez_con [] n nf_nil b0 hb (by omega) (by simp)
 have em : mulQ [] [] = []:=mul_nil_l _
 have ea : addQ [] [] = []:=nf_ext (nf_add _ _) nf_nil fun i => by rw [cf_add,cf_nil];grind
 rw [em] at hm
 rw [ea] at ha
 refine ⟨?_,by rw [em];exact hm,by rw [em];exact hm,by rw [em];exact ha,hsame,by simp,by simp,by simp,b0,fun _ => ⟨rfl,fun _ => rfl⟩,fun h => absurd rfl h⟩
 have hI : ((List.length ([] : List Rat) : Nat) : Int) = 0:=rfl
 refine fn56.con rfl (by simp) ?_
 simp only [c56,c56_85,c56_1,l56_0,init2,cw,csW,apartV,bne,cops,reduceCtorEq,Nat.reduceEqDiff]
 refine keep [2,3,4,5,6,10,11] ?_
 simp only [c56_84,c56_6,l56_2,csW,reduceCtorEq,Nat.reduceEqDiff,cw,apartV,bne,cops]
 refine ⟨_,cOf 1 (by omega),?_⟩
 simp only [l56_3,cops,csW,Nat.reduceEqDiff]
 refine ⟨_,qWhole 1 n (bq_one (by omega)).1 hb,?_⟩
 simp only [l56_4,csP,rat_one,cops,csW,Nat.reduceEqDiff,Nat.reduceAdd]
 refine ⟨_,hof,?_⟩
 simp only [l56_5,cops,csW,csP,Nat.reduceEqDiff]
 refine keep [2,3,4,5,6,7,10,11] ?_
 simp only [c56_83,c56_30,c56_8,l56_7,csW,Nat.reduceEqDiff,cw,apartV,bne,cops,csP]
 refine keep [2,3,4,5,6,7,10,11,36] ?_
 simp only [c56_29,csW,Nat.reduceEqDiff,cw]
 simp only [c56_28,c56_15,c56_10,l56_9,cw,csW,apartV,bne,cops,csP,Nat.reduceEqDiff]
 refine keep [2,4,5,6,7,40] ?_
 simp only [c56_14,csW,Nat.reduceEqDiff,cw]
 simp only [c56_13,c56_12,l56_11,cw,csW,apartV,bne,cops,csP,Nat.reduceEqDiff]
 refine keep [4,5,6] ?_
 simp only [Ends,resD,resL,resV,csW,Nat.reduceEqDiff,csP]
 rfl
set_option maxHeartbeats 8000000 in
theorem bez_1 (P g : List Rat) (nP : Nf P) (hP0 : P ≠ []) {e n : Nat} (hP : Sz e P) (lP : P.length ≤ 12) (hs : S12 e n) (hg : IsGcd P [] g) : ∃ u,Bez P [] g u [] n:=by
 have h1:=hs.e10
 have h2:=hs.nn
 have hb:=hs.big
 have hld:=ld_ne nP hP0
 obtain rfl : monQ P = g:=(IsGcd.fin nP).unique hg
 have hinv : Bq (e + 1) (1 / ld P):=hP.ld.inv
 have s0 : Sz 0 []:=Sz.nil 0
 have b1 : Bl 100 [1]:=(sz_one 0).bl (by omega)
 have e1 : trimQ [1] = [1]:=trim_nf nf_1
 have hof:=of_con [1] n (b1.mono (by omega)) hb (by simp)
 rw [e1] at hof
 obtain ⟨u,hu⟩ : ∃ u,u = sclQ [1] (1 / ld P):=⟨_,rfl⟩
 have lu : u.length ≤ 1:=by rw [hu];exact scl_len _ _
 have su : Sz (0 + (e + 1)) u:=by rw [hu];exact (sz_one 0).scl hinv
 have sm : Sz e (monQ P):=hP.mon nP
 have em : mulQ u P = monQ P:=ev_nf (nf_mul _ _) (nf_mon _) fun x => by rw [ev_mul,hu,ev_scl,ev_1,monQ,ev_scl];grind
 have em0 : mulQ [] [] = []:=mul_nil_l _
 have ea : addQ (monQ P) [] = monQ P:=nf_ext (nf_add _ _) (nf_mon _) fun i => by rw [cf_add,cf_nil];grind
 have lm:=mon_len P
 have hm:=mulz_con (n:=n) su hP (by omega) (by omega) (by omega) hb
 have hm0:=mulz_con (n:=n) s0 s0 (by simp) (by simp) (by omega) hb
 have ha:=addz_con (n:=n) sm s0 (by omega) (by simp) (by omega) hb
 have bg : Bl n (monQ P):=sm.bl (by omega)
 have hsame:=samez_con (monQ P) n (nf_mon _) bg hb (by omega) (by omega)
 rw [em0] at hm0
 rw [ea] at ha
 have bP : Bl (e + 10) P:=hP.bl (by omega)
 have hmo:=monic_con P (e + 10) n nP bP (by omega) (by omega) hb (by omega)
 have hsc:=sclz_con (n:=n) (sz_one 0) hinv (by simp) (by omega) hb
 rw [← hu] at hsc
 refine ⟨u,?_,hm,by rw [em0];exact hm0,by rw [em0,em];exact ha,hsame,by omega,by simp,by omega,bg,fun _ => ⟨rfl,fun h => absurd h hP0⟩,fun h => absurd rfl h⟩
 have hI : ((List.length ([] : List Rat) : Nat) : Int) = 0:=rfl
 have hJ : ¬ (P.length : Int) = 0:=by have:=List.length_pos_iff.2 hP0;omega
 refine fn56.con rfl (by simp) ?_
 simp only [c56,c56_85,c56_1,l56_0,init2,cw,csW,apartV,bne,cops,reduceCtorEq,Nat.reduceEqDiff]
 refine keep [2,3,4,5,6,10,11] ?_
 simp only [c56_84,c56_6,l56_2,csW,reduceCtorEq,Nat.reduceEqDiff,cw,apartV,bne,cops]
 refine ⟨_,cOf 1 (by omega),?_⟩
 simp only [l56_3,cops,csW,Nat.reduceEqDiff]
 refine ⟨_,qWhole 1 n (bq_one (by omega)).1 hb,?_⟩
 simp only [l56_4,csP,rat_one,cops,csW,Nat.reduceEqDiff,Nat.reduceAdd]
 refine ⟨_,hof,?_⟩
 simp only [l56_5,cops,csW,csP,Nat.reduceEqDiff]
 refine keep [2,3,4,5,6,7,10,11] ?_
 simp only [c56_83,c56_30,c56_8,l56_7,csW,Nat.reduceEqDiff,cw,apartV,bne,cops,csP]
 refine keep [2,3,4,5,6,7,10,11,36] ?_
 simp only [c56_29,csW,Nat.reduceEqDiff,cw]
 simp only [c56_28,c56_15,c56_10,l56_9,cw,csW,apartV,bne,cops,csP,Nat.reduceEqDiff,hJ]
 refine keep [2,4,5,6,7,40] ?_
 simp only [c56_14,csW,Nat.reduceEqDiff,cw]
 refine keep [2,4,5,6,7] ?_
 simp only [c56_27,c56_21,l56_16,csW,Nat.reduceEqDiff,cw,apartV,bne,cops]
 refine ⟨_,cOf 1 (by omega),?_⟩
 simp only [l56_17,cops,csW,Nat.reduceEqDiff]
 refine ⟨_,qWhole 1 n (bq_one (by omega)).1 hb,?_⟩
 simp only [l56_18,rat_one,cops,csW,Nat.reduceEqDiff,csP]
 refine ⟨_,lead_con P (by omega),?_⟩
 simp only [l56_19,cops,csW,Nat.reduceEqDiff]
 refine ⟨_,qQuo 1 (ld P) n (bq_one (by omega)) (hP.ld.mono (by omega)) hb hld,?_⟩
 simp only [l56_20,csP,cops,csW,Nat.reduceEqDiff,Nat.reduceAdd]
 refine keep [2,4,5,6,7,8] ?_
 simp only [c56_26,c56_25,l56_22,csW,Nat.reduceEqDiff,cw,apartV,bne,cops,csP]
 refine ⟨_,hmo,?_⟩
 simp only [l56_23,cops,csW,csP,Nat.reduceLT,Nat.reduceEqDiff,Nat.reduceAdd]
 refine ⟨_,hsc,?_⟩
 simp only [l56_24,cops,csW,csP,Nat.reduceEqDiff]
 refine keep [4,5,6] ?_
 simp only [Ends,resD,resL,resV,csW,Nat.reduceEqDiff,csP]
 rfl
set_option maxHeartbeats 8000000 in
theorem bez_2 (P Q g : List Rat) (nP : Nf P) (nQ : Nf Q) (hQ0 : Q ≠ []) {e n : Nat} (hP : Sz e P) (hQ : Sz e Q) (lP : P.length ≤ 12) (lQ : Q.length ≤ 12) (hs : S12 e n) (hg : IsGcd P Q g) : ∃ u v,Bez P Q g u v n:=by
 have h1:=hs.e10
 have h2:=hs.nn
 have hb:=hs.big
 obtain ⟨A1,V0,V1,hfin⟩:=BI.fin nP nQ hP hQ lP lQ (r:=4) (by omega) Q.length P Q [1] [] (Nat.le_refl _) (BI.start nP nQ hP hQ lP lQ hQ0)
 obtain ⟨m1,u,v,w1,ht⟩:=hfin.tail nP nQ hP hQ lP lQ hQ0 hs hg
 have hlu:=ht.lu
 refine ⟨u,v,?_,ht.mu,ht.mv,ht.ad,ht.sa,by omega,ht.lv,ht.gl,ht.gb,fun h => absurd h hQ0,fun _ => ht.lu⟩
 have b1 : Bl 100 [1]:=(sz_one 0).bl (by omega)
 have e1 : trimQ [1] = [1]:=trim_nf nf_1
 have hof:=of_con [1] n (b1.mono (by omega)) hb (by simp)
 rw [e1] at hof
 have hJ : ¬ (Q.length : Int) = 0:=by have:=List.length_pos_iff.2 hQ0;omega
 refine fn56.con rfl (by simp) ?_
 simp only [c56,c56_85,c56_1,l56_0,init2,cw,csW,apartV,bne,cops,reduceCtorEq,Nat.reduceEqDiff]
 refine keep [2,3,4,5,6,10,11] ?_
 simp only [c56_84,c56_6,l56_2,csW,reduceCtorEq,Nat.reduceEqDiff,cw,apartV,bne,cops]
 refine ⟨_,cOf 1 (by omega),?_⟩
 simp only [l56_3,cops,csW,Nat.reduceEqDiff]
 refine ⟨_,qWhole 1 n (bq_one (by omega)).1 hb,?_⟩
 simp only [l56_4,csP,rat_one,cops,csW,Nat.reduceEqDiff,Nat.reduceAdd]
 refine ⟨_,hof,?_⟩
 simp only [l56_5,cops,csW,csP,Nat.reduceEqDiff]
 refine keep [2,3,4,5,6,7,10,11] ?_
 simp only [c56_83,c56_30,c56_8,l56_7,csW,Nat.reduceEqDiff,cw,apartV,bne,cops,csP,hJ]
 refine keep [2,3,4,5,6,7,10,11,36] ?_
 simp only [c56_29,csW,Nat.reduceEqDiff,cw]
 refine keep [2,3,4,5,6,7,10,11] ?_
 simp only [c56_82,c56_32,l56_31,csW,Nat.reduceEqDiff,cw,apartV,bne,cops,csP]
 refine keep [2,3,4,5,6,10,11,12,13] ?_
 simp only [c56_81,c56_51,csW,Nat.reduceEqDiff,cw]
 refine loop_of (ι:=List Rat × List Rat × List Rat × List Rat) (fun x => BI P Q e 4 12 x.1 x.2.1 x.2.2.1 x.2.2.2) (fun x => ⟨look [(2,.ptr 2 0 0),(3,.ptr 3 0 0),(4,.ptr 4 0 0),(5,.ptr 5 0 0),(6,.ptr 6 0 0),(10,.ptr 10 0 0),(11,.ptr 11 0 0),(12,.ptr 12 0 0),(13,.ptr 13 0 0)],
  lookM [(2,⟨25,1,.box (.p (pI P)),false⟩),(3,⟨25,1,.box (.p (pI Q)),false⟩),(4,⟨25,1,.box zPoly,false⟩),(5,⟨25,1,.box zPoly,false⟩),(6,⟨25,1,.box zPoly,false⟩),
   (10,⟨25,1,.box (.p (pI x.1)),false⟩),(11,⟨25,1,.box (.p (pI x.2.1)),false⟩),(12,⟨25,1,.box (.p (pI x.2.2.1)),false⟩),(13,⟨25,1,.box (.p (pI x.2.2.2)),false⟩)]⟩) (fun x => x.2.1.length) (P,Q,[1],[]) (BI.start nP nQ hP hQ lP lQ hQ0) (Sub.toG [2,3,4,5,6,10,11,12,13] [7,8,9,14,15,16,17,18,19,20,21,22,23,24,25,26,27,28,31] (by rfl) (by rfl) (by rfl) (by rfl)) ?_
 rintro ⟨A,B,U0,U1⟩ hi
 replace hi : BI P Q e 4 12 A B U0 U1:=hi
 by_cases hB : B = []
 ·have hI : ¬ (0 : Int) < (B.length : Int):=by rw [hB];simp
  obtain ⟨m',u',v',w',hk⟩:=BI.tail (hB ▸ hi) nP nQ hP hQ lP lQ hQ0 hs hg
  obtain ⟨rfl,rfl⟩:=bez_unique nP nQ hQ0 hg ht.nu ht.nv hk.nu hk.nv ht.eq hk.eq ht.lu hk.lu
  simp only [c56_49,c56_36,c56_34,l56_33,cw,csW,apartV,bne,cops,csP,Nat.reduceEqDiff,hI]
  refine keep [2,3,4,5,6,10,11,12,13,65] ?_
  simp only [c56_35,csW,Nat.reduceEqDiff,cw]
  refine keep [2,3,4,5,6,10,12] ?_
  simp only [c56_80,c56_57,l56_52,csW,Nat.reduceEqDiff,cw,apartV,bne,cops]
  refine ⟨_,cOf 1 (by omega),?_⟩
  simp only [l56_53,cops,csW,Nat.reduceEqDiff]
  refine ⟨_,qWhole 1 n (bq_one (by omega)).1 hb,?_⟩
  simp only [l56_54,rat_one,cops,csW,Nat.reduceEqDiff,csP]
  refine ⟨_,hk.lead,?_⟩
  simp only [l56_55,cops,csW,Nat.reduceEqDiff]
  refine ⟨_,hk.quo,?_⟩
  simp only [l56_56,csP,cops,csW,Nat.reduceEqDiff,Nat.reduceAdd]
  refine keep [2,3,4,5,6,10,12,17] ?_
  simp only [c56_79,c56_60,l56_58,csW,Nat.reduceEqDiff,cw,apartV,bne,cops,csP,Nat.reduceLT,Nat.reduceAdd]
  refine ⟨_,hk.sg,?_⟩
  simp only [l56_59,cops,csW,csP,Nat.reduceEqDiff]
  refine keep [2,3,4,5,6,12,17,19] ?_
  simp only [c56_78,c56_63,l56_61,csW,Nat.reduceEqDiff,cw,apartV,bne,cops,csP]
  refine ⟨_,hk.dm,?_⟩
  simp only [l56_62,csP,cops,csW,Nat.reduceEqDiff,Nat.reduceAdd]
  refine keep [2,3,4,5,6,12,17,19,20] ?_
  simp only [c56_77,c56_67,l56_64,csW,Nat.reduceEqDiff,cw,apartV,bne,cops,csP,Nat.reduceLT,Nat.reduceAdd]
  refine ⟨_,hk.su,?_⟩
  simp only [l56_65,cops,csW,Nat.reduceEqDiff,csP]
  refine ⟨_,hk.du,?_⟩
  simp only [l56_66,csP,cops,csW,Nat.reduceEqDiff,Nat.reduceAdd]
  refine keep [2,3,4,5,6,19,24] ?_
  simp only [c56_76,c56_72,l56_68,csW,Nat.reduceEqDiff,cw,apartV,bne,cops,csP]
  refine ⟨_,hk.mu,?_⟩
  simp only [l56_69,cops,csW,Nat.reduceEqDiff]
  refine ⟨_,hk.sb,?_⟩
  simp only [l56_70,cops,csW,Nat.reduceEqDiff,csP]
  refine ⟨_,hk.dv,?_⟩
  simp only [l56_71,csP,cops,csW,Nat.reduceEqDiff,Nat.reduceAdd]
  refine keep [4,5,6,19,24,26] ?_
  simp only [c56_75,c56_74,l56_73,csW,Nat.reduceEqDiff,cw,apartV,bne,Nat.reduceBEq,cops,csP]
  refine keep [4,5,6] ?_
  simp only [Ends,resD,resL,resV,csW,Nat.reduceEqDiff,csP]
 ·have hI : (0 : Int) < (B.length : Int):=by have:=List.length_pos_iff.2 hB;omega
  obtain ⟨d1,d2,d3,hlt⟩:=hi.round hB hs
  simp only [c56_49,c56_36,c56_34,l56_33,cw,csW,apartV,bne,cops,csP,Nat.reduceEqDiff,hI]
  refine keep [2,3,4,5,6,10,11,12,13,65] ?_
  simp only [c56_35,csW,Nat.reduceEqDiff,cw]
  refine keep [2,3,4,5,6,10,11,12,13] ?_
  simp only [c56_48,c56_47,c56_39,l56_37,csW,Nat.reduceEqDiff,cw,apartV,bne,cops,csP]
  refine ⟨_,d1,?_⟩
  simp only [l56_38,csP,cops,csW,Nat.reduceEqDiff,Nat.reduceAdd]
  refine keep [2,3,4,5,6,10,11,12,13,14,15] ?_
  simp only [c56_46,c56_41,l56_40,csW,Nat.reduceEqDiff,cw,apartV,bne,Nat.reduceBEq,cops,csP]
  refine keep [2,3,4,5,6,10,11,12,13,14] ?_
  simp only [c56_45,l56_42,csW,Nat.reduceEqDiff,cw,apartV,bne,cops,csP]
  refine ⟨_,d2,?_⟩
  simp only [l56_43,cops,csW,Nat.reduceEqDiff]
  refine ⟨_,d3,?_⟩
  simp only [l56_44,cops,csW,csP,Nat.reduceEqDiff]
  exact ⟨(B,remQ A B,U1,subQ U0 (mulQ (quoQ A B) U1)),hi.next nP nQ hP hQ lP lQ (by omega) hB,(Sub.toG [2,3,4,5,6,10,11,12,13] [7,8,9,14,15,16,17,18,19,20,21,22,23,24,25,26,27,28,31] (by rfl) (by rfl) (by rfl) (by rfl)),hlt⟩
theorem bez_con (P Q g : List Rat) (nP : Nf P) (nQ : Nf Q) {e n : Nat} (hP : Sz e P) (hQ : Sz e Q) (lP : P.length ≤ 12) (lQ : Q.length ≤ 12) (hs : S12 e n) (hg : IsGcd P Q g) : ∃ u v,Bez P Q g u v n:=by
 have h2:=hs.nn
 by_cases hQ0 : Q = []
 ·subst hQ0
  by_cases hP0 : P = []
  ·subst hP0;exact ⟨_,_,bez_0 g (by omega) hs.big hg⟩
  ·obtain ⟨u,h⟩:=bez_1 P g nP hP0 hP lP hs hg
   exact ⟨_,_,h⟩
 ·exact bez_2 P Q g nP nQ hQ0 hP hQ lP lQ hs hg
end Go.Proofs.YtkidkimjdiichaaGreat.M
