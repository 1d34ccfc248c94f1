/- Polynomials modulo a prime: the law of the factors walked: the whole. -/
import Derived.Test.YtlnhembcfhfpkaaFyZAx
namespace Go.Proofs.Ytlnhembcfhfpkaa.M
open Go.RowKit Go.Proofs.Ytlnhembcfhfpkaa.Fx
open Nat (reduceEqDiff reduceAdd reduceLT reduceLeDiff reduceSub)
set_option linter.unusedSimpArgs false
set_option linter.unusedVariables false
variable {P:Pr}
theorem drop_a {A:FL} {i:Nat} (h:i<A.length):A.drop i=A.getD i ([],0)::A.drop (i+1):=by
 rw[List.drop_eq_getElem_cons h];simp[h]
theorem ne_tt:(!(true == true))=false:=rfl
theorem ne_ff:(!(false == false))=false:=rfl
theorem prF_at {A:FL} {i:Nat} {G:Po P} {n:Int} (h:i<A.length) (hx:A.getD i ([],0)=(G.l,n)):(prF (A.drop i):Po P)=pw G n.toNat*prF (A.drop (i+1)):=by
 rw[drop_a h,hx,prF,poL_l]
theorem step_eq (a g r:Po P) (n:Nat):a*(pw g (n+1)*r)=a*g*(pw g n*r):=by
 rw[pw_s]
 exact rg_ [a,g,r,pw g n] (x0*(.x 3*x1*x2)) (x0*x1*(.x 3*x2))
set_option maxRecDepth 20000 in
set_option maxHeartbeats 8000000 in
theorem fac_c {T:Nat} (F:Po P) (A:FL) (R:List Int) (b:Bool) (hl0:0<F.l.length) (hFl:F.l.length≤65) (hA:A.length≤10000000) (his:b=decide (A.map (fun x=>x.2)=[1])) (Q:AExit→St→Prop)
  (hQ:∀ s,Sub [24,3] s ⟨look [(0,.p (LT T F.l)),(1,.p (I P.p)),(10,.p (L R))],lookM []⟩→Q .normal s) :
  cw [24,3] (ConX Try.prog []) c7_114 Q ⟨look [(0,.p (LT T F.l)),(1,.p (I P.p)),(5,.p (I (lc F))),(6,.p (.list 36 2 (A.map sD))),(8,.p (.bool b)),(10,.p (L R)),(13,.p (L F.l))],lookM []⟩:=by
 have hG1:(F.l.length:Int)-1=((F.l.length-1:Nat):Int):=by omega
 have hG2:((F.l.length-1:Nat):Int)<(F.l.length:Int):=by omega
 have hlcF:F.l.getD (F.l.length-1) 0=lc F:=rfl
 have cS:=same_con (T:=3) (T':=T) F.l F.l (by omega)
 rw[decide_eq_true rfl] at cS
 by_cases h1:A.length=1
 ·have h1I:(A.length:Int)=1:=by omega
  have hg:=getD_sD (A:=A) (i:=0) (by omega)
  obtain⟨y,z,hy⟩:∃ y z,A.getD 0 ([],0)=(y,z):=⟨_,_,rfl⟩
  have hA2:A=[(y,z)]:=by
   match A,h1,hy with
   | [x],_,hy=>simp at hy;rw[hy]
  have hb:b=decide (z=1):=by rw[his,hA2];simp
  rw[hy] at hg
  simp only at hg
  by_cases hz:z=1
  ·rw[decide_eq_true hz] at hb
   subst hb
   skip
   (try simp only[c7_114,c7_109,cw,cops,csW,csL,reduceIte,reduceEqDiff,reduceCtorEq,reduceAdd,reduceLT,reduceLeDiff,reduceSub,csE,hG1,hG2,hlcF])
   (repeat refine And.intro (by first|omega|(simp;omega)) ?_)
   (try rw[cops_app])
   unfold l7_107
   repeat (rw[copsC];(try simp only[cw,csW,csL,reduceIte,reduceEqDiff,reduceCtorEq,reduceAdd,reduceLT,reduceLeDiff,reduceSub,csE,hG1,hG2,hlcF]);(repeat refine And.intro (by first|omega|(simp;omega)) ?_))
   (try simp only[cw,cops,csW,csL,reduceIte,reduceEqDiff,reduceCtorEq,reduceAdd,reduceLT,reduceLeDiff,reduceSub,csE,hG1,hG2,hlcF])
   (repeat refine And.intro (by first|omega|(simp;omega)) ?_)
   refine⟨_,cx (cS),?_⟩
   (try rw[cops_app])
   unfold l7_108
   repeat (rw[copsC];(try simp only[cw,csW,csL,reduceIte,reduceEqDiff,reduceCtorEq,reduceAdd,reduceLT,reduceLeDiff,reduceSub,csE,h1I,hg,hz,List.length_map,ne_tt,ne_ff]);(repeat refine And.intro (by first|omega|(simp;omega)) ?_))
   (try rw[copsN])
   (try simp only[cw,cops,csW,csL,reduceIte,reduceEqDiff,reduceCtorEq,reduceAdd,reduceLT,reduceLeDiff,reduceSub,csE,h1I,hg,hz,List.length_map,ne_tt,ne_ff])
   (repeat refine And.intro (by first|omega|(simp;omega)) ?_)
   refine keep [0,1,10,205] ?_
   (try simp only[c7_113,cw,cops,csW,csL,reduceIte,reduceEqDiff,reduceCtorEq,reduceAdd,reduceLT,reduceLeDiff,reduceSub,csE,h1I,hg,hz,List.length_map,ne_tt,ne_ff])
   (repeat refine And.intro (by first|omega|(simp;omega)) ?_)
   (try simp only[cw,cops,csW,csL,reduceIte,reduceEqDiff,reduceCtorEq,reduceAdd,reduceLT,reduceLeDiff,reduceSub,csE])
   (repeat refine And.intro (by first|omega|(simp;omega)) ?_)
   exact hQ _ (Sub.toG [0,1,10] [] (by rfl) (by rfl) (by rfl) (by rfl))
  ·rw[decide_eq_false hz] at hb
   subst hb
   skip
   (try simp only[c7_114,c7_109,cw,cops,csW,csL,reduceIte,reduceEqDiff,reduceCtorEq,reduceAdd,reduceLT,reduceLeDiff,reduceSub,csE,hG1,hG2,hlcF])
   (repeat refine And.intro (by first|omega|(simp;omega)) ?_)
   (try rw[cops_app])
   unfold l7_107
   repeat (rw[copsC];(try simp only[cw,csW,csL,reduceIte,reduceEqDiff,reduceCtorEq,reduceAdd,reduceLT,reduceLeDiff,reduceSub,csE,hG1,hG2,hlcF]);(repeat refine And.intro (by first|omega|(simp;omega)) ?_))
   (try simp only[cw,cops,csW,csL,reduceIte,reduceEqDiff,reduceCtorEq,reduceAdd,reduceLT,reduceLeDiff,reduceSub,csE,hG1,hG2,hlcF])
   (repeat refine And.intro (by first|omega|(simp;omega)) ?_)
   refine⟨_,cx (cS),?_⟩
   (try rw[cops_app])
   unfold l7_108
   repeat (rw[copsC];(try simp only[cw,csW,csL,reduceIte,reduceEqDiff,reduceCtorEq,reduceAdd,reduceLT,reduceLeDiff,reduceSub,csE,h1I,hg,hz,List.length_map,ne_tt,ne_ff]);(repeat refine And.intro (by first|omega|(simp;omega)) ?_))
   (try rw[copsN])
   (try simp only[cw,cops,csW,csL,reduceIte,reduceEqDiff,reduceCtorEq,reduceAdd,reduceLT,reduceLeDiff,reduceSub,csE,h1I,hg,hz,List.length_map,ne_tt,ne_ff])
   (repeat refine And.intro (by first|omega|(simp;omega)) ?_)
   refine keep [0,1,10,205] ?_
   (try simp only[c7_113,cw,cops,csW,csL,reduceIte,reduceEqDiff,reduceCtorEq,reduceAdd,reduceLT,reduceLeDiff,reduceSub,csE,h1I,hg,hz,List.length_map,ne_tt,ne_ff])
   (repeat refine And.intro (by first|omega|(simp;omega)) ?_)
   (try simp only[cw,cops,csW,csL,reduceIte,reduceEqDiff,reduceCtorEq,reduceAdd,reduceLT,reduceLeDiff,reduceSub,csE])
   (repeat refine And.intro (by first|omega|(simp;omega)) ?_)
   exact hQ _ (Sub.toG [0,1,10] [] (by rfl) (by rfl) (by rfl) (by rfl))
 ·have h1I:¬ (A.length:Int)=1:=by omega
  have hb:b=false:=by
   rw[his]
   exact decide_eq_false fun e=>h1 (by have:=congrArg List.length e;simpa using this)
  subst hb
  skip
  (try simp only[c7_114,c7_109,cw,cops,csW,csL,reduceIte,reduceEqDiff,reduceCtorEq,reduceAdd,reduceLT,reduceLeDiff,reduceSub,csE,hG1,hG2,hlcF])
  (repeat refine And.intro (by first|omega|(simp;omega)) ?_)
  (try rw[cops_app])
  unfold l7_107
  repeat (rw[copsC];(try simp only[cw,csW,csL,reduceIte,reduceEqDiff,reduceCtorEq,reduceAdd,reduceLT,reduceLeDiff,reduceSub,csE,hG1,hG2,hlcF]);(repeat refine And.intro (by first|omega|(simp;omega)) ?_))
  (try simp only[cw,cops,csW,csL,reduceIte,reduceEqDiff,reduceCtorEq,reduceAdd,reduceLT,reduceLeDiff,reduceSub,csE,hG1,hG2,hlcF])
  (repeat refine And.intro (by first|omega|(simp;omega)) ?_)
  refine⟨_,cx (cS),?_⟩
  (try rw[cops_app])
  unfold l7_108
  repeat (rw[copsC];(try simp only[cw,csW,csL,reduceIte,reduceEqDiff,reduceCtorEq,reduceAdd,reduceLT,reduceLeDiff,reduceSub,csE,h1I,List.length_map,ne_tt,ne_ff]);(repeat refine And.intro (by first|omega|(simp;omega)) ?_))
  (try rw[copsN])
  (try simp only[cw,cops,csW,csL,reduceIte,reduceEqDiff,reduceCtorEq,reduceAdd,reduceLT,reduceLeDiff,reduceSub,csE,h1I,List.length_map,ne_tt,ne_ff])
  (repeat refine And.intro (by first|omega|(simp;omega)) ?_)
  refine keep [0,1,10,205] ?_
  (try simp only[c7_113,cw,cops,csW,csL,reduceIte,reduceEqDiff,reduceCtorEq,reduceAdd,reduceLT,reduceLeDiff,reduceSub,csE,h1I,List.length_map,ne_tt,ne_ff])
  (repeat refine And.intro (by first|omega|(simp;omega)) ?_)
  (try simp only[cw,cops,csW,csL,reduceIte,reduceEqDiff,reduceCtorEq,reduceAdd,reduceLT,reduceLeDiff,reduceSub,csE])
  (repeat refine And.intro (by first|omega|(simp;omega)) ?_)
  exact hQ _ (Sub.toG [0,1,10] [] (by rfl) (by rfl) (by rfl) (by rfl))
set_option maxRecDepth 20000 in
set_option maxHeartbeats 8000000 in
theorem fac_main {T:Nat} (F:Po P) (h0:F≠0) (hl:dg F≤65):Con Try.prog [] 7 [LT T F.l,I P.p] (.bool true):=by
 have hp:=P.h.pos
 have hlL:F.l.length≤65:=hl
 have hl0:0<F.l.length:=dg_pos h0
 have hf:=factor_ok (T:=T) F h0 hl
 have hI:Con Try.prog [] 15 [LT T F.l,I P.p] (.tup [.bool (isI F),flt 0 0]):=by
  by_cases h:1<dg F
  ·exact eirr_ok F hl h
  ·have:isI F=false:=by unfold isI;rw[facL_short h0 (by omega)];rfl
   rw[this]
   exact eirr_short F.l P.p (by rw[(gp F hl).chk]) (by unfold dg at h;omega)
 have hR:=Nz.roots_ok (T:=T) F h0 hl
 have hck:=checkMod_con (T:=T) F.l P.p
 rw[(gp F hl).chk] at hck
 have hS:=si_0 h0 hl
 have hsm:=facL_sm h0 hl
 have hRl:(srtI (Nz.rtU P.p (facL F))).length≤10000000:=by
  have:=srtI_len (Nz.rtU P.p (facL F))
  have:=Nz.rtU_len P.p (facL F)
  have:=hsm.len
  omega
 have hpr:=prF_F h0 hl
 have hlc:=cn_lc h0
 have hmem:∀ i,i<(facL F).length→∃ G n,(facL F).getD i ([],0)=(G.l,n)∧Irr G∧dg G≤65∧1≤n∧n≤F.l.length:=fun i hi=>by
  obtain⟨G,h1,h2,h3,h4⟩:=(facL_mem h0 hl ((facL F).getD i ([],0))).1 (by simp[hi])
  have h5:=(dvd_iff h2 h0).1 h3
  have h6:=val_lt h2 h0
  have h7:=dg_dvd h3 h0
  exact⟨G,(val G F:Int),Prod.ext h1 h4,h2,by omega,by omega,by unfold dg at h6;omega⟩
 have hso:∀ i,0<i→i<(facL F).length→ordL ((facL F).getD (i-1) ([],0)).1 ((facL F).getD i ([],0)).1<0:=fun i hi hi2=>by
  have:=List.pairwise_iff_getElem.1 (facL_sorted h0 hl) (i-1) i (by omega) hi2 (by omega)
  simpa[hi2,show i-1<(facL F).length by omega] using this
 have his:isI F=decide ((facL F).map (fun x=>x.2)=[1]):=rfl
 generalize hRR:srtI (Nz.rtU P.p (facL F))=R at *
 clear hRR
 generalize isI F=b at *
 generalize facL F=A at *
 have hAl:=hsm.len
 obtain⟨m,hm⟩:∃ m,A.length=m:=⟨_,rfl⟩
 have hG1:(F.l.length:Int)-1=((F.l.length-1:Nat):Int):=by omega
 have hG2:((F.l.length-1:Nat):Int)<(F.l.length:Int):=by omega
 have hlcF:F.l.getD (F.l.length-1) 0=lc F:=rfl
 have hlen0:¬ (F.l.length:Int)=0:=by omega
 refine fn7.con rfl (by simp) ?_
 (try simp only[init2,c7,c7_170,c7_1,l7_0,cw,cops,csW,csL,reduceIte,reduceEqDiff,reduceCtorEq,reduceAdd,reduceLT,reduceLeDiff,reduceSub,csE,csE])
 (repeat refine And.intro (by first|omega|(simp;omega)) ?_)
 refine keep [0,1] ?_
 (try simp only[c7_169,c7_4,l7_2,cw,cops,csW,csL,reduceIte,reduceEqDiff,reduceCtorEq,reduceAdd,reduceLT,reduceLeDiff,reduceSub,csE,csE])
 (repeat refine And.intro (by first|omega|(simp;omega)) ?_)
 refine⟨_,cx (hf),?_⟩
 (try simp only[l7_3,cw,cops,csW,csL,reduceIte,reduceEqDiff,reduceCtorEq,reduceAdd,reduceLT,reduceLeDiff,reduceSub,csE,csE])
 (repeat refine And.intro (by first|omega|(simp;omega)) ?_)
 refine keep [0,1,5,6,7] ?_
 (try simp only[c7_168,c7_7,l7_5,cw,cops,csW,csL,reduceIte,reduceEqDiff,reduceCtorEq,reduceAdd,reduceLT,reduceLeDiff,reduceSub,csE,csE])
 (repeat refine And.intro (by first|omega|(simp;omega)) ?_)
 refine⟨_,cx (hI),?_⟩
 (try simp only[l7_6,cw,cops,csW,csL,reduceIte,reduceEqDiff,reduceCtorEq,reduceAdd,reduceLT,reduceLeDiff,reduceSub,csE,csE])
 (repeat refine And.intro (by first|omega|(simp;omega)) ?_)
 refine keep [0,1,5,6,7,8,9] ?_
 (try simp only[c7_167,c7_10,l7_8,cw,cops,csW,csL,reduceIte,reduceEqDiff,reduceCtorEq,reduceAdd,reduceLT,reduceLeDiff,reduceSub,csE,csE])
 (repeat refine And.intro (by first|omega|(simp;omega)) ?_)
 refine⟨_,cx (hR),?_⟩
 (try simp only[l7_9,cw,cops,csW,csL,reduceIte,reduceEqDiff,reduceCtorEq,reduceAdd,reduceLT,reduceLeDiff,reduceSub,csE,csE])
 (repeat refine And.intro (by first|omega|(simp;omega)) ?_)
 refine keep [0,1,5,6,7,8,9,10,11] ?_
 (try simp only[c7_166,c7_13,l7_11,cw,cops,csW,csL,reduceIte,reduceEqDiff,reduceCtorEq,reduceAdd,reduceLT,reduceLeDiff,reduceSub,csE,csE])
 (repeat refine And.intro (by first|omega|(simp;omega)) ?_)
 refine⟨_,cx (hck),?_⟩
 (try simp only[l7_12,cw,cops,csW,csL,reduceIte,reduceEqDiff,reduceCtorEq,reduceAdd,reduceLT,reduceLeDiff,reduceSub,csE,csE])
 (repeat refine And.intro (by first|omega|(simp;omega)) ?_)
 refine keep [0,1,5,6,7,8,9,10,11,12] ?_
 (try simp only[c7_165,c7_21,c7_16,l7_14,cw,cops,csW,csL,reduceIte,reduceEqDiff,reduceCtorEq,reduceAdd,reduceLT,reduceLeDiff,reduceSub,csE,csE])
 (repeat refine And.intro (by first|omega|(simp;omega)) ?_)
 refine⟨_,cx (fpBegun_con),?_⟩
 (try simp only[l7_15,cw,cops,csW,csL,reduceIte,reduceEqDiff,reduceCtorEq,reduceAdd,reduceLT,reduceLeDiff,reduceSub,csE,csE])
 (repeat refine And.intro (by first|omega|(simp;omega)) ?_)
 refine keep [0,1,5,6,7,8,10,11,12,47] ?_
 (try simp only[c7_20,cw,cops,csW,csL,reduceIte,reduceEqDiff,reduceCtorEq,reduceAdd,reduceLT,reduceLeDiff,reduceSub,csE,csE])
 (repeat refine And.intro (by first|omega|(simp;omega)) ?_)
 (try simp only[cw,cops,csW,csL,reduceIte,reduceEqDiff,reduceCtorEq,reduceAdd,reduceLT,reduceLeDiff,reduceSub,csE,csE,hlen0])
 (repeat refine And.intro (by first|omega|(simp;omega)) ?_)
 refine keep [0,1,5,6,7,8,10,11,12] ?_
 (try simp only[c7_164,c7_36,c7_23,l7_22,cw,cops,csW,csL,reduceIte,reduceEqDiff,reduceCtorEq,reduceAdd,reduceLT,reduceLeDiff,reduceSub,csE,csE,hlen0])
 (repeat refine And.intro (by first|omega|(simp;omega)) ?_)
 refine keep [0,1,5,6,7,8,10,11,12,55] ?_
 (try simp only[c7_35,cw,cops,csW,csL,reduceIte,reduceEqDiff,reduceCtorEq,reduceAdd,reduceLT,reduceLeDiff,reduceSub,csE,csE,hlen0])
 (repeat refine And.intro (by first|omega|(simp;omega)) ?_)
 (try simp only[cw,cops,csW,csL,reduceIte,reduceEqDiff,reduceCtorEq,reduceAdd,reduceLT,reduceLeDiff,reduceSub,csE,csE,hlen0])
 (repeat refine And.intro (by first|omega|(simp;omega)) ?_)
 refine keep [0,1,5,6,7,8,10,11,12] ?_
 (try simp only[c7_163,c7_43,c7_38,l7_37,cw,cops,csW,csL,reduceIte,reduceEqDiff,reduceCtorEq,reduceAdd,reduceLT,reduceLeDiff,reduceSub,csE,csE,hlen0])
 (repeat refine And.intro (by first|omega|(simp;omega)) ?_)
 refine keep [0,1,5,6,8,10,12,65] ?_
 (try simp only[c7_42,cw,cops,csW,csL,reduceIte,reduceEqDiff,reduceCtorEq,reduceAdd,reduceLT,reduceLeDiff,reduceSub,csE,csE,hlen0])
 (repeat refine And.intro (by first|omega|(simp;omega)) ?_)
 (try simp only[cw,cops,csW,csL,reduceIte,reduceEqDiff,reduceCtorEq,reduceAdd,reduceLT,reduceLeDiff,reduceSub,csE,csE,hlen0])
 (repeat refine And.intro (by first|omega|(simp;omega)) ?_)
 refine keep [0,1,5,6,8,10,12] ?_
 (try simp only[c7_162,c7_50,c7_45,l7_44,cw,cops,csW,csL,reduceIte,reduceEqDiff,reduceCtorEq,reduceAdd,reduceLT,reduceLeDiff,reduceSub,csE,csE,hlen0])
 (repeat refine And.intro (by first|omega|(simp;omega)) ?_)
 refine keep [0,1,5,6,8,10,68] ?_
 (try simp only[c7_49,cw,cops,csW,csL,reduceIte,reduceEqDiff,reduceCtorEq,reduceAdd,reduceLT,reduceLeDiff,reduceSub,csE,csE,hlen0])
 (repeat refine And.intro (by first|omega|(simp;omega)) ?_)
 (try simp only[cw,cops,csW,csL,reduceIte,reduceEqDiff,reduceCtorEq,reduceAdd,reduceLT,reduceLeDiff,reduceSub,csE,csE,hG1,hG2,hlcF])
 (repeat refine And.intro (by first|omega|(simp;omega)) ?_)
 refine keep [0,1,5,6,8,10] ?_
 (try simp only[c7_161,c7_52,l7_51,cw,cops,csW,csL,reduceIte,reduceEqDiff,reduceCtorEq,reduceAdd,reduceLT,reduceLeDiff,reduceSub,csE,csE,hG1,hG2,hlcF])
 (repeat refine And.intro (by first|omega|(simp;omega)) ?_)
 refine keep [0,1,5,6,8,10,13] ?_
 (try simp only[c7_160,c7_106,c7_54,l7_53,cw,cops,csW,csL,reduceIte,reduceEqDiff,reduceCtorEq,reduceAdd,reduceLT,reduceLeDiff,reduceSub,csE,csE,hG1,hG2,hlcF])
 (repeat refine And.intro (by first|omega|(simp;omega)) ?_)
 refine keep [0,1,5,6,8,10,13,14] ?_
 (try simp only[c7_105,cw,cops,csW,csL,reduceIte,reduceEqDiff,reduceCtorEq,reduceAdd,reduceLT,reduceLeDiff,reduceSub,csE,csE,hG1,hG2,hlcF])
 refine loop_of (ι:=Nat × Po P) (fun s=>s.1≤m∧s.2*prF (A.drop s.1)=F) (fun s=>⟨look [(0,.p (LT T F.l)),(1,.p (I P.p)),(5,.p (I (lc F))),(6,.p (.list 36 2 (A.map sD))),(8,.p (.bool b)),(10,.p (L R)),(13,.p (L s.2.l)),(14,.p (I s.1))],lookM []⟩) (fun s=>m-s.1) (0,cn (lc F)) ⟨Nat.zero_le _,hpr⟩ (by rw[show (cn (lc F):Po P).l=[lc F] from hlc];exact ((Sub.showG 13 91 _ (L [lc F]) rfl rfl).tr (Sub.toG [0,1,5,6,8,10,13,14] [7,9,11,12,91] (by rfl) (by rfl) (by rfl) (by rfl)))) ?_
 rintro⟨i,a⟩ ⟨hi,ha⟩
 simp only at hi ha
 by_cases h:i<m
 ·have hiA:i<A.length:=by omega
  have hiI:(i:Int)<(A.length:Int):=by omega
  obtain⟨G,n,hx,hG,hGl,hn1,hn2⟩:=hmem i hiA
  have hgs:=getD_sD hiA
  rw[hx] at hgs
  simp only at hgs
  have hoi:0<i→ordL (A.getD (i-1) ([],0)).1 G.l<0:=fun h0=>by
   have:=hso i h0 hiA
   rw[hx] at this;exact this
  rw[prF_at hiA hx] at ha
  obtain⟨N,hN⟩:∃ N:Nat,n=(N:Int):=⟨n.toNat,by omega⟩
  subst hN
  rw[Int.toNat_natCast] at ha
  (try simp only[c7_103,c7_58,c7_56,l7_55,cw,cops,csW,csL,reduceIte,reduceEqDiff,reduceCtorEq,reduceAdd,reduceLT,reduceLeDiff,reduceSub,csE,csE,hiI,List.length_map])
  (repeat refine And.intro (by first|omega|(simp;omega)) ?_)
  refine keep [0,1,5,6,8,10,13,14,95] ?_
  (try simp only[c7_57,cw,cops,csW,csL,reduceIte,reduceEqDiff,reduceCtorEq,reduceAdd,reduceLT,reduceLeDiff,reduceSub,csE,csE,hiI,List.length_map])
  (repeat refine And.intro (by first|omega|(simp;omega)) ?_)
  (try simp only[cw,cops,csW,csL,reduceIte,reduceEqDiff,reduceCtorEq,reduceAdd,reduceLT,reduceLeDiff,reduceSub,csE,csE,hiI,hgs,List.length_map])
  (repeat refine And.intro (by first|omega|(simp;omega)) ?_)
  refine keep [0,1,5,6,8,10,13,14] ?_
  (try simp only[c7_102,c7_99,c7_98,c7_60,l7_59,cw,cops,csW,csL,reduceIte,reduceEqDiff,reduceCtorEq,reduceAdd,reduceLT,reduceLeDiff,reduceSub,csE,csE,hiI,hgs,List.length_map])
  (repeat refine And.intro (by first|omega|(simp;omega)) ?_)
  refine⟨_,(Sub.toG [0,1,5,6,8,10,13,14,15] [7,9,11,12,91] (by rfl) (by rfl) (by rfl) (by rfl)).tr (Sub.rf _),?_⟩
  simp only[c7_97,cw]
  refine fac_a F G A R a.l (lc F) b i N hsm hiA hx hG hGl ⟨hn1,hn2⟩ hlL hoi _ fun t ht=>⟨_,ht,?_⟩
  (try simp only[c7_96,c7_86,c7_71,l7_70,cw,cops,csW,csL,reduceIte,reduceEqDiff,reduceCtorEq,reduceAdd,reduceLT,reduceLeDiff,reduceSub,csE,csE,hiI,hgs,List.length_map])
  (repeat refine And.intro (by first|omega|(simp;omega)) ?_)
  refine keep [0,1,5,6,8,10,13,14,15,16] ?_
  (try simp only[c7_85,cw,cops,csW,csL,reduceIte,reduceEqDiff,reduceCtorEq,reduceAdd,reduceLT,reduceLeDiff,reduceSub,csE,csE,hiI,hgs,List.length_map])
  refine loop_of (ι:=Nat × Po P) (fun s=>s.1≤N∧s.2*(pw G (N-s.1)*prF (A.drop (i+1)))=F) (fun s=>⟨look [(0,.p (LT T F.l)),(1,.p (I P.p)),(5,.p (I (lc F))),(6,.p (.list 36 2 (A.map sD))),(8,.p (.bool b)),(10,.p (L R)),(13,.p (L s.2.l)),(14,.p (I i)),(15,.p (L G.l)),(16,.p (I s.1))],lookM []⟩) (fun s=>N-s.1) (0,a) ⟨Nat.zero_le _,ha⟩ (Sub.toG [0,1,5,6,8,10,13,14,15,16] [7,9,11,12,91] (by rfl) (by rfl) (by rfl) (by rfl)) ?_
  rintro⟨j,c⟩ ⟨hj,hc⟩
  simp only at hj hc
  by_cases hjN:j<N
  ·have hjI:(j:Int)<(N:Int):=by omega
   have hcl:dg c≤dg F:=dg_dvd ⟨_,hc.symm⟩ h0
   have cM:=mmul_con (T:=3) (T':=3) c.l G.l P.p (by omega) c.rg G.rg (by unfold dg at *;omega) (by unfold dg at *;omega)
   rw[←mul_l] at cM
   rw[show N-j=(N-(j+1))+1 by omega,step_eq] at hc
   (try simp only[c7_83,c7_75,c7_73,l7_72,cw,cops,csW,csL,reduceIte,reduceEqDiff,reduceCtorEq,reduceAdd,reduceLT,reduceLeDiff,reduceSub,csE,csE,hjI,hiI,hgs,List.length_map])
   (repeat refine And.intro (by first|omega|(simp;omega)) ?_)
   refine keep [0,1,5,6,8,10,13,14,15,16,161] ?_
   (try simp only[c7_74,cw,cops,csW,csL,reduceIte,reduceEqDiff,reduceCtorEq,reduceAdd,reduceLT,reduceLeDiff,reduceSub,csE,csE,hjI,hiI,hgs,List.length_map])
   (repeat refine And.intro (by first|omega|(simp;omega)) ?_)
   (try simp only[cw,cops,csW,csL,reduceIte,reduceEqDiff,reduceCtorEq,reduceAdd,reduceLT,reduceLeDiff,reduceSub,csE,csE,hjI])
   (repeat refine And.intro (by first|omega|(simp;omega)) ?_)
   refine keep [0,1,5,6,8,10,13,14,15,16] ?_
   (try simp only[c7_82,c7_79,c7_78,l7_76,cw,cops,csW,csL,reduceIte,reduceEqDiff,reduceCtorEq,reduceAdd,reduceLT,reduceLeDiff,reduceSub,csE,csE,hjI])
   (repeat refine And.intro (by first|omega|(simp;omega)) ?_)
   refine⟨_,cx (cM),?_⟩
   (try simp only[l7_77,cw,cops,csW,csL,reduceIte,reduceEqDiff,reduceCtorEq,reduceAdd,reduceLT,reduceLeDiff,reduceSub,csE,csE])
   (repeat refine And.intro (by first|omega|(simp;omega)) ?_)
   refine keep [0,1,5,6,8,10,13,14,15,16] ?_
   (try simp only[c7_81,l7_80,cw,cops,csW,csL,reduceIte,reduceEqDiff,reduceCtorEq,reduceAdd,reduceLT,reduceLeDiff,reduceSub,csE,csE])
   (repeat refine And.intro (by first|omega|(simp;omega)) ?_)
   exact⟨(j+1,c*G),⟨hjN,hc⟩,(Sub.toG [0,1,5,6,8,10,13,14,15,16] [7,9,11,12,91] (by rfl) (by rfl) (by rfl) (by rfl)),by first | omega | (simp only;omega)⟩
  ·have hjI:¬ (j:Int)<(N:Int):=by omega
   rw[show N-j=0 by omega,pw_0,one_mul] at hc
   (try simp only[c7_83,c7_75,c7_73,l7_72,cw,cops,csW,csL,reduceIte,reduceEqDiff,reduceCtorEq,reduceAdd,reduceLT,reduceLeDiff,reduceSub,csE,csE,hjI,hiI,hgs,List.length_map])
   (repeat refine And.intro (by first|omega|(simp;omega)) ?_)
   refine keep [0,1,5,6,8,10,13,14,15,16,161] ?_
   (try simp only[c7_74,cw,cops,csW,csL,reduceIte,reduceEqDiff,reduceCtorEq,reduceAdd,reduceLT,reduceLeDiff,reduceSub,csE,csE,hjI,hiI,hgs,List.length_map])
   (repeat refine And.intro (by first|omega|(simp;omega)) ?_)
   (try simp only[cw,cops,csW,csL,reduceIte,reduceEqDiff,reduceCtorEq,reduceAdd,reduceLT,reduceLeDiff,reduceSub,csE,csE,hjI])
   (repeat refine And.intro (by first|omega|(simp;omega)) ?_)
   refine⟨_,(Sub.toG [0,1,5,6,8,10,13,14,15] [7,9,11,12,91] (by rfl) (by rfl) (by rfl) (by rfl)).tr (Sub.rf _),?_⟩
   refine fac_b F G A R c.l (lc F) b i hG hGl _ fun t ht=>⟨_,ht,?_⟩
   (try simp only[c7_101,l7_100,cw,cops,csW,csL,reduceIte,reduceEqDiff,reduceCtorEq,reduceAdd,reduceLT,reduceLeDiff,reduceSub,csE,csE,hjI])
   (repeat refine And.intro (by first|omega|(simp;omega)) ?_)
   exact⟨(i+1,c),⟨h,hc⟩,(Sub.toG [0,1,5,6,8,10,13,14] [7,9,11,12,91] (by rfl) (by rfl) (by rfl) (by rfl)),by first | omega | (simp only;omega)⟩
 ·have hiI:¬ (i:Int)<(A.length:Int):=by omega
  rw[List.drop_of_length_le (by omega:A.length≤i)] at ha
  rw[show (prF []:Po P)=1 from rfl,mul_one] at ha
  rw[ha]
  (try simp only[c7_103,c7_58,c7_56,l7_55,cw,cops,csW,csL,reduceIte,reduceEqDiff,reduceCtorEq,reduceAdd,reduceLT,reduceLeDiff,reduceSub,csE,csE,hiI,List.length_map])
  (repeat refine And.intro (by first|omega|(simp;omega)) ?_)
  refine keep [0,1,5,6,8,10,13,14,95] ?_
  (try simp only[c7_57,cw,cops,csW,csL,reduceIte,reduceEqDiff,reduceCtorEq,reduceAdd,reduceLT,reduceLeDiff,reduceSub,csE,csE,hiI,List.length_map])
  (repeat refine And.intro (by first|omega|(simp;omega)) ?_)
  (try simp only[cw,cops,csW,csL,reduceIte,reduceEqDiff,reduceCtorEq,reduceAdd,reduceLT,reduceLeDiff,reduceSub,csE,csE,hiI])
  (repeat refine And.intro (by first|omega|(simp;omega)) ?_)
  refine⟨_,(Sub.toG [0,1,5,6,8,10,13] [7,9,11,12,91] (by rfl) (by rfl) (by rfl) (by rfl)).tr (Sub.rf _),?_⟩
  simp only[c7_159,cw]
  refine fac_c F A R b hl0 hlL hAl his _ fun t ht=>⟨_,ht,?_⟩
  exact fac_tail F R hl hS hRl
end Go.Proofs.Ytlnhembcfhfpkaa.M
