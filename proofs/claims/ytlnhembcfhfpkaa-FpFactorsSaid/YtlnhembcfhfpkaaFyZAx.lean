/- Polynomials modulo a prime: the law of the factors walked: its main part. -/
import Derived.Test.YtlnhembcfhfpkaaFyZx
namespace Go.Proofs.Ytlnhembcfhfpkaa.M
open Go.RowKit Go.Proofs.Ytlnhembcfhfpkaa.Fx
open Nat (reduceEqDiff reduceAdd reduceLT reduceLeDiff reduceSub)
set_option linter.unusedSimpArgs false
set_option linter.unusedVariables false
variable {P:Pr}
theorem copsC (G:FuncId→List D→D→Prop) (c:COp) (l:List COp) (K:St→Prop) (s:St):cops G (c::l) K s=gstep G c (cops G l K) s:=rfl
theorem copsN (G:FuncId→List D→D→Prop) (K:St→Prop) (s:St):cops G [] K s=K s:=rfl
set_option maxRecDepth 20000 in
set_option maxHeartbeats 8000000 in
theorem fac_a {T:Nat} (F G:Po P) (A:FL) (R all:List Int) (k:Int) (b:Bool) (i:Nat) (n:Int) (hA:Sm A) (hi:i<A.length) (hx:A.getD i ([],0)=(G.l,n)) (hG:Irr G) (hGl:dg G≤65) (hn:1≤n∧n≤F.l.length) (hFl:F.l.length≤65) (ho:0<i→ordL (A.getD (i-1) ([],0)).1 G.l<0) (Q:AExit→St→Prop)
  (hQ:∀ s,Sub [24,3] s ⟨look [(0,.p (LT T F.l)),(1,.p (I P.p)),(5,.p (I k)),(6,.p (.list 36 2 (A.map sD))),(8,.p (.bool b)),(10,.p (L R)),(13,.p (L all)),(14,.p (I i)),(15,.p (L G.l))],lookM []⟩→Q .normal s) :
  cw [24,3] (ConX Try.prog []) c7_69 Q ⟨look [(0,.p (LT T F.l)),(1,.p (I P.p)),(5,.p (I k)),(6,.p (.list 36 2 (A.map sD))),(8,.p (.bool b)),(10,.p (L R)),(13,.p (L all)),(14,.p (I i)),(15,.p (L G.l))],lookM []⟩:=by
 have hg:=getD_sD hi
 rw[hx] at hg
 have hg2:(A.map sD).getD i default = .agg [L G.l,I n]:=hg
 have hiI:(i:Int)<(A.length:Int):=by omega
 have hAl:=hA.len
 have hG2:2≤G.l.length:=hG.d2
 have hGL:G.l.length≤65:=hGl
 have hlt:¬ (G.l.length:Int)<2:=by omega
 have hck:=checkMod_con (T:=3) G.l P.p
 rw[(gp G hGl).chk] at hck
 have e1:(G.l.length:Int)-1=((G.l.length-1:Nat):Int):=by omega
 have e2:((G.l.length-1:Nat):Int)<(G.l.length:Int):=by omega
 have e3:G.l.getD (G.l.length-1) 0=1:=hG.mo
 have e4:¬ n<1:=by omega
 have e5:¬ (F.l.length:Int)<n:=by omega
 rcases i with _ | i
 ·have e6:¬ (0:Int)<0:=by omega
  skip
  (try simp only[c7_69,c7_64,cw,cops,csW,csL,reduceIte,reduceEqDiff,reduceCtorEq,reduceAdd,reduceLT,reduceLeDiff,reduceSub,csE,hlt,e6])
  (repeat refine And.intro (by first|omega|(simp;omega)) ?_)
  (try rw[cops_app])
  unfold l7_61
  repeat (rw[copsC];(try simp only[cw,csW,csL,reduceIte,reduceEqDiff,reduceCtorEq,reduceAdd,reduceLT,reduceLeDiff,reduceSub,csE,hlt,e6]);(repeat refine And.intro (by first|omega|(simp;omega)) ?_))
  (try simp only[cw,cops,csW,csL,reduceIte,reduceEqDiff,reduceCtorEq,reduceAdd,reduceLT,reduceLeDiff,reduceSub,csE,hlt,e6])
  (repeat refine And.intro (by first|omega|(simp;omega)) ?_)
  refine⟨_,cx (hck),?_⟩
  (try rw[cops_app])
  unfold l7_62
  repeat (rw[copsC];(try simp only[cw,csW,csL,reduceIte,reduceEqDiff,reduceCtorEq,reduceAdd,reduceLT,reduceLeDiff,reduceSub,csE,e1,e2,e3,e4,e5,e6,hg2,hiI,hlt,List.length_map]);(repeat refine And.intro (by first|omega|(simp;omega)) ?_))
  (try simp only[cw,cops,csW,csL,reduceIte,reduceEqDiff,reduceCtorEq,reduceAdd,reduceLT,reduceLeDiff,reduceSub,csE,e1,e2,e3,e4,e5,e6,hg2,hiI,hlt,List.length_map])
  (repeat refine And.intro (by first|omega|(simp;omega)) ?_)
  (try simp only[l7_63,cw,cops,csW,csL,reduceIte,reduceEqDiff,reduceCtorEq,reduceAdd,reduceLT,reduceLeDiff,reduceSub,csE,hlt,e6])
  (repeat refine And.intro (by first|omega|(simp;omega)) ?_)
  refine keep [0,1,5,6,8,10,13,14,15,154] ?_
  (try simp only[c7_68,cw,cops,csW,csL,reduceIte,reduceEqDiff,reduceCtorEq,reduceAdd,reduceLT,reduceLeDiff,reduceSub,csE,hlt,e6])
  (repeat refine And.intro (by first|omega|(simp;omega)) ?_)
  (try simp only[cw,cops,csW,csL,reduceIte,reduceEqDiff,reduceCtorEq,reduceAdd,reduceLT,reduceLeDiff,reduceSub,csE])
  (repeat refine And.intro (by first|omega|(simp;omega)) ?_)
  exact hQ _ (Sub.toG [0,1,5,6,8,10,13,14,15] [] (by rfl) (by rfl) (by rfl) (by rfl))
 ·have e6:(0:Int)<((i+1:Nat):Int):=by omega
  have e7:((i+1:Nat):Int)-1=(i:Int):=by omega
  have e8:(i:Int)<(A.length:Int):=by omega
  have e9:(0:Int)<(i:Int)+1:=by omega
  have e10:(i:Int)+1-1=(i:Int):=by omega
  have hp:=getD_sD (A:=A) (i:=i) (by omega)
  have hel:=hA.el i
  have ho2:=ho (by omega)
  rw[Nat.add_sub_cancel] at ho2
  obtain⟨y,z,hy⟩:∃ y z,A.getD i ([],0)=(y,z):=⟨_,_,rfl⟩
  rw[hy] at hp hel ho2
  simp only at hp hel ho2
  have cA:=mahead_con (T:=3) (T':=3) y G.l (by omega)
  rw[decide_eq_true ho2] at cA
  skip
  (try simp only[c7_69,c7_64,cw,cops,csW,csL,reduceIte,reduceEqDiff,reduceCtorEq,reduceAdd,reduceLT,reduceLeDiff,reduceSub,csE,hlt])
  (repeat refine And.intro (by first|omega|(simp;omega)) ?_)
  (try rw[cops_app])
  unfold l7_61
  repeat (rw[copsC];(try simp only[cw,csW,csL,reduceIte,reduceEqDiff,reduceCtorEq,reduceAdd,reduceLT,reduceLeDiff,reduceSub,csE,hlt]);(repeat refine And.intro (by first|omega|(simp;omega)) ?_))
  (try simp only[cw,cops,csW,csL,reduceIte,reduceEqDiff,reduceCtorEq,reduceAdd,reduceLT,reduceLeDiff,reduceSub,csE,hlt])
  (repeat refine And.intro (by first|omega|(simp;omega)) ?_)
  refine⟨_,cx (hck),?_⟩
  (try rw[cops_app])
  unfold l7_62
  repeat (rw[copsC];(try simp only[cw,csW,csL,reduceIte,reduceEqDiff,reduceCtorEq,reduceAdd,reduceLT,reduceLeDiff,reduceSub,csE,e1,e2,e3,e4,e5,e6,e7,e8,e9,e10,hg2,hp,hiI,hlt,List.length_map]);(repeat refine And.intro (by first|omega|(simp;omega)) ?_))
  (try simp only[cw,cops,csW,csL,reduceIte,reduceEqDiff,reduceCtorEq,reduceAdd,reduceLT,reduceLeDiff,reduceSub,csE,e1,e2,e3,e4,e5,e6,e7,e8,e9,e10,hg2,hp,hiI,hlt,List.length_map])
  (repeat refine And.intro (by first|omega|(simp;omega)) ?_)
  refine⟨_,cx (cA),?_⟩
  (try simp only[l7_63,cw,cops,csW,csL,reduceIte,reduceEqDiff,reduceCtorEq,reduceAdd,reduceLT,reduceLeDiff,reduceSub,csE])
  (repeat refine And.intro (by first|omega|(simp;omega)) ?_)
  refine keep [0,1,5,6,8,10,13,14,15,154] ?_
  (try simp only[c7_68,cw,cops,csW,csL,reduceIte,reduceEqDiff,reduceCtorEq,reduceAdd,reduceLT,reduceLeDiff,reduceSub,csE])
  (repeat refine And.intro (by first|omega|(simp;omega)) ?_)
  (try simp only[cw,cops,csW,csL,reduceIte,reduceEqDiff,reduceCtorEq,reduceAdd,reduceLT,reduceLeDiff,reduceSub,csE])
  (repeat refine And.intro (by first|omega|(simp;omega)) ?_)
  exact hQ _ (Sub.toG [0,1,5,6,8,10,13,14,15] [] (by rfl) (by rfl) (by rfl) (by rfl))
set_option maxRecDepth 20000 in
set_option maxHeartbeats 4000000 in
theorem fac_b {T:Nat} (F G:Po P) (A:FL) (R all:List Int) (k:Int) (b:Bool) (i:Nat) (hG:Irr G) (hGl:dg G≤65) (Q:AExit→St→Prop)
  (hQ:∀ s,Sub [24,3] s ⟨look [(0,.p (LT T F.l)),(1,.p (I P.p)),(5,.p (I k)),(6,.p (.list 36 2 (A.map sD))),(8,.p (.bool b)),(10,.p (L R)),(13,.p (L all)),(14,.p (I i))],lookM []⟩→Q .normal s) :
  cw [24,3] (ConX Try.prog []) c7_95 Q ⟨look [(0,.p (LT T F.l)),(1,.p (I P.p)),(5,.p (I k)),(6,.p (.list 36 2 (A.map sD))),(8,.p (.bool b)),(10,.p (L R)),(13,.p (L all)),(14,.p (I i)),(15,.p (L G.l))],lookM []⟩:=by
 have hp:=P.h.pos
 have hG2:2≤G.l.length:=hG.d2
 have hGL:G.l.length≤65:=hGl
 have cW:=mwork_con (T:=3) G.l P.p (by omega) (by omega) (by omega)
 have cI:=mirr_con (T:=3) G hG (by omega)
 generalize pwM P.p ((G.l.length-1) / 2)*(G.l.length:Int)=w at cW
 by_cases h:w<20000
 ·skip
  (try simp only[c7_95,c7_90,l7_87,cw,cops,csW,csL,reduceIte,reduceEqDiff,reduceCtorEq,reduceAdd,reduceLT,reduceLeDiff,reduceSub,csE])
  (repeat refine And.intro (by first|omega|(simp;omega)) ?_)
  refine⟨_,cx (cW),?_⟩
  (try simp only[l7_88,cw,cops,csW,csL,reduceIte,reduceEqDiff,reduceCtorEq,reduceAdd,reduceLT,reduceLeDiff,reduceSub,csE,h])
  (repeat refine And.intro (by first|omega|(simp;omega)) ?_)
  refine⟨_,cx (cI),?_⟩
  (try simp only[l7_89,cw,cops,csW,csL,reduceIte,reduceEqDiff,reduceCtorEq,reduceAdd,reduceLT,reduceLeDiff,reduceSub,csE,h])
  (repeat refine And.intro (by first|omega|(simp;omega)) ?_)
  refine keep [0,1,5,6,8,10,13,14,177] ?_
  (try simp only[c7_94,cw,cops,csW,csL,reduceIte,reduceEqDiff,reduceCtorEq,reduceAdd,reduceLT,reduceLeDiff,reduceSub,csE,h])
  (repeat refine And.intro (by first|omega|(simp;omega)) ?_)
  (try simp only[cw,cops,csW,csL,reduceIte,reduceEqDiff,reduceCtorEq,reduceAdd,reduceLT,reduceLeDiff,reduceSub,csE,h])
  (repeat refine And.intro (by first|omega|(simp;omega)) ?_)
  exact hQ _ (Sub.toG [0,1,5,6,8,10,13,14] [] (by rfl) (by rfl) (by rfl) (by rfl))
 ·skip
  (try simp only[c7_95,c7_90,l7_87,cw,cops,csW,csL,reduceIte,reduceEqDiff,reduceCtorEq,reduceAdd,reduceLT,reduceLeDiff,reduceSub,csE])
  (repeat refine And.intro (by first|omega|(simp;omega)) ?_)
  refine⟨_,cx (cW),?_⟩
  (try simp only[l7_88,cw,cops,csW,csL,reduceIte,reduceEqDiff,reduceCtorEq,reduceAdd,reduceLT,reduceLeDiff,reduceSub,csE,h])
  (repeat refine And.intro (by first|omega|(simp;omega)) ?_)
  (try simp only[l7_89,cw,cops,csW,csL,reduceIte,reduceEqDiff,reduceCtorEq,reduceAdd,reduceLT,reduceLeDiff,reduceSub,csE,h])
  (repeat refine And.intro (by first|omega|(simp;omega)) ?_)
  refine keep [0,1,5,6,8,10,13,14,177] ?_
  (try simp only[c7_94,cw,cops,csW,csL,reduceIte,reduceEqDiff,reduceCtorEq,reduceAdd,reduceLT,reduceLeDiff,reduceSub,csE,h])
  (repeat refine And.intro (by first|omega|(simp;omega)) ?_)
  (try simp only[cw,cops,csW,csL,reduceIte,reduceEqDiff,reduceCtorEq,reduceAdd,reduceLT,reduceLeDiff,reduceSub,csE,h])
  (repeat refine And.intro (by first|omega|(simp;omega)) ?_)
  exact hQ _ (Sub.toG [0,1,5,6,8,10,13,14] [] (by rfl) (by rfl) (by rfl) (by rfl))
end Go.Proofs.Ytlnhembcfhfpkaa.M
