/- Polynomials modulo a prime: Factor at what has a fault, Irreducible walked. -/
import Derived.Test.YtlnhembcfhfpkaaFyUx
namespace Go.Proofs.Ytlnhembcfhfpkaa.M
open Go.RowKit Go.Proofs.Ytlnhembcfhfpkaa.Fx
open Nat (reduceEqDiff reduceAdd reduceLT reduceLeDiff reduceSub)
set_option linter.unusedSimpArgs false
set_option linter.unusedVariables false
variable {P:Pr}
set_option maxRecDepth 20000 in
set_option maxHeartbeats 1000000 in
theorem factor_bad {T:Nat} (f:List Int) (p:Int) (h:¬ (chk f p).1=0):Con Try.prog [] 13 [LT T f,I p] (.tup [I 0,.list 36 2 [],flt (chk f p).1 (chk f p).2]):=by
 refine fn13.con rfl (by simp) ?_
 (try simp only[init2,c13,c13_73,c13_1,l13_0,cw,cops,csW,csL,reduceIte,reduceEqDiff,reduceCtorEq,reduceAdd,reduceLT,reduceLeDiff,reduceSub,csFa])
 (repeat refine And.intro (by first|omega|(simp;omega)) ?_)
 refine keep [0,1,6] ?_
 (try simp only[c13_72,c13_12,c13_4,l13_2,cw,cops,csW,csL,reduceIte,reduceEqDiff,reduceCtorEq,reduceAdd,reduceLT,reduceLeDiff,reduceSub,csFa])
 (repeat refine And.intro (by first|omega|(simp;omega)) ?_)
 refine⟨_,cx (check_con (T:=T) f p),?_⟩
 (try simp only[l13_3,cw,cops,csW,csL,reduceIte,reduceEqDiff,reduceCtorEq,reduceAdd,reduceLT,reduceLeDiff,reduceSub,csFa,h])
 (repeat refine And.intro (by first|omega|(simp;omega)) ?_)
 refine keep [0,1,6,7] ?_
 (try simp only[c13_11,c13_6,l13_5,cw,cops,csW,csL,reduceIte,reduceEqDiff,reduceCtorEq,reduceAdd,reduceLT,reduceLeDiff,reduceSub,csFa,h])
 (repeat refine And.intro (by first|omega|(simp;omega)) ?_)
 refine keep [0,1,6,7,18] ?_
 (try simp only[c13_10,cw,cops,csW,csL,reduceIte,reduceEqDiff,reduceCtorEq,reduceAdd,reduceLT,reduceLeDiff,reduceSub,csFa,h])
 (repeat refine And.intro (by first|omega|(simp;omega)) ?_)
 (try simp only[c13_9,c13_8,l13_7,cw,cops,csW,csL,reduceIte,reduceEqDiff,reduceCtorEq,reduceAdd,reduceLT,reduceLeDiff,reduceSub,csFa,h])
 (repeat refine And.intro (by first|omega|(simp;omega)) ?_)
 refine keep [4,5,6] ?_
 (try simp only[cw,cops,csW,csL,reduceIte,reduceEqDiff,reduceCtorEq,reduceAdd,reduceLT,reduceLeDiff,reduceSub,csFa,Ends,resD,resL,resV,h])
 (repeat refine And.intro (by first|omega|(simp;omega)) ?_)
set_option maxRecDepth 20000 in
set_option maxHeartbeats 1000000 in
theorem factor_nil {T:Nat} (p:Int) (h:(chk [] p).1=0):Con Try.prog [] 13 [LT T [],I p] (.tup [I 0,.list 36 2 [],flt 4 0]):=by
 have hck:=check_con (T:=T) [] p
 rw[chk_zero h] at hck
 refine fn13.con rfl (by simp) ?_
 (try simp only[init2,c13,c13_73,c13_1,l13_0,cw,cops,csW,csL,reduceIte,reduceEqDiff,reduceCtorEq,reduceAdd,reduceLT,reduceLeDiff,reduceSub,csFa])
 (repeat refine And.intro (by first|omega|(simp;omega)) ?_)
 refine keep [0,1,6] ?_
 (try simp only[c13_72,c13_12,c13_4,l13_2,cw,cops,csW,csL,reduceIte,reduceEqDiff,reduceCtorEq,reduceAdd,reduceLT,reduceLeDiff,reduceSub,csFa])
 (repeat refine And.intro (by first|omega|(simp;omega)) ?_)
 refine⟨_,cx (hck),?_⟩
 (try simp only[l13_3,cw,cops,csW,csL,reduceIte,reduceEqDiff,reduceCtorEq,reduceAdd,reduceLT,reduceLeDiff,reduceSub,csFa])
 (repeat refine And.intro (by first|omega|(simp;omega)) ?_)
 refine keep [0,1,6,7] ?_
 (try simp only[c13_11,c13_6,l13_5,cw,cops,csW,csL,reduceIte,reduceEqDiff,reduceCtorEq,reduceAdd,reduceLT,reduceLeDiff,reduceSub,csFa])
 (repeat refine And.intro (by first|omega|(simp;omega)) ?_)
 refine keep [0,1,6,7,18] ?_
 (try simp only[c13_10,cw,cops,csW,csL,reduceIte,reduceEqDiff,reduceCtorEq,reduceAdd,reduceLT,reduceLeDiff,reduceSub,csFa])
 (repeat refine And.intro (by first|omega|(simp;omega)) ?_)
 (try simp only[cw,cops,csW,csL,reduceIte,reduceEqDiff,reduceCtorEq,reduceAdd,reduceLT,reduceLeDiff,reduceSub,csFa])
 (repeat refine And.intro (by first|omega|(simp;omega)) ?_)
 refine keep [0,1,6] ?_
 (try simp only[c13_71,c13_20,c13_14,l13_13,cw,cops,csW,csL,reduceIte,reduceEqDiff,reduceCtorEq,reduceAdd,reduceLT,reduceLeDiff,reduceSub,csFa])
 (repeat refine And.intro (by first|omega|(simp;omega)) ?_)
 refine keep [0,1,6,22] ?_
 (try simp only[c13_19,cw,cops,csW,csL,reduceIte,reduceEqDiff,reduceCtorEq,reduceAdd,reduceLT,reduceLeDiff,reduceSub,csFa])
 (repeat refine And.intro (by first|omega|(simp;omega)) ?_)
 (try simp only[c13_18,c13_17,l13_15,cw,cops,csW,csL,reduceIte,reduceEqDiff,reduceCtorEq,reduceAdd,reduceLT,reduceLeDiff,reduceSub,csFa])
 (repeat refine And.intro (by first|omega|(simp;omega)) ?_)
 refine⟨_,cx (fault_con 4 0),?_⟩
 (try simp only[l13_16,cw,cops,csW,csL,reduceIte,reduceEqDiff,reduceCtorEq,reduceAdd,reduceLT,reduceLeDiff,reduceSub,csFa])
 (repeat refine And.intro (by first|omega|(simp;omega)) ?_)
 refine keep [4,5,6] ?_
 (try simp only[cw,cops,csW,csL,reduceIte,reduceEqDiff,reduceCtorEq,reduceAdd,reduceLT,reduceLeDiff,reduceSub,csFa,Ends,resD,resL,resV])
 (repeat refine And.intro (by first|omega|(simp;omega)) ?_)
noncomputable def isI (F:Po P):Bool:=decide ((facL F).map (fun x=>x.2)=[1])
set_option maxRecDepth 20000 in
set_option maxHeartbeats 1000000 in
theorem irr_con {T:Nat} (F:Po P) (h0:F≠0) (hl:dg F≤65):Con Try.prog [] 43 [LT T F.l,I P.p] (.bool (isI F)):=by
 have hf:=factor_ok (T:=T) F h0 hl
 unfold isI
 by_cases h1:(facL F).length=1
 ·obtain⟨x,hx⟩:=List.length_eq_one_iff.1 h1
  obtain⟨x1,x2⟩:=x
  rw[hx] at hf ⊢
  have e1:decide (List.map (fun x:List Int × Int=>x.2) [(x1,x2)]=[1])=decide (x2=1):=by simp
  rw[e1]
  refine fn43.con rfl (by simp) ?_
  (try simp only[init2,c43,c43_9,c43_1,l43_0,cw,cops,csW,csL,reduceIte,reduceEqDiff,reduceCtorEq,reduceAdd,reduceLT,reduceLeDiff,reduceSub,csFa])
  (repeat refine And.intro (by first|omega|(simp;omega)) ?_)
  refine keep [0,1] ?_
  (try simp only[c43_8,c43_4,l43_2,cw,cops,csW,csL,reduceIte,reduceEqDiff,reduceCtorEq,reduceAdd,reduceLT,reduceLeDiff,reduceSub,csFa])
  (repeat refine And.intro (by first|omega|(simp;omega)) ?_)
  refine⟨_,cx (hf),?_⟩
  (try simp only[l43_3,cw,cops,csW,csL,reduceIte,reduceEqDiff,reduceCtorEq,reduceAdd,reduceLT,reduceLeDiff,reduceSub,csFa,sD,Int.zero_add,List.getD_cons_zero])
  (repeat refine And.intro (by first|omega|(simp;omega)) ?_)
  refine keep [6] ?_
  (try simp only[c43_7,c43_6,l43_5,cw,cops,csW,csL,reduceIte,reduceEqDiff,reduceCtorEq,reduceAdd,reduceLT,reduceLeDiff,reduceSub,csFa,sD,Int.zero_add,List.getD_cons_zero])
  (repeat refine And.intro (by first|omega|(simp;omega)) ?_)
  refine keep [4] ?_
  (try simp only[cw,cops,csW,csL,reduceIte,reduceEqDiff,reduceCtorEq,reduceAdd,reduceLT,reduceLeDiff,reduceSub,csFa,Ends,resD,resL,resV,sD,Int.zero_add,List.getD_cons_zero])
  (repeat refine And.intro (by first|omega|(simp;omega)) ?_)
 ·have h2:¬ ((facL F).length:Int)=1:=by omega
  have e1:decide ((facL F).map (fun x=>x.2)=[1])=false:=decide_eq_false fun h=>h1 (by have:=congrArg List.length h;simpa using this)
  rw[e1]
  refine fn43.con rfl (by simp) ?_
  (try simp only[init2,c43,c43_9,c43_1,l43_0,cw,cops,csW,csL,reduceIte,reduceEqDiff,reduceCtorEq,reduceAdd,reduceLT,reduceLeDiff,reduceSub,csFa])
  (repeat refine And.intro (by first|omega|(simp;omega)) ?_)
  refine keep [0,1] ?_
  (try simp only[c43_8,c43_4,l43_2,cw,cops,csW,csL,reduceIte,reduceEqDiff,reduceCtorEq,reduceAdd,reduceLT,reduceLeDiff,reduceSub,csFa])
  (repeat refine And.intro (by first|omega|(simp;omega)) ?_)
  refine⟨_,cx (hf),?_⟩
  (try simp only[l43_3,cw,cops,csW,csL,reduceIte,reduceEqDiff,reduceCtorEq,reduceAdd,reduceLT,reduceLeDiff,reduceSub,csFa,h2,List.length_map])
  (repeat refine And.intro (by first|omega|(simp;omega)) ?_)
  refine keep [6] ?_
  (try simp only[c43_7,c43_6,l43_5,cw,cops,csW,csL,reduceIte,reduceEqDiff,reduceCtorEq,reduceAdd,reduceLT,reduceLeDiff,reduceSub,csFa,h2,List.length_map])
  (repeat refine And.intro (by first|omega|(simp;omega)) ?_)
  refine keep [4] ?_
  (try simp only[cw,cops,csW,csL,reduceIte,reduceEqDiff,reduceCtorEq,reduceAdd,reduceLT,reduceLeDiff,reduceSub,csFa,Ends,resD,resL,resV,h2,List.length_map])
  (repeat refine And.intro (by first|omega|(simp;omega)) ?_)
set_option maxRecDepth 20000 in
set_option maxHeartbeats 1000000 in
theorem eirr_bad {T:Nat} (f:List Int) (p:Int) (h:¬ (chk f p).1=0):Con Try.prog [] 15 [LT T f,I p] (.tup [.bool false,flt (chk f p).1 (chk f p).2]):=by
 refine fn15.con rfl (by simp) ?_
 (try simp only[init2,c15,c15_18,c15_1,l15_0,cw,cops,csW,csL,reduceIte,reduceEqDiff,reduceCtorEq,reduceAdd,reduceLT,reduceLeDiff,reduceSub,csFa])
 (repeat refine And.intro (by first|omega|(simp;omega)) ?_)
 refine keep [0,1,5] ?_
 (try simp only[c15_17,c15_12,c15_4,l15_2,cw,cops,csW,csL,reduceIte,reduceEqDiff,reduceCtorEq,reduceAdd,reduceLT,reduceLeDiff,reduceSub,csFa])
 (repeat refine And.intro (by first|omega|(simp;omega)) ?_)
 refine⟨_,cx (check_con (T:=T) f p),?_⟩
 (try simp only[l15_3,cw,cops,csW,csL,reduceIte,reduceEqDiff,reduceCtorEq,reduceAdd,reduceLT,reduceLeDiff,reduceSub,csFa,h])
 (repeat refine And.intro (by first|omega|(simp;omega)) ?_)
 refine keep [0,1,5,6] ?_
 (try simp only[c15_11,c15_6,l15_5,cw,cops,csW,csL,reduceIte,reduceEqDiff,reduceCtorEq,reduceAdd,reduceLT,reduceLeDiff,reduceSub,csFa,h])
 (repeat refine And.intro (by first|omega|(simp;omega)) ?_)
 refine keep [0,1,5,6,12] ?_
 (try simp only[c15_10,cw,cops,csW,csL,reduceIte,reduceEqDiff,reduceCtorEq,reduceAdd,reduceLT,reduceLeDiff,reduceSub,csFa,h])
 (repeat refine And.intro (by first|omega|(simp;omega)) ?_)
 (try simp only[c15_9,c15_8,l15_7,cw,cops,csW,csL,reduceIte,reduceEqDiff,reduceCtorEq,reduceAdd,reduceLT,reduceLeDiff,reduceSub,csFa,h])
 (repeat refine And.intro (by first|omega|(simp;omega)) ?_)
 refine keep [4,5] ?_
 (try simp only[cw,cops,csW,csL,reduceIte,reduceEqDiff,reduceCtorEq,reduceAdd,reduceLT,reduceLeDiff,reduceSub,csFa,Ends,resD,resL,resV,h])
 (repeat refine And.intro (by first|omega|(simp;omega)) ?_)
set_option maxRecDepth 20000 in
set_option maxHeartbeats 1000000 in
theorem eirr_short {T:Nat} (f:List Int) (p:Int) (h:(chk f p).1=0) (hl:f.length≤1):Con Try.prog [] 15 [LT T f,I p] (.tup [.bool false,flt 0 0]):=by
 have hck:=check_con (T:=T) f p
 rw[chk_zero h] at hck
 have h1:¬ (1:Int)<(f.length:Int):=by omega
 refine fn15.con rfl (by simp) ?_
 (try simp only[init2,c15,c15_18,c15_1,l15_0,cw,cops,csW,csL,reduceIte,reduceEqDiff,reduceCtorEq,reduceAdd,reduceLT,reduceLeDiff,reduceSub,csFa])
 (repeat refine And.intro (by first|omega|(simp;omega)) ?_)
 refine keep [0,1,5] ?_
 (try simp only[c15_17,c15_12,c15_4,l15_2,cw,cops,csW,csL,reduceIte,reduceEqDiff,reduceCtorEq,reduceAdd,reduceLT,reduceLeDiff,reduceSub,csFa])
 (repeat refine And.intro (by first|omega|(simp;omega)) ?_)
 refine⟨_,cx (hck),?_⟩
 (try simp only[l15_3,cw,cops,csW,csL,reduceIte,reduceEqDiff,reduceCtorEq,reduceAdd,reduceLT,reduceLeDiff,reduceSub,csFa])
 (repeat refine And.intro (by first|omega|(simp;omega)) ?_)
 refine keep [0,1,5,6] ?_
 (try simp only[c15_11,c15_6,l15_5,cw,cops,csW,csL,reduceIte,reduceEqDiff,reduceCtorEq,reduceAdd,reduceLT,reduceLeDiff,reduceSub,csFa])
 (repeat refine And.intro (by first|omega|(simp;omega)) ?_)
 refine keep [0,1,5,6,12] ?_
 (try simp only[c15_10,cw,cops,csW,csL,reduceIte,reduceEqDiff,reduceCtorEq,reduceAdd,reduceLT,reduceLeDiff,reduceSub,csFa])
 (repeat refine And.intro (by first|omega|(simp;omega)) ?_)
 (try simp only[cw,cops,csW,csL,reduceIte,reduceEqDiff,reduceCtorEq,reduceAdd,reduceLT,reduceLeDiff,reduceSub,csFa,h1])
 (repeat refine And.intro (by first|omega|(simp;omega)) ?_)
 refine keep [0,1,5] ?_
 (try simp only[c15_16,c15_15,l15_13,cw,cops,csW,csL,reduceIte,reduceEqDiff,reduceCtorEq,reduceAdd,reduceLT,reduceLeDiff,reduceSub,csFa,h1])
 (repeat refine And.intro (by first|omega|(simp;omega)) ?_)
 (try simp only[l15_14,cw,cops,csW,csL,reduceIte,reduceEqDiff,reduceCtorEq,reduceAdd,reduceLT,reduceLeDiff,reduceSub,csFa,h1])
 (repeat refine And.intro (by first|omega|(simp;omega)) ?_)
 refine keep [4,5] ?_
 (try simp only[cw,cops,csW,csL,reduceIte,reduceEqDiff,reduceCtorEq,reduceAdd,reduceLT,reduceLeDiff,reduceSub,csFa,Ends,resD,resL,resV,h1])
 (repeat refine And.intro (by first|omega|(simp;omega)) ?_)
set_option maxRecDepth 20000 in
set_option maxHeartbeats 1000000 in
theorem eirr_ok {T:Nat} (F:Po P) (hl:dg F≤65) (h2:1<dg F):Con Try.prog [] 15 [LT T F.l,I P.p] (.tup [.bool (isI F),flt 0 0]):=by
 have h0:F≠0:=fun h=>by rw[h,dg_0] at h2;omega
 have hck:=check_con (T:=T) F.l P.p
 rw[(gp F hl).chk] at hck
 have h1:(1:Int)<(F.l.length:Int):=by unfold dg at h2;omega
 refine fn15.con rfl (by simp) ?_
 (try simp only[init2,c15,c15_18,c15_1,l15_0,cw,cops,csW,csL,reduceIte,reduceEqDiff,reduceCtorEq,reduceAdd,reduceLT,reduceLeDiff,reduceSub,csFa])
 (repeat refine And.intro (by first|omega|(simp;omega)) ?_)
 refine keep [0,1,5] ?_
 (try simp only[c15_17,c15_12,c15_4,l15_2,cw,cops,csW,csL,reduceIte,reduceEqDiff,reduceCtorEq,reduceAdd,reduceLT,reduceLeDiff,reduceSub,csFa])
 (repeat refine And.intro (by first|omega|(simp;omega)) ?_)
 refine⟨_,cx (hck),?_⟩
 (try simp only[l15_3,cw,cops,csW,csL,reduceIte,reduceEqDiff,reduceCtorEq,reduceAdd,reduceLT,reduceLeDiff,reduceSub,csFa])
 (repeat refine And.intro (by first|omega|(simp;omega)) ?_)
 refine keep [0,1,5,6] ?_
 (try simp only[c15_11,c15_6,l15_5,cw,cops,csW,csL,reduceIte,reduceEqDiff,reduceCtorEq,reduceAdd,reduceLT,reduceLeDiff,reduceSub,csFa])
 (repeat refine And.intro (by first|omega|(simp;omega)) ?_)
 refine keep [0,1,5,6,12] ?_
 (try simp only[c15_10,cw,cops,csW,csL,reduceIte,reduceEqDiff,reduceCtorEq,reduceAdd,reduceLT,reduceLeDiff,reduceSub,csFa])
 (repeat refine And.intro (by first|omega|(simp;omega)) ?_)
 (try simp only[cw,cops,csW,csL,reduceIte,reduceEqDiff,reduceCtorEq,reduceAdd,reduceLT,reduceLeDiff,reduceSub,csFa,h1])
 (repeat refine And.intro (by first|omega|(simp;omega)) ?_)
 refine keep [0,1,5] ?_
 (try simp only[c15_16,c15_15,l15_13,cw,cops,csW,csL,reduceIte,reduceEqDiff,reduceCtorEq,reduceAdd,reduceLT,reduceLeDiff,reduceSub,csFa,h1])
 (repeat refine And.intro (by first|omega|(simp;omega)) ?_)
 refine⟨_,cx (irr_con F h0 hl),?_⟩
 (try simp only[l15_14,cw,cops,csW,csL,reduceIte,reduceEqDiff,reduceCtorEq,reduceAdd,reduceLT,reduceLeDiff,reduceSub,csFa,h1])
 (repeat refine And.intro (by first|omega|(simp;omega)) ?_)
 refine keep [4,5] ?_
 (try simp only[cw,cops,csW,csL,reduceIte,reduceEqDiff,reduceCtorEq,reduceAdd,reduceLT,reduceLeDiff,reduceSub,csFa,Ends,resD,resL,resV,h1])
 (repeat refine And.intro (by first|omega|(simp;omega)) ?_)
end Go.Proofs.Ytlnhembcfhfpkaa.M
