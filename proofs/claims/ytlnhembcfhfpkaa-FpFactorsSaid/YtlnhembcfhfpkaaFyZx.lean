/- Polynomials modulo a prime: the law of the factors walked. -/
import Derived.Test.YtlnhembcfhfpkaaFyNx
import Derived.Test.YtlnhembcfhfpkaaFqVx
namespace Go.Proofs.Ytlnhembcfhfpkaa.M
open Go.RowKit Go.Proofs.Ytlnhembcfhfpkaa.Fx
open Nat (reduceEqDiff reduceAdd reduceLT reduceLeDiff reduceSub)
set_option linter.unusedSimpArgs false
set_option linter.unusedVariables false
variable {P:Pr}
set_option maxRecDepth 20000 in
set_option maxHeartbeats 4000000 in
theorem fac_bad {T:Nat} (f:List Int) (p:Int) (hc:¬ (chk f p).1=0):Con Try.prog [] 7 [LT T f,I p] (.bool true):=by
 refine fn7.con rfl (by simp) ?_
 (try simp only[init2,c7,c7_170,c7_1,l7_0,cw,cops,csW,csL,reduceIte,reduceEqDiff,reduceCtorEq,reduceAdd,reduceLT,reduceLeDiff,reduceSub,csE])
 (repeat refine And.intro (by first|omega|(simp;omega)) ?_)
 refine keep [0,1] ?_
 (try simp only[c7_169,c7_4,l7_2,cw,cops,csW,csL,reduceIte,reduceEqDiff,reduceCtorEq,reduceAdd,reduceLT,reduceLeDiff,reduceSub,csE])
 (repeat refine And.intro (by first|omega|(simp;omega)) ?_)
 refine⟨_,cx (factor_bad f p hc),?_⟩
 (try simp only[l7_3,cw,cops,csW,csL,reduceIte,reduceEqDiff,reduceCtorEq,reduceAdd,reduceLT,reduceLeDiff,reduceSub,csE])
 (repeat refine And.intro (by first|omega|(simp;omega)) ?_)
 refine keep [0,1,5,6,7] ?_
 (try simp only[c7_168,c7_7,l7_5,cw,cops,csW,csL,reduceIte,reduceEqDiff,reduceCtorEq,reduceAdd,reduceLT,reduceLeDiff,reduceSub,csE])
 (repeat refine And.intro (by first|omega|(simp;omega)) ?_)
 refine⟨_,cx (eirr_bad f p hc),?_⟩
 (try simp only[l7_6,cw,cops,csW,csL,reduceIte,reduceEqDiff,reduceCtorEq,reduceAdd,reduceLT,reduceLeDiff,reduceSub,csE])
 (repeat refine And.intro (by first|omega|(simp;omega)) ?_)
 refine keep [0,1,5,6,7,8,9] ?_
 (try simp only[c7_167,c7_10,l7_8,cw,cops,csW,csL,reduceIte,reduceEqDiff,reduceCtorEq,reduceAdd,reduceLT,reduceLeDiff,reduceSub,csE])
 (repeat refine And.intro (by first|omega|(simp;omega)) ?_)
 refine⟨_,cx (Nz.roots_bad f p 0 _ _ [] (factor_bad f p hc) hc),?_⟩
 (try simp only[l7_9,cw,cops,csW,csL,reduceIte,reduceEqDiff,reduceCtorEq,reduceAdd,reduceLT,reduceLeDiff,reduceSub,csE])
 (repeat refine And.intro (by first|omega|(simp;omega)) ?_)
 refine keep [0,1,5,6,7,8,9,10,11] ?_
 (try simp only[c7_166,c7_13,l7_11,cw,cops,csW,csL,reduceIte,reduceEqDiff,reduceCtorEq,reduceAdd,reduceLT,reduceLeDiff,reduceSub,csE])
 (repeat refine And.intro (by first|omega|(simp;omega)) ?_)
 refine⟨_,cx (checkMod_con f p),?_⟩
 (try simp only[l7_12,cw,cops,csW,csL,reduceIte,reduceEqDiff,reduceCtorEq,reduceAdd,reduceLT,reduceLeDiff,reduceSub,csE,hc])
 (repeat refine And.intro (by first|omega|(simp;omega)) ?_)
 refine keep [0,1,5,6,7,8,9,10,11,12] ?_
 (try simp only[c7_165,c7_21,c7_16,l7_14,cw,cops,csW,csL,reduceIte,reduceEqDiff,reduceCtorEq,reduceAdd,reduceLT,reduceLeDiff,reduceSub,csE,hc])
 (repeat refine And.intro (by first|omega|(simp;omega)) ?_)
 refine⟨_,cx (fpBegun_con),?_⟩
 (try simp only[l7_15,cw,cops,csW,csL,reduceIte,reduceEqDiff,reduceCtorEq,reduceAdd,reduceLT,reduceLeDiff,reduceSub,csE,hc])
 (repeat refine And.intro (by first|omega|(simp;omega)) ?_)
 refine keep [0,1,5,6,7,8,10,11,12,47] ?_
 (try simp only[c7_20,cw,cops,csW,csL,reduceIte,reduceEqDiff,reduceCtorEq,reduceAdd,reduceLT,reduceLeDiff,reduceSub,csE,hc])
 (repeat refine And.intro (by first|omega|(simp;omega)) ?_)
 (try simp only[cw,cops,csW,csL,reduceIte,reduceEqDiff,reduceCtorEq,reduceAdd,reduceLT,reduceLeDiff,reduceSub,csE,hc])
 (repeat refine And.intro (by first|omega|(simp;omega)) ?_)
 refine keep [0,1,5,6,7,8,10,11,12] ?_
 (try simp only[c7_164,c7_36,c7_23,l7_22,cw,cops,csW,csL,reduceIte,reduceEqDiff,reduceCtorEq,reduceAdd,reduceLT,reduceLeDiff,reduceSub,csE,hc])
 (repeat refine And.intro (by first|omega|(simp;omega)) ?_)
 refine keep [0,1,5,6,7,8,10,11,12,55] ?_
 (try simp only[c7_35,cw,cops,csW,csL,reduceIte,reduceEqDiff,reduceCtorEq,reduceAdd,reduceLT,reduceLeDiff,reduceSub,csE,hc])
 (repeat refine And.intro (by first|omega|(simp;omega)) ?_)
 (try simp only[cw,cops,csW,csL,reduceIte,reduceEqDiff,reduceCtorEq,reduceAdd,reduceLT,reduceLeDiff,reduceSub,csE,hc])
 (repeat refine And.intro (by first|omega|(simp;omega)) ?_)
 refine keep [0,1,5,6,7,8,10,11,12] ?_
 (try simp only[c7_163,c7_43,c7_38,l7_37,cw,cops,csW,csL,reduceIte,reduceEqDiff,reduceCtorEq,reduceAdd,reduceLT,reduceLeDiff,reduceSub,csE,hc])
 (repeat refine And.intro (by first|omega|(simp;omega)) ?_)
 refine keep [0,1,5,6,8,10,12,65] ?_
 (try simp only[c7_42,cw,cops,csW,csL,reduceIte,reduceEqDiff,reduceCtorEq,reduceAdd,reduceLT,reduceLeDiff,reduceSub,csE,hc])
 (repeat refine And.intro (by first|omega|(simp;omega)) ?_)
 (try simp only[cw,cops,csW,csL,reduceIte,reduceEqDiff,reduceCtorEq,reduceAdd,reduceLT,reduceLeDiff,reduceSub,csE,hc])
 (repeat refine And.intro (by first|omega|(simp;omega)) ?_)
 refine keep [0,1,5,6,8,10,12] ?_
 (try simp only[c7_162,c7_50,c7_45,l7_44,cw,cops,csW,csL,reduceIte,reduceEqDiff,reduceCtorEq,reduceAdd,reduceLT,reduceLeDiff,reduceSub,csE,hc])
 (repeat refine And.intro (by first|omega|(simp;omega)) ?_)
 refine keep [0,1,5,6,8,10,68] ?_
 (try simp only[c7_49,cw,cops,csW,csL,reduceIte,reduceEqDiff,reduceCtorEq,reduceAdd,reduceLT,reduceLeDiff,reduceSub,csE,hc])
 (repeat refine And.intro (by first|omega|(simp;omega)) ?_)
 (try simp only[c7_48,c7_47,l7_46,cw,cops,csW,csL,reduceIte,reduceEqDiff,reduceCtorEq,reduceAdd,reduceLT,reduceLeDiff,reduceSub,csE,hc])
 (repeat refine And.intro (by first|omega|(simp;omega)) ?_)
 refine keep [4] ?_
 (try simp only[cw,cops,csW,csL,reduceIte,reduceEqDiff,reduceCtorEq,reduceAdd,reduceLT,reduceLeDiff,reduceSub,csE,Ends,resD,resL,resV,hc])
 (repeat refine And.intro (by first|omega|(simp;omega)) ?_)
set_option maxRecDepth 20000 in
set_option maxHeartbeats 4000000 in
theorem fac_nil {T:Nat} (p:Int) (hc:(chk [] p).1=0):Con Try.prog [] 7 [LT T [],I p] (.bool true):=by
 have hck:=checkMod_con (T:=T) [] p
 rw[chk_zero hc] at hck
 have h40:¬ (4:Int)=0:=by decide
 refine fn7.con rfl (by simp) ?_
 (try simp only[init2,c7,c7_170,c7_1,l7_0,cw,cops,csW,csL,reduceIte,reduceEqDiff,reduceCtorEq,reduceAdd,reduceLT,reduceLeDiff,reduceSub,csE])
 (repeat refine And.intro (by first|omega|(simp;omega)) ?_)
 refine keep [0,1] ?_
 (try simp only[c7_169,c7_4,l7_2,cw,cops,csW,csL,reduceIte,reduceEqDiff,reduceCtorEq,reduceAdd,reduceLT,reduceLeDiff,reduceSub,csE])
 (repeat refine And.intro (by first|omega|(simp;omega)) ?_)
 refine⟨_,cx (factor_nil p hc),?_⟩
 (try simp only[l7_3,cw,cops,csW,csL,reduceIte,reduceEqDiff,reduceCtorEq,reduceAdd,reduceLT,reduceLeDiff,reduceSub,csE])
 (repeat refine And.intro (by first|omega|(simp;omega)) ?_)
 refine keep [0,1,5,6,7] ?_
 (try simp only[c7_168,c7_7,l7_5,cw,cops,csW,csL,reduceIte,reduceEqDiff,reduceCtorEq,reduceAdd,reduceLT,reduceLeDiff,reduceSub,csE])
 (repeat refine And.intro (by first|omega|(simp;omega)) ?_)
 refine⟨_,cx (eirr_short [] p hc (by simp)),?_⟩
 (try simp only[l7_6,cw,cops,csW,csL,reduceIte,reduceEqDiff,reduceCtorEq,reduceAdd,reduceLT,reduceLeDiff,reduceSub,csE])
 (repeat refine And.intro (by first|omega|(simp;omega)) ?_)
 refine keep [0,1,5,6,7,8,9] ?_
 (try simp only[c7_167,c7_10,l7_8,cw,cops,csW,csL,reduceIte,reduceEqDiff,reduceCtorEq,reduceAdd,reduceLT,reduceLeDiff,reduceSub,csE])
 (repeat refine And.intro (by first|omega|(simp;omega)) ?_)
 refine⟨_,cx (Nz.roots_bad [] p 0 4 0 [] (factor_nil p hc) (by decide)),?_⟩
 (try simp only[l7_9,cw,cops,csW,csL,reduceIte,reduceEqDiff,reduceCtorEq,reduceAdd,reduceLT,reduceLeDiff,reduceSub,csE])
 (repeat refine And.intro (by first|omega|(simp;omega)) ?_)
 refine keep [0,1,5,6,7,8,9,10,11] ?_
 (try simp only[c7_166,c7_13,l7_11,cw,cops,csW,csL,reduceIte,reduceEqDiff,reduceCtorEq,reduceAdd,reduceLT,reduceLeDiff,reduceSub,csE])
 (repeat refine And.intro (by first|omega|(simp;omega)) ?_)
 refine⟨_,cx (hck),?_⟩
 (try simp only[l7_12,cw,cops,csW,csL,reduceIte,reduceEqDiff,reduceCtorEq,reduceAdd,reduceLT,reduceLeDiff,reduceSub,csE])
 (repeat refine And.intro (by first|omega|(simp;omega)) ?_)
 refine keep [0,1,5,6,7,8,9,10,11,12] ?_
 (try simp only[c7_165,c7_21,c7_16,l7_14,cw,cops,csW,csL,reduceIte,reduceEqDiff,reduceCtorEq,reduceAdd,reduceLT,reduceLeDiff,reduceSub,csE])
 (repeat refine And.intro (by first|omega|(simp;omega)) ?_)
 refine⟨_,cx (fpBegun_con),?_⟩
 (try simp only[l7_15,cw,cops,csW,csL,reduceIte,reduceEqDiff,reduceCtorEq,reduceAdd,reduceLT,reduceLeDiff,reduceSub,csE])
 (repeat refine And.intro (by first|omega|(simp;omega)) ?_)
 refine keep [0,1,5,6,7,8,10,11,12,47] ?_
 (try simp only[c7_20,cw,cops,csW,csL,reduceIte,reduceEqDiff,reduceCtorEq,reduceAdd,reduceLT,reduceLeDiff,reduceSub,csE])
 (repeat refine And.intro (by first|omega|(simp;omega)) ?_)
 (try simp only[cw,cops,csW,csL,reduceIte,reduceEqDiff,reduceCtorEq,reduceAdd,reduceLT,reduceLeDiff,reduceSub,csE])
 (repeat refine And.intro (by first|omega|(simp;omega)) ?_)
 refine keep [0,1,5,6,7,8,10,11,12] ?_
 (try simp only[c7_164,c7_36,c7_23,l7_22,cw,cops,csW,csL,reduceIte,reduceEqDiff,reduceCtorEq,reduceAdd,reduceLT,reduceLeDiff,reduceSub,csE])
 (repeat refine And.intro (by first|omega|(simp;omega)) ?_)
 refine keep [0,1,5,6,7,8,10,11,12,55] ?_
 (try simp only[c7_35,cw,cops,csW,csL,reduceIte,reduceEqDiff,reduceCtorEq,reduceAdd,reduceLT,reduceLeDiff,reduceSub,csE])
 (repeat refine And.intro (by first|omega|(simp;omega)) ?_)
 (try simp only[c7_34,c7_26,l7_24,cw,cops,csW,csL,reduceIte,reduceEqDiff,reduceCtorEq,reduceAdd,reduceLT,reduceLeDiff,reduceSub,csE])
 (repeat refine And.intro (by first|omega|(simp;omega)) ?_)
 refine⟨_,cx (lfault_con 4 0),?_⟩
 (try simp only[l7_25,cw,cops,csW,csL,reduceIte,reduceEqDiff,reduceCtorEq,reduceAdd,reduceLT,reduceLeDiff,reduceSub,csE])
 (repeat refine And.intro (by first|omega|(simp;omega)) ?_)
 refine keep [0,1,5,6,7,8,10,11,12] ?_
 (try simp only[c7_33,c7_28,l7_27,cw,cops,csW,csL,reduceIte,reduceEqDiff,reduceCtorEq,reduceAdd,reduceLT,reduceLeDiff,reduceSub,csE])
 (repeat refine And.intro (by first|omega|(simp;omega)) ?_)
 refine keep [0,1,5,6,7,8,10,11,12,57] ?_
 (try simp only[c7_32,cw,cops,csW,csL,reduceIte,reduceEqDiff,reduceCtorEq,reduceAdd,reduceLT,reduceLeDiff,reduceSub,csE])
 (repeat refine And.intro (by first|omega|(simp;omega)) ?_)
 (try simp only[cw,cops,csW,csL,reduceIte,reduceEqDiff,reduceCtorEq,reduceAdd,reduceLT,reduceLeDiff,reduceSub,csE])
 (repeat refine And.intro (by first|omega|(simp;omega)) ?_)
 refine keep [0,1,5,6,7,8,10,11,12] ?_
 (try simp only[c7_163,c7_43,c7_38,l7_37,cw,cops,csW,csL,reduceIte,reduceEqDiff,reduceCtorEq,reduceAdd,reduceLT,reduceLeDiff,reduceSub,csE])
 (repeat refine And.intro (by first|omega|(simp;omega)) ?_)
 refine keep [0,1,5,6,8,10,12,65] ?_
 (try simp only[c7_42,cw,cops,csW,csL,reduceIte,reduceEqDiff,reduceCtorEq,reduceAdd,reduceLT,reduceLeDiff,reduceSub,csE])
 (repeat refine And.intro (by first|omega|(simp;omega)) ?_)
 (try simp only[cw,cops,csW,csL,reduceIte,reduceEqDiff,reduceCtorEq,reduceAdd,reduceLT,reduceLeDiff,reduceSub,csE,h40])
 (repeat refine And.intro (by first|omega|(simp;omega)) ?_)
 refine keep [0,1,5,6,8,10,12] ?_
 (try simp only[c7_162,c7_50,c7_45,l7_44,cw,cops,csW,csL,reduceIte,reduceEqDiff,reduceCtorEq,reduceAdd,reduceLT,reduceLeDiff,reduceSub,csE,h40])
 (repeat refine And.intro (by first|omega|(simp;omega)) ?_)
 refine keep [0,1,5,6,8,10,68] ?_
 (try simp only[c7_49,cw,cops,csW,csL,reduceIte,reduceEqDiff,reduceCtorEq,reduceAdd,reduceLT,reduceLeDiff,reduceSub,csE,h40])
 (repeat refine And.intro (by first|omega|(simp;omega)) ?_)
 (try simp only[c7_48,c7_47,l7_46,cw,cops,csW,csL,reduceIte,reduceEqDiff,reduceCtorEq,reduceAdd,reduceLT,reduceLeDiff,reduceSub,csE,h40])
 (repeat refine And.intro (by first|omega|(simp;omega)) ?_)
 refine keep [4] ?_
 (try simp only[cw,cops,csW,csL,reduceIte,reduceEqDiff,reduceCtorEq,reduceAdd,reduceLT,reduceLeDiff,reduceSub,csE,Ends,resD,resL,resV,h40])
 (repeat refine And.intro (by first|omega|(simp;omega)) ?_)
set_option maxRecDepth 20000 in
set_option maxHeartbeats 4000000 in
theorem fac_tail {T:Nat} (F:Po P) (R:List Int) (hl:dg F≤65) (hS:Si P.p F.l R 0) (hR:R.length≤10000000):cw [24,3] (ConX Try.prog []) c7_158 (Ends (.bool true) [(4,none)]) ⟨look [(0,.p (LT T F.l)),(1,.p (I P.p)),(10,.p (L R))],lookM []⟩:=by
 have hp:=P.h.pos
 have hlL:F.l.length≤65:=hl
 by_cases h5:5000<P.p
 ·skip
  (try simp only[c7_158,c7_116,l7_115,cw,cops,csW,csL,reduceIte,reduceEqDiff,reduceCtorEq,reduceAdd,reduceLT,reduceLeDiff,reduceSub,csE,h5])
  (repeat refine And.intro (by first|omega|(simp;omega)) ?_)
  refine keep [0,1,10,17] ?_
  (try simp only[c7_157,c7_123,c7_118,l7_117,cw,cops,csW,csL,reduceIte,reduceEqDiff,reduceCtorEq,reduceAdd,reduceLT,reduceLeDiff,reduceSub,csE,h5])
  (repeat refine And.intro (by first|omega|(simp;omega)) ?_)
  refine keep [0,1,10,17,207] ?_
  (try simp only[c7_122,cw,cops,csW,csL,reduceIte,reduceEqDiff,reduceCtorEq,reduceAdd,reduceLT,reduceLeDiff,reduceSub,csE,h5])
  (repeat refine And.intro (by first|omega|(simp;omega)) ?_)
  (try simp only[c7_121,c7_120,l7_119,cw,cops,csW,csL,reduceIte,reduceEqDiff,reduceCtorEq,reduceAdd,reduceLT,reduceLeDiff,reduceSub,csE,h5])
  (repeat refine And.intro (by first|omega|(simp;omega)) ?_)
  refine keep [4] ?_
  (try simp only[cw,cops,csW,csL,reduceIte,reduceEqDiff,reduceCtorEq,reduceAdd,reduceLT,reduceLeDiff,reduceSub,csE,Ends,resD,resL,resV,h5])
  (repeat refine And.intro (by first|omega|(simp;omega)) ?_)
 ·skip
  (try simp only[c7_158,c7_116,l7_115,cw,cops,csW,csL,reduceIte,reduceEqDiff,reduceCtorEq,reduceAdd,reduceLT,reduceLeDiff,reduceSub,csE,h5])
  (repeat refine And.intro (by first|omega|(simp;omega)) ?_)
  refine keep [0,1,10,17] ?_
  (try simp only[c7_157,c7_123,c7_118,l7_117,cw,cops,csW,csL,reduceIte,reduceEqDiff,reduceCtorEq,reduceAdd,reduceLT,reduceLeDiff,reduceSub,csE,h5])
  (repeat refine And.intro (by first|omega|(simp;omega)) ?_)
  refine keep [0,1,10,17,207] ?_
  (try simp only[c7_122,cw,cops,csW,csL,reduceIte,reduceEqDiff,reduceCtorEq,reduceAdd,reduceLT,reduceLeDiff,reduceSub,csE,h5])
  (repeat refine And.intro (by first|omega|(simp;omega)) ?_)
  (try simp only[cw,cops,csW,csL,reduceIte,reduceEqDiff,reduceCtorEq,reduceAdd,reduceLT,reduceLeDiff,reduceSub,csE,h5])
  (repeat refine And.intro (by first|omega|(simp;omega)) ?_)
  refine keep [0,1,10,17] ?_
  (try simp only[c7_156,c7_152,c7_125,l7_124,cw,cops,csW,csL,reduceIte,reduceEqDiff,reduceCtorEq,reduceAdd,reduceLT,reduceLeDiff,reduceSub,csE,h5])
  (repeat refine And.intro (by first|omega|(simp;omega)) ?_)
  refine keep [0,1,10,17,18] ?_
  (try simp only[c7_151,cw,cops,csW,csL,reduceIte,reduceEqDiff,reduceCtorEq,reduceAdd,reduceLT,reduceLeDiff,reduceSub,csE,h5])
  refine loop_of (ι:=Nat × Nat) (fun s=>(s.1:Int)≤P.p∧s.2≤R.length∧Si P.p F.l (R.drop s.2) s.1) (fun s=>⟨look [(0,.p (LT T F.l)),(1,.p (I P.p)),(10,.p (L R)),(17,.p (I s.2)),(18,.p (I s.1))],lookM []⟩) (fun s=>P.p.toNat-s.1) (0,0) ⟨by simp only;omega,Nat.zero_le _,hS⟩ (Sub.toG [0,1,10,17,18] [7,9,11,12,91] (by rfl) (by rfl) (by rfl) (by rfl)) ?_
  rintro⟨x,n⟩ ⟨hx,hn,hI⟩
  simp only at hx hn hI
  by_cases h:(x:Int)<P.p
  ·have cV:=mvalue_con (T:=T) F.l (x:Int) P.p hp F.rg (by omega) (by omega)
   by_cases he:evm P.p x F.l=0
   ·obtain⟨r',h1,h2⟩:=hI.yes h he
    have hnl:n<R.length:=by
     rcases Nat.lt_or_ge n R.length with h3 | h3
     ·exact h3
     ·rw[List.drop_of_length_le h3] at h1;cases h1
    have hg:R.getD n 0=(x:Int):=by
     rw[List.drop_eq_getElem_cons hnl] at h1
     have:=(List.cons.inj h1).1
     simp[hnl,this]
    have h4:R.drop (n+1)=r':=by
     rw[List.drop_eq_getElem_cons hnl] at h1
     exact (List.cons.inj h1).2
    rw[←h4] at h2
    have hnI:(n:Int)<(R.length:Int):=by omega
    have hnI2:¬ (R.length:Int)≤(n:Int):=by omega
    (try simp only[c7_149,c7_129,c7_127,l7_126,cw,cops,csW,csL,reduceIte,reduceEqDiff,reduceCtorEq,reduceAdd,reduceLT,reduceLeDiff,reduceSub,csE,h])
    (repeat refine And.intro (by first|omega|(simp;omega)) ?_)
    refine keep [0,1,10,17,18,210] ?_
    (try simp only[c7_128,cw,cops,csW,csL,reduceIte,reduceEqDiff,reduceCtorEq,reduceAdd,reduceLT,reduceLeDiff,reduceSub,csE,h])
    (repeat refine And.intro (by first|omega|(simp;omega)) ?_)
    (try simp only[cw,cops,csW,csL,reduceIte,reduceEqDiff,reduceCtorEq,reduceAdd,reduceLT,reduceLeDiff,reduceSub,csE,h])
    (repeat refine And.intro (by first|omega|(simp;omega)) ?_)
    refine keep [0,1,10,17,18] ?_
    (try simp only[c7_148,c7_145,c7_144,c7_132,l7_130,cw,cops,csW,csL,reduceIte,reduceEqDiff,reduceCtorEq,reduceAdd,reduceLT,reduceLeDiff,reduceSub,csE,h])
    (repeat refine And.intro (by first|omega|(simp;omega)) ?_)
    refine⟨_,cx (cV),?_⟩
    (try simp only[l7_131,cw,cops,csW,csL,reduceIte,reduceEqDiff,reduceCtorEq,reduceAdd,reduceLT,reduceLeDiff,reduceSub,csE,he])
    (repeat refine And.intro (by first|omega|(simp;omega)) ?_)
    refine keep [0,1,10,17,18,217] ?_
    (try simp only[c7_143,cw,cops,csW,csL,reduceIte,reduceEqDiff,reduceCtorEq,reduceAdd,reduceLT,reduceLeDiff,reduceSub,csE,he])
    (repeat refine And.intro (by first|omega|(simp;omega)) ?_)
    (try simp only[c7_142,c7_139,c7_134,l7_133,cw,cops,csW,csL,reduceIte,reduceEqDiff,reduceCtorEq,reduceAdd,reduceLT,reduceLeDiff,reduceSub,csE,he,hnI,hnI2,hg])
    (repeat refine And.intro (by first|omega|(simp;omega)) ?_)
    refine keep [0,1,10,17,18,229] ?_
    (try simp only[c7_138,cw,cops,csW,csL,reduceIte,reduceEqDiff,reduceCtorEq,reduceAdd,reduceLT,reduceLeDiff,reduceSub,csE,he,hnI,hnI2,hg])
    (repeat refine And.intro (by first|omega|(simp;omega)) ?_)
    (try simp only[cw,cops,csW,csL,reduceIte,reduceEqDiff,reduceCtorEq,reduceAdd,reduceLT,reduceLeDiff,reduceSub,csE,he,hnI,hnI2,hg])
    (repeat refine And.intro (by first|omega|(simp;omega)) ?_)
    refine keep [0,1,10,17,18] ?_
    (try simp only[c7_141,l7_140,cw,cops,csW,csL,reduceIte,reduceEqDiff,reduceCtorEq,reduceAdd,reduceLT,reduceLeDiff,reduceSub,csE,he,hnI,hnI2,hg])
    (repeat refine And.intro (by first|omega|(simp;omega)) ?_)
    refine keep [0,1,10,17,18] ?_
    (try simp only[c7_147,l7_146,cw,cops,csW,csL,reduceIte,reduceEqDiff,reduceCtorEq,reduceAdd,reduceLT,reduceLeDiff,reduceSub,csE,he,hnI,hnI2,hg])
    (repeat refine And.intro (by first|omega|(simp;omega)) ?_)
    exact⟨(x+1,n+1),⟨by simp only;omega,hnl,h2⟩,(Sub.toG [0,1,10,17,18] [7,9,11,12,91] (by rfl) (by rfl) (by rfl) (by rfl)),by first | omega | (simp only;omega)⟩
   ·have h2:=hI.no he
    (try simp only[c7_149,c7_129,c7_127,l7_126,cw,cops,csW,csL,reduceIte,reduceEqDiff,reduceCtorEq,reduceAdd,reduceLT,reduceLeDiff,reduceSub,csE,h])
    (repeat refine And.intro (by first|omega|(simp;omega)) ?_)
    refine keep [0,1,10,17,18,210] ?_
    (try simp only[c7_128,cw,cops,csW,csL,reduceIte,reduceEqDiff,reduceCtorEq,reduceAdd,reduceLT,reduceLeDiff,reduceSub,csE,h])
    (repeat refine And.intro (by first|omega|(simp;omega)) ?_)
    (try simp only[cw,cops,csW,csL,reduceIte,reduceEqDiff,reduceCtorEq,reduceAdd,reduceLT,reduceLeDiff,reduceSub,csE,h])
    (repeat refine And.intro (by first|omega|(simp;omega)) ?_)
    refine keep [0,1,10,17,18] ?_
    (try simp only[c7_148,c7_145,c7_144,c7_132,l7_130,cw,cops,csW,csL,reduceIte,reduceEqDiff,reduceCtorEq,reduceAdd,reduceLT,reduceLeDiff,reduceSub,csE,h])
    (repeat refine And.intro (by first|omega|(simp;omega)) ?_)
    refine⟨_,cx (cV),?_⟩
    (try simp only[l7_131,cw,cops,csW,csL,reduceIte,reduceEqDiff,reduceCtorEq,reduceAdd,reduceLT,reduceLeDiff,reduceSub,csE,he])
    (repeat refine And.intro (by first|omega|(simp;omega)) ?_)
    refine keep [0,1,10,17,18,217] ?_
    (try simp only[c7_143,cw,cops,csW,csL,reduceIte,reduceEqDiff,reduceCtorEq,reduceAdd,reduceLT,reduceLeDiff,reduceSub,csE,he])
    (repeat refine And.intro (by first|omega|(simp;omega)) ?_)
    (try simp only[cw,cops,csW,csL,reduceIte,reduceEqDiff,reduceCtorEq,reduceAdd,reduceLT,reduceLeDiff,reduceSub,csE,he])
    (repeat refine And.intro (by first|omega|(simp;omega)) ?_)
    refine keep [0,1,10,17,18] ?_
    (try simp only[c7_147,l7_146,cw,cops,csW,csL,reduceIte,reduceEqDiff,reduceCtorEq,reduceAdd,reduceLT,reduceLeDiff,reduceSub,csE,he])
    (repeat refine And.intro (by first|omega|(simp;omega)) ?_)
    exact⟨(x+1,n),⟨by simp only;omega,hn,h2⟩,(Sub.toG [0,1,10,17,18] [7,9,11,12,91] (by rfl) (by rfl) (by rfl) (by rfl)),by first | omega | (simp only;omega)⟩
  ·have hxe:(x:Int)=P.p:=by omega
   rw[hxe] at hI
   have e1:=congrArg List.length hI.nil
   simp only[List.length_drop,List.length_nil] at e1
   have e2:(n:Int)=(R.length:Int):=by omega
   (try simp only[c7_149,c7_129,c7_127,l7_126,cw,cops,csW,csL,reduceIte,reduceEqDiff,reduceCtorEq,reduceAdd,reduceLT,reduceLeDiff,reduceSub,csE,h])
   (repeat refine And.intro (by first|omega|(simp;omega)) ?_)
   refine keep [0,1,10,17,18,210] ?_
   (try simp only[c7_128,cw,cops,csW,csL,reduceIte,reduceEqDiff,reduceCtorEq,reduceAdd,reduceLT,reduceLeDiff,reduceSub,csE,h])
   (repeat refine And.intro (by first|omega|(simp;omega)) ?_)
   (try simp only[cw,cops,csW,csL,reduceIte,reduceEqDiff,reduceCtorEq,reduceAdd,reduceLT,reduceLeDiff,reduceSub,csE,h,e2])
   (repeat refine And.intro (by first|omega|(simp;omega)) ?_)
   refine keep [10,17] ?_
   (try simp only[c7_155,c7_154,l7_153,cw,cops,csW,csL,reduceIte,reduceEqDiff,reduceCtorEq,reduceAdd,reduceLT,reduceLeDiff,reduceSub,csE,h,e2])
   (repeat refine And.intro (by first|omega|(simp;omega)) ?_)
   refine keep [4] ?_
   (try simp only[cw,cops,csW,csL,reduceIte,reduceEqDiff,reduceCtorEq,reduceAdd,reduceLT,reduceLeDiff,reduceSub,csE,Ends,resD,resL,resV,h,e2])
   (repeat refine And.intro (by first|omega|(simp;omega)) ?_)
end Go.Proofs.Ytlnhembcfhfpkaa.M
