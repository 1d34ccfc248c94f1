/- Polynomials modulo a prime: Check walked. -/
import Derived.Test.YtlnhembcfhfpkaaFqDx
namespace Go.Proofs.Ytlnhembcfhfpkaa.M
open Go.RowKit
open Nat (reduceEqDiff reduceAdd reduceLT reduceLeDiff reduceSub)
set_option linter.unusedSimpArgs false
set_option linter.unusedVariables false
set_option linter.defProp false in
def csF:=And.intro @AV.mk.eq_1 (And.intro @pureL.eq_1 (And.intro @pureL.eq_2 (And.intro @AV.pure.eq_1 (And.intro @AV.pure.eq_2 (And.intro @AV.pure.eq_3 (And.intro @AV.pure.eq_4 (And.intro @fillA.eq_1 (And.intro @fillA.eq_2 (And.intro @AV.get.eq_1 (And.intro @AV.part.eq_1 (And.intro @AV.part.eq_2 (And.intro @D.part.eq_1 (@partD.eq_1)))))))))))))
abbrev flt (c a:Int):D:=.agg [I c,I a]
def badAt (f:List Int) (p:Int):Option Nat:=(List.range f.length).find? fun i => !(decide (0≤f.getD i 0)&&decide (f.getD i 0<p))
theorem badAt_none {f:List Int} {p:Int} (hp:0<p) (h:badAt f p=none):Rg p f:=fun i=>by
 by_cases hi:i<f.length
 ·have:=(List.find?_range_eq_none.1 h) i hi
  simpa using this
 ·rw[List.getD_eq_getElem?_getD,List.getElem?_eq_none (by omega)];simp[hp]
open Classical in
noncomputable def chk (f:List Int) (p:Int):Int × Int:=
 if ¬ IsP p then (6,0) else if 65<f.length then (9,0) else match badAt f p with
  | some i=>(7,i)
  | none=>if 0<f.length∧f.getD (f.length-1) 0=0 then (3,((f.length-1:Nat):Int)) else (0,0)
theorem chk_prime {f:List Int} {p:Int} (h:¬ IsP p):chk f p=(6,0):=by unfold chk;rw[if_pos h]
theorem chk_many {f:List Int} {p:Int} (h:IsP p) (h2:65<f.length):chk f p=(9,0):=by unfold chk;rw[if_neg (by simpa using h),if_pos h2]
theorem chk_bad {f:List Int} {p:Int} {i:Nat} (h:IsP p) (h2:¬ 65<f.length) (hi:i<f.length) (hb:¬ (0≤f.getD i 0∧f.getD i 0<p)) (hg:∀ j,j<i→0≤f.getD j 0∧f.getD j 0<p):chk f p=(7,(i:Int)):=by
 have hf:badAt f p=some i:=by
  unfold badAt
  rw[List.find?_range_eq_some]
  refine⟨by simp only[Bool.not_eq_true',Bool.and_eq_false_iff,decide_eq_false_iff_not];omega,List.mem_range.2 hi,fun j hj => ?_⟩
  have:=hg j hj
  simp only[decide_eq_true this.1,decide_eq_true this.2]
  rfl
 unfold chk
 rw[if_neg (by simpa using h),if_neg h2,hf]
theorem badAt_good {f:List Int} {p:Int} (hg:∀ j,j<f.length→0≤f.getD j 0∧f.getD j 0<p):badAt f p=none:=by
 unfold badAt
 rw[List.find?_range_eq_none]
 intro i hi
 have:=hg i hi
 simp only[decide_eq_true this.1,decide_eq_true this.2]
 rfl
theorem chk_form {f:List Int} {p:Int} (h:IsP p) (h2:¬ 65<f.length) (hg:∀ j,j<f.length→0≤f.getD j 0∧f.getD j 0<p) (h3:0<f.length) (h4:f.getD (f.length-1) 0=0):chk f p=(3,((f.length-1:Nat):Int)):=by
 unfold chk
 rw[if_neg (by simpa using h),if_neg h2,badAt_good hg]
 simp only
 rw[if_pos ⟨h3,h4⟩]
theorem chk_ok {f:List Int} {p:Int} (h:IsP p) (h2:¬ 65<f.length) (hg:∀ j,j<f.length→0≤f.getD j 0∧f.getD j 0<p) (h3:¬ (0<f.length∧f.getD (f.length-1) 0=0)):chk f p=(0,0):=by
 unfold chk
 rw[if_neg (by simpa using h),if_neg h2,badAt_good hg]
 simp only
 rw[if_neg h3]
structure Gp (f:List Int) (p:Int):Prop where
 pr:IsP p
 len:f.length≤65
 rg:Rg p f
 td:Td f
theorem chk_good {f:List Int} {p:Int} (h:(chk f p).1=0):Gp f p:=by
 by_cases hP:IsP p
 ·by_cases hl:65<f.length
  ·rw[chk_many hP hl] at h;simp at h
  ·have hp:0<p:=by have:=hP.1.1;omega
   unfold chk at h
   rw[if_neg (by simpa using hP),if_neg hl] at h
   split at h
   ·simp at h
   ·rename_i hb
    split at h
    ·simp at h
    ·rename_i h3
     exact⟨hP,by omega,badAt_none hp hb,td_of_last fun hne h4=>h3 ⟨by rcases f with _ | _<;>simp_all,h4⟩⟩
 ·rw[chk_prime hP] at h;simp at h
theorem Gp.chk {f:List Int} {p:Int} (h:Gp f p):Go.Proofs.Ytlnhembcfhfpkaa.M.chk f p=(0,0):=
 chk_ok h.pr (by have:=h.len;omega) (fun j _=>h.rg j) (fun ⟨h3,h4⟩=>td_last h.td (by rintro rfl;simp at h3) h4)
theorem chk_zero {f:List Int} {p:Int} (h:(chk f p).1=0):chk f p=(0,0):=(chk_good h).chk
set_option maxRecDepth 20000 in
theorem fault_con (c a:Int):Con Try.prog [] 34 [I c,I a] (flt c a):=by
 refine fn34.con rfl (by simp) ?_
 (try simp only[init2,c34,c34_5,c34_1,l34_0,cw,cops,csW,csL,reduceIte,reduceEqDiff,reduceCtorEq,reduceAdd,reduceLT,reduceLeDiff,reduceSub,csF])
 (repeat refine And.intro (by first|omega|(simp;omega)) ?_)
 refine keep [0,1,4] ?_
 (try simp only[c34_4,c34_3,l34_2,cw,cops,csW,csL,reduceIte,reduceEqDiff,reduceCtorEq,reduceAdd,reduceLT,reduceLeDiff,reduceSub,csF])
 (repeat refine And.intro (by first|omega|(simp;omega)) ?_)
 refine keep [4] ?_
 (try simp only[cw,cops,csW,csL,reduceIte,reduceEqDiff,reduceCtorEq,reduceAdd,reduceLT,reduceLeDiff,reduceSub,csF,Ends,resD,resL,resV])
 (repeat refine And.intro (by first|omega|(simp;omega)) ?_)
theorem lfault_con (c a:Int):Con Try.prog [] 20 [I c,I a] (flt c a):=by
 refine fn20.con rfl (by simp) ?_
 (try simp only[init2,c20,c20_5,c20_1,l20_0,cw,cops,csW,csL,reduceIte,reduceEqDiff,reduceCtorEq,reduceAdd,reduceLT,reduceLeDiff,reduceSub,csF])
 (repeat refine And.intro (by first|omega|(simp;omega)) ?_)
 refine keep [0,1,4] ?_
 (try simp only[c20_4,c20_3,l20_2,cw,cops,csW,csL,reduceIte,reduceEqDiff,reduceCtorEq,reduceAdd,reduceLT,reduceLeDiff,reduceSub,csF])
 (repeat refine And.intro (by first|omega|(simp;omega)) ?_)
 refine keep [4] ?_
 (try simp only[cw,cops,csW,csL,reduceIte,reduceEqDiff,reduceCtorEq,reduceAdd,reduceLT,reduceLeDiff,reduceSub,csF,Ends,resD,resL,resV])
 (repeat refine And.intro (by first|omega|(simp;omega)) ?_)
theorem rfault_con (c a:Int):Con Try.prog [] 31 [I c,I a] (flt c a):=by
 refine fn31.con rfl (by simp) ?_
 (try simp only[init2,c31,c31_5,c31_1,l31_0,cw,cops,csW,csL,reduceIte,reduceEqDiff,reduceCtorEq,reduceAdd,reduceLT,reduceLeDiff,reduceSub,csF])
 (repeat refine And.intro (by first|omega|(simp;omega)) ?_)
 refine keep [0,1,4] ?_
 (try simp only[c31_4,c31_3,l31_2,cw,cops,csW,csL,reduceIte,reduceEqDiff,reduceCtorEq,reduceAdd,reduceLT,reduceLeDiff,reduceSub,csF])
 (repeat refine And.intro (by first|omega|(simp;omega)) ?_)
 refine keep [4] ?_
 (try simp only[cw,cops,csW,csL,reduceIte,reduceEqDiff,reduceCtorEq,reduceAdd,reduceLT,reduceLeDiff,reduceSub,csF,Ends,resD,resL,resV])
 (repeat refine And.intro (by first|omega|(simp;omega)) ?_)
set_option maxRecDepth 20000 in
set_option maxHeartbeats 1000000 in
theorem check_con {T:Nat} (f:List Int) (p:Int):Con Try.prog [] 18 [LT T f,I p] (flt (chk f p).1 (chk f p).2):=by
 by_cases hP:IsP p
 ·refine fn18.con rfl (by simp) ?_
  (try simp only[init2,c18,c18_62,c18_1,l18_0,cw,cops,csW,csL,reduceIte,reduceEqDiff,reduceCtorEq,reduceAdd,reduceLT,reduceLeDiff,reduceSub,csF])
  (repeat refine And.intro (by first|omega|(simp;omega)) ?_)
  refine keep [0,1,4] ?_
  (try simp only[c18_61,c18_10,c18_4,l18_2,cw,cops,csW,csL,reduceIte,reduceEqDiff,reduceCtorEq,reduceAdd,reduceLT,reduceLeDiff,reduceSub,csF])
  (repeat refine And.intro (by first|omega|(simp;omega)) ?_)
  refine⟨_,cx (prime_con p true (by simp[hP])),?_⟩
  (try simp only[l18_3,cw,cops,csW,csL,reduceIte,reduceEqDiff,reduceCtorEq,reduceAdd,reduceLT,reduceLeDiff,reduceSub,csF])
  (repeat refine And.intro (by first|omega|(simp;omega)) ?_)
  refine keep [0,1,4,10] ?_
  (try simp only[c18_9,cw,cops,csW,csL,reduceIte,reduceEqDiff,reduceCtorEq,reduceAdd,reduceLT,reduceLeDiff,reduceSub,csF])
  (repeat refine And.intro (by first|omega|(simp;omega)) ?_)
  (try simp only[cw,cops,csW,csL,reduceIte,reduceEqDiff,reduceCtorEq,reduceAdd,reduceLT,reduceLeDiff,reduceSub,csF])
  (repeat refine And.intro (by first|omega|(simp;omega)) ?_)
  refine keep [0,1,4] ?_
  (try simp only[c18_60,c18_18,c18_12,l18_11,cw,cops,csW,csL,reduceIte,reduceEqDiff,reduceCtorEq,reduceAdd,reduceLT,reduceLeDiff,reduceSub,csF])
  (repeat refine And.intro (by first|omega|(simp;omega)) ?_)
  refine keep [0,1,4,14] ?_
  (try simp only[c18_17,cw,cops,csW,csL,reduceIte,reduceEqDiff,reduceCtorEq,reduceAdd,reduceLT,reduceLeDiff,reduceSub,csF])
  (repeat refine And.intro (by first|omega|(simp;omega)) ?_)
  by_cases hl:65<f.length
  ·have hI:(65:Int)<(f.length:Int):=by omega
   refine⟨fun hc => ?_,fun hc=>absurd hc (by simp;omega)⟩
   (try simp only[c18_16,c18_15,l18_13,cw,cops,csW,csL,reduceIte,reduceEqDiff,reduceCtorEq,reduceAdd,reduceLT,reduceLeDiff,reduceSub,csF])
   (repeat refine And.intro (by first|omega|(simp;omega)) ?_)
   refine⟨_,cx (fault_con 9 0),?_⟩
   (try simp only[l18_14,cw,cops,csW,csL,reduceIte,reduceEqDiff,reduceCtorEq,reduceAdd,reduceLT,reduceLeDiff,reduceSub,csF])
   (repeat refine And.intro (by first|omega|(simp;omega)) ?_)
   refine keep [4] ?_
   (try simp only[cw,cops,csW,csL,reduceIte,reduceEqDiff,reduceCtorEq,reduceAdd,reduceLT,reduceLeDiff,reduceSub,csF,Ends,resD,resL,resV])
   (repeat refine And.intro (by first|omega|(simp;omega)) ?_)
   rw[chk_many hP hl]
  ·refine⟨fun hc=>absurd hc (by simp;omega),fun hc => ?_⟩
   (try simp only[cw,cops,csW,csL,reduceIte,reduceEqDiff,reduceCtorEq,reduceAdd,reduceLT,reduceLeDiff,reduceSub,csF])
   (repeat refine And.intro (by first|omega|(simp;omega)) ?_)
   refine keep [0,1,4] ?_
   (try simp only[c18_59,c18_43,c18_20,l18_19,cw,cops,csW,csL,reduceIte,reduceEqDiff,reduceCtorEq,reduceAdd,reduceLT,reduceLeDiff,reduceSub,csF])
   (repeat refine And.intro (by first|omega|(simp;omega)) ?_)
   refine keep [0,1,4,16,17,18] ?_
   (try simp only[c18_42,cw,cops,csW,csL,reduceIte,reduceEqDiff,reduceCtorEq,reduceAdd,reduceLT,reduceLeDiff,reduceSub,csF])
   refine loop_of (ι:=Nat) (fun i=>i≤f.length∧∀ j,j<i→0≤f.getD j 0∧f.getD j 0<p) (fun i=>⟨look [(0,.p (LT T f)),(1,.p (I p)),(4,.ptr 4 0 0),(16,.p (LT T f)),(17,.p (I f.length)),(18,.p (I i))],lookM [(4,⟨24,2,.box (.p (.agg [I 0,I 0])),false⟩)]⟩) (fun i=>f.length-i) 0 ⟨by omega,fun j hj=>by omega⟩ (Sub.rf _) ?_
   rintro i ⟨hi,hg⟩
   by_cases h:i<f.length
   ·have hi':(i:Int)<(f.length:Int):=by omega
    by_cases hn:f.getD i 0<0
    ·(try simp only[c18_40,c18_22,l18_21,cw,cops,csW,csL,reduceIte,reduceEqDiff,reduceCtorEq,reduceAdd,reduceLT,reduceLeDiff,reduceSub,csF,hi'])
     (repeat refine And.intro (by first|omega|(simp;omega)) ?_)
     refine keep [0,1,4,16,17,18,19] ?_
     (try simp only[c18_39,c18_23,cw,cops,csW,csL,reduceIte,reduceEqDiff,reduceCtorEq,reduceAdd,reduceLT,reduceLeDiff,reduceSub,csF,hi'])
     (repeat refine And.intro (by first|omega|(simp;omega)) ?_)
     (try simp only[cw,cops,csW,csL,reduceIte,reduceEqDiff,reduceCtorEq,reduceAdd,reduceLT,reduceLeDiff,reduceSub,csF,hi',hn])
     (repeat refine And.intro (by first|omega|(simp;omega)) ?_)
     refine keep [0,1,4,16,17,18] ?_
     (try simp only[c18_38,c18_35,c18_34,c18_25,l18_24,cw,cops,csW,csL,reduceIte,reduceEqDiff,reduceCtorEq,reduceAdd,reduceLT,reduceLeDiff,reduceSub,csF,hi',hn])
     (repeat refine And.intro (by first|omega|(simp;omega)) ?_)
     refine keep [0,1,4,5,6,16,17,18] ?_
     (try simp only[c18_33,c18_27,l18_26,cw,cops,csW,csL,reduceIte,reduceEqDiff,reduceCtorEq,reduceAdd,reduceLT,reduceLeDiff,reduceSub,csF,hi',hn])
     (repeat refine And.intro (by first|omega|(simp;omega)) ?_)
     refine keep [0,1,4,5,16,17,18,29] ?_
     (try simp only[c18_32,cw,cops,csW,csL,reduceIte,reduceEqDiff,reduceCtorEq,reduceAdd,reduceLT,reduceLeDiff,reduceSub,csF,hi',hn])
     (repeat refine And.intro (by first|omega|(simp;omega)) ?_)
     (try simp only[c18_31,c18_30,l18_28,cw,cops,csW,csL,reduceIte,reduceEqDiff,reduceCtorEq,reduceAdd,reduceLT,reduceLeDiff,reduceSub,csF])
     (repeat refine And.intro (by first|omega|(simp;omega)) ?_)
     refine⟨_,cx (fault_con 7 i),?_⟩
     (try simp only[l18_29,cw,cops,csW,csL,reduceIte,reduceEqDiff,reduceCtorEq,reduceAdd,reduceLT,reduceLeDiff,reduceSub,csF])
     (repeat refine And.intro (by first|omega|(simp;omega)) ?_)
     refine keep [4] ?_
     (try simp only[cw,cops,csW,csL,reduceIte,reduceEqDiff,reduceCtorEq,reduceAdd,reduceLT,reduceLeDiff,reduceSub,csF,Ends,resD,resL,resV])
     (repeat refine And.intro (by first|omega|(simp;omega)) ?_)
     rw[chk_bad hP hl h (by omega) hg]
    ·by_cases hn2:p≤f.getD i 0
     ·-- skip
      (try simp only[c18_40,c18_22,l18_21,cw,cops,csW,csL,reduceIte,reduceEqDiff,reduceCtorEq,reduceAdd,reduceLT,reduceLeDiff,reduceSub,csF,hi'])
      (repeat refine And.intro (by first|omega|(simp;omega)) ?_)
      refine keep [0,1,4,16,17,18,19] ?_
      (try simp only[c18_39,c18_23,cw,cops,csW,csL,reduceIte,reduceEqDiff,reduceCtorEq,reduceAdd,reduceLT,reduceLeDiff,reduceSub,csF,hi'])
      (repeat refine And.intro (by first|omega|(simp;omega)) ?_)
      (try simp only[cw,cops,csW,csL,reduceIte,reduceEqDiff,reduceCtorEq,reduceAdd,reduceLT,reduceLeDiff,reduceSub,csF,hi',hn,hn2])
      (repeat refine And.intro (by first|omega|(simp;omega)) ?_)
      refine keep [0,1,4,16,17,18] ?_
      (try simp only[c18_38,c18_35,c18_34,c18_25,l18_24,cw,cops,csW,csL,reduceIte,reduceEqDiff,reduceCtorEq,reduceAdd,reduceLT,reduceLeDiff,reduceSub,csF,hi',hn,hn2])
      (repeat refine And.intro (by first|omega|(simp;omega)) ?_)
      refine keep [0,1,4,5,6,16,17,18] ?_
      (try simp only[c18_33,c18_27,l18_26,cw,cops,csW,csL,reduceIte,reduceEqDiff,reduceCtorEq,reduceAdd,reduceLT,reduceLeDiff,reduceSub,csF,hi',hn,hn2])
      (repeat refine And.intro (by first|omega|(simp;omega)) ?_)
      refine keep [0,1,4,5,16,17,18,29] ?_
      (try simp only[c18_32,cw,cops,csW,csL,reduceIte,reduceEqDiff,reduceCtorEq,reduceAdd,reduceLT,reduceLeDiff,reduceSub,csF,hi',hn,hn2])
      (repeat refine And.intro (by first|omega|(simp;omega)) ?_)
      (try simp only[c18_31,c18_30,l18_28,cw,cops,csW,csL,reduceIte,reduceEqDiff,reduceCtorEq,reduceAdd,reduceLT,reduceLeDiff,reduceSub,csF])
      (repeat refine And.intro (by first|omega|(simp;omega)) ?_)
      refine⟨_,cx (fault_con 7 i),?_⟩
      (try simp only[l18_29,cw,cops,csW,csL,reduceIte,reduceEqDiff,reduceCtorEq,reduceAdd,reduceLT,reduceLeDiff,reduceSub,csF])
      (repeat refine And.intro (by first|omega|(simp;omega)) ?_)
      refine keep [4] ?_
      (try simp only[cw,cops,csW,csL,reduceIte,reduceEqDiff,reduceCtorEq,reduceAdd,reduceLT,reduceLeDiff,reduceSub,csF,Ends,resD,resL,resV])
      (repeat refine And.intro (by first|omega|(simp;omega)) ?_)
      rw[chk_bad hP hl h (by omega) hg]
     ·-- skip
      (try simp only[c18_40,c18_22,l18_21,cw,cops,csW,csL,reduceIte,reduceEqDiff,reduceCtorEq,reduceAdd,reduceLT,reduceLeDiff,reduceSub,csF,hi'])
      (repeat refine And.intro (by first|omega|(simp;omega)) ?_)
      refine keep [0,1,4,16,17,18,19] ?_
      (try simp only[c18_39,c18_23,cw,cops,csW,csL,reduceIte,reduceEqDiff,reduceCtorEq,reduceAdd,reduceLT,reduceLeDiff,reduceSub,csF,hi'])
      (repeat refine And.intro (by first|omega|(simp;omega)) ?_)
      (try simp only[cw,cops,csW,csL,reduceIte,reduceEqDiff,reduceCtorEq,reduceAdd,reduceLT,reduceLeDiff,reduceSub,csF,hi',hn,hn2])
      (repeat refine And.intro (by first|omega|(simp;omega)) ?_)
      refine keep [0,1,4,16,17,18] ?_
      (try simp only[c18_38,c18_35,c18_34,c18_25,l18_24,cw,cops,csW,csL,reduceIte,reduceEqDiff,reduceCtorEq,reduceAdd,reduceLT,reduceLeDiff,reduceSub,csF,hi',hn,hn2])
      (repeat refine And.intro (by first|omega|(simp;omega)) ?_)
      refine keep [0,1,4,5,6,16,17,18] ?_
      (try simp only[c18_33,c18_27,l18_26,cw,cops,csW,csL,reduceIte,reduceEqDiff,reduceCtorEq,reduceAdd,reduceLT,reduceLeDiff,reduceSub,csF,hi',hn,hn2])
      (repeat refine And.intro (by first|omega|(simp;omega)) ?_)
      refine keep [0,1,4,5,16,17,18,29] ?_
      (try simp only[c18_32,cw,cops,csW,csL,reduceIte,reduceEqDiff,reduceCtorEq,reduceAdd,reduceLT,reduceLeDiff,reduceSub,csF,hi',hn,hn2])
      (repeat refine And.intro (by first|omega|(simp;omega)) ?_)
      (try simp only[cw,cops,csW,csL,reduceIte,reduceEqDiff,reduceCtorEq,reduceAdd,reduceLT,reduceLeDiff,reduceSub,csF])
      (repeat refine And.intro (by first|omega|(simp;omega)) ?_)
      refine keep [0,1,4,16,17,18] ?_
      (try simp only[c18_37,l18_36,cw,cops,csW,csL,reduceIte,reduceEqDiff,reduceCtorEq,reduceAdd,reduceLT,reduceLeDiff,reduceSub,csF])
      (repeat refine And.intro (by first|omega|(simp;omega)) ?_)
      refine⟨i+1,⟨by omega,fun j hj => ?_⟩,(Sub.toG [0,1,4,16,17,18] [] (by rfl) (by rfl) (by rfl) (by rfl)),by omega⟩
      by_cases hji:j<i
      ·exact hg j hji
      ·obtain rfl:j=i:=by omega
       omega
   ·have hi':¬ (i:Int)<(f.length:Int):=by omega
    have hif:i=f.length:=by omega
    subst hif
    by_cases hl0:0<f.length
    ·have hI:(0:Int)<(f.length:Int):=by omega
     have hG:(f.length:Int)-1=((f.length-1:Nat):Int):=by omega
     have hGl:((f.length-1:Nat):Int)<(f.length:Int):=by omega
     (try simp only[c18_40,c18_22,l18_21,cw,cops,csW,csL,reduceIte,reduceEqDiff,reduceCtorEq,reduceAdd,reduceLT,reduceLeDiff,reduceSub,csF,hi'])
     (repeat refine And.intro (by first|omega|(simp;omega)) ?_)
     refine keep [0,1,4,16,17,18,19] ?_
     (try simp only[c18_39,c18_23,cw,cops,csW,csL,reduceIte,reduceEqDiff,reduceCtorEq,reduceAdd,reduceLT,reduceLeDiff,reduceSub,csF,hi'])
     (repeat refine And.intro (by first|omega|(simp;omega)) ?_)
     (try simp only[cw,cops,csW,csL,reduceIte,reduceEqDiff,reduceCtorEq,reduceAdd,reduceLT,reduceLeDiff,reduceSub,csF,hi',hI,hG,hGl])
     (repeat refine And.intro (by first|omega|(simp;omega)) ?_)
     refine keep [0,4] ?_
     (try simp only[c18_58,c18_54,c18_45,l18_44,cw,cops,csW,csL,reduceIte,reduceEqDiff,reduceCtorEq,reduceAdd,reduceLT,reduceLeDiff,reduceSub,csF,hi',hI,hG,hGl])
     (repeat refine And.intro (by first|omega|(simp;omega)) ?_)
     refine keep [0,4,7] ?_
     (try simp only[c18_53,c18_47,l18_46,cw,cops,csW,csL,reduceIte,reduceEqDiff,reduceCtorEq,reduceAdd,reduceLT,reduceLeDiff,reduceSub,csF,hi',hI,hG,hGl])
     (repeat refine And.intro (by first|omega|(simp;omega)) ?_)
     refine keep [4,7,44] ?_
     (try simp only[c18_52,cw,cops,csW,csL,reduceIte,reduceEqDiff,reduceCtorEq,reduceAdd,reduceLT,reduceLeDiff,reduceSub,csF,hi',hI,hG,hGl])
     (repeat refine And.intro (by first|omega|(simp;omega)) ?_)
     refine⟨fun hc => ?_,fun hc => ?_⟩
     ·(try simp only[c18_51,c18_50,l18_48,cw,cops,csW,csL,reduceIte,reduceEqDiff,reduceCtorEq,reduceAdd,reduceLT,reduceLeDiff,reduceSub,csF,hG])
      (repeat refine And.intro (by first|omega|(simp;omega)) ?_)
      refine⟨_,cx (fault_con 3 _),?_⟩
      (try simp only[l18_49,cw,cops,csW,csL,reduceIte,reduceEqDiff,reduceCtorEq,reduceAdd,reduceLT,reduceLeDiff,reduceSub,csF])
      (repeat refine And.intro (by first|omega|(simp;omega)) ?_)
      refine keep [4] ?_
      (try simp only[cw,cops,csW,csL,reduceIte,reduceEqDiff,reduceCtorEq,reduceAdd,reduceLT,reduceLeDiff,reduceSub,csF,Ends,resD,resL,resV])
      (repeat refine And.intro (by first|omega|(simp;omega)) ?_)
      rw[chk_form hP hl hg hl0 hc]
     ·(try simp only[cw,cops,csW,csL,reduceIte,reduceEqDiff,reduceCtorEq,reduceAdd,reduceLT,reduceLeDiff,reduceSub,csF,hG])
      (repeat refine And.intro (by first|omega|(simp;omega)) ?_)
      refine keep [4] ?_
      (try simp only[c18_57,c18_56,l18_55,cw,cops,csW,csL,reduceIte,reduceEqDiff,reduceCtorEq,reduceAdd,reduceLT,reduceLeDiff,reduceSub,csF,hG])
      (repeat refine And.intro (by first|omega|(simp;omega)) ?_)
      refine keep [4] ?_
      (try simp only[cw,cops,csW,csL,reduceIte,reduceEqDiff,reduceCtorEq,reduceAdd,reduceLT,reduceLeDiff,reduceSub,csF,Ends,resD,resL,resV,hG])
      (repeat refine And.intro (by first|omega|(simp;omega)) ?_)
      rw[chk_ok hP hl hg (fun hh=>of_decide_eq_false hc hh.2)]
    ·have hI:¬ (0:Int)<(f.length:Int):=by omega
     (try simp only[c18_40,c18_22,l18_21,cw,cops,csW,csL,reduceIte,reduceEqDiff,reduceCtorEq,reduceAdd,reduceLT,reduceLeDiff,reduceSub,csF,hi'])
     (repeat refine And.intro (by first|omega|(simp;omega)) ?_)
     refine keep [0,1,4,16,17,18,19] ?_
     (try simp only[c18_39,c18_23,cw,cops,csW,csL,reduceIte,reduceEqDiff,reduceCtorEq,reduceAdd,reduceLT,reduceLeDiff,reduceSub,csF,hi'])
     (repeat refine And.intro (by first|omega|(simp;omega)) ?_)
     (try simp only[cw,cops,csW,csL,reduceIte,reduceEqDiff,reduceCtorEq,reduceAdd,reduceLT,reduceLeDiff,reduceSub,csF,hi',hI])
     (repeat refine And.intro (by first|omega|(simp;omega)) ?_)
     refine keep [0,4] ?_
     (try simp only[c18_58,c18_54,c18_45,l18_44,cw,cops,csW,csL,reduceIte,reduceEqDiff,reduceCtorEq,reduceAdd,reduceLT,reduceLeDiff,reduceSub,csF,hi',hI])
     (repeat refine And.intro (by first|omega|(simp;omega)) ?_)
     refine keep [0,4,7] ?_
     (try simp only[c18_53,c18_47,l18_46,cw,cops,csW,csL,reduceIte,reduceEqDiff,reduceCtorEq,reduceAdd,reduceLT,reduceLeDiff,reduceSub,csF,hi',hI])
     (repeat refine And.intro (by first|omega|(simp;omega)) ?_)
     refine keep [4,7,44] ?_
     (try simp only[c18_52,cw,cops,csW,csL,reduceIte,reduceEqDiff,reduceCtorEq,reduceAdd,reduceLT,reduceLeDiff,reduceSub,csF,hi',hI])
     (repeat refine And.intro (by first|omega|(simp;omega)) ?_)
     (try simp only[cw,cops,csW,csL,reduceIte,reduceEqDiff,reduceCtorEq,reduceAdd,reduceLT,reduceLeDiff,reduceSub,csF,hI])
     (repeat refine And.intro (by first|omega|(simp;omega)) ?_)
     refine keep [4] ?_
     (try simp only[c18_57,c18_56,l18_55,cw,cops,csW,csL,reduceIte,reduceEqDiff,reduceCtorEq,reduceAdd,reduceLT,reduceLeDiff,reduceSub,csF,hI])
     (repeat refine And.intro (by first|omega|(simp;omega)) ?_)
     refine keep [4] ?_
     (try simp only[cw,cops,csW,csL,reduceIte,reduceEqDiff,reduceCtorEq,reduceAdd,reduceLT,reduceLeDiff,reduceSub,csF,Ends,resD,resL,resV,hI])
     (repeat refine And.intro (by first|omega|(simp;omega)) ?_)
     rw[chk_ok hP hl hg (fun hh=>hl0 hh.1)]
 ·refine fn18.con rfl (by simp) ?_
  (try simp only[init2,c18,c18_62,c18_1,l18_0,cw,cops,csW,csL,reduceIte,reduceEqDiff,reduceCtorEq,reduceAdd,reduceLT,reduceLeDiff,reduceSub,csF])
  (repeat refine And.intro (by first|omega|(simp;omega)) ?_)
  refine keep [0,1,4] ?_
  (try simp only[c18_61,c18_10,c18_4,l18_2,cw,cops,csW,csL,reduceIte,reduceEqDiff,reduceCtorEq,reduceAdd,reduceLT,reduceLeDiff,reduceSub,csF])
  (repeat refine And.intro (by first|omega|(simp;omega)) ?_)
  refine⟨_,cx (prime_con p false (by simp[hP])),?_⟩
  (try simp only[l18_3,cw,cops,csW,csL,reduceIte,reduceEqDiff,reduceCtorEq,reduceAdd,reduceLT,reduceLeDiff,reduceSub,csF])
  (repeat refine And.intro (by first|omega|(simp;omega)) ?_)
  refine keep [0,1,4,10] ?_
  (try simp only[c18_9,cw,cops,csW,csL,reduceIte,reduceEqDiff,reduceCtorEq,reduceAdd,reduceLT,reduceLeDiff,reduceSub,csF])
  (repeat refine And.intro (by first|omega|(simp;omega)) ?_)
  (try simp only[c18_8,c18_7,l18_5,cw,cops,csW,csL,reduceIte,reduceEqDiff,reduceCtorEq,reduceAdd,reduceLT,reduceLeDiff,reduceSub,csF])
  (repeat refine And.intro (by first|omega|(simp;omega)) ?_)
  refine⟨_,cx (fault_con 6 0),?_⟩
  (try simp only[l18_6,cw,cops,csW,csL,reduceIte,reduceEqDiff,reduceCtorEq,reduceAdd,reduceLT,reduceLeDiff,reduceSub,csF])
  (repeat refine And.intro (by first|omega|(simp;omega)) ?_)
  refine keep [4] ?_
  (try simp only[cw,cops,csW,csL,reduceIte,reduceEqDiff,reduceCtorEq,reduceAdd,reduceLT,reduceLeDiff,reduceSub,csF,Ends,resD,resL,resV])
  (repeat refine And.intro (by first|omega|(simp;omega)) ?_)
  rw[chk_prime hP]
end Go.Proofs.Ytlnhembcfhfpkaa.M
