/- Polynomials modulo a prime: derivative, p-th root, difference, order walked. -/
import Derived.Test.YtlnhembcfhfpkaaFyCCx
import Derived.Test.YtlnhembcfhfpkaaK5
namespace Go.Proofs.Ytlnhembcfhfpkaa.M
open Go.RowKit Go.Proofs.Ytlnhembcfhfpkaa.Fx
open Nat (reduceEqDiff reduceAdd reduceLT reduceLeDiff reduceSub)
set_option linter.unusedSimpArgs false
set_option linter.unusedVariables false
variable {P:Pr}
set_option maxRecDepth 20000 in
set_option maxHeartbeats 1000000 in
theorem derive_con {T:Nat} (f:Po P) (hf:dg f≤1000):Con Try.prog [] 53 [LT T f.l,I P.p] (L (der f).l):=by
 have hp:=P.h.pos
 refine fn53.con rfl (by simp) ?_
 (try simp only[init2,c53,c53_26,c53_1,l53_0,cw,cops,csW,csL,reduceIte,reduceEqDiff,reduceCtorEq,reduceAdd,reduceLT,reduceLeDiff,reduceSub,csT])
 (repeat refine And.intro (by first|omega|(simp;omega)) ?_)
 refine keep [0,1] ?_
 (try simp only[c53_25,c53_3,l53_2,cw,cops,csW,csL,reduceIte,reduceEqDiff,reduceCtorEq,reduceAdd,reduceLT,reduceLeDiff,reduceSub,csT])
 (repeat refine And.intro (by first|omega|(simp;omega)) ?_)
 refine keep [0,1,5] ?_
 (try simp only[c53_24,c53_19,c53_5,l53_4,cw,cops,csW,csL,reduceIte,reduceEqDiff,reduceCtorEq,reduceAdd,reduceLT,reduceLeDiff,reduceSub,csT])
 (repeat refine And.intro (by first|omega|(simp;omega)) ?_)
 refine keep [0,1,5,6] ?_
 (try simp only[c53_18,cw,cops,csW,csL,reduceIte,reduceEqDiff,reduceCtorEq,reduceAdd,reduceLT,reduceLeDiff,reduceSub,csT])
 refine loop_of (ι:=Nat) (fun k=>k≤dg f) (fun k=>⟨look [(0,.p (LT T f.l)),(1,.p (I P.p)),(5,.slice 205 0 k),(6,.p (I ((k:Int)+1)))],lookM [(205,⟨3,1,.row ((tabI k fun i=>co (der f) i).map (D.int .i64)),false⟩)]⟩) (fun k=>dg f-k) 0 (by omega) (Sub.nilG 5 205 3 1 (by rfl) (by rfl) (by decide) (by rfl) (by rfl)) ?_
 intro k hk
 by_cases h:k+1<dg f
 ·have hI:(k:Int)+1<(f.l.length:Int):=by unfold dg at h;omega
  have hr:=co_rg f (k+1)
  have hm:0≤((k:Int)+1)*f.l.getD (k+1) 0∧((k:Int)+1)*f.l.getD (k+1) 0≤1001*1073741824:=by
   unfold co at hr
   exact⟨Int.mul_nonneg (by omega) hr.1,Int.mul_le_mul (by omega) (by omega) hr.1 (by omega)⟩
  have he:(((k:Int)+1)*f.l.getD (k+1) 0).tmod P.p=co (der f) k:=by rw[tm hm.1,co_der];rfl
  have hsucc:=tabI_app (n:=k) (f:=fun i=>co (der f) i) (x:=co (der f) k) rfl
  (try simp only[c53_16,c53_9,c53_7,l53_6,cw,cops,csW,csL,reduceIte,reduceEqDiff,reduceCtorEq,reduceAdd,reduceLT,reduceLeDiff,reduceSub,csT,hI])
  (repeat refine And.intro (by first|omega|(simp;omega)) ?_)
  refine keep [0,1,5,6,10] ?_
  (try simp only[c53_8,cw,cops,csW,csL,reduceIte,reduceEqDiff,reduceCtorEq,reduceAdd,reduceLT,reduceLeDiff,reduceSub,csT,hI])
  (repeat refine And.intro (by first|omega|(simp;omega)) ?_)
  (try simp only[cw,cops,csW,csL,reduceIte,reduceEqDiff,reduceCtorEq,reduceAdd,reduceLT,reduceLeDiff,reduceSub,csT,hI,he,hsucc])
  (repeat refine And.intro (by first|omega|(simp;omega)) ?_)
  refine keep [0,1,5,6] ?_
  (try simp only[c53_15,c53_12,c53_11,l53_10,cw,cops,csW,csL,reduceIte,reduceEqDiff,reduceCtorEq,reduceAdd,reduceLT,reduceLeDiff,reduceSub,csT,hI,he,hsucc])
  (repeat refine And.intro (by first|omega|(simp;omega)) ?_)
  refine keep [0,1,5,6] ?_
  (try simp only[c53_14,l53_13,cw,cops,csW,csL,reduceIte,reduceEqDiff,reduceCtorEq,reduceAdd,reduceLT,reduceLeDiff,reduceSub,csT,hI,he,hsucc])
  (repeat refine And.intro (by first|omega|(simp;omega)) ?_)
  exact⟨k+1,by omega,(Sub.toG [0,1,5,6] [22] (by rfl) (by rfl) (by rfl) (by rfl)),by omega⟩
 ·have hI:¬ (k:Int)+1<(f.l.length:Int):=by unfold dg at h;omega
  (try simp only[c53_16,c53_9,c53_7,l53_6,cw,cops,csW,csL,reduceIte,reduceEqDiff,reduceCtorEq,reduceAdd,reduceLT,reduceLeDiff,reduceSub,csT,hI])
  (repeat refine And.intro (by first|omega|(simp;omega)) ?_)
  refine keep [0,1,5,6,10] ?_
  (try simp only[c53_8,cw,cops,csW,csL,reduceIte,reduceEqDiff,reduceCtorEq,reduceAdd,reduceLT,reduceLeDiff,reduceSub,csT,hI])
  (repeat refine And.intro (by first|omega|(simp;omega)) ?_)
  have htk:(tabI k fun i=>co (der f) i).take k=tabI k fun i=>co (der f) i:=List.take_of_length_le (by rw[tabI_len];omega)
  (try simp only[cw,cops,csW,csL,reduceIte,reduceEqDiff,reduceCtorEq,reduceAdd,reduceLT,reduceLeDiff,reduceSub,csT,hI,Bool.true_or,Nat.le_refl,htk])
  (repeat refine And.intro (by first|omega|(simp;omega)) ?_)
  refine keepF 205 _ [5] (by rfl) ?_
  (try simp only[c53_23,c53_22,l53_20,cw,cops,csW,csL,reduceIte,reduceEqDiff,reduceCtorEq,reduceAdd,reduceLT,reduceLeDiff,reduceSub,csT,hI,Bool.true_or,Nat.le_refl,htk])
  (repeat refine And.intro (by first|omega|(simp;omega)) ?_)
  refine⟨_,cx (made_con _ (by rw[tabI_len];omega)),?_⟩
  (try simp only[l53_21,cw,cops,csW,csL,reduceIte,reduceEqDiff,reduceCtorEq,reduceAdd,reduceLT,reduceLeDiff,reduceSub,csT])
  (repeat refine And.intro (by first|omega|(simp;omega)) ?_)
  refine keep [4] ?_
  (try simp only[cw,cops,csW,csL,reduceIte,reduceEqDiff,reduceCtorEq,reduceAdd,reduceLT,reduceLeDiff,reduceSub,csT,Ends,resD,resL,resV])
  (repeat refine And.intro (by first|omega|(simp;omega)) ?_)
  have:trim (tabI k fun i=>co (der f) i)=(der f).l:=by
   rw[←show trim (der f).l=(der f).l from (der f).td]
   refine trim_ext fun i => ?_
   rw[tabI_getD]
   split
   ·rfl
   ·show 0=co (der f) i
    rw[co_der,co_big (by omega)];simp
  rw[this]
set_option maxRecDepth 20000 in
set_option maxHeartbeats 1000000 in
theorem rooted_con {T:Nat} (f:Po P) (hf:dg f≤1000) (hd:der f=0):Con Try.prog [] 54 [LT T f.l,I P.p] (L (rt f).l):=by
 have hp:=P.h.pos
 have hp2:=P.p2
 have hpn:=pn_p P
 refine fn54.con rfl (by simp) ?_
 (try simp only[init2,c54,c54_25,c54_1,l54_0,cw,cops,csW,csL,reduceIte,reduceEqDiff,reduceCtorEq,reduceAdd,reduceLT,reduceLeDiff,reduceSub,csT])
 (repeat refine And.intro (by first|omega|(simp;omega)) ?_)
 refine keep [0,1] ?_
 (try simp only[c54_24,c54_3,l54_2,cw,cops,csW,csL,reduceIte,reduceEqDiff,reduceCtorEq,reduceAdd,reduceLT,reduceLeDiff,reduceSub,csT])
 (repeat refine And.intro (by first|omega|(simp;omega)) ?_)
 refine keep [0,1,5] ?_
 (try simp only[c54_23,c54_19,c54_5,l54_4,cw,cops,csW,csL,reduceIte,reduceEqDiff,reduceCtorEq,reduceAdd,reduceLT,reduceLeDiff,reduceSub,csT])
 (repeat refine And.intro (by first|omega|(simp;omega)) ?_)
 refine keep [0,1,5,6] ?_
 (try simp only[c54_18,cw,cops,csW,csL,reduceIte,reduceEqDiff,reduceCtorEq,reduceAdd,reduceLT,reduceLeDiff,reduceSub,csT])
 refine loop_of (ι:=Nat) (fun k=>(k≠0→pn P*(k-1)<dg f)) (fun k=>⟨look [(0,.p (LT T f.l)),(1,.p (I P.p)),(5,.slice 205 0 k),(6,.p (I ((pn P*k:Nat):Int)))],lookM [(205,⟨3,1,.row ((tabI k fun i=>co f (pn P*i)).map (D.int .i64)),false⟩)]⟩) (fun k=>dg f+pn P-pn P*k) 0 (by simp) (Sub.nilG 5 205 3 1 (by rfl) (by rfl) (by decide) (by rfl) (by rfl)) ?_
 intro k hk
 have hk1:pn P*(k+1)=pn P*k+pn P:=Nat.mul_succ _ _
 by_cases h:pn P*k<dg f
 ·have hI:((pn P*k:Nat):Int)<(f.l.length:Int):=by unfold dg at h;omega
  have hsucc:=tabI_app (n:=k) (f:=fun i=>co f (pn P*i)) (x:=f.l.getD (pn P*k) 0) rfl
  have hs:((pn P*k:Nat):Int)+P.p=((pn P*(k+1):Nat):Int):=by omega
  have hkb:k≤pn P*k:=Nat.le_mul_of_pos_left k (by have:=pn_2 P;omega)
  generalize hX:((pn P*k:Nat):Int)=x at *
  have hx0:0≤x:=by omega
  have hxn:x.toNat=pn P*k:=by omega
  (try simp only[c54_16,c54_9,c54_7,l54_6,cw,cops,csW,csL,reduceIte,reduceEqDiff,reduceCtorEq,reduceAdd,reduceLT,reduceLeDiff,reduceSub,csT,hI])
  (repeat refine And.intro (by first|omega|(simp;omega)) ?_)
  refine keep [0,1,5,6,10] ?_
  (try simp only[c54_8,cw,cops,csW,csL,reduceIte,reduceEqDiff,reduceCtorEq,reduceAdd,reduceLT,reduceLeDiff,reduceSub,csT,hI])
  (repeat refine And.intro (by first|omega|(simp;omega)) ?_)
  (try simp only[cw,cops,csW,csL,reduceIte,reduceEqDiff,reduceCtorEq,reduceAdd,reduceLT,reduceLeDiff,reduceSub,csT,hI,hx0,hxn,hsucc,hs])
  (repeat refine And.intro (by first|omega|(simp;omega)) ?_)
  refine keep [0,1,5,6] ?_
  (try simp only[c54_15,c54_12,c54_11,l54_10,cw,cops,csW,csL,reduceIte,reduceEqDiff,reduceCtorEq,reduceAdd,reduceLT,reduceLeDiff,reduceSub,csT,hI,hx0,hxn,hsucc,hs])
  (repeat refine And.intro (by first|omega|(simp;omega)) ?_)
  refine keep [0,1,5,6] ?_
  (try simp only[c54_14,l54_13,cw,cops,csW,csL,reduceIte,reduceEqDiff,reduceCtorEq,reduceAdd,reduceLT,reduceLeDiff,reduceSub,csT,hI,hx0,hxn,hsucc,hs])
  (repeat refine And.intro (by first|omega|(simp;omega)) ?_)
  refine⟨k+1,fun _=>by simpa using h,(Sub.toG [0,1,5,6] [19] (by rfl) (by rfl) (by rfl) (by rfl)),?_⟩
  have:=pn_2 P
  omega
 ·have hI:¬ ((pn P*k:Nat):Int)<(f.l.length:Int):=by unfold dg at h;omega
  generalize hX:((pn P*k:Nat):Int)=x at *
  (try simp only[c54_16,c54_9,c54_7,l54_6,cw,cops,csW,csL,reduceIte,reduceEqDiff,reduceCtorEq,reduceAdd,reduceLT,reduceLeDiff,reduceSub,csT,hI])
  (repeat refine And.intro (by first|omega|(simp;omega)) ?_)
  refine keep [0,1,5,6,10] ?_
  (try simp only[c54_8,cw,cops,csW,csL,reduceIte,reduceEqDiff,reduceCtorEq,reduceAdd,reduceLT,reduceLeDiff,reduceSub,csT,hI])
  (repeat refine And.intro (by first|omega|(simp;omega)) ?_)
  have htk:(tabI k fun i=>co f (pn P*i)).take k=tabI k fun i=>co f (pn P*i):=List.take_of_length_le (by rw[tabI_len];omega)
  (try simp only[cw,cops,csW,csL,reduceIte,reduceEqDiff,reduceCtorEq,reduceAdd,reduceLT,reduceLeDiff,reduceSub,csT,hI,Bool.true_or,Nat.le_refl,htk])
  (repeat refine And.intro (by first|omega|(simp;omega)) ?_)
  refine keepF 205 _ [5] (by rfl) ?_
  (try simp only[c54_22,c54_21,l54_20,cw,cops,csW,csL,reduceIte,reduceEqDiff,reduceCtorEq,reduceAdd,reduceLT,reduceLeDiff,reduceSub,csT,hI,Bool.true_or,Nat.le_refl,htk])
  (repeat refine And.intro (by first|omega|(simp;omega)) ?_)
  refine keep [4] ?_
  (try simp only[cw,cops,csW,csL,reduceIte,reduceEqDiff,reduceCtorEq,reduceAdd,reduceLT,reduceLeDiff,reduceSub,csT,Ends,resD,resL,resV,hI,Bool.true_or,Nat.le_refl,htk])
  (repeat refine And.intro (by first|omega|(simp;omega)) ?_)
  have:tabI k (fun i=>co f (pn P*i))=(rt f).l:=by
   refine td_ext ?_ (rt f).td fun i => ?_
   ·refine td_of_last fun hne => ?_
    rw[tabI_len] at *
    have hk0:k≠0:=fun e=>by rw[e] at hne;exact hne rfl
    rw[tabI_getD,if_pos (by omega)]
    have h1:=hk hk0
    have h2:dg f-1=pn P*(k-1):=by
     apply Classical.byContradiction
     intro hne2
     have h3:f≠0:=ne_0 (by omega)
     have h4:=lc_ne h3
     unfold lc at h4
     refine h4 (der_zero hd ?_)
     have h5:pn P*k=pn P*(k-1)+pn P:=by
      obtain⟨j,rfl⟩:∃ j,k=j+1:=⟨k-1,by omega⟩
      rw[Nat.add_sub_cancel,Nat.mul_succ]
     obtain⟨m,hm⟩:∃ m,dg f-1=pn P*(k-1)+m:=⟨dg f-1-pn P*(k-1),by omega⟩
     rw[hm,Nat.mul_add_mod,Nat.mod_eq_of_lt (by omega)]
     omega
    rw[←h2]
    exact lc_ne (ne_0 (by omega))
   ·rw[tabI_getD]
    show _=co (rt f) i
    rw[co_rt]
    split
    ·rfl
    ·rw[co_big]
     have:pn P*k≤pn P*i:=Nat.mul_le_mul_left _ (by omega)
     omega
  rw[this]
set_option maxRecDepth 20000 in
set_option maxHeartbeats 1000000 in
theorem sub_con {T T':Nat} (f g:Po P) (hf:dg f≤1000) (hg:dg g≤1000):Con Try.prog [] 57 [LT T f.l,LT T' g.l,I P.p] (L (f-g).l):=by
 have hp:=P.h.pos
 obtain⟨N,hN⟩:∃ N,N=max f.l.length g.l.length:=⟨_,rfl⟩
 have hNI:(if (g.l.length:Int) > (f.l.length:Int) then (g.l.length:Int) else (f.l.length:Int))=(N:Int):=by split<;>omega
 have hNb:N≤1000:=by unfold dg at hf hg;omega
 refine fn57.con rfl (by simp) ?_
 (try simp only[init3,c57,c57_31,c57_1,l57_0,cw,cops,csW,csL,reduceIte,reduceEqDiff,reduceCtorEq,reduceAdd,reduceLT,reduceLeDiff,reduceSub,csT,hNI])
 (repeat refine And.intro (by first|omega|(simp;omega)) ?_)
 refine keep [0,1,2] ?_
 (try simp only[c57_30,c57_3,l57_2,cw,cops,csW,csL,reduceIte,reduceEqDiff,reduceCtorEq,reduceAdd,reduceLT,reduceLeDiff,reduceSub,csT,hNI])
 (repeat refine And.intro (by first|omega|(simp;omega)) ?_)
 refine keep [0,1,2,7] ?_
 (try simp only[c57_29,c57_24,c57_5,l57_4,cw,cops,csW,csL,reduceIte,reduceEqDiff,reduceCtorEq,reduceAdd,reduceLT,reduceLeDiff,reduceSub,csT,hNI])
 (repeat refine And.intro (by first|omega|(simp;omega)) ?_)
 refine keep [0,1,2,7,16,17] ?_
 (try simp only[c57_23,cw,cops,csW,csL,reduceIte,reduceEqDiff,reduceCtorEq,reduceAdd,reduceLT,reduceLeDiff,reduceSub,csT,hNI])
 refine loop_of (ι:=Nat) (fun k=>k≤N) (fun k=>⟨look [(0,.p (LT T f.l)),(1,.p (LT T' g.l)),(2,.p (I P.p)),(7,.slice 14 0 N),(16,.p (I N)),(17,.p (I k))],lookM [(14,⟨3,1,.row ((tabI N fun i=>if i<k then co (f-g) i else 0).map (D.int .i64)),false⟩)]⟩) (fun k=>N-k) 0 (by omega) ?_ ?_
 ·have:(tabI N fun i=>if i<0 then co (f-g) i else 0)=List.replicate N 0:=by apply List.ext_getElem<;>simp[tabI]
  rw[this]
  exact (Sub.toG [0,1,2,7,16,17] [] (by rfl) (by rfl) (by rfl) (by rfl))
 intro k hk
 by_cases h:k<N
 ·have hI:(k:Int)<(N:Int):=by omega
  have h1:=co_rg f k
  have h2:=co_rg g k
  have he:(f.l.getD k 0-g.l.getD k 0+P.p).tmod P.p=co (f-g) k:=by
   show (co f k-co g k+P.p).tmod P.p=co (f + -g) k
   rw[tm (by omega),co_add,co_neg,Int.add_emod_right,Int.add_emod_emod]
   congr 1
  unfold co at h1 h2
  have hset:(tabI N fun i=>if i<k then co (f-g) i else 0).set k (co (f-g) k)=tabI N fun i=>if i<k+1 then co (f-g) i else 0:=by
   apply List.ext_getElem
   ·simp[tabI]
   ·intro i a1 a2
    rw[List.getElem_set]
    simp only[tabI,List.getElem_map,List.getElem_range]
    by_cases e:k=i
    ·subst e;rw[if_pos rfl,if_pos (by omega)]
    ·rw[if_neg e]
     by_cases e2:i<k
     ·rw[if_pos e2,if_pos (by omega)]
     ·rw[if_neg e2,if_neg (by omega)]
  (try simp only[c57_21,c57_7,l57_6,cw,cops,csW,csL,reduceIte,reduceEqDiff,reduceCtorEq,reduceAdd,reduceLT,reduceLeDiff,reduceSub,csT,hI])
  (repeat refine And.intro (by first|omega|(simp;omega)) ?_)
  refine keep [0,1,2,7,16,17,18] ?_
  (try simp only[c57_20,c57_8,cw,cops,csW,csL,reduceIte,reduceEqDiff,reduceCtorEq,reduceAdd,reduceLT,reduceLeDiff,reduceSub,csT,hI])
  (repeat refine And.intro (by first|omega|(simp;omega)) ?_)
  (try simp only[cw,cops,csW,csL,reduceIte,reduceEqDiff,reduceCtorEq,reduceAdd,reduceLT,reduceLeDiff,reduceSub,csT,hI])
  (repeat refine And.intro (by first|omega|(simp;omega)) ?_)
  refine keep [0,1,2,7,16,17] ?_
  (try simp only[c57_19,c57_16,c57_15,c57_10,l57_9,cw,cops,csW,csL,reduceIte,reduceEqDiff,reduceCtorEq,reduceAdd,reduceLT,reduceLeDiff,reduceSub,csT,hI])
  (repeat refine And.intro (by first|omega|(simp;omega)) ?_)
  refine keep [0,1,2,7,8,16,17] ?_
  (try simp only[c57_14,l57_11,cw,cops,csW,csL,reduceIte,reduceEqDiff,reduceCtorEq,reduceAdd,reduceLT,reduceLeDiff,reduceSub,csT,hI])
  (repeat refine And.intro (by first|omega|(simp;omega)) ?_)
  refine⟨_,cx (at_con f.l k),?_⟩
  (try simp only[l57_12,cw,cops,csW,csL,reduceIte,reduceEqDiff,reduceCtorEq,reduceAdd,reduceLT,reduceLeDiff,reduceSub,csT])
  (repeat refine And.intro (by first|omega|(simp;omega)) ?_)
  refine⟨_,cx (at_con g.l k),?_⟩
  (try simp only[l57_13,cw,cops,csW,csL,reduceIte,reduceEqDiff,reduceCtorEq,reduceAdd,reduceLT,reduceLeDiff,reduceSub,csT,he,hI,tabI_len,hset])
  (repeat refine And.intro (by first|omega|(simp;omega)) ?_)
  refine keep [0,1,2,7,16,17] ?_
  (try simp only[c57_18,l57_17,cw,cops,csW,csL,reduceIte,reduceEqDiff,reduceCtorEq,reduceAdd,reduceLT,reduceLeDiff,reduceSub,csT,he,hI,tabI_len,hset])
  (repeat refine And.intro (by first|omega|(simp;omega)) ?_)
  exact⟨k+1,by omega,(Sub.toG [0,1,2,7,16,17] [] (by rfl) (by rfl) (by rfl) (by rfl)),by omega⟩
 ·have hI:¬ (k:Int)<(N:Int):=by omega
  have hkN:k=N:=by omega
  (try simp only[c57_21,c57_7,l57_6,cw,cops,csW,csL,reduceIte,reduceEqDiff,reduceCtorEq,reduceAdd,reduceLT,reduceLeDiff,reduceSub,csT,hI])
  (repeat refine And.intro (by first|omega|(simp;omega)) ?_)
  refine keep [0,1,2,7,16,17,18] ?_
  (try simp only[c57_20,c57_8,cw,cops,csW,csL,reduceIte,reduceEqDiff,reduceCtorEq,reduceAdd,reduceLT,reduceLeDiff,reduceSub,csT,hI])
  (repeat refine And.intro (by first|omega|(simp;omega)) ?_)
  have htk:(tabI N fun i=>if i<k then co (f-g) i else 0).take N=tabI N fun i=>if i<k then co (f-g) i else 0:=List.take_of_length_le (by rw[tabI_len];omega)
  (try simp only[cw,cops,csW,csL,reduceIte,reduceEqDiff,reduceCtorEq,reduceAdd,reduceLT,reduceLeDiff,reduceSub,csT,hI,tabI_len,Bool.true_or,Nat.le_refl,htk])
  (repeat refine And.intro (by first|omega|(simp;omega)) ?_)
  refine keepF 14 _ [7] (by rfl) ?_
  (try simp only[c57_28,c57_27,l57_25,cw,cops,csW,csL,reduceIte,reduceEqDiff,reduceCtorEq,reduceAdd,reduceLT,reduceLeDiff,reduceSub,csT,hI,tabI_len,Bool.true_or,Nat.le_refl,htk])
  (repeat refine And.intro (by first|omega|(simp;omega)) ?_)
  refine⟨_,cx (made_con _ (by rw[tabI_len];omega)),?_⟩
  (try simp only[l57_26,cw,cops,csW,csL,reduceIte,reduceEqDiff,reduceCtorEq,reduceAdd,reduceLT,reduceLeDiff,reduceSub,csT])
  (repeat refine And.intro (by first|omega|(simp;omega)) ?_)
  refine keep [6] ?_
  (try simp only[cw,cops,csW,csL,reduceIte,reduceEqDiff,reduceCtorEq,reduceAdd,reduceLT,reduceLeDiff,reduceSub,csT,Ends,resD,resL,resV])
  (repeat refine And.intro (by first|omega|(simp;omega)) ?_)
  have:trim (tabI N fun i=>if i<k then co (f-g) i else 0)=(f-g).l:=by
   rw[←show trim (f-g).l=(f-g).l from (f-g).td]
   refine trim_ext fun i => ?_
   rw[tabI_getD]
   by_cases hi:i<N
   ·rw[if_pos hi,if_pos (by omega)];rfl
   ·rw[if_neg hi]
    show 0=co (f-g) i
    have:=dg_sub_le f g
    rw[co_big (by unfold dg at *;omega)]
  rw[this]
def cmpI (a b:Int):Int:=if a<b then -1 else if b<a then 1 else 0
end Go.Proofs.Ytlnhembcfhfpkaa.M
