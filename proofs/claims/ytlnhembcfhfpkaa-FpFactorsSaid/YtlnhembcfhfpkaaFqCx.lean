/- Polynomials modulo a prime: inverse and product walked. -/
import Derived.Test.YtlnhembcfhfpkaaFqBx
namespace Go.Proofs.Ytlnhembcfhfpkaa.M
open Go.RowKit
open Nat (reduceEqDiff reduceAdd reduceLT reduceLeDiff reduceSub)
set_option linter.unusedSimpArgs false
set_option linter.unusedVariables false
set_option maxHeartbeats 400000 in
theorem inverse_nat (A P:Nat) (b:Int) (h0:0<A) (h1:A<P) (hP:P≤1073741824) (hg:Nat.gcd A P=1) (hb:IsInv A P b):Con Try.prog [] 55 [I A,I P] (I b):=by
 have hst:Inv A P A P 1 0:=by
  have:=Inv.start (a:=(A:Int)) (P:=P) (by omega) (by omega) (by simpa using hg)
  simpa using this
 refine fn55.con rfl (by simp) ?_
 (try simp only[init2,c55,c55_22,c55_1,l55_0,cw,cops,csW,csL,reduceIte,reduceEqDiff,reduceCtorEq,reduceAdd,reduceLT,reduceLeDiff,reduceSub])
 (repeat refine And.intro (by first|omega|(simp;omega)) ?_)
 refine keep [0,1] ?_
 (try simp only[c55_21,c55_3,l55_2,cw,cops,csW,csL,reduceIte,reduceEqDiff,reduceCtorEq,reduceAdd,reduceLT,reduceLeDiff,reduceSub])
 (repeat refine And.intro (by first|omega|(simp;omega)) ?_)
 refine keep [1,5,6,7,8] ?_
 (try simp only[c55_20,c55_16,cw,cops,csW,csL,reduceIte,reduceEqDiff,reduceCtorEq,reduceAdd,reduceLT,reduceLeDiff,reduceSub])
 refine loop_of (ι:=Nat × Nat × Int × Int) (fun s=>Inv A P s.1 s.2.1 s.2.2.1 s.2.2.2∧s.1≤P∧s.2.1≤P) (fun s=>⟨look [(1,.p (I P)),(5,.p (I s.1)),(6,.p (I s.2.1)),(7,.p (I s.2.2.1)),(8,.p (I s.2.2.2))],lookM []⟩) (fun s=>s.2.1) (A,P,1,0) ⟨hst,by simp only;omega,by simp only;omega⟩ (Sub.rf _) ?_
 rintro⟨x,y,u,v⟩ ⟨hi,hx,hy⟩
 simp only at hi hx hy
 have hub:=hi.ub
 have hvb:=hi.vb
 by_cases hz:y=0
 ·subst hz
  have hI:((0:Nat):Int)=0:=rfl
  (try simp only[c55_14,c55_7,c55_5,l55_4,cw,cops,csW,csL,reduceIte,reduceEqDiff,reduceCtorEq,reduceAdd,reduceLT,reduceLeDiff,reduceSub,hI])
  (repeat refine And.intro (by first|omega|(simp;omega)) ?_)
  refine keep [1,5,6,7,8,13] ?_
  (try simp only[c55_6,cw,cops,csW,csL,reduceIte,reduceEqDiff,reduceCtorEq,reduceAdd,reduceLT,reduceLeDiff,reduceSub,hI])
  (repeat refine And.intro (by first|omega|(simp;omega)) ?_)
  obtain⟨k,hk⟩:=hi.finish
  have he:=inv_end (by have:=h1;omega) hk hb
  have hb1:=Int.tmod_lt_of_pos u (show (0:Int)<P by omega)
  have hb2:=Int.lt_tmod_of_pos u (show (0:Int)<P by omega)
  (try simp only[cw,cops,csW,csL,reduceIte,reduceEqDiff,reduceCtorEq,reduceAdd,reduceLT,reduceLeDiff,reduceSub])
  (repeat refine And.intro (by first|omega|(simp;omega)) ?_)
  refine keep [1,7] ?_
  (try simp only[c55_19,c55_18,l55_17,cw,cops,csW,csL,reduceIte,reduceEqDiff,reduceCtorEq,reduceAdd,reduceLT,reduceLeDiff,reduceSub])
  (repeat refine And.intro (by first|omega|(simp;omega)) ?_)
  refine keep [4] ?_
  (try simp only[cw,cops,csW,csL,reduceIte,reduceEqDiff,reduceCtorEq,reduceAdd,reduceLT,reduceLeDiff,reduceSub,Ends,resD,resL,resV])
  (repeat refine And.intro (by first|omega|(simp;omega)) ?_)
  rw[he]
 ·have hI:¬ (y:Int)=0:=by omega
  have hxn:=hi.next (by omega)
  have htd:(x:Int).tdiv (y:Int)=((x / y:Nat):Int):=rfl
  have hdm:=Nat.div_add_mod x y
  have hxm:(x:Int)-((x / y:Nat):Int)*(y:Int)=((x % y:Nat):Int):=by
   have:((y*(x / y)+x % y:Nat):Int)=x:=by rw[hdm]
   rw[Int.natCast_add,Int.natCast_mul,Int.mul_comm] at this
   omega
  have hqb:0≤((x / y:Nat):Int)*(y:Int)∧((x / y:Nat):Int)*(y:Int)≤x:=by
   have h2:=Nat.div_mul_le_self x y
   have h3:((x / y*y:Nat):Int)=((x / y:Nat):Int)*(y:Int):=Int.natCast_mul _ _
   omega
  have hql:x / y≤x:=Nat.div_le_self _ _
  have hml:x % y<y:=Nat.mod_lt _ (by omega)
  have hnv:=hxn.1.vb
  generalize x / y=q at *
  generalize x % y=r at *
  (try simp only[c55_14,c55_7,c55_5,l55_4,cw,cops,csW,csL,reduceIte,reduceEqDiff,reduceCtorEq,reduceAdd,reduceLT,reduceLeDiff,reduceSub,hI,htd,hxm])
  (repeat refine And.intro (by first|omega|(simp;omega)) ?_)
  refine keep [1,5,6,7,8,13] ?_
  (try simp only[c55_6,cw,cops,csW,csL,reduceIte,reduceEqDiff,reduceCtorEq,reduceAdd,reduceLT,reduceLeDiff,reduceSub,hI,htd,hxm])
  (repeat refine And.intro (by first|omega|(simp;omega)) ?_)
  (try simp only[cw,cops,csW,csL,reduceIte,reduceEqDiff,reduceCtorEq,reduceAdd,reduceLT,reduceLeDiff,reduceSub,htd,hxm])
  (repeat refine And.intro (by first|omega|(simp;omega)) ?_)
  refine keep [1,5,6,7,8] ?_
  (try simp only[c55_13,c55_12,c55_9,l55_8,cw,cops,csW,csL,reduceIte,reduceEqDiff,reduceCtorEq,reduceAdd,reduceLT,reduceLeDiff,reduceSub,htd,hxm])
  (repeat refine And.intro (by first|omega|(simp;omega)) ?_)
  refine keep [1,5,6,7,8,9] ?_
  (try simp only[c55_11,l55_10,cw,cops,csW,csL,reduceIte,reduceEqDiff,reduceCtorEq,reduceAdd,reduceLT,reduceLeDiff,reduceSub,htd,hxm])
  (repeat refine And.intro (by first|omega|(simp;omega)) ?_)
  exact⟨(y,r,v,u-(q:Int)*v),⟨hxn.1,by simp only;omega,by simp only;omega⟩,(Sub.toG [1,5,6,7,8] [] (by rfl) (by rfl) (by rfl) (by rfl)),by simp only;omega⟩
theorem inverse_con (a p b:Int) (h0:0<a) (h1:a<p) (hp:p≤1073741824) (hg:Nat.gcd a.toNat p.toNat=1) (hb:IsInv a p b):Con Try.prog [] 55 [I a,I p] (I b):=by
 obtain⟨A,rfl⟩:=Int.eq_ofNat_of_zero_le (show 0≤a by omega)
 obtain⟨P,rfl⟩:=Int.eq_ofNat_of_zero_le (show 0≤p by omega)
 exact inverse_nat A P b (by omega) (by omega) (by omega) (by simpa using hg) hb
set_option maxRecDepth 20000 in
set_option maxHeartbeats 1000000 in
theorem mul_con {T T':Nat} (f g:List Int) (p:Int) (hp:0<p∧p≤1073741824) (hf:Rg p f) (hg:Rg p g) (hlf:f.length≤1000) (hlg:g.length≤1000):Con Try.prog [] 42 [LT T f,LT T' g,I p] (L (mulP f g p)):=by
 by_cases hf0:f.length=0
 ·have hI:(f.length:Int)=0:=by omega
  refine fn42.con rfl (by simp) ?_
  (try simp only[init3,c42,c42_54,c42_1,l42_0,cw,cops,csW,csL,reduceIte,reduceEqDiff,reduceCtorEq,reduceAdd,reduceLT,reduceLeDiff,reduceSub,hI])
  (repeat refine And.intro (by first|omega|(simp;omega)) ?_)
  refine keep [0,1,2] ?_
  (try simp only[c42_53,c42_8,c42_3,l42_2,cw,cops,csW,csL,reduceIte,reduceEqDiff,reduceCtorEq,reduceAdd,reduceLT,reduceLeDiff,reduceSub,hI])
  (repeat refine And.intro (by first|omega|(simp;omega)) ?_)
  refine keep [0,1,2,19] ?_
  (try simp only[c42_7,cw,cops,csW,csL,reduceIte,reduceEqDiff,reduceCtorEq,reduceAdd,reduceLT,reduceLeDiff,reduceSub,hI])
  (repeat refine And.intro (by first|omega|(simp;omega)) ?_)
  (try simp only[c42_6,c42_5,l42_4,cw,cops,csW,csL,reduceIte,reduceEqDiff,reduceCtorEq,reduceAdd,reduceLT,reduceLeDiff,reduceSub])
  (repeat refine And.intro (by first|omega|(simp;omega)) ?_)
  refine keep [6] ?_
  (try simp only[cw,cops,csW,csL,reduceIte,reduceEqDiff,reduceCtorEq,reduceAdd,reduceLT,reduceLeDiff,reduceSub,Ends,resD,resL,resV])
  (repeat refine And.intro (by first|omega|(simp;omega)) ?_)
  rw[mulP_nil p (.inl hf0)];rfl
 by_cases hg0:g.length=0
 ·have hI:(g.length:Int)=0:=by omega
  have hI':¬ (f.length:Int)=0:=by omega
  refine fn42.con rfl (by simp) ?_
  (try simp only[init3,c42,c42_54,c42_1,l42_0,cw,cops,csW,csL,reduceIte,reduceEqDiff,reduceCtorEq,reduceAdd,reduceLT,reduceLeDiff,reduceSub,hI,hI'])
  (repeat refine And.intro (by first|omega|(simp;omega)) ?_)
  refine keep [0,1,2] ?_
  (try simp only[c42_53,c42_8,c42_3,l42_2,cw,cops,csW,csL,reduceIte,reduceEqDiff,reduceCtorEq,reduceAdd,reduceLT,reduceLeDiff,reduceSub,hI,hI'])
  (repeat refine And.intro (by first|omega|(simp;omega)) ?_)
  refine keep [0,1,2,19] ?_
  (try simp only[c42_7,cw,cops,csW,csL,reduceIte,reduceEqDiff,reduceCtorEq,reduceAdd,reduceLT,reduceLeDiff,reduceSub,hI,hI'])
  (repeat refine And.intro (by first|omega|(simp;omega)) ?_)
  (try simp only[c42_6,c42_5,l42_4,cw,cops,csW,csL,reduceIte,reduceEqDiff,reduceCtorEq,reduceAdd,reduceLT,reduceLeDiff,reduceSub])
  (repeat refine And.intro (by first|omega|(simp;omega)) ?_)
  refine keep [6] ?_
  (try simp only[cw,cops,csW,csL,reduceIte,reduceEqDiff,reduceCtorEq,reduceAdd,reduceLT,reduceLeDiff,reduceSub,Ends,resD,resL,resV])
  (repeat refine And.intro (by first|omega|(simp;omega)) ?_)
  rw[mulP_nil p (.inr hg0)];rfl
 have hI:¬ (g.length:Int)=0:=by omega
 have hI':¬ (f.length:Int)=0:=by omega
 obtain⟨N,hN⟩:∃ N:Nat,N+1=f.length+g.length:=⟨f.length+g.length-1,by omega⟩
 have hNI:(f.length:Int)+(g.length:Int)-1=(N:Int):=by omega
 refine fn42.con rfl (by simp) ?_
 (try simp only[init3,c42,c42_54,c42_1,l42_0,cw,cops,csW,csL,reduceIte,reduceEqDiff,reduceCtorEq,reduceAdd,reduceLT,reduceLeDiff,reduceSub,hI,hI',hNI])
 (repeat refine And.intro (by first|omega|(simp;omega)) ?_)
 refine keep [0,1,2] ?_
 (try simp only[c42_53,c42_8,c42_3,l42_2,cw,cops,csW,csL,reduceIte,reduceEqDiff,reduceCtorEq,reduceAdd,reduceLT,reduceLeDiff,reduceSub,hI,hI',hNI])
 (repeat refine And.intro (by first|omega|(simp;omega)) ?_)
 refine keep [0,1,2,19] ?_
 (try simp only[c42_7,cw,cops,csW,csL,reduceIte,reduceEqDiff,reduceCtorEq,reduceAdd,reduceLT,reduceLeDiff,reduceSub,hI,hI',hNI])
 (repeat refine And.intro (by first|omega|(simp;omega)) ?_)
 (try simp only[cw,cops,csW,csL,reduceIte,reduceEqDiff,reduceCtorEq,reduceAdd,reduceLT,reduceLeDiff,reduceSub,hNI])
 (repeat refine And.intro (by first|omega|(simp;omega)) ?_)
 refine keep [0,1,2] ?_
 (try simp only[c42_52,c42_10,l42_9,cw,cops,csW,csL,reduceIte,reduceEqDiff,reduceCtorEq,reduceAdd,reduceLT,reduceLeDiff,reduceSub,hNI])
 (repeat refine And.intro (by first|omega|(simp;omega)) ?_)
 refine keep [0,1,2,7] ?_
 (try simp only[c42_51,c42_46,c42_12,l42_11,cw,cops,csW,csL,reduceIte,reduceEqDiff,reduceCtorEq,reduceAdd,reduceLT,reduceLeDiff,reduceSub,hNI])
 (repeat refine And.intro (by first|omega|(simp;omega)) ?_)
 refine keep [1,2,7,27,28,29] ?_
 (try simp only[c42_45,cw,cops,csW,csL,reduceIte,reduceEqDiff,reduceCtorEq,reduceAdd,reduceLT,reduceLeDiff,reduceSub,hNI])
 refine loop_of (ι:=Nat) (fun i=>i≤f.length) (fun i=>⟨look [(1,.p (LT T' g)),(2,.p (I p)),(7,.slice 26 0 N),(27,.p (LT T f)),(28,.p (I f.length)),(29,.p (I i))],lookM [(26,⟨3,1,.row ((mw f g p N i 0).map (D.int .i64)),false⟩)]⟩) (fun i=>f.length-i) 0 (by omega) (by rw[mw_0];exact Sub.rf _) ?_
 intro i hi
 by_cases h:i<f.length
 ·have hi':(i:Int)<(f.length:Int):=by omega
  (try simp only[c42_43,c42_14,l42_13,cw,cops,csW,csL,reduceIte,reduceEqDiff,reduceCtorEq,reduceAdd,reduceLT,reduceLeDiff,reduceSub,hi'])
  (repeat refine And.intro (by first|omega|(simp;omega)) ?_)
  refine keep [1,2,7,27,28,29,30] ?_
  (try simp only[c42_42,c42_15,cw,cops,csW,csL,reduceIte,reduceEqDiff,reduceCtorEq,reduceAdd,reduceLT,reduceLeDiff,reduceSub,hi'])
  (repeat refine And.intro (by first|omega|(simp;omega)) ?_)
  (try simp only[cw,cops,csW,csL,reduceIte,reduceEqDiff,reduceCtorEq,reduceAdd,reduceLT,reduceLeDiff,reduceSub,hi'])
  (repeat refine And.intro (by first|omega|(simp;omega)) ?_)
  refine keep [1,2,7,27,28,29] ?_
  (try simp only[c42_41,c42_38,c42_37,c42_17,l42_16,cw,cops,csW,csL,reduceIte,reduceEqDiff,reduceCtorEq,reduceAdd,reduceLT,reduceLeDiff,reduceSub,hi'])
  (repeat refine And.intro (by first|omega|(simp;omega)) ?_)
  refine keep [1,2,7,8,9,27,28,29] ?_
  (try simp only[c42_36,c42_19,l42_18,cw,cops,csW,csL,reduceIte,reduceEqDiff,reduceCtorEq,reduceAdd,reduceLT,reduceLeDiff,reduceSub,hi'])
  (repeat refine And.intro (by first|omega|(simp;omega)) ?_)
  refine keep [1,2,7,8,9,27,28,29,34,35,36] ?_
  (try simp only[c42_35,cw,cops,csW,csL,reduceIte,reduceEqDiff,reduceCtorEq,reduceAdd,reduceLT,reduceLeDiff,reduceSub,hi'])
  refine loop_of (ι:=Nat) (fun j=>j≤g.length) (fun j=>⟨look [(1,.p (LT T' g)),(2,.p (I p)),(7,.slice 26 0 N),(8,.p (I i)),(9,.p (I (f.getD i 0))),(27,.p (LT T f)),(28,.p (I f.length)),(29,.p (I i)),(34,.p (LT T' g)),(35,.p (I g.length)),(36,.p (I j))],lookM [(26,⟨3,1,.row ((mw f g p N i j).map (D.int .i64)),false⟩)]⟩) (fun j=>g.length-j) 0 (by omega) (Sub.rf _) ?_
  intro j hj
  by_cases h2:j<g.length
  ·have hj':(j:Int)<(g.length:Int):=by omega
   have hij:(i:Int)+(j:Int)<(N:Int):=by omega
   have hijn:((i:Int)+(j:Int)).toNat=i+j:=by omega
   have hfi:=hf i
   have hgj:=hg j
   have hm:0≤f.getD i 0*g.getD j 0∧f.getD i 0*g.getD j 0≤1073741824*1073741824:=⟨Int.mul_nonneg hfi.1 hgj.1,Int.mul_le_mul (by omega) (by omega) hgj.1 (by omega)⟩
   have hw:0≤(mw f g p N i j).getD (i+j) 0∧(mw f g p N i j).getD (i+j) 0<p:=by rw[mw_getD (by omega)];exact md hp.1
   have hset:=mw_set (n:=N) (i:=i) (j:=j) hp.1 hf hg (by omega)
   (try simp only[c42_33,c42_21,l42_20,cw,cops,csW,csL,reduceIte,reduceEqDiff,reduceCtorEq,reduceAdd,reduceLT,reduceLeDiff,reduceSub,hj'])
   (repeat refine And.intro (by first|omega|(simp;omega)) ?_)
   refine keep [1,2,7,8,9,27,28,29,34,35,36,37] ?_
   (try simp only[c42_32,c42_22,cw,cops,csW,csL,reduceIte,reduceEqDiff,reduceCtorEq,reduceAdd,reduceLT,reduceLeDiff,reduceSub,hj'])
   (repeat refine And.intro (by first|omega|(simp;omega)) ?_)
   (try simp only[cw,cops,csW,csL,reduceIte,reduceEqDiff,reduceCtorEq,reduceAdd,reduceLT,reduceLeDiff,reduceSub,hj',hij,hijn,mw_len,hset,AV.get])
   (repeat refine And.intro (by first|omega|(simp;omega)) ?_)
   refine keep [1,2,7,8,9,27,28,29,34,35,36] ?_
   (try simp only[c42_31,c42_28,c42_27,c42_24,l42_23,cw,cops,csW,csL,reduceIte,reduceEqDiff,reduceCtorEq,reduceAdd,reduceLT,reduceLeDiff,reduceSub,hj',hij,hijn,mw_len,hset,AV.get])
   (repeat refine And.intro (by first|omega|(simp;omega)) ?_)
   refine keep [1,2,7,8,9,10,11,27,28,29,34,35,36] ?_
   (try simp only[c42_26,l42_25,cw,cops,csW,csL,reduceIte,reduceEqDiff,reduceCtorEq,reduceAdd,reduceLT,reduceLeDiff,reduceSub,hj',hij,hijn,mw_len,hset,AV.get])
   (repeat refine And.intro (by first|omega|(simp;omega)) ?_)
   refine keep [1,2,7,8,9,27,28,29,34,35,36] ?_
   (try simp only[c42_30,l42_29,cw,cops,csW,csL,reduceIte,reduceEqDiff,reduceCtorEq,reduceAdd,reduceLT,reduceLeDiff,reduceSub,hj',hij,hijn,mw_len,hset,AV.get])
   (repeat refine And.intro (by first|omega|(simp;omega)) ?_)
   exact⟨j+1,by omega,(Sub.toG [1,2,7,8,9,27,28,29,34,35,36] [] (by rfl) (by rfl) (by rfl) (by rfl)),by omega⟩
  ·have hj':¬ (j:Int)<(g.length:Int):=by omega
   have hjg:j=g.length:=by omega
   (try simp only[c42_33,c42_21,l42_20,cw,cops,csW,csL,reduceIte,reduceEqDiff,reduceCtorEq,reduceAdd,reduceLT,reduceLeDiff,reduceSub,hj'])
   (repeat refine And.intro (by first|omega|(simp;omega)) ?_)
   refine keep [1,2,7,8,9,27,28,29,34,35,36,37] ?_
   (try simp only[c42_32,c42_22,cw,cops,csW,csL,reduceIte,reduceEqDiff,reduceCtorEq,reduceAdd,reduceLT,reduceLeDiff,reduceSub,hj'])
   (repeat refine And.intro (by first|omega|(simp;omega)) ?_)
   (try simp only[cw,cops,csW,csL,reduceIte,reduceEqDiff,reduceCtorEq,reduceAdd,reduceLT,reduceLeDiff,reduceSub,hj'])
   (repeat refine And.intro (by first|omega|(simp;omega)) ?_)
   refine keep [1,2,7,27,28,29] ?_
   (try simp only[c42_40,l42_39,cw,cops,csW,csL,reduceIte,reduceEqDiff,reduceCtorEq,reduceAdd,reduceLT,reduceLeDiff,reduceSub,hj'])
   (repeat refine And.intro (by first|omega|(simp;omega)) ?_)
   refine⟨i+1,by omega,?_,by omega⟩
   rw[hjg,mw_next]
   exact (Sub.toG [1,2,7,27,28,29] [] (by rfl) (by rfl) (by rfl) (by rfl))
 ·have hi':¬ (i:Int)<(f.length:Int):=by omega
  have hif:i=f.length:=by omega
  (try simp only[c42_43,c42_14,l42_13,cw,cops,csW,csL,reduceIte,reduceEqDiff,reduceCtorEq,reduceAdd,reduceLT,reduceLeDiff,reduceSub,hi'])
  (repeat refine And.intro (by first|omega|(simp;omega)) ?_)
  refine keep [1,2,7,27,28,29,30] ?_
  (try simp only[c42_42,c42_15,cw,cops,csW,csL,reduceIte,reduceEqDiff,reduceCtorEq,reduceAdd,reduceLT,reduceLeDiff,reduceSub,hi'])
  (repeat refine And.intro (by first|omega|(simp;omega)) ?_)
  have htk:(mw f g p N i 0).take N=mw f g p N i 0:=List.take_of_length_le (by rw[mw_len];omega)
  (try simp only[cw,cops,csW,csL,reduceIte,reduceEqDiff,reduceCtorEq,reduceAdd,reduceLT,reduceLeDiff,reduceSub,hi',mw_len,Bool.true_or,Nat.le_refl,htk])
  (repeat refine And.intro (by first|omega|(simp;omega)) ?_)
  refine keepF 26 _ [7] (by rfl) ?_
  (try simp only[c42_50,c42_49,l42_47,cw,cops,csW,csL,reduceIte,reduceEqDiff,reduceCtorEq,reduceAdd,reduceLT,reduceLeDiff,reduceSub,hi',mw_len,Bool.true_or,Nat.le_refl,htk])
  (repeat refine And.intro (by first|omega|(simp;omega)) ?_)
  refine⟨_,cx (made_con (mw f g p N i 0) (by rw[mw_len];omega)),?_⟩
  (try simp only[l42_48,cw,cops,csW,csL,reduceIte,reduceEqDiff,reduceCtorEq,reduceAdd,reduceLT,reduceLeDiff,reduceSub])
  (repeat refine And.intro (by first|omega|(simp;omega)) ?_)
  refine keep [6] ?_
  (try simp only[cw,cops,csW,csL,reduceIte,reduceEqDiff,reduceCtorEq,reduceAdd,reduceLT,reduceLeDiff,reduceSub,Ends,resD,resL,resV])
  (repeat refine And.intro (by first|omega|(simp;omega)) ?_)
  rw[hif,mw_end,mulP_of (by omega) (by omega) (by omega)]
end Go.Proofs.Ytlnhembcfhfpkaa.M
