/- Polynomials modulo a prime: the reference's product, sum, rest walked. -/
import Derived.Test.YtlnhembcfhfpkaaFqRx
namespace Go.Proofs.Ytlnhembcfhfpkaa.M
open Go.RowKit
open Nat (reduceEqDiff reduceAdd reduceLT reduceLeDiff reduceSub)
set_option linter.unusedSimpArgs false
set_option linter.unusedVariables false
set_option linter.defProp false
def tabI (n:Nat) (f:Nat→Int):List Int:=(List.range n).map f
theorem tabI_len (n:Nat) (f:Nat→Int):(tabI n f).length=n:=by simp[tabI]
theorem tabI_succ (n:Nat) (f:Nat→Int):tabI n f++[f n]=tabI (n+1) f:=by simp[tabI,List.range_succ]
theorem tabI_getD (n:Nat) (f:Nat→Int) (i:Nat):(tabI n f).getD i 0=if i<n then f i else 0:=getD_range_map f n i
theorem one_I (x:Int):(List.replicate 1 (0:Int)).set 0 x=[x]:=rfl
theorem len1 (x:Int):[x].length=1:=rfl
theorem tabI_app {n:Nat} {f:Nat→Int} {x:Int} (h:x=f n):(tabI n f).map (D.int .i64)++[D.int .i64 x]=(tabI (n+1) f).map (D.int .i64):=by
 rw[h,←tabI_succ,List.map_append];rfl
def csT:=And.intro @tabI_len (And.intro @one_I (And.intro @len1 @csA))
set_option maxRecDepth 20000 in
set_option maxHeartbeats 1000000 in
theorem mmul_con {T T':Nat} (f g:List Int) (p:Int) (hp:0<p∧p≤1073741824) (hf:Rg p f) (hg:Rg p g) (hlf:f.length≤1000) (hlg:g.length≤1000):Con Try.prog [] 19 [LT T f,LT T' g,I p] (L (mulP f g p)):=by
 refine fn19.con rfl (by simp) ?_
 (try simp only[init3,c19,c19_48,c19_1,l19_0,cw,cops,csW,csL,reduceIte,reduceEqDiff,reduceCtorEq,reduceAdd,reduceLT,reduceLeDiff,reduceSub,csT])
 (repeat refine And.intro (by first|omega|(simp;omega)) ?_)
 refine keep [0,1,2] ?_
 (try simp only[c19_47,c19_3,l19_2,cw,cops,csW,csL,reduceIte,reduceEqDiff,reduceCtorEq,reduceAdd,reduceLT,reduceLeDiff,reduceSub,csT])
 (repeat refine And.intro (by first|omega|(simp;omega)) ?_)
 refine keep [0,1,2,7] ?_
 (try simp only[c19_46,c19_41,c19_5,l19_4,cw,cops,csW,csL,reduceIte,reduceEqDiff,reduceCtorEq,reduceAdd,reduceLT,reduceLeDiff,reduceSub,csT])
 (repeat refine And.intro (by first|omega|(simp;omega)) ?_)
 refine keep [0,1,2,7,8] ?_
 (try simp only[c19_40,cw,cops,csW,csL,reduceIte,reduceEqDiff,reduceCtorEq,reduceAdd,reduceLT,reduceLeDiff,reduceSub,csT])
 obtain⟨N,hN⟩:∃ N,N=f.length+g.length:=⟨_,rfl⟩
 have hNI:(f.length:Int)+(g.length:Int)=(N:Int):=by omega
 refine loop_of (ι:=Nat) (fun n=>n≤N) (fun n=>⟨look [(0,.p (LT T f)),(1,.p (LT T' g)),(2,.p (I p)),(7,.slice 207 0 n),(8,.p (I n))],lookM [(207,⟨3,1,.row ((tabI n fun k=>S f g k (k+1) % p).map (D.int .i64)),false⟩)]⟩) (fun n=>N-n) 0 (by omega) (Sub.nilG 7 207 3 1 (by rfl) (by rfl) (by decide) (by rfl) (by rfl)) ?_
 intro n hn
 by_cases h:n<N
 ·have hI:(n:Int)<(N:Int):=by omega
  (try simp only[c19_38,c19_9,c19_7,l19_6,cw,cops,csW,csL,reduceIte,reduceEqDiff,reduceCtorEq,reduceAdd,reduceLT,reduceLeDiff,reduceSub,csT,hNI,hI])
  (repeat refine And.intro (by first|omega|(simp;omega)) ?_)
  refine keep [0,1,2,7,8,17] ?_
  (try simp only[c19_8,cw,cops,csW,csL,reduceIte,reduceEqDiff,reduceCtorEq,reduceAdd,reduceLT,reduceLeDiff,reduceSub,csT,hNI,hI])
  (repeat refine And.intro (by first|omega|(simp;omega)) ?_)
  (try simp only[cw,cops,csW,csL,reduceIte,reduceEqDiff,reduceCtorEq,reduceAdd,reduceLT,reduceLeDiff,reduceSub,csT,hNI,hI])
  (repeat refine And.intro (by first|omega|(simp;omega)) ?_)
  refine keep [0,1,2,7,8] ?_
  (try simp only[c19_37,c19_34,c19_33,c19_11,l19_10,cw,cops,csW,csL,reduceIte,reduceEqDiff,reduceCtorEq,reduceAdd,reduceLT,reduceLeDiff,reduceSub,csT,hNI,hI])
  (repeat refine And.intro (by first|omega|(simp;omega)) ?_)
  refine keep [0,1,2,7,8,9] ?_
  (try simp only[c19_32,c19_29,c19_13,l19_12,cw,cops,csW,csL,reduceIte,reduceEqDiff,reduceCtorEq,reduceAdd,reduceLT,reduceLeDiff,reduceSub,csT,hNI,hI])
  (repeat refine And.intro (by first|omega|(simp;omega)) ?_)
  refine keep [0,1,2,7,8,9,10] ?_
  (try simp only[c19_28,cw,cops,csW,csL,reduceIte,reduceEqDiff,reduceCtorEq,reduceAdd,reduceLT,reduceLeDiff,reduceSub,csT,hNI,hI])
  refine loop_of (ι:=Nat) (fun i=>i≤n+1) (fun i=>⟨look [(0,.p (LT T f)),(1,.p (LT T' g)),(2,.p (I p)),(7,.slice 207 0 n),(8,.p (I n)),(9,.p (I (S f g n i % p))),(10,.p (I i))],lookM [(207,⟨3,1,.row ((tabI n fun k=>S f g k (k+1) % p).map (D.int .i64)),false⟩)]⟩) (fun i=>n+1-i) 0 (by omega) (by simp only[S,Int.zero_emod];exact Sub.rf _) ?_
  intro i hi
  by_cases h2:i≤n
  ·have hI2:(i:Int)≤(n:Int):=by omega
   have hsub:(n:Int)-(i:Int)=((n-i:Nat):Int):=by omega
   have hfi:=hf i
   have hgi:=hg (n-i)
   have hm:0≤f.getD i 0*g.getD (n-i) 0∧f.getD i 0*g.getD (n-i) 0≤1073741824*1073741824:=⟨Int.mul_nonneg hfi.1 hgi.1,Int.mul_le_mul (by omega) (by omega) hgi.1 (by omega)⟩
   have hs:=md (a:=S f g n i) hp.1
   have he:(S f g n i % p+f.getD i 0*g.getD (n-i) 0).tmod p=S f g n (i+1) % p:=by
    rw[tm (by omega),Int.emod_add_emod,S,if_pos h2]
   (try simp only[c19_26,c19_17,c19_15,l19_14,cw,cops,csW,csL,reduceIte,reduceEqDiff,reduceCtorEq,reduceAdd,reduceLT,reduceLeDiff,reduceSub,csT,hI2])
   (repeat refine And.intro (by first|omega|(simp;omega)) ?_)
   refine keep [0,1,2,7,8,9,10,22] ?_
   (try simp only[c19_16,cw,cops,csW,csL,reduceIte,reduceEqDiff,reduceCtorEq,reduceAdd,reduceLT,reduceLeDiff,reduceSub,csT,hI2])
   (repeat refine And.intro (by first|omega|(simp;omega)) ?_)
   (try simp only[cw,cops,csW,csL,reduceIte,reduceEqDiff,reduceCtorEq,reduceAdd,reduceLT,reduceLeDiff,reduceSub,csT,hI2])
   (repeat refine And.intro (by first|omega|(simp;omega)) ?_)
   refine keep [0,1,2,7,8,9,10] ?_
   (try simp only[c19_25,c19_22,c19_21,l19_18,cw,cops,csW,csL,reduceIte,reduceEqDiff,reduceCtorEq,reduceAdd,reduceLT,reduceLeDiff,reduceSub,csT,hI2])
   (repeat refine And.intro (by first|omega|(simp;omega)) ?_)
   refine⟨_,cx (mat_con f i),?_⟩
   (try simp only[l19_19,cw,cops,csW,csL,reduceIte,reduceEqDiff,reduceCtorEq,reduceAdd,reduceLT,reduceLeDiff,reduceSub,csT,hsub])
   (repeat refine And.intro (by first|omega|(simp;omega)) ?_)
   refine⟨_,cx (mat_con g (n-i)),?_⟩
   (try simp only[l19_20,cw,cops,csW,csL,reduceIte,reduceEqDiff,reduceCtorEq,reduceAdd,reduceLT,reduceLeDiff,reduceSub,csT,he])
   (repeat refine And.intro (by first|omega|(simp;omega)) ?_)
   refine keep [0,1,2,7,8,9,10] ?_
   (try simp only[c19_24,l19_23,cw,cops,csW,csL,reduceIte,reduceEqDiff,reduceCtorEq,reduceAdd,reduceLT,reduceLeDiff,reduceSub,csT,he])
   (repeat refine And.intro (by first|omega|(simp;omega)) ?_)
   exact⟨i+1,by omega,(Sub.toG [0,1,2,7,8,9,10] [40] (by rfl) (by rfl) (by rfl) (by rfl)),by omega⟩
  ·have hI2:¬ (i:Int)≤(n:Int):=by omega
   have hin:i=n+1:=by omega
   have hsucc:=tabI_app (n:=n) (f:=fun k=>S f g k (k+1) % p) (x:=S f g n i % p) (by rw[hin])
   (try simp only[c19_26,c19_17,c19_15,l19_14,cw,cops,csW,csL,reduceIte,reduceEqDiff,reduceCtorEq,reduceAdd,reduceLT,reduceLeDiff,reduceSub,csT,hI2])
   (repeat refine And.intro (by first|omega|(simp;omega)) ?_)
   refine keep [0,1,2,7,8,9,10,22] ?_
   (try simp only[c19_16,cw,cops,csW,csL,reduceIte,reduceEqDiff,reduceCtorEq,reduceAdd,reduceLT,reduceLeDiff,reduceSub,csT,hI2])
   (repeat refine And.intro (by first|omega|(simp;omega)) ?_)
   (try simp only[cw,cops,csW,csL,reduceIte,reduceEqDiff,reduceCtorEq,reduceAdd,reduceLT,reduceLeDiff,reduceSub,csT,hI2,hsucc])
   (repeat refine And.intro (by first|omega|(simp;omega)) ?_)
   refine keep [0,1,2,7,8,9] ?_
   (try simp only[c19_31,l19_30,cw,cops,csW,csL,reduceIte,reduceEqDiff,reduceCtorEq,reduceAdd,reduceLT,reduceLeDiff,reduceSub,csT,hI2,hsucc])
   (repeat refine And.intro (by first|omega|(simp;omega)) ?_)
   refine keep [0,1,2,7,8] ?_
   (try simp only[c19_36,l19_35,cw,cops,csW,csL,reduceIte,reduceEqDiff,reduceCtorEq,reduceAdd,reduceLT,reduceLeDiff,reduceSub,csT,hI2,hsucc])
   (repeat refine And.intro (by first|omega|(simp;omega)) ?_)
   exact⟨n+1,by omega,(Sub.toG [0,1,2,7,8] [40] (by rfl) (by rfl) (by rfl) (by rfl)),by omega⟩
 ·have hI:¬ (n:Int)<(N:Int):=by omega
  have hnN:n=N:=by omega
  (try simp only[c19_38,c19_9,c19_7,l19_6,cw,cops,csW,csL,reduceIte,reduceEqDiff,reduceCtorEq,reduceAdd,reduceLT,reduceLeDiff,reduceSub,csT,hNI,hI])
  (repeat refine And.intro (by first|omega|(simp;omega)) ?_)
  refine keep [0,1,2,7,8,17] ?_
  (try simp only[c19_8,cw,cops,csW,csL,reduceIte,reduceEqDiff,reduceCtorEq,reduceAdd,reduceLT,reduceLeDiff,reduceSub,csT,hNI,hI])
  (repeat refine And.intro (by first|omega|(simp;omega)) ?_)
  have htk:(tabI n fun k=>S f g k (k+1) % p).take n=tabI n fun k=>S f g k (k+1) % p:=List.take_of_length_le (by rw[tabI_len];omega)
  (try simp only[cw,cops,csW,csL,reduceIte,reduceEqDiff,reduceCtorEq,reduceAdd,reduceLT,reduceLeDiff,reduceSub,csT,hI,Bool.true_or,Nat.le_refl,htk])
  (repeat refine And.intro (by first|omega|(simp;omega)) ?_)
  refine keepF 207 _ [7] (by rfl) ?_
  (try simp only[c19_45,c19_44,l19_42,cw,cops,csW,csL,reduceIte,reduceEqDiff,reduceCtorEq,reduceAdd,reduceLT,reduceLeDiff,reduceSub,csT,hI,Bool.true_or,Nat.le_refl,htk])
  (repeat refine And.intro (by first|omega|(simp;omega)) ?_)
  refine⟨_,cx (mmade_con _ (by rw[tabI_len];omega)),?_⟩
  (try simp only[l19_43,cw,cops,csW,csL,reduceIte,reduceEqDiff,reduceCtorEq,reduceAdd,reduceLT,reduceLeDiff,reduceSub,csT])
  (repeat refine And.intro (by first|omega|(simp;omega)) ?_)
  refine keep [6] ?_
  (try simp only[cw,cops,csW,csL,reduceIte,reduceEqDiff,reduceCtorEq,reduceAdd,reduceLT,reduceLeDiff,reduceSub,csT,Ends,resD,resL,resV])
  (repeat refine And.intro (by first|omega|(simp;omega)) ?_)
  rw[hnN,hN];rfl
def addP (f g:List Int) (p:Int):List Int:=trim (tabI (max f.length g.length) fun i=>(f.getD i 0+g.getD i 0) % p)
theorem getD_big {l:List Int} {i:Nat} (h:l.length≤i):l.getD i 0=0:=by rw[List.getD_eq_getElem?_getD,List.getElem?_eq_none h];rfl
theorem addP_getD (f g:List Int) (p:Int) (i:Nat):(addP f g p).getD i 0=(f.getD i 0+g.getD i 0) % p:=by
 unfold addP
 rw[trim_getD,tabI_getD]
 split
 ·rfl
 ·rw[getD_big (by omega),getD_big (by omega)];rfl
end Go.Proofs.Ytlnhembcfhfpkaa.M
