/- Polynomials modulo a prime: the reference's judges walked: which comes first, a value, powers, polynomials by number, irreducible ones. -/
import Derived.Test.YtlnhembcfhfpkaaFyVx
import Derived.Test.YtlnhembcfhfpkaaFqTx
namespace Go.Proofs.Ytlnhembcfhfpkaa.M
open Go.RowKit Go.Proofs.Ytlnhembcfhfpkaa.Fx
open Nat (reduceEqDiff reduceAdd reduceLT reduceLeDiff reduceSub)
set_option linter.unusedSimpArgs false
set_option linter.unusedVariables false
variable {P:Pr}
theorem cmpI_lt0 {a b:Int}:cmpI a b<0↔a<b:=by rcases cmpI_cases a b with⟨h,e⟩ | ⟨h,e⟩ | ⟨h,e⟩<;>rw[e]<;>omega
set_option maxRecDepth 20000 in
set_option maxHeartbeats 1000000 in
theorem mahead_con {T T':Nat} (f g:List Int) (hf:f.length≤1000000):Con Try.prog [] 24 [LT T f,LT T' g] (.bool (decide (ordL f g<0))):=by
 by_cases h0:f.length=g.length
 ·have hlen:(f.length:Int)=(g.length:Int):=by omega
  have hord:ordL f g=ordA f g f.length:=by unfold ordL;rw[if_pos (cmpI_0.2 hlen)]
  refine fn24.con rfl (by simp) ?_
  (try simp only[init2,c24,c24_35,c24_1,l24_0,cw,cops,csW,csL,reduceIte,reduceEqDiff,reduceCtorEq,reduceAdd,reduceLT,reduceLeDiff,reduceSub,csFa])
  (repeat refine And.intro (by first|omega|(simp;omega)) ?_)
  refine keep [0,1] ?_
  (try simp only[c24_34,c24_8,c24_3,l24_2,cw,cops,csW,csL,reduceIte,reduceEqDiff,reduceCtorEq,reduceAdd,reduceLT,reduceLeDiff,reduceSub,csFa])
  (repeat refine And.intro (by first|omega|(simp;omega)) ?_)
  refine keep [0,1,10] ?_
  (try simp only[c24_7,cw,cops,csW,csL,reduceIte,reduceEqDiff,reduceCtorEq,reduceAdd,reduceLT,reduceLeDiff,reduceSub,csFa])
  (repeat refine And.intro (by first|omega|(simp;omega)) ?_)
  (try simp only[cw,cops,csW,csL,reduceIte,reduceEqDiff,reduceCtorEq,reduceAdd,reduceLT,reduceLeDiff,reduceSub,csFa,hlen])
  (repeat refine And.intro (by first|omega|(simp;omega)) ?_)
  refine keep [0,1] ?_
  (try simp only[c24_33,c24_29,c24_10,l24_9,cw,cops,csW,csL,reduceIte,reduceEqDiff,reduceCtorEq,reduceAdd,reduceLT,reduceLeDiff,reduceSub,csFa,hlen])
  (repeat refine And.intro (by first|omega|(simp;omega)) ?_)
  refine keep [0,1,5] ?_
  (try simp only[c24_28,cw,cops,csW,csL,reduceIte,reduceEqDiff,reduceCtorEq,reduceAdd,reduceLT,reduceLeDiff,reduceSub,csFa,hlen])
  refine loop_of (ι:=Nat) (fun k=>k≤f.length∧ordA f g k=ordL f g) (fun k=>⟨look [(0,.p (LT T f)),(1,.p (LT T' g)),(5,.p (I ((k:Int)-1)))],lookM []⟩) (fun k=>k) g.length ⟨by omega,by rw[←h0];exact hord.symm⟩ (Sub.toG [0,1,5] [] (by rfl) (by rfl) (by rfl) (by rfl)) ?_
  rintro k ⟨hk,he⟩
  rcases k with _ | k
  ·have hI:¬ (0:Int)≤0-1:=by omega
   (try simp only[c24_26,c24_14,c24_12,l24_11,cw,cops,csW,csL,reduceIte,reduceEqDiff,reduceCtorEq,reduceAdd,reduceLT,reduceLeDiff,reduceSub,csFa,hI])
   (repeat refine And.intro (by first|omega|(simp;omega)) ?_)
   refine keep [0,1,5,20] ?_
   (try simp only[c24_13,cw,cops,csW,csL,reduceIte,reduceEqDiff,reduceCtorEq,reduceAdd,reduceLT,reduceLeDiff,reduceSub,csFa,hI])
   (repeat refine And.intro (by first|omega|(simp;omega)) ?_)
   (try simp only[cw,cops,csW,csL,reduceIte,reduceEqDiff,reduceCtorEq,reduceAdd,reduceLT,reduceLeDiff,reduceSub,csFa,hI])
   (repeat refine And.intro (by first|omega|(simp;omega)) ?_)
   refine keep [] ?_
   (try simp only[c24_32,c24_31,l24_30,cw,cops,csW,csL,reduceIte,reduceEqDiff,reduceCtorEq,reduceAdd,reduceLT,reduceLeDiff,reduceSub,csFa,hI])
   (repeat refine And.intro (by first|omega|(simp;omega)) ?_)
   refine keep [4] ?_
   (try simp only[cw,cops,csW,csL,reduceIte,reduceEqDiff,reduceCtorEq,reduceAdd,reduceLT,reduceLeDiff,reduceSub,csFa,Ends,resD,resL,resV,hI])
   (repeat refine And.intro (by first|omega|(simp;omega)) ?_)
   rw[←he];rfl
  ·have hkI:((k+1:Nat):Int)-1=(k:Int):=by omega
   have hI:(0:Int)≤(k:Int):=by omega
   have hk1:(k:Int)<(f.length:Int):=by omega
   have hk2:(k:Int)<(g.length:Int):=by omega
   by_cases h1:f.getD k 0=g.getD k 0
   ·rw[ordA,if_pos (cmpI_0.2 h1)] at he
    (try simp only[c24_26,c24_14,c24_12,l24_11,cw,cops,csW,csL,reduceIte,reduceEqDiff,reduceCtorEq,reduceAdd,reduceLT,reduceLeDiff,reduceSub,csFa,hkI,hI])
    (repeat refine And.intro (by first|omega|(simp;omega)) ?_)
    refine keep [0,1,5,20] ?_
    (try simp only[c24_13,cw,cops,csW,csL,reduceIte,reduceEqDiff,reduceCtorEq,reduceAdd,reduceLT,reduceLeDiff,reduceSub,csFa,hkI,hI])
    (repeat refine And.intro (by first|omega|(simp;omega)) ?_)
    (try simp only[cw,cops,csW,csL,reduceIte,reduceEqDiff,reduceCtorEq,reduceAdd,reduceLT,reduceLeDiff,reduceSub,csFa,hkI,hI,hk1,hk2,h1])
    (repeat refine And.intro (by first|omega|(simp;omega)) ?_)
    refine keep [0,1,5] ?_
    (try simp only[c24_25,c24_22,c24_21,c24_16,l24_15,cw,cops,csW,csL,reduceIte,reduceEqDiff,reduceCtorEq,reduceAdd,reduceLT,reduceLeDiff,reduceSub,csFa,hkI,hI,hk1,hk2,h1])
    (repeat refine And.intro (by first|omega|(simp;omega)) ?_)
    refine keep [0,1,5,31] ?_
    (try simp only[c24_20,cw,cops,csW,csL,reduceIte,reduceEqDiff,reduceCtorEq,reduceAdd,reduceLT,reduceLeDiff,reduceSub,csFa,hkI,hI,hk1,hk2,h1])
    (repeat refine And.intro (by first|omega|(simp;omega)) ?_)
    (try simp only[cw,cops,csW,csL,reduceIte,reduceEqDiff,reduceCtorEq,reduceAdd,reduceLT,reduceLeDiff,reduceSub,csFa,hkI])
    (repeat refine And.intro (by first|omega|(simp;omega)) ?_)
    refine keep [0,1,5] ?_
    (try simp only[c24_24,l24_23,cw,cops,csW,csL,reduceIte,reduceEqDiff,reduceCtorEq,reduceAdd,reduceLT,reduceLeDiff,reduceSub,csFa,hkI])
    (repeat refine And.intro (by first|omega|(simp;omega)) ?_)
    exact⟨k,⟨by omega,he⟩,(Sub.toG [0,1,5] [] (by rfl) (by rfl) (by rfl) (by rfl)),by omega⟩
   ·rw[ordA,if_neg (fun h=>h1 (cmpI_0.1 h))] at he
    have e1:decide (ordL f g<0)=decide (f.getD k 0<g.getD k 0):=by rw[←he];exact decide_eq_decide.2 cmpI_lt0
    rw[e1]
    (try simp only[c24_26,c24_14,c24_12,l24_11,cw,cops,csW,csL,reduceIte,reduceEqDiff,reduceCtorEq,reduceAdd,reduceLT,reduceLeDiff,reduceSub,csFa,hkI,hI])
    (repeat refine And.intro (by first|omega|(simp;omega)) ?_)
    refine keep [0,1,5,20] ?_
    (try simp only[c24_13,cw,cops,csW,csL,reduceIte,reduceEqDiff,reduceCtorEq,reduceAdd,reduceLT,reduceLeDiff,reduceSub,csFa,hkI,hI])
    (repeat refine And.intro (by first|omega|(simp;omega)) ?_)
    (try simp only[cw,cops,csW,csL,reduceIte,reduceEqDiff,reduceCtorEq,reduceAdd,reduceLT,reduceLeDiff,reduceSub,csFa,hkI,hI,hk1,hk2,h1])
    (repeat refine And.intro (by first|omega|(simp;omega)) ?_)
    refine keep [0,1,5] ?_
    (try simp only[c24_25,c24_22,c24_21,c24_16,l24_15,cw,cops,csW,csL,reduceIte,reduceEqDiff,reduceCtorEq,reduceAdd,reduceLT,reduceLeDiff,reduceSub,csFa,hkI,hI,hk1,hk2,h1])
    (repeat refine And.intro (by first|omega|(simp;omega)) ?_)
    refine keep [0,1,5,31] ?_
    (try simp only[c24_20,cw,cops,csW,csL,reduceIte,reduceEqDiff,reduceCtorEq,reduceAdd,reduceLT,reduceLeDiff,reduceSub,csFa,hkI,hI,hk1,hk2,h1])
    (repeat refine And.intro (by first|omega|(simp;omega)) ?_)
    (try simp only[c24_19,c24_18,l24_17,cw,cops,csW,csL,reduceIte,reduceEqDiff,reduceCtorEq,reduceAdd,reduceLT,reduceLeDiff,reduceSub,csFa,hkI,hI,hk1,hk2,h1])
    (repeat refine And.intro (by first|omega|(simp;omega)) ?_)
    refine keep [4] ?_
    (try simp only[cw,cops,csW,csL,reduceIte,reduceEqDiff,reduceCtorEq,reduceAdd,reduceLT,reduceLeDiff,reduceSub,csFa,Ends,resD,resL,resV,hkI,hI,hk1,hk2,h1])
    (repeat refine And.intro (by first|omega|(simp;omega)) ?_)
 ·have hlen:¬ (f.length:Int)=(g.length:Int):=by omega
  have hord:ordL f g=cmpI f.length g.length:=by unfold ordL;rw[if_neg (fun h=>hlen (cmpI_0.1 h))]
  have e1:decide (ordL f g<0)=decide ((f.length:Int)<(g.length:Int)):=by rw[hord];exact decide_eq_decide.2 cmpI_lt0
  rw[e1]
  refine fn24.con rfl (by simp) ?_
  (try simp only[init2,c24,c24_35,c24_1,l24_0,cw,cops,csW,csL,reduceIte,reduceEqDiff,reduceCtorEq,reduceAdd,reduceLT,reduceLeDiff,reduceSub,csFa])
  (repeat refine And.intro (by first|omega|(simp;omega)) ?_)
  refine keep [0,1] ?_
  (try simp only[c24_34,c24_8,c24_3,l24_2,cw,cops,csW,csL,reduceIte,reduceEqDiff,reduceCtorEq,reduceAdd,reduceLT,reduceLeDiff,reduceSub,csFa])
  (repeat refine And.intro (by first|omega|(simp;omega)) ?_)
  refine keep [0,1,10] ?_
  (try simp only[c24_7,cw,cops,csW,csL,reduceIte,reduceEqDiff,reduceCtorEq,reduceAdd,reduceLT,reduceLeDiff,reduceSub,csFa])
  (repeat refine And.intro (by first|omega|(simp;omega)) ?_)
  (try simp only[c24_6,c24_5,l24_4,cw,cops,csW,csL,reduceIte,reduceEqDiff,reduceCtorEq,reduceAdd,reduceLT,reduceLeDiff,reduceSub,csFa,hlen])
  (repeat refine And.intro (by first|omega|(simp;omega)) ?_)
  refine keep [4] ?_
  (try simp only[cw,cops,csW,csL,reduceIte,reduceEqDiff,reduceCtorEq,reduceAdd,reduceLT,reduceLeDiff,reduceSub,csFa,Ends,resD,resL,resV,hlen])
  (repeat refine And.intro (by first|omega|(simp;omega)) ?_)
def evm (p x:Int):List Int→Int
 | []=>0
 | a::l=>(evm p x l*x+a) % p
theorem evm_rg {p:Int} (hp:0<p) (x:Int):∀ l,0≤evm p x l∧evm p x l<p
 | []=>by simp[evm,hp]
 | a::l=>md hp
set_option maxRecDepth 20000 in
set_option maxHeartbeats 1000000 in
theorem mvalue_con {T:Nat} (f:List Int) (x p:Int) (hp:0<p∧p≤1073741824) (hf:Rg p f) (hx:0≤x∧x<p) (hl:f.length≤1000000):Con Try.prog [] 27 [LT T f,I x,I p] (I (evm p x f)):=by
 refine fn27.con rfl (by simp) ?_
 (try simp only[init3,c27,c27_25,c27_1,l27_0,cw,cops,csW,csL,reduceIte,reduceEqDiff,reduceCtorEq,reduceAdd,reduceLT,reduceLeDiff,reduceSub,csFa])
 (repeat refine And.intro (by first|omega|(simp;omega)) ?_)
 refine keep [0,1,2] ?_
 (try simp only[c27_24,c27_3,l27_2,cw,cops,csW,csL,reduceIte,reduceEqDiff,reduceCtorEq,reduceAdd,reduceLT,reduceLeDiff,reduceSub,csFa])
 (repeat refine And.intro (by first|omega|(simp;omega)) ?_)
 refine keep [0,1,2,7] ?_
 (try simp only[c27_23,c27_19,c27_5,l27_4,cw,cops,csW,csL,reduceIte,reduceEqDiff,reduceCtorEq,reduceAdd,reduceLT,reduceLeDiff,reduceSub,csFa])
 (repeat refine And.intro (by first|omega|(simp;omega)) ?_)
 refine keep [0,1,2,7,8] ?_
 (try simp only[c27_18,cw,cops,csW,csL,reduceIte,reduceEqDiff,reduceCtorEq,reduceAdd,reduceLT,reduceLeDiff,reduceSub,csFa])
 refine loop_of (ι:=Nat) (fun k=>k≤f.length) (fun k=>⟨look [(0,.p (LT T f)),(1,.p (I x)),(2,.p (I p)),(7,.p (I (evm p x (f.drop k)))),(8,.p (I ((k:Int)-1)))],lookM []⟩) (fun k=>k) f.length (Nat.le_refl _) (by rw[List.drop_length];exact (Sub.toG [0,1,2,7,8] [] (by rfl) (by rfl) (by rfl) (by rfl))) ?_
 intro k hk
 rcases k with _ | k
 ·have hI:¬ (0:Int)≤0-1:=by omega
  (try simp only[c27_16,c27_9,c27_7,l27_6,cw,cops,csW,csL,reduceIte,reduceEqDiff,reduceCtorEq,reduceAdd,reduceLT,reduceLeDiff,reduceSub,csFa,hI])
  (repeat refine And.intro (by first|omega|(simp;omega)) ?_)
  refine keep [0,1,2,7,8,13] ?_
  (try simp only[c27_8,cw,cops,csW,csL,reduceIte,reduceEqDiff,reduceCtorEq,reduceAdd,reduceLT,reduceLeDiff,reduceSub,csFa,hI])
  (repeat refine And.intro (by first|omega|(simp;omega)) ?_)
  (try simp only[cw,cops,csW,csL,reduceIte,reduceEqDiff,reduceCtorEq,reduceAdd,reduceLT,reduceLeDiff,reduceSub,csFa,hI])
  (repeat refine And.intro (by first|omega|(simp;omega)) ?_)
  refine keep [7] ?_
  (try simp only[c27_22,c27_21,l27_20,cw,cops,csW,csL,reduceIte,reduceEqDiff,reduceCtorEq,reduceAdd,reduceLT,reduceLeDiff,reduceSub,csFa,hI])
  (repeat refine And.intro (by first|omega|(simp;omega)) ?_)
  refine keep [6] ?_
  (try simp only[cw,cops,csW,csL,reduceIte,reduceEqDiff,reduceCtorEq,reduceAdd,reduceLT,reduceLeDiff,reduceSub,csFa,Ends,resD,resL,resV,hI])
  (repeat refine And.intro (by first|omega|(simp;omega)) ?_)
 ·have hkI:((k+1:Nat):Int)-1=(k:Int):=by omega
  have hI:(0:Int)≤(k:Int):=by omega
  have hk1:(k:Int)<(f.length:Int):=by omega
  have hdr:f.drop k=f.getD k 0::f.drop (k+1):=by
   rw[List.drop_eq_getElem_cons (by omega)];simp[show k<f.length by omega]
  have hev:evm p x (f.drop k)=(evm p x (f.drop (k+1))*x+f.getD k 0) % p:=by rw[hdr];rfl
  have hr:=evm_rg hp.1 x (f.drop (k+1))
  have hfk:=hf k
  generalize evm p x (f.drop (k+1))=e at hr hev
  have hm:0≤e*x∧e*x≤1073741824*1073741824:=⟨Int.mul_nonneg hr.1 hx.1,Int.mul_le_mul (by omega) (by omega) hx.1 (by omega)⟩
  have htm:(e*x+f.getD k 0).tmod p=evm p x (f.drop k):=by rw[hev];exact tm (by omega) _
  (try simp only[c27_16,c27_9,c27_7,l27_6,cw,cops,csW,csL,reduceIte,reduceEqDiff,reduceCtorEq,reduceAdd,reduceLT,reduceLeDiff,reduceSub,csFa,hkI,hI])
  (repeat refine And.intro (by first|omega|(simp;omega)) ?_)
  refine keep [0,1,2,7,8,13] ?_
  (try simp only[c27_8,cw,cops,csW,csL,reduceIte,reduceEqDiff,reduceCtorEq,reduceAdd,reduceLT,reduceLeDiff,reduceSub,csFa,hkI,hI])
  (repeat refine And.intro (by first|omega|(simp;omega)) ?_)
  (try simp only[cw,cops,csW,csL,reduceIte,reduceEqDiff,reduceCtorEq,reduceAdd,reduceLT,reduceLeDiff,reduceSub,csFa,hkI,hI,hk1,htm])
  (repeat refine And.intro (by first|omega|(simp;omega)) ?_)
  refine keep [0,1,2,7,8] ?_
  (try simp only[c27_15,c27_12,c27_11,l27_10,cw,cops,csW,csL,reduceIte,reduceEqDiff,reduceCtorEq,reduceAdd,reduceLT,reduceLeDiff,reduceSub,csFa,hkI,hI,hk1,htm])
  (repeat refine And.intro (by first|omega|(simp;omega)) ?_)
  refine keep [0,1,2,7,8] ?_
  (try simp only[c27_14,l27_13,cw,cops,csW,csL,reduceIte,reduceEqDiff,reduceCtorEq,reduceAdd,reduceLT,reduceLeDiff,reduceSub,csFa,hkI,hI,hk1,htm])
  (repeat refine And.intro (by first|omega|(simp;omega)) ?_)
  exact⟨k,by omega,(Sub.toG [0,1,2,7,8] [] (by rfl) (by rfl) (by rfl) (by rfl)),by omega⟩
def pwM (p:Int) (n:Nat):Int:=if 1073741824<p^n then 1073741824 else p^n
theorem ipow_pos {p:Int} (hp:1≤p):∀ n:Nat,1≤p^n
 | 0=>by simp
 | n+1=>by
  rw[Int.pow_succ]
  have:=ipow_pos hp n
  have:=Int.mul_le_mul this hp (by omega) (by omega)
  omega
theorem ipow_le {p:Int} (hp:1≤p) {m n:Nat} (h:m≤n):p^m≤p^n:=by
 obtain⟨k,rfl⟩:=Nat.exists_eq_add_of_le h
 rw[Int.pow_add]
 have h1:=ipow_pos hp k
 have h2:=ipow_pos hp m
 have:=Int.mul_le_mul (Int.le_refl (p^m)) h1 (by omega) (by omega)
 omega
set_option maxRecDepth 20000 in
set_option maxHeartbeats 1000000 in
theorem mpow_con (p:Int) (n:Nat) (hp:1≤p∧p≤1073741824) (hn:n≤1000000):Con Try.prog [] 50 [I p,I n] (I (pwM p n)):=by
 refine fn50.con rfl (by simp) ?_
 (try simp only[init2,c50,c50_33,c50_1,l50_0,cw,cops,csW,csL,reduceIte,reduceEqDiff,reduceCtorEq,reduceAdd,reduceLT,reduceLeDiff,reduceSub,csFa])
 (repeat refine And.intro (by first|omega|(simp;omega)) ?_)
 refine keep [0,1] ?_
 (try simp only[c50_32,c50_3,l50_2,cw,cops,csW,csL,reduceIte,reduceEqDiff,reduceCtorEq,reduceAdd,reduceLT,reduceLeDiff,reduceSub,csFa])
 (repeat refine And.intro (by first|omega|(simp;omega)) ?_)
 refine keep [0,1,5] ?_
 (try simp only[c50_31,c50_19,c50_5,l50_4,cw,cops,csW,csL,reduceIte,reduceEqDiff,reduceCtorEq,reduceAdd,reduceLT,reduceLeDiff,reduceSub,csFa])
 (repeat refine And.intro (by first|omega|(simp;omega)) ?_)
 refine keep [0,1,5,6] ?_
 (try simp only[c50_18,cw,cops,csW,csL,reduceIte,reduceEqDiff,reduceCtorEq,reduceAdd,reduceLT,reduceLeDiff,reduceSub,csFa])
 refine loop_of (ι:=Nat) (fun i=>i≤n∧∀ j,j<i→p^j<1073741824) (fun i=>⟨look [(0,.p (I p)),(1,.p (I n)),(5,.p (I (p^i))),(6,.p (I i))],lookM []⟩) (fun i=>n-i) 0 ⟨by omega,fun j hj=>by omega⟩ (by rw[Int.pow_zero];exact (Sub.toG [0,1,5,6] [] (by rfl) (by rfl) (by rfl) (by rfl))) ?_
 rintro i ⟨hi,hlt⟩
 have h1:=ipow_pos hp.1 i
 by_cases h:i<n
 ·have hI:(i:Int)<(n:Int):=by omega
  by_cases h2:p^i<1073741824
  ·have hm:0≤p^i*p∧p^i*p≤1073741824*1073741824:=⟨Int.mul_nonneg (by omega) (by omega),Int.mul_le_mul (by omega) (by omega) (by omega) (by omega)⟩
   have hs:p^i*p=p^(i+1):=(Int.pow_succ p i).symm
   (try simp only[c50_16,c50_9,c50_7,l50_6,cw,cops,csW,csL,reduceIte,reduceEqDiff,reduceCtorEq,reduceAdd,reduceLT,reduceLeDiff,reduceSub,csFa,hI,h2])
   (repeat refine And.intro (by first|omega|(simp;omega)) ?_)
   refine keep [0,1,5,6,13] ?_
   (try simp only[c50_8,cw,cops,csW,csL,reduceIte,reduceEqDiff,reduceCtorEq,reduceAdd,reduceLT,reduceLeDiff,reduceSub,csFa,hI,h2])
   (repeat refine And.intro (by first|omega|(simp;omega)) ?_)
   (try simp only[cw,cops,csW,csL,reduceIte,reduceEqDiff,reduceCtorEq,reduceAdd,reduceLT,reduceLeDiff,reduceSub,csFa,hI,h2])
   (repeat refine And.intro (by first|omega|(simp;omega)) ?_)
   refine keep [0,1,5,6] ?_
   (try simp only[c50_15,c50_12,c50_11,l50_10,cw,cops,csW,csL,reduceIte,reduceEqDiff,reduceCtorEq,reduceAdd,reduceLT,reduceLeDiff,reduceSub,csFa,hI,h2])
   (repeat refine And.intro (by first|omega|(simp;omega)) ?_)
   refine keep [0,1,5,6] ?_
   (try simp only[c50_14,l50_13,cw,cops,csW,csL,reduceIte,reduceEqDiff,reduceCtorEq,reduceAdd,reduceLT,reduceLeDiff,reduceSub,csFa,hI,h2])
   (repeat refine And.intro (by first|omega|(simp;omega)) ?_)
   refine⟨i+1,⟨by omega,fun j hj => ?_⟩,?_,by omega⟩
   ·rcases Nat.lt_or_ge j i with h3 | h3
    ·exact hlt j h3
    ·rw[show j=i by omega];exact h2
   ·rw[←hs];exact (Sub.toG [0,1,5,6] [] (by rfl) (by rfl) (by rfl) (by rfl))
  ·have hge:=ipow_le hp.1 hi
   have hle:p^i≤1073741824*1073741824:=by
    rcases i with _ | i
    ·rw[Int.pow_zero];omega
    ·rw[Int.pow_succ]
     have:=hlt i (by omega)
     have:=ipow_pos hp.1 i
     exact Int.mul_le_mul (by omega) (by omega) (by omega) (by omega)
   unfold pwM
   by_cases h4:1073741824<p^i
   ·rw[if_pos (by omega)]
    (try simp only[c50_16,c50_9,c50_7,l50_6,cw,cops,csW,csL,reduceIte,reduceEqDiff,reduceCtorEq,reduceAdd,reduceLT,reduceLeDiff,reduceSub,csFa,hI,h2])
    (repeat refine And.intro (by first|omega|(simp;omega)) ?_)
    refine keep [0,1,5,6,13] ?_
    (try simp only[c50_8,cw,cops,csW,csL,reduceIte,reduceEqDiff,reduceCtorEq,reduceAdd,reduceLT,reduceLeDiff,reduceSub,csFa,hI,h2])
    (repeat refine And.intro (by first|omega|(simp;omega)) ?_)
    (try simp only[cw,cops,csW,csL,reduceIte,reduceEqDiff,reduceCtorEq,reduceAdd,reduceLT,reduceLeDiff,reduceSub,csFa,hI,h2,h4])
    (repeat refine And.intro (by first|omega|(simp;omega)) ?_)
    refine keep [5] ?_
    (try simp only[c50_30,c50_26,c50_21,l50_20,cw,cops,csW,csL,reduceIte,reduceEqDiff,reduceCtorEq,reduceAdd,reduceLT,reduceLeDiff,reduceSub,csFa,hI,h2,h4])
    (repeat refine And.intro (by first|omega|(simp;omega)) ?_)
    refine keep [5,20] ?_
    (try simp only[c50_25,cw,cops,csW,csL,reduceIte,reduceEqDiff,reduceCtorEq,reduceAdd,reduceLT,reduceLeDiff,reduceSub,csFa,hI,h2,h4])
    (repeat refine And.intro (by first|omega|(simp;omega)) ?_)
    (try simp only[c50_24,c50_23,l50_22,cw,cops,csW,csL,reduceIte,reduceEqDiff,reduceCtorEq,reduceAdd,reduceLT,reduceLeDiff,reduceSub,csFa,h4])
    (repeat refine And.intro (by first|omega|(simp;omega)) ?_)
    refine keep [4] ?_
    (try simp only[cw,cops,csW,csL,reduceIte,reduceEqDiff,reduceCtorEq,reduceAdd,reduceLT,reduceLeDiff,reduceSub,csFa,Ends,resD,resL,resV,h4])
    (repeat refine And.intro (by first|omega|(simp;omega)) ?_)
   ·have h5:p^i=1073741824:=by omega
    have h6:(if 1073741824<p^n then 1073741824 else p^n)=p^i:=by
     split<;>omega
    rw[h6]
    (try simp only[c50_16,c50_9,c50_7,l50_6,cw,cops,csW,csL,reduceIte,reduceEqDiff,reduceCtorEq,reduceAdd,reduceLT,reduceLeDiff,reduceSub,csFa,hI,h2])
    (repeat refine And.intro (by first|omega|(simp;omega)) ?_)
    refine keep [0,1,5,6,13] ?_
    (try simp only[c50_8,cw,cops,csW,csL,reduceIte,reduceEqDiff,reduceCtorEq,reduceAdd,reduceLT,reduceLeDiff,reduceSub,csFa,hI,h2])
    (repeat refine And.intro (by first|omega|(simp;omega)) ?_)
    (try simp only[cw,cops,csW,csL,reduceIte,reduceEqDiff,reduceCtorEq,reduceAdd,reduceLT,reduceLeDiff,reduceSub,csFa,hI,h2,h4])
    (repeat refine And.intro (by first|omega|(simp;omega)) ?_)
    refine keep [5] ?_
    (try simp only[c50_30,c50_26,c50_21,l50_20,cw,cops,csW,csL,reduceIte,reduceEqDiff,reduceCtorEq,reduceAdd,reduceLT,reduceLeDiff,reduceSub,csFa,hI,h2,h4])
    (repeat refine And.intro (by first|omega|(simp;omega)) ?_)
    refine keep [5,20] ?_
    (try simp only[c50_25,cw,cops,csW,csL,reduceIte,reduceEqDiff,reduceCtorEq,reduceAdd,reduceLT,reduceLeDiff,reduceSub,csFa,hI,h2,h4])
    (repeat refine And.intro (by first|omega|(simp;omega)) ?_)
    (try simp only[cw,cops,csW,csL,reduceIte,reduceEqDiff,reduceCtorEq,reduceAdd,reduceLT,reduceLeDiff,reduceSub,csFa,h4])
    (repeat refine And.intro (by first|omega|(simp;omega)) ?_)
    refine keep [5] ?_
    (try simp only[c50_29,c50_28,l50_27,cw,cops,csW,csL,reduceIte,reduceEqDiff,reduceCtorEq,reduceAdd,reduceLT,reduceLeDiff,reduceSub,csFa,h4])
    (repeat refine And.intro (by first|omega|(simp;omega)) ?_)
    refine keep [4] ?_
    (try simp only[cw,cops,csW,csL,reduceIte,reduceEqDiff,reduceCtorEq,reduceAdd,reduceLT,reduceLeDiff,reduceSub,csFa,Ends,resD,resL,resV,h4])
    (repeat refine And.intro (by first|omega|(simp;omega)) ?_)
 ·have hI:¬ (i:Int)<(n:Int):=by omega
  have hin:i=n:=by omega
  subst hin
  have hle:p^i≤1073741824*1073741824:=by
   rcases i with _ | i
   ·rw[Int.pow_zero];omega
   ·rw[Int.pow_succ]
    have:=hlt i (by omega)
    have:=ipow_pos hp.1 i
    exact Int.mul_le_mul (by omega) (by omega) (by omega) (by omega)
  unfold pwM
  by_cases h4:1073741824<p^i
  ·rw[if_pos h4]
   (try simp only[c50_16,c50_9,c50_7,l50_6,cw,cops,csW,csL,reduceIte,reduceEqDiff,reduceCtorEq,reduceAdd,reduceLT,reduceLeDiff,reduceSub,csFa,hI])
   (repeat refine And.intro (by first|omega|(simp;omega)) ?_)
   refine keep [0,1,5,6,13] ?_
   (try simp only[c50_8,cw,cops,csW,csL,reduceIte,reduceEqDiff,reduceCtorEq,reduceAdd,reduceLT,reduceLeDiff,reduceSub,csFa,hI])
   (repeat refine And.intro (by first|omega|(simp;omega)) ?_)
   (try simp only[cw,cops,csW,csL,reduceIte,reduceEqDiff,reduceCtorEq,reduceAdd,reduceLT,reduceLeDiff,reduceSub,csFa,hI,h4])
   (repeat refine And.intro (by first|omega|(simp;omega)) ?_)
   refine keep [5] ?_
   (try simp only[c50_30,c50_26,c50_21,l50_20,cw,cops,csW,csL,reduceIte,reduceEqDiff,reduceCtorEq,reduceAdd,reduceLT,reduceLeDiff,reduceSub,csFa,hI,h4])
   (repeat refine And.intro (by first|omega|(simp;omega)) ?_)
   refine keep [5,20] ?_
   (try simp only[c50_25,cw,cops,csW,csL,reduceIte,reduceEqDiff,reduceCtorEq,reduceAdd,reduceLT,reduceLeDiff,reduceSub,csFa,hI,h4])
   (repeat refine And.intro (by first|omega|(simp;omega)) ?_)
   (try simp only[c50_24,c50_23,l50_22,cw,cops,csW,csL,reduceIte,reduceEqDiff,reduceCtorEq,reduceAdd,reduceLT,reduceLeDiff,reduceSub,csFa,h4])
   (repeat refine And.intro (by first|omega|(simp;omega)) ?_)
   refine keep [4] ?_
   (try simp only[cw,cops,csW,csL,reduceIte,reduceEqDiff,reduceCtorEq,reduceAdd,reduceLT,reduceLeDiff,reduceSub,csFa,Ends,resD,resL,resV,h4])
   (repeat refine And.intro (by first|omega|(simp;omega)) ?_)
  ·rw[if_neg h4]
   (try simp only[c50_16,c50_9,c50_7,l50_6,cw,cops,csW,csL,reduceIte,reduceEqDiff,reduceCtorEq,reduceAdd,reduceLT,reduceLeDiff,reduceSub,csFa,hI])
   (repeat refine And.intro (by first|omega|(simp;omega)) ?_)
   refine keep [0,1,5,6,13] ?_
   (try simp only[c50_8,cw,cops,csW,csL,reduceIte,reduceEqDiff,reduceCtorEq,reduceAdd,reduceLT,reduceLeDiff,reduceSub,csFa,hI])
   (repeat refine And.intro (by first|omega|(simp;omega)) ?_)
   (try simp only[cw,cops,csW,csL,reduceIte,reduceEqDiff,reduceCtorEq,reduceAdd,reduceLT,reduceLeDiff,reduceSub,csFa,hI,h4])
   (repeat refine And.intro (by first|omega|(simp;omega)) ?_)
   refine keep [5] ?_
   (try simp only[c50_30,c50_26,c50_21,l50_20,cw,cops,csW,csL,reduceIte,reduceEqDiff,reduceCtorEq,reduceAdd,reduceLT,reduceLeDiff,reduceSub,csFa,hI,h4])
   (repeat refine And.intro (by first|omega|(simp;omega)) ?_)
   refine keep [5,20] ?_
   (try simp only[c50_25,cw,cops,csW,csL,reduceIte,reduceEqDiff,reduceCtorEq,reduceAdd,reduceLT,reduceLeDiff,reduceSub,csFa,hI,h4])
   (repeat refine And.intro (by first|omega|(simp;omega)) ?_)
   (try simp only[cw,cops,csW,csL,reduceIte,reduceEqDiff,reduceCtorEq,reduceAdd,reduceLT,reduceLeDiff,reduceSub,csFa,h4])
   (repeat refine And.intro (by first|omega|(simp;omega)) ?_)
   refine keep [5] ?_
   (try simp only[c50_29,c50_28,l50_27,cw,cops,csW,csL,reduceIte,reduceEqDiff,reduceCtorEq,reduceAdd,reduceLT,reduceLeDiff,reduceSub,csFa,h4])
   (repeat refine And.intro (by first|omega|(simp;omega)) ?_)
   refine keep [4] ?_
   (try simp only[cw,cops,csW,csL,reduceIte,reduceEqDiff,reduceCtorEq,reduceAdd,reduceLT,reduceLeDiff,reduceSub,csFa,Ends,resD,resL,resV,h4])
   (repeat refine And.intro (by first|omega|(simp;omega)) ?_)
end Go.Proofs.Ytlnhembcfhfpkaa.M
