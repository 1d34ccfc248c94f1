/- Polynomials modulo a prime: the reference's small functions walked. -/
import Derived.Test.YtlnhembcfhfpkaaFqFx
namespace Go.Proofs.Ytlnhembcfhfpkaa.M
open Go.RowKit
open Nat (reduceEqDiff reduceAdd reduceLT reduceLeDiff reduceSub)
set_option linter.unusedSimpArgs false
set_option linter.unusedVariables false
set_option maxHeartbeats 400000 in
theorem isPrime_con (p:Int) (b:Bool) (hp:p≤1073741824) (hb:b=true↔IsP p):Con Try.prog [] 30 [I p] (.bool b):=by
 by_cases h2:p<2
 ·have hbf:b=false:=by
   cases b with
   | false=>rfl
   | true=>have:=(hb.1 rfl).1.1;omega
  refine fn30.con rfl (by simp) ?_
  (try simp only[init1,c30,c30_35,c30_1,l30_0,cw,cops,csW,csL,reduceIte,reduceEqDiff,reduceCtorEq,reduceAdd,reduceLT,reduceLeDiff,reduceSub,h2])
  (repeat refine And.intro (by first|omega|(simp;omega)) ?_)
  refine keep [0] ?_
  (try simp only[c30_34,c30_8,c30_3,l30_2,cw,cops,csW,csL,reduceIte,reduceEqDiff,reduceCtorEq,reduceAdd,reduceLT,reduceLeDiff,reduceSub,h2])
  (repeat refine And.intro (by first|omega|(simp;omega)) ?_)
  refine keep [0,5] ?_
  (try simp only[c30_7,cw,cops,csW,csL,reduceIte,reduceEqDiff,reduceCtorEq,reduceAdd,reduceLT,reduceLeDiff,reduceSub,h2])
  (repeat refine And.intro (by first|omega|(simp;omega)) ?_)
  (try simp only[c30_6,c30_5,l30_4,cw,cops,csW,csL,reduceIte,reduceEqDiff,reduceCtorEq,reduceAdd,reduceLT,reduceLeDiff,reduceSub])
  (repeat refine And.intro (by first|omega|(simp;omega)) ?_)
  refine keep [2] ?_
  (try simp only[cw,cops,csW,csL,reduceIte,reduceEqDiff,reduceCtorEq,reduceAdd,reduceLT,reduceLeDiff,reduceSub,Ends,resD,resL,resV])
  (repeat refine And.intro (by first|omega|(simp;omega)) ?_)
  rw[hbf]
 ·have h3:¬ 1073741824<p:=by omega
  ·refine fn30.con rfl (by simp) ?_
   (try simp only[init1,c30,c30_35,c30_1,l30_0,cw,cops,csW,csL,reduceIte,reduceEqDiff,reduceCtorEq,reduceAdd,reduceLT,reduceLeDiff,reduceSub,h2,h3])
   (repeat refine And.intro (by first|omega|(simp;omega)) ?_)
   refine keep [0] ?_
   (try simp only[c30_34,c30_8,c30_3,l30_2,cw,cops,csW,csL,reduceIte,reduceEqDiff,reduceCtorEq,reduceAdd,reduceLT,reduceLeDiff,reduceSub,h2,h3])
   (repeat refine And.intro (by first|omega|(simp;omega)) ?_)
   refine keep [0,5] ?_
   (try simp only[c30_7,cw,cops,csW,csL,reduceIte,reduceEqDiff,reduceCtorEq,reduceAdd,reduceLT,reduceLeDiff,reduceSub,h2,h3])
   (repeat refine And.intro (by first|omega|(simp;omega)) ?_)
   (try simp only[cw,cops,csW,csL,reduceIte,reduceEqDiff,reduceCtorEq,reduceAdd,reduceLT,reduceLeDiff,reduceSub])
   (repeat refine And.intro (by first|omega|(simp;omega)) ?_)
   refine keep [0] ?_
   (try simp only[c30_33,c30_29,c30_10,l30_9,cw,cops,csW,csL,reduceIte,reduceEqDiff,reduceCtorEq,reduceAdd,reduceLT,reduceLeDiff,reduceSub])
   (repeat refine And.intro (by first|omega|(simp;omega)) ?_)
   refine keep [0,3] ?_
   (try simp only[c30_28,cw,cops,csW,csL,reduceIte,reduceEqDiff,reduceCtorEq,reduceAdd,reduceLT,reduceLeDiff,reduceSub])
   refine loop_of (ι:=Nat) (fun d=>2≤d∧d≤32769∧NoDiv p d) (fun d=>⟨look [(0,.p (I p)),(3,.p (I d))],lookM []⟩) (fun d=>32770-d) 2 ⟨by omega,by omega,fun e he hlt=>by omega⟩ (Sub.rf _) ?_
   rintro d ⟨hd,hd2,hn⟩
   have hs:=sq_small hd2
   by_cases hle:(d:Int)*d≤p
   ·(try simp only[c30_26,c30_14,c30_12,l30_11,cw,cops,csW,csL,reduceIte,reduceEqDiff,reduceCtorEq,reduceAdd,reduceLT,reduceLeDiff,reduceSub,hle])
    (repeat refine And.intro (by first|omega|(simp;omega)) ?_)
    refine keep [0,3,10] ?_
    (try simp only[c30_13,cw,cops,csW,csL,reduceIte,reduceEqDiff,reduceCtorEq,reduceAdd,reduceLT,reduceLeDiff,reduceSub,hle])
    (repeat refine And.intro (by first|omega|(simp;omega)) ?_)
    (try simp only[cw,cops,csW,csL,reduceIte,reduceEqDiff,reduceCtorEq,reduceAdd,reduceLT,reduceLeDiff,reduceSub])
    (repeat refine And.intro (by first|omega|(simp;omega)) ?_)
    refine keep [0,3] ?_
    (try simp only[c30_25,c30_22,c30_21,c30_16,l30_15,cw,cops,csW,csL,reduceIte,reduceEqDiff,reduceCtorEq,reduceAdd,reduceLT,reduceLeDiff,reduceSub])
    (repeat refine And.intro (by first|omega|(simp;omega)) ?_)
    refine keep [0,3,16] ?_
    (try simp only[c30_20,cw,cops,csW,csL,reduceIte,reduceEqDiff,reduceCtorEq,reduceAdd,reduceLT,reduceLeDiff,reduceSub])
    (repeat refine And.intro (by first|omega|(simp;omega)) ?_)
    refine⟨fun hc => ?_,fun hc => ?_⟩
    ·(try simp only[c30_19,c30_18,l30_17,cw,cops,csW,csL,reduceIte,reduceEqDiff,reduceCtorEq,reduceAdd,reduceLT,reduceLeDiff,reduceSub])
     (repeat refine And.intro (by first|omega|(simp;omega)) ?_)
     refine keep [2] ?_
     (try simp only[cw,cops,csW,csL,reduceIte,reduceEqDiff,reduceCtorEq,reduceAdd,reduceLT,reduceLeDiff,reduceSub,Ends,resD,resL,resV])
     (repeat refine And.intro (by first|omega|(simp;omega)) ?_)
     cases b with
     | false=>rfl
     | true=>exact absurd (by simpa using hc) ((hb.1 rfl).1.2 (d+1) d hd (by omega) hle)
    ·(try simp only[cw,cops,csW,csL,reduceIte,reduceEqDiff,reduceCtorEq,reduceAdd,reduceLT,reduceLeDiff,reduceSub])
     (repeat refine And.intro (by first|omega|(simp;omega)) ?_)
     refine keep [0,3] ?_
     (try simp only[c30_24,l30_23,cw,cops,csW,csL,reduceIte,reduceEqDiff,reduceCtorEq,reduceAdd,reduceLT,reduceLeDiff,reduceSub])
     (repeat refine And.intro (by first|omega|(simp;omega)) ?_)
     refine⟨d+1,⟨by omega,by have:=sq_bound hle (by omega);omega,fun e he hlt hle' => ?_⟩,(Sub.toG [0,3] [] (by rfl) (by rfl) (by rfl) (by rfl)),by omega⟩
     rcases Nat.lt_or_ge e d with hh | hh
     ·exact hn e he hh hle'
     ·obtain rfl:e=d:=by omega
      simpa using hc
   ·-- skip
    (try simp only[c30_26,c30_14,c30_12,l30_11,cw,cops,csW,csL,reduceIte,reduceEqDiff,reduceCtorEq,reduceAdd,reduceLT,reduceLeDiff,reduceSub,hle])
    (repeat refine And.intro (by first|omega|(simp;omega)) ?_)
    refine keep [0,3,10] ?_
    (try simp only[c30_13,cw,cops,csW,csL,reduceIte,reduceEqDiff,reduceCtorEq,reduceAdd,reduceLT,reduceLeDiff,reduceSub,hle])
    (repeat refine And.intro (by first|omega|(simp;omega)) ?_)
    (try simp only[cw,cops,csW,csL,reduceIte,reduceEqDiff,reduceCtorEq,reduceAdd,reduceLT,reduceLeDiff,reduceSub])
    (repeat refine And.intro (by first|omega|(simp;omega)) ?_)
    refine keep [] ?_
    (try simp only[c30_32,c30_31,l30_30,cw,cops,csW,csL,reduceIte,reduceEqDiff,reduceCtorEq,reduceAdd,reduceLT,reduceLeDiff,reduceSub])
    (repeat refine And.intro (by first|omega|(simp;omega)) ?_)
    refine keep [2] ?_
    (try simp only[cw,cops,csW,csL,reduceIte,reduceEqDiff,reduceCtorEq,reduceAdd,reduceLT,reduceLeDiff,reduceSub,Ends,resD,resL,resV])
    (repeat refine And.intro (by first|omega|(simp;omega)) ?_)
    rw[hb.2 ⟨prime_stop (by omega) hn hle,by omega⟩]
set_option maxHeartbeats 400000 in
theorem mmade_con {T:Nat} (l:List Int) (h:l.length≤9223372036854775807):Con Try.prog [] 48 [LT T l] (LT T (trim l)):=by
 refine fn48.con rfl (by simp) ?_
 (try simp only[init1,c48,c48_19,c48_1,l48_0,cw,cops,csW,csL,reduceIte,reduceEqDiff,reduceCtorEq,reduceAdd,reduceLT,reduceLeDiff,reduceSub])
 (repeat refine And.intro (by first|omega|(simp;omega)) ?_)
 refine keep [0] ?_
 (try simp only[c48_18,c48_3,l48_2,cw,cops,csW,csL,reduceIte,reduceEqDiff,reduceCtorEq,reduceAdd,reduceLT,reduceLeDiff,reduceSub])
 (repeat refine And.intro (by first|omega|(simp;omega)) ?_)
 refine keep [0,3] ?_
 (try simp only[c48_17,c48_13,cw,cops,csW,csL,reduceIte,reduceEqDiff,reduceCtorEq,reduceAdd,reduceLT,reduceLeDiff,reduceSub])
 refine loop_of (ι:=Nat) (fun n=>n≤l.length∧trim (l.take n)=trim l) (fun n=>⟨look [(0,.p (LT T l)),(3,.p (I n))],lookM []⟩) (fun n=>n) l.length ⟨by omega,by simp⟩ (Sub.rf _) ?_
 rintro n ⟨hn,ht⟩
 rcases n with _ | k
 ·have hp':¬ ((0:Int)<0):=by omega
  (try simp only[c48_11,c48_7,c48_5,l48_4,cw,cops,csW,csL,reduceIte,reduceEqDiff,reduceCtorEq,reduceAdd,reduceLT,reduceLeDiff,reduceSub,hp'])
  (repeat refine And.intro (by first|omega|(simp;omega)) ?_)
  refine keep [0,3,15] ?_
  (try simp only[c48_6,cw,cops,csW,csL,reduceIte,reduceEqDiff,reduceCtorEq,reduceAdd,reduceLT,reduceLeDiff,reduceSub,hp'])
  (repeat refine And.intro (by first|omega|(simp;omega)) ?_)
  (try simp only[cw,cops,csW,csL,reduceIte,reduceEqDiff,reduceCtorEq,reduceAdd,reduceLT,reduceLeDiff,reduceSub])
  (repeat refine And.intro (by first|omega|(simp;omega)) ?_)
  refine keep [0,3] ?_
  (try simp only[c48_16,c48_15,l48_14,cw,cops,csW,csL,reduceIte,reduceEqDiff,reduceCtorEq,reduceAdd,reduceLT,reduceLeDiff,reduceSub])
  (repeat refine And.intro (by first|omega|(simp;omega)) ?_)
  refine keep [2] ?_
  (try simp only[cw,cops,csW,csL,reduceIte,reduceEqDiff,reduceCtorEq,reduceAdd,reduceLT,reduceLeDiff,reduceSub,Ends,resD,resL,resV])
  (repeat refine And.intro (by first|omega|(simp;omega)) ?_)
  rw[←ht]
  rfl
 ·have hp':(0:Int)<(k:Int)+1:=by omega
  have htk:=trim_take (l:=l) (k:=k) (by omega)
  (try simp only[c48_11,c48_7,c48_5,l48_4,cw,cops,csW,csL,reduceIte,reduceEqDiff,reduceCtorEq,reduceAdd,reduceLT,reduceLeDiff,reduceSub,hp'])
  (repeat refine And.intro (by first|omega|(simp;omega)) ?_)
  refine keep [0,3,15] ?_
  (try simp only[c48_6,cw,cops,csW,csL,reduceIte,reduceEqDiff,reduceCtorEq,reduceAdd,reduceLT,reduceLeDiff,reduceSub,hp'])
  (repeat refine And.intro (by first|omega|(simp;omega)) ?_)
  refine⟨fun hc => ?_,fun hc => ?_⟩
  ·(try simp only[cw,cops,csW,csL,reduceIte,reduceEqDiff,reduceCtorEq,reduceAdd,reduceLT,reduceLeDiff,reduceSub])
   (repeat refine And.intro (by first|omega|(simp;omega)) ?_)
   refine keep [0,3] ?_
   (try simp only[c48_10,c48_9,l48_8,cw,cops,csW,csL,reduceIte,reduceEqDiff,reduceCtorEq,reduceAdd,reduceLT,reduceLeDiff,reduceSub])
   (repeat refine And.intro (by first|omega|(simp;omega)) ?_)
   rw[if_pos hc] at htk
   exact⟨k,⟨by omega,htk.symm.trans ht⟩,(Sub.toG [0,3] [] (by rfl) (by rfl) (by rfl) (by rfl)),by omega⟩
  ·(try simp only[cw,cops,csW,csL,reduceIte,reduceEqDiff,reduceCtorEq,reduceAdd,reduceLT,reduceLeDiff,reduceSub])
   (repeat refine And.intro (by first|omega|(simp;omega)) ?_)
   refine keep [0,3] ?_
   (try simp only[c48_16,c48_15,l48_14,cw,cops,csW,csL,reduceIte,reduceEqDiff,reduceCtorEq,reduceAdd,reduceLT,reduceLeDiff,reduceSub])
   (repeat refine And.intro (by first|omega|(simp;omega)) ?_)
   refine keep [2] ?_
   (try simp only[cw,cops,csW,csL,reduceIte,reduceEqDiff,reduceCtorEq,reduceAdd,reduceLT,reduceLeDiff,reduceSub,Ends,resD,resL,resV])
   (repeat refine And.intro (by first|omega|(simp;omega)) ?_)
   rw[if_neg (by simpa using hc)] at htk
   rw[←ht,htk]
theorem mat_con {T:Nat} (l:List Int) (i:Nat):Con Try.prog [] 47 [LT T l,I i] (I (l.getD i 0)):=by
 have h0:¬ (i:Int)<0:=by omega
 by_cases h:i<l.length
 ·have hI:¬ (l.length:Int)≤(i:Int):=by omega
  have hI':(i:Int)<(l.length:Int):=by omega
  refine fn47.con rfl (by simp) ?_
  (try simp only[init2,c47,c47_13,c47_1,l47_0,cw,cops,csW,csL,reduceIte,reduceEqDiff,reduceCtorEq,reduceAdd,reduceLT,reduceLeDiff,reduceSub,h0,hI])
  (repeat refine And.intro (by first|omega|(simp;omega)) ?_)
  refine keep [0,1] ?_
  (try simp only[c47_12,c47_8,c47_3,l47_2,cw,cops,csW,csL,reduceIte,reduceEqDiff,reduceCtorEq,reduceAdd,reduceLT,reduceLeDiff,reduceSub,h0,hI])
  (repeat refine And.intro (by first|omega|(simp;omega)) ?_)
  refine keep [0,1,12] ?_
  (try simp only[c47_7,cw,cops,csW,csL,reduceIte,reduceEqDiff,reduceCtorEq,reduceAdd,reduceLT,reduceLeDiff,reduceSub,h0,hI])
  (repeat refine And.intro (by first|omega|(simp;omega)) ?_)
  (try simp only[cw,cops,csW,csL,reduceIte,reduceEqDiff,reduceCtorEq,reduceAdd,reduceLT,reduceLeDiff,reduceSub,hI'])
  (repeat refine And.intro (by first|omega|(simp;omega)) ?_)
  refine keep [0,1] ?_
  (try simp only[c47_11,c47_10,l47_9,cw,cops,csW,csL,reduceIte,reduceEqDiff,reduceCtorEq,reduceAdd,reduceLT,reduceLeDiff,reduceSub,hI'])
  (repeat refine And.intro (by first|omega|(simp;omega)) ?_)
  refine keep [4] ?_
  (try simp only[cw,cops,csW,csL,reduceIte,reduceEqDiff,reduceCtorEq,reduceAdd,reduceLT,reduceLeDiff,reduceSub,Ends,resD,resL,resV,hI'])
  (repeat refine And.intro (by first|omega|(simp;omega)) ?_)
 ·have hI:(l.length:Int)≤(i:Int):=by omega
  have hz:l.getD i 0=0:=by simp[List.getD_eq_getElem?_getD,List.getElem?_eq_none (Nat.not_lt.1 h)]
  refine fn47.con rfl (by simp) ?_
  (try simp only[init2,c47,c47_13,c47_1,l47_0,cw,cops,csW,csL,reduceIte,reduceEqDiff,reduceCtorEq,reduceAdd,reduceLT,reduceLeDiff,reduceSub,h0,hI])
  (repeat refine And.intro (by first|omega|(simp;omega)) ?_)
  refine keep [0,1] ?_
  (try simp only[c47_12,c47_8,c47_3,l47_2,cw,cops,csW,csL,reduceIte,reduceEqDiff,reduceCtorEq,reduceAdd,reduceLT,reduceLeDiff,reduceSub,h0,hI])
  (repeat refine And.intro (by first|omega|(simp;omega)) ?_)
  refine keep [0,1,12] ?_
  (try simp only[c47_7,cw,cops,csW,csL,reduceIte,reduceEqDiff,reduceCtorEq,reduceAdd,reduceLT,reduceLeDiff,reduceSub,h0,hI])
  (repeat refine And.intro (by first|omega|(simp;omega)) ?_)
  (try simp only[c47_6,c47_5,l47_4,cw,cops,csW,csL,reduceIte,reduceEqDiff,reduceCtorEq,reduceAdd,reduceLT,reduceLeDiff,reduceSub])
  (repeat refine And.intro (by first|omega|(simp;omega)) ?_)
  refine keep [4] ?_
  (try simp only[cw,cops,csW,csL,reduceIte,reduceEqDiff,reduceCtorEq,reduceAdd,reduceLT,reduceLeDiff,reduceSub,Ends,resD,resL,resV])
  (repeat refine And.intro (by first|omega|(simp;omega)) ?_)
  rw[hz]
theorem mod_con (a m:Int) (hm:0<m∧m≤1073741824):Con Try.prog [] 52 [I a,I m] (I (a % m)):=by
 have hb1:=Int.tmod_lt_of_pos a hm.1
 have hb2:=Int.lt_tmod_of_pos a hm.1
 have h2:a.tmod m=a-m*a.tdiv m:=by have:=Int.mul_tdiv_add_tmod a m;omega
 have h3:(a.tmod m) % m=a % m:=by rw[h2,show a-m*a.tdiv m=a+(- a.tdiv m)*m by grind,Int.add_mul_emod_self_right]
 by_cases h:a.tmod m<0
 ·have he:a.tmod m+m=a % m:=by
   rw[←h3,←Int.add_mul_emod_self_right (a:=a.tmod m) (b:=1),Int.one_mul,em_self (by omega)]
  refine fn52.con rfl (by simp) ?_
  (try simp only[init2,c52,c52_15,c52_1,l52_0,cw,cops,csW,csL,reduceIte,reduceEqDiff,reduceCtorEq,reduceAdd,reduceLT,reduceLeDiff,reduceSub,h])
  (repeat refine And.intro (by first|omega|(simp;omega)) ?_)
  refine keep [0,1] ?_
  (try simp only[c52_14,c52_3,l52_2,cw,cops,csW,csL,reduceIte,reduceEqDiff,reduceCtorEq,reduceAdd,reduceLT,reduceLeDiff,reduceSub,h])
  (repeat refine And.intro (by first|omega|(simp;omega)) ?_)
  refine keep [0,1] ?_
  (try simp only[c52_13,c52_9,c52_5,l52_4,cw,cops,csW,csL,reduceIte,reduceEqDiff,reduceCtorEq,reduceAdd,reduceLT,reduceLeDiff,reduceSub,h])
  (repeat refine And.intro (by first|omega|(simp;omega)) ?_)
  refine keep [0,1,9] ?_
  (try simp only[c52_8,cw,cops,csW,csL,reduceIte,reduceEqDiff,reduceCtorEq,reduceAdd,reduceLT,reduceLeDiff,reduceSub,h])
  (repeat refine And.intro (by first|omega|(simp;omega)) ?_)
  (try simp only[c52_7,l52_6,cw,cops,csW,csL,reduceIte,reduceEqDiff,reduceCtorEq,reduceAdd,reduceLT,reduceLeDiff,reduceSub])
  (repeat refine And.intro (by first|omega|(simp;omega)) ?_)
  refine keep [0] ?_
  (try simp only[c52_12,c52_11,l52_10,cw,cops,csW,csL,reduceIte,reduceEqDiff,reduceCtorEq,reduceAdd,reduceLT,reduceLeDiff,reduceSub])
  (repeat refine And.intro (by first|omega|(simp;omega)) ?_)
  refine keep [4] ?_
  (try simp only[cw,cops,csW,csL,reduceIte,reduceEqDiff,reduceCtorEq,reduceAdd,reduceLT,reduceLeDiff,reduceSub,Ends,resD,resL,resV])
  (repeat refine And.intro (by first|omega|(simp;omega)) ?_)
  rw[he]
 ·have he:a.tmod m=a % m:=by rw[←h3,em_self (by omega)]
  refine fn52.con rfl (by simp) ?_
  (try simp only[init2,c52,c52_15,c52_1,l52_0,cw,cops,csW,csL,reduceIte,reduceEqDiff,reduceCtorEq,reduceAdd,reduceLT,reduceLeDiff,reduceSub,h])
  (repeat refine And.intro (by first|omega|(simp;omega)) ?_)
  refine keep [0,1] ?_
  (try simp only[c52_14,c52_3,l52_2,cw,cops,csW,csL,reduceIte,reduceEqDiff,reduceCtorEq,reduceAdd,reduceLT,reduceLeDiff,reduceSub,h])
  (repeat refine And.intro (by first|omega|(simp;omega)) ?_)
  refine keep [0,1] ?_
  (try simp only[c52_13,c52_9,c52_5,l52_4,cw,cops,csW,csL,reduceIte,reduceEqDiff,reduceCtorEq,reduceAdd,reduceLT,reduceLeDiff,reduceSub,h])
  (repeat refine And.intro (by first|omega|(simp;omega)) ?_)
  refine keep [0,1,9] ?_
  (try simp only[c52_8,cw,cops,csW,csL,reduceIte,reduceEqDiff,reduceCtorEq,reduceAdd,reduceLT,reduceLeDiff,reduceSub,h])
  (repeat refine And.intro (by first|omega|(simp;omega)) ?_)
  (try simp only[cw,cops,csW,csL,reduceIte,reduceEqDiff,reduceCtorEq,reduceAdd,reduceLT,reduceLeDiff,reduceSub])
  (repeat refine And.intro (by first|omega|(simp;omega)) ?_)
  refine keep [0] ?_
  (try simp only[c52_12,c52_11,l52_10,cw,cops,csW,csL,reduceIte,reduceEqDiff,reduceCtorEq,reduceAdd,reduceLT,reduceLeDiff,reduceSub])
  (repeat refine And.intro (by first|omega|(simp;omega)) ?_)
  refine keep [4] ?_
  (try simp only[cw,cops,csW,csL,reduceIte,reduceEqDiff,reduceCtorEq,reduceAdd,reduceLT,reduceLeDiff,reduceSub,Ends,resD,resL,resV])
  (repeat refine And.intro (by first|omega|(simp;omega)) ?_)
  rw[he]
set_option maxRecDepth 20000 in
set_option maxHeartbeats 400000 in
theorem same_con {T T':Nat} (a b:List Int) (ha:a.length≤9223372036854775807):Con Try.prog [] 11 [LT T a,LT T' b] (.bool (decide (a=b))):=by
 by_cases hl:a.length=b.length
 ·have hlI:(a.length:Int)=(b.length:Int):=by omega
  refine fn11.con rfl (by simp) ?_
  (try simp only[init2,c11,c11_35,c11_1,l11_0,cw,cops,csW,csL,reduceIte,reduceEqDiff,reduceCtorEq,reduceAdd,reduceLT,reduceLeDiff,reduceSub,hlI])
  (repeat refine And.intro (by first|omega|(simp;omega)) ?_)
  refine keep [0,1] ?_
  (try simp only[c11_34,c11_8,c11_3,l11_2,cw,cops,csW,csL,reduceIte,reduceEqDiff,reduceCtorEq,reduceAdd,reduceLT,reduceLeDiff,reduceSub,hlI])
  (repeat refine And.intro (by first|omega|(simp;omega)) ?_)
  refine keep [0,1,10] ?_
  (try simp only[c11_7,cw,cops,csW,csL,reduceIte,reduceEqDiff,reduceCtorEq,reduceAdd,reduceLT,reduceLeDiff,reduceSub,hlI])
  (repeat refine And.intro (by first|omega|(simp;omega)) ?_)
  (try simp only[cw,cops,csW,csL,reduceIte,reduceEqDiff,reduceCtorEq,reduceAdd,reduceLT,reduceLeDiff,reduceSub])
  (repeat refine And.intro (by first|omega|(simp;omega)) ?_)
  refine keep [0,1] ?_
  (try simp only[c11_33,c11_29,c11_10,l11_9,cw,cops,csW,csL,reduceIte,reduceEqDiff,reduceCtorEq,reduceAdd,reduceLT,reduceLeDiff,reduceSub])
  (repeat refine And.intro (by first|omega|(simp;omega)) ?_)
  refine keep [0,1,5] ?_
  (try simp only[c11_28,cw,cops,csW,csL,reduceIte,reduceEqDiff,reduceCtorEq,reduceAdd,reduceLT,reduceLeDiff,reduceSub])
  refine loop_of (ι:=Nat) (fun i=>i≤a.length∧∀ j,j<i→a.getD j 0=b.getD j 0) (fun i=>⟨look [(0,.p (LT T a)),(1,.p (LT T' b)),(5,.p (I i))],lookM []⟩) (fun i=>a.length-i) 0 ⟨by omega,fun j hj=>by omega⟩ (Sub.rf _) ?_
  rintro i ⟨hi,hg⟩
  by_cases h:i<a.length
  ·have hi':(i:Int)<(a.length:Int):=by omega
   have hi2:(i:Int)<(b.length:Int):=by omega
   (try simp only[c11_26,c11_14,c11_12,l11_11,cw,cops,csW,csL,reduceIte,reduceEqDiff,reduceCtorEq,reduceAdd,reduceLT,reduceLeDiff,reduceSub,hi'])
   (repeat refine And.intro (by first|omega|(simp;omega)) ?_)
   refine keep [0,1,5,14] ?_
   (try simp only[c11_13,cw,cops,csW,csL,reduceIte,reduceEqDiff,reduceCtorEq,reduceAdd,reduceLT,reduceLeDiff,reduceSub,hi'])
   (repeat refine And.intro (by first|omega|(simp;omega)) ?_)
   (try simp only[cw,cops,csW,csL,reduceIte,reduceEqDiff,reduceCtorEq,reduceAdd,reduceLT,reduceLeDiff,reduceSub,hi',hi2])
   (repeat refine And.intro (by first|omega|(simp;omega)) ?_)
   refine keep [0,1,5] ?_
   (try simp only[c11_25,c11_22,c11_21,c11_16,l11_15,cw,cops,csW,csL,reduceIte,reduceEqDiff,reduceCtorEq,reduceAdd,reduceLT,reduceLeDiff,reduceSub,hi',hi2])
   (repeat refine And.intro (by first|omega|(simp;omega)) ?_)
   refine keep [0,1,5,25] ?_
   (try simp only[c11_20,cw,cops,csW,csL,reduceIte,reduceEqDiff,reduceCtorEq,reduceAdd,reduceLT,reduceLeDiff,reduceSub,hi',hi2])
   (repeat refine And.intro (by first|omega|(simp;omega)) ?_)
   by_cases he:a.getD i 0=b.getD i 0
   ·refine⟨fun hh=>absurd hh (by rw[he];simp),fun _ => ?_⟩
    (try simp only[cw,cops,csW,csL,reduceIte,reduceEqDiff,reduceCtorEq,reduceAdd,reduceLT,reduceLeDiff,reduceSub])
    (repeat refine And.intro (by first|omega|(simp;omega)) ?_)
    refine keep [0,1,5] ?_
    (try simp only[c11_24,l11_23,cw,cops,csW,csL,reduceIte,reduceEqDiff,reduceCtorEq,reduceAdd,reduceLT,reduceLeDiff,reduceSub])
    (repeat refine And.intro (by first|omega|(simp;omega)) ?_)
    refine⟨i+1,⟨by omega,fun j hj => ?_⟩,(Sub.toG [0,1,5] [] (by rfl) (by rfl) (by rfl) (by rfl)),by omega⟩
    by_cases hji:j<i
    ·exact hg j hji
    ·obtain rfl:j=i:=by omega
     exact he
   ·refine⟨fun _ => ?_,fun hh=>absurd hh (by rw[decide_eq_false he];simp)⟩
    (try simp only[c11_19,c11_18,l11_17,cw,cops,csW,csL,reduceIte,reduceEqDiff,reduceCtorEq,reduceAdd,reduceLT,reduceLeDiff,reduceSub])
    (repeat refine And.intro (by first|omega|(simp;omega)) ?_)
    refine keep [4] ?_
    (try simp only[cw,cops,csW,csL,reduceIte,reduceEqDiff,reduceCtorEq,reduceAdd,reduceLT,reduceLeDiff,reduceSub,Ends,resD,resL,resV])
    (repeat refine And.intro (by first|omega|(simp;omega)) ?_)
    rw[decide_eq_false]
    rintro rfl
    exact he rfl
  ·have hi':¬ (i:Int)<(a.length:Int):=by omega
   (try simp only[c11_26,c11_14,c11_12,l11_11,cw,cops,csW,csL,reduceIte,reduceEqDiff,reduceCtorEq,reduceAdd,reduceLT,reduceLeDiff,reduceSub,hi'])
   (repeat refine And.intro (by first|omega|(simp;omega)) ?_)
   refine keep [0,1,5,14] ?_
   (try simp only[c11_13,cw,cops,csW,csL,reduceIte,reduceEqDiff,reduceCtorEq,reduceAdd,reduceLT,reduceLeDiff,reduceSub,hi'])
   (repeat refine And.intro (by first|omega|(simp;omega)) ?_)
   (try simp only[cw,cops,csW,csL,reduceIte,reduceEqDiff,reduceCtorEq,reduceAdd,reduceLT,reduceLeDiff,reduceSub])
   (repeat refine And.intro (by first|omega|(simp;omega)) ?_)
   refine keep [] ?_
   (try simp only[c11_32,c11_31,l11_30,cw,cops,csW,csL,reduceIte,reduceEqDiff,reduceCtorEq,reduceAdd,reduceLT,reduceLeDiff,reduceSub])
   (repeat refine And.intro (by first|omega|(simp;omega)) ?_)
   refine keep [4] ?_
   (try simp only[cw,cops,csW,csL,reduceIte,reduceEqDiff,reduceCtorEq,reduceAdd,reduceLT,reduceLeDiff,reduceSub,Ends,resD,resL,resV])
   (repeat refine And.intro (by first|omega|(simp;omega)) ?_)
   rw[decide_eq_true]
   refine List.ext_getElem hl fun j h1 h2 => ?_
   have:=hg j (by omega)
   simpa[List.getD_eq_getElem?_getD,h1,h2] using this
 ·have hlI:¬ (a.length:Int)=(b.length:Int):=by omega
  refine fn11.con rfl (by simp) ?_
  (try simp only[init2,c11,c11_35,c11_1,l11_0,cw,cops,csW,csL,reduceIte,reduceEqDiff,reduceCtorEq,reduceAdd,reduceLT,reduceLeDiff,reduceSub,hlI])
  (repeat refine And.intro (by first|omega|(simp;omega)) ?_)
  refine keep [0,1] ?_
  (try simp only[c11_34,c11_8,c11_3,l11_2,cw,cops,csW,csL,reduceIte,reduceEqDiff,reduceCtorEq,reduceAdd,reduceLT,reduceLeDiff,reduceSub,hlI])
  (repeat refine And.intro (by first|omega|(simp;omega)) ?_)
  refine keep [0,1,10] ?_
  (try simp only[c11_7,cw,cops,csW,csL,reduceIte,reduceEqDiff,reduceCtorEq,reduceAdd,reduceLT,reduceLeDiff,reduceSub,hlI])
  (repeat refine And.intro (by first|omega|(simp;omega)) ?_)
  (try simp only[c11_6,c11_5,l11_4,cw,cops,csW,csL,reduceIte,reduceEqDiff,reduceCtorEq,reduceAdd,reduceLT,reduceLeDiff,reduceSub])
  (repeat refine And.intro (by first|omega|(simp;omega)) ?_)
  refine keep [4] ?_
  (try simp only[cw,cops,csW,csL,reduceIte,reduceEqDiff,reduceCtorEq,reduceAdd,reduceLT,reduceLeDiff,reduceSub,Ends,resD,resL,resV])
  (repeat refine And.intro (by first|omega|(simp;omega)) ?_)
  rw[decide_eq_false]
  rintro rfl
  exact hl rfl
set_option maxRecDepth 20000 in
set_option maxHeartbeats 1000000 in
theorem checkMod_con {T:Nat} (f:List Int) (p:Int):Con Try.prog [] 9 [LT T f,I p] (flt (chk f p).1 (chk f p).2):=by
 by_cases hP:IsP p
 ·have hpb:¬ 1073741824<p:=by have:=hP.2;omega
  refine fn9.con rfl (by simp) ?_
  (try simp only[init2,c9,c9_56,c9_1,l9_0,cw,cops,csW,csL,reduceIte,reduceEqDiff,reduceCtorEq,reduceAdd,reduceLT,reduceLeDiff,reduceSub,csF,hpb])
  (repeat refine And.intro (by first|omega|(simp;omega)) ?_)
  refine keep [0,1,4] ?_
  (try simp only[c9_55,c9_10,c9_4,l9_2,cw,cops,csW,csL,reduceIte,reduceEqDiff,reduceCtorEq,reduceAdd,reduceLT,reduceLeDiff,reduceSub,csF,hpb])
  (repeat refine And.intro (by first|omega|(simp;omega)) ?_)
  refine⟨_,cx (isPrime_con p true (by omega) (by simp[hP])),?_⟩
  (try simp only[l9_3,cw,cops,csW,csL,reduceIte,reduceEqDiff,reduceCtorEq,reduceAdd,reduceLT,reduceLeDiff,reduceSub,csF])
  (repeat refine And.intro (by first|omega|(simp;omega)) ?_)
  refine keep [0,1,4,12] ?_
  (try simp only[c9_9,cw,cops,csW,csL,reduceIte,reduceEqDiff,reduceCtorEq,reduceAdd,reduceLT,reduceLeDiff,reduceSub,csF])
  (repeat refine And.intro (by first|omega|(simp;omega)) ?_)
  (try simp only[cw,cops,csW,csL,reduceIte,reduceEqDiff,reduceCtorEq,reduceAdd,reduceLT,reduceLeDiff,reduceSub,csF])
  (repeat refine And.intro (by first|omega|(simp;omega)) ?_)
  refine keep [0,1,4] ?_
  (try simp only[c9_54,c9_18,c9_12,l9_11,cw,cops,csW,csL,reduceIte,reduceEqDiff,reduceCtorEq,reduceAdd,reduceLT,reduceLeDiff,reduceSub,csF])
  (repeat refine And.intro (by first|omega|(simp;omega)) ?_)
  refine keep [0,1,4,16] ?_
  (try simp only[c9_17,cw,cops,csW,csL,reduceIte,reduceEqDiff,reduceCtorEq,reduceAdd,reduceLT,reduceLeDiff,reduceSub,csF])
  (repeat refine And.intro (by first|omega|(simp;omega)) ?_)
  by_cases hl:65<f.length
  ·have hI:(65:Int)<(f.length:Int):=by omega
   refine⟨fun hc => ?_,fun hc=>absurd hc (by simp;omega)⟩
   (try simp only[c9_16,c9_15,l9_13,cw,cops,csW,csL,reduceIte,reduceEqDiff,reduceCtorEq,reduceAdd,reduceLT,reduceLeDiff,reduceSub,csF])
   (repeat refine And.intro (by first|omega|(simp;omega)) ?_)
   refine⟨_,cx (rfault_con 9 0),?_⟩
   (try simp only[l9_14,cw,cops,csW,csL,reduceIte,reduceEqDiff,reduceCtorEq,reduceAdd,reduceLT,reduceLeDiff,reduceSub,csF])
   (repeat refine And.intro (by first|omega|(simp;omega)) ?_)
   refine keep [4] ?_
   (try simp only[cw,cops,csW,csL,reduceIte,reduceEqDiff,reduceCtorEq,reduceAdd,reduceLT,reduceLeDiff,reduceSub,csF,Ends,resD,resL,resV])
   (repeat refine And.intro (by first|omega|(simp;omega)) ?_)
   rw[chk_many hP hl]
  ·refine⟨fun hc=>absurd hc (by simp;omega),fun hc => ?_⟩
   (try simp only[cw,cops,csW,csL,reduceIte,reduceEqDiff,reduceCtorEq,reduceAdd,reduceLT,reduceLeDiff,reduceSub,csF])
   (repeat refine And.intro (by first|omega|(simp;omega)) ?_)
   refine keep [0,1,4] ?_
   (try simp only[c9_53,c9_40,c9_20,l9_19,cw,cops,csW,csL,reduceIte,reduceEqDiff,reduceCtorEq,reduceAdd,reduceLT,reduceLeDiff,reduceSub,csF])
   (repeat refine And.intro (by first|omega|(simp;omega)) ?_)
   refine keep [0,1,4,5] ?_
   (try simp only[c9_39,cw,cops,csW,csL,reduceIte,reduceEqDiff,reduceCtorEq,reduceAdd,reduceLT,reduceLeDiff,reduceSub,csF])
   refine loop_of (ι:=Nat) (fun i=>i≤f.length∧∀ j,j<i→0≤f.getD j 0∧f.getD j 0<p) (fun i=>⟨look [(0,.p (LT T f)),(1,.p (I p)),(4,.ptr 4 0 0),(5,.p (I i))],lookM [(4,⟨24,2,.box (.p (.agg [I 0,I 0])),false⟩)]⟩) (fun i=>f.length-i) 0 ⟨by omega,fun j hj=>by omega⟩ (Sub.rf _) ?_
   rintro i ⟨hi,hg⟩
   by_cases h:i<f.length
   ·have hi':(i:Int)<(f.length:Int):=by omega
    by_cases hn:f.getD i 0<0
    ·(try simp only[c9_37,c9_24,c9_22,l9_21,cw,cops,csW,csL,reduceIte,reduceEqDiff,reduceCtorEq,reduceAdd,reduceLT,reduceLeDiff,reduceSub,csF,hi'])
     (repeat refine And.intro (by first|omega|(simp;omega)) ?_)
     refine keep [0,1,4,5,21] ?_
     (try simp only[c9_23,cw,cops,csW,csL,reduceIte,reduceEqDiff,reduceCtorEq,reduceAdd,reduceLT,reduceLeDiff,reduceSub,csF,hi'])
     (repeat refine And.intro (by first|omega|(simp;omega)) ?_)
     (try simp only[cw,cops,csW,csL,reduceIte,reduceEqDiff,reduceCtorEq,reduceAdd,reduceLT,reduceLeDiff,reduceSub,csF,hi',hn])
     (repeat refine And.intro (by first|omega|(simp;omega)) ?_)
     refine keep [0,1,4,5] ?_
     (try simp only[c9_36,c9_33,c9_32,c9_26,l9_25,cw,cops,csW,csL,reduceIte,reduceEqDiff,reduceCtorEq,reduceAdd,reduceLT,reduceLeDiff,reduceSub,csF,hi',hn])
     (repeat refine And.intro (by first|omega|(simp;omega)) ?_)
     refine keep [0,1,4,5,36] ?_
     (try simp only[c9_31,cw,cops,csW,csL,reduceIte,reduceEqDiff,reduceCtorEq,reduceAdd,reduceLT,reduceLeDiff,reduceSub,csF,hi',hn])
     (repeat refine And.intro (by first|omega|(simp;omega)) ?_)
     (try simp only[c9_30,c9_29,l9_27,cw,cops,csW,csL,reduceIte,reduceEqDiff,reduceCtorEq,reduceAdd,reduceLT,reduceLeDiff,reduceSub,csF])
     (repeat refine And.intro (by first|omega|(simp;omega)) ?_)
     refine⟨_,cx (rfault_con 7 i),?_⟩
     (try simp only[l9_28,cw,cops,csW,csL,reduceIte,reduceEqDiff,reduceCtorEq,reduceAdd,reduceLT,reduceLeDiff,reduceSub,csF])
     (repeat refine And.intro (by first|omega|(simp;omega)) ?_)
     refine keep [4] ?_
     (try simp only[cw,cops,csW,csL,reduceIte,reduceEqDiff,reduceCtorEq,reduceAdd,reduceLT,reduceLeDiff,reduceSub,csF,Ends,resD,resL,resV])
     (repeat refine And.intro (by first|omega|(simp;omega)) ?_)
     rw[chk_bad hP hl h (by omega) hg]
    ·by_cases hn2:p≤f.getD i 0
     ·-- skip
      (try simp only[c9_37,c9_24,c9_22,l9_21,cw,cops,csW,csL,reduceIte,reduceEqDiff,reduceCtorEq,reduceAdd,reduceLT,reduceLeDiff,reduceSub,csF,hi'])
      (repeat refine And.intro (by first|omega|(simp;omega)) ?_)
      refine keep [0,1,4,5,21] ?_
      (try simp only[c9_23,cw,cops,csW,csL,reduceIte,reduceEqDiff,reduceCtorEq,reduceAdd,reduceLT,reduceLeDiff,reduceSub,csF,hi'])
      (repeat refine And.intro (by first|omega|(simp;omega)) ?_)
      (try simp only[cw,cops,csW,csL,reduceIte,reduceEqDiff,reduceCtorEq,reduceAdd,reduceLT,reduceLeDiff,reduceSub,csF,hi',hn,hn2])
      (repeat refine And.intro (by first|omega|(simp;omega)) ?_)
      refine keep [0,1,4,5] ?_
      (try simp only[c9_36,c9_33,c9_32,c9_26,l9_25,cw,cops,csW,csL,reduceIte,reduceEqDiff,reduceCtorEq,reduceAdd,reduceLT,reduceLeDiff,reduceSub,csF,hi',hn,hn2])
      (repeat refine And.intro (by first|omega|(simp;omega)) ?_)
      refine keep [0,1,4,5,36] ?_
      (try simp only[c9_31,cw,cops,csW,csL,reduceIte,reduceEqDiff,reduceCtorEq,reduceAdd,reduceLT,reduceLeDiff,reduceSub,csF,hi',hn,hn2])
      (repeat refine And.intro (by first|omega|(simp;omega)) ?_)
      (try simp only[c9_30,c9_29,l9_27,cw,cops,csW,csL,reduceIte,reduceEqDiff,reduceCtorEq,reduceAdd,reduceLT,reduceLeDiff,reduceSub,csF])
      (repeat refine And.intro (by first|omega|(simp;omega)) ?_)
      refine⟨_,cx (rfault_con 7 i),?_⟩
      (try simp only[l9_28,cw,cops,csW,csL,reduceIte,reduceEqDiff,reduceCtorEq,reduceAdd,reduceLT,reduceLeDiff,reduceSub,csF])
      (repeat refine And.intro (by first|omega|(simp;omega)) ?_)
      refine keep [4] ?_
      (try simp only[cw,cops,csW,csL,reduceIte,reduceEqDiff,reduceCtorEq,reduceAdd,reduceLT,reduceLeDiff,reduceSub,csF,Ends,resD,resL,resV])
      (repeat refine And.intro (by first|omega|(simp;omega)) ?_)
      rw[chk_bad hP hl h (by omega) hg]
     ·-- skip
      (try simp only[c9_37,c9_24,c9_22,l9_21,cw,cops,csW,csL,reduceIte,reduceEqDiff,reduceCtorEq,reduceAdd,reduceLT,reduceLeDiff,reduceSub,csF,hi'])
      (repeat refine And.intro (by first|omega|(simp;omega)) ?_)
      refine keep [0,1,4,5,21] ?_
      (try simp only[c9_23,cw,cops,csW,csL,reduceIte,reduceEqDiff,reduceCtorEq,reduceAdd,reduceLT,reduceLeDiff,reduceSub,csF,hi'])
      (repeat refine And.intro (by first|omega|(simp;omega)) ?_)
      (try simp only[cw,cops,csW,csL,reduceIte,reduceEqDiff,reduceCtorEq,reduceAdd,reduceLT,reduceLeDiff,reduceSub,csF,hi',hn,hn2])
      (repeat refine And.intro (by first|omega|(simp;omega)) ?_)
      refine keep [0,1,4,5] ?_
      (try simp only[c9_36,c9_33,c9_32,c9_26,l9_25,cw,cops,csW,csL,reduceIte,reduceEqDiff,reduceCtorEq,reduceAdd,reduceLT,reduceLeDiff,reduceSub,csF,hi',hn,hn2])
      (repeat refine And.intro (by first|omega|(simp;omega)) ?_)
      refine keep [0,1,4,5,36] ?_
      (try simp only[c9_31,cw,cops,csW,csL,reduceIte,reduceEqDiff,reduceCtorEq,reduceAdd,reduceLT,reduceLeDiff,reduceSub,csF,hi',hn,hn2])
      (repeat refine And.intro (by first|omega|(simp;omega)) ?_)
      (try simp only[cw,cops,csW,csL,reduceIte,reduceEqDiff,reduceCtorEq,reduceAdd,reduceLT,reduceLeDiff,reduceSub,csF])
      (repeat refine And.intro (by first|omega|(simp;omega)) ?_)
      refine keep [0,1,4,5] ?_
      (try simp only[c9_35,l9_34,cw,cops,csW,csL,reduceIte,reduceEqDiff,reduceCtorEq,reduceAdd,reduceLT,reduceLeDiff,reduceSub,csF])
      (repeat refine And.intro (by first|omega|(simp;omega)) ?_)
      refine⟨i+1,⟨by omega,fun j hj => ?_⟩,(Sub.toG [0,1,4,5] [] (by rfl) (by rfl) (by rfl) (by rfl)),by omega⟩
      by_cases hji:j<i
      ·exact hg j hji
      ·obtain rfl:j=i:=by omega
       omega
   ·have hi':¬ (i:Int)<(f.length:Int):=by omega
    have hif:i=f.length:=by omega
    subst hif
    by_cases hl0:0<f.length
    ·have hI:(0:Int)<(f.length:Int):=by omega
     have hG:(f.length:Int)-1=((f.length-1:Nat):Int):=by omega
     have hGl:((f.length-1:Nat):Int)<(f.length:Int):=by omega
     (try simp only[c9_37,c9_24,c9_22,l9_21,cw,cops,csW,csL,reduceIte,reduceEqDiff,reduceCtorEq,reduceAdd,reduceLT,reduceLeDiff,reduceSub,csF,hi'])
     (repeat refine And.intro (by first|omega|(simp;omega)) ?_)
     refine keep [0,1,4,5,21] ?_
     (try simp only[c9_23,cw,cops,csW,csL,reduceIte,reduceEqDiff,reduceCtorEq,reduceAdd,reduceLT,reduceLeDiff,reduceSub,csF,hi'])
     (repeat refine And.intro (by first|omega|(simp;omega)) ?_)
     (try simp only[cw,cops,csW,csL,reduceIte,reduceEqDiff,reduceCtorEq,reduceAdd,reduceLT,reduceLeDiff,reduceSub,csF,hi',hI,hG,hGl])
     (repeat refine And.intro (by first|omega|(simp;omega)) ?_)
     refine keep [0,4] ?_
     (try simp only[c9_52,c9_48,c9_42,l9_41,cw,cops,csW,csL,reduceIte,reduceEqDiff,reduceCtorEq,reduceAdd,reduceLT,reduceLeDiff,reduceSub,csF,hi',hI,hG,hGl])
     (repeat refine And.intro (by first|omega|(simp;omega)) ?_)
     refine keep [0,4,50] ?_
     (try simp only[c9_47,cw,cops,csW,csL,reduceIte,reduceEqDiff,reduceCtorEq,reduceAdd,reduceLT,reduceLeDiff,reduceSub,csF,hi',hI,hG,hGl])
     (repeat refine And.intro (by first|omega|(simp;omega)) ?_)
     refine⟨fun hc => ?_,fun hc => ?_⟩
     ·(try simp only[c9_46,c9_45,l9_43,cw,cops,csW,csL,reduceIte,reduceEqDiff,reduceCtorEq,reduceAdd,reduceLT,reduceLeDiff,reduceSub,csF,hG])
      (repeat refine And.intro (by first|omega|(simp;omega)) ?_)
      refine⟨_,cx (rfault_con 3 _),?_⟩
      (try simp only[l9_44,cw,cops,csW,csL,reduceIte,reduceEqDiff,reduceCtorEq,reduceAdd,reduceLT,reduceLeDiff,reduceSub,csF])
      (repeat refine And.intro (by first|omega|(simp;omega)) ?_)
      refine keep [4] ?_
      (try simp only[cw,cops,csW,csL,reduceIte,reduceEqDiff,reduceCtorEq,reduceAdd,reduceLT,reduceLeDiff,reduceSub,csF,Ends,resD,resL,resV])
      (repeat refine And.intro (by first|omega|(simp;omega)) ?_)
      rw[chk_form hP hl hg hl0 hc]
     ·(try simp only[cw,cops,csW,csL,reduceIte,reduceEqDiff,reduceCtorEq,reduceAdd,reduceLT,reduceLeDiff,reduceSub,csF,hG])
      (repeat refine And.intro (by first|omega|(simp;omega)) ?_)
      refine keep [4] ?_
      (try simp only[c9_51,c9_50,l9_49,cw,cops,csW,csL,reduceIte,reduceEqDiff,reduceCtorEq,reduceAdd,reduceLT,reduceLeDiff,reduceSub,csF,hG])
      (repeat refine And.intro (by first|omega|(simp;omega)) ?_)
      refine keep [4] ?_
      (try simp only[cw,cops,csW,csL,reduceIte,reduceEqDiff,reduceCtorEq,reduceAdd,reduceLT,reduceLeDiff,reduceSub,csF,Ends,resD,resL,resV,hG])
      (repeat refine And.intro (by first|omega|(simp;omega)) ?_)
      rw[chk_ok hP hl hg (fun hh=>of_decide_eq_false hc hh.2)]
    ·have hI:¬ (0:Int)<(f.length:Int):=by omega
     (try simp only[c9_37,c9_24,c9_22,l9_21,cw,cops,csW,csL,reduceIte,reduceEqDiff,reduceCtorEq,reduceAdd,reduceLT,reduceLeDiff,reduceSub,csF,hi'])
     (repeat refine And.intro (by first|omega|(simp;omega)) ?_)
     refine keep [0,1,4,5,21] ?_
     (try simp only[c9_23,cw,cops,csW,csL,reduceIte,reduceEqDiff,reduceCtorEq,reduceAdd,reduceLT,reduceLeDiff,reduceSub,csF,hi'])
     (repeat refine And.intro (by first|omega|(simp;omega)) ?_)
     (try simp only[cw,cops,csW,csL,reduceIte,reduceEqDiff,reduceCtorEq,reduceAdd,reduceLT,reduceLeDiff,reduceSub,csF,hi',hI])
     (repeat refine And.intro (by first|omega|(simp;omega)) ?_)
     refine keep [0,4] ?_
     (try simp only[c9_52,c9_48,c9_42,l9_41,cw,cops,csW,csL,reduceIte,reduceEqDiff,reduceCtorEq,reduceAdd,reduceLT,reduceLeDiff,reduceSub,csF,hi',hI])
     (repeat refine And.intro (by first|omega|(simp;omega)) ?_)
     refine keep [0,4,50] ?_
     (try simp only[c9_47,cw,cops,csW,csL,reduceIte,reduceEqDiff,reduceCtorEq,reduceAdd,reduceLT,reduceLeDiff,reduceSub,csF,hi',hI])
     (repeat refine And.intro (by first|omega|(simp;omega)) ?_)
     (try simp only[cw,cops,csW,csL,reduceIte,reduceEqDiff,reduceCtorEq,reduceAdd,reduceLT,reduceLeDiff,reduceSub,csF,hI])
     (repeat refine And.intro (by first|omega|(simp;omega)) ?_)
     refine keep [4] ?_
     (try simp only[c9_51,c9_50,l9_49,cw,cops,csW,csL,reduceIte,reduceEqDiff,reduceCtorEq,reduceAdd,reduceLT,reduceLeDiff,reduceSub,csF,hI])
     (repeat refine And.intro (by first|omega|(simp;omega)) ?_)
     refine keep [4] ?_
     (try simp only[cw,cops,csW,csL,reduceIte,reduceEqDiff,reduceCtorEq,reduceAdd,reduceLT,reduceLeDiff,reduceSub,csF,Ends,resD,resL,resV,hI])
     (repeat refine And.intro (by first|omega|(simp;omega)) ?_)
     rw[chk_ok hP hl hg (fun hh=>hl0 hh.1)]
 ·by_cases hpb:1073741824<p
  ·refine fn9.con rfl (by simp) ?_
   (try simp only[init2,c9,c9_56,c9_1,l9_0,cw,cops,csW,csL,reduceIte,reduceEqDiff,reduceCtorEq,reduceAdd,reduceLT,reduceLeDiff,reduceSub,csF,hpb])
   (repeat refine And.intro (by first|omega|(simp;omega)) ?_)
   refine keep [0,1,4] ?_
   (try simp only[c9_55,c9_10,c9_4,l9_2,cw,cops,csW,csL,reduceIte,reduceEqDiff,reduceCtorEq,reduceAdd,reduceLT,reduceLeDiff,reduceSub,csF,hpb])
   (repeat refine And.intro (by first|omega|(simp;omega)) ?_)
   (try simp only[l9_3,cw,cops,csW,csL,reduceIte,reduceEqDiff,reduceCtorEq,reduceAdd,reduceLT,reduceLeDiff,reduceSub,csF,hpb])
   (repeat refine And.intro (by first|omega|(simp;omega)) ?_)
   refine keep [0,1,4,12] ?_
   (try simp only[c9_9,cw,cops,csW,csL,reduceIte,reduceEqDiff,reduceCtorEq,reduceAdd,reduceLT,reduceLeDiff,reduceSub,csF,hpb])
   (repeat refine And.intro (by first|omega|(simp;omega)) ?_)
   (try simp only[c9_8,c9_7,l9_5,cw,cops,csW,csL,reduceIte,reduceEqDiff,reduceCtorEq,reduceAdd,reduceLT,reduceLeDiff,reduceSub,csF])
   (repeat refine And.intro (by first|omega|(simp;omega)) ?_)
   refine⟨_,cx (rfault_con 6 0),?_⟩
   (try simp only[l9_6,cw,cops,csW,csL,reduceIte,reduceEqDiff,reduceCtorEq,reduceAdd,reduceLT,reduceLeDiff,reduceSub,csF])
   (repeat refine And.intro (by first|omega|(simp;omega)) ?_)
   refine keep [4] ?_
   (try simp only[cw,cops,csW,csL,reduceIte,reduceEqDiff,reduceCtorEq,reduceAdd,reduceLT,reduceLeDiff,reduceSub,csF,Ends,resD,resL,resV])
   (repeat refine And.intro (by first|omega|(simp;omega)) ?_)
   rw[chk_prime hP]
  ·refine fn9.con rfl (by simp) ?_
   (try simp only[init2,c9,c9_56,c9_1,l9_0,cw,cops,csW,csL,reduceIte,reduceEqDiff,reduceCtorEq,reduceAdd,reduceLT,reduceLeDiff,reduceSub,csF,hpb])
   (repeat refine And.intro (by first|omega|(simp;omega)) ?_)
   refine keep [0,1,4] ?_
   (try simp only[c9_55,c9_10,c9_4,l9_2,cw,cops,csW,csL,reduceIte,reduceEqDiff,reduceCtorEq,reduceAdd,reduceLT,reduceLeDiff,reduceSub,csF,hpb])
   (repeat refine And.intro (by first|omega|(simp;omega)) ?_)
   refine⟨_,cx (isPrime_con p false (by omega) (by simp[hP])),?_⟩
   (try simp only[l9_3,cw,cops,csW,csL,reduceIte,reduceEqDiff,reduceCtorEq,reduceAdd,reduceLT,reduceLeDiff,reduceSub,csF])
   (repeat refine And.intro (by first|omega|(simp;omega)) ?_)
   refine keep [0,1,4,12] ?_
   (try simp only[c9_9,cw,cops,csW,csL,reduceIte,reduceEqDiff,reduceCtorEq,reduceAdd,reduceLT,reduceLeDiff,reduceSub,csF])
   (repeat refine And.intro (by first|omega|(simp;omega)) ?_)
   (try simp only[c9_8,c9_7,l9_5,cw,cops,csW,csL,reduceIte,reduceEqDiff,reduceCtorEq,reduceAdd,reduceLT,reduceLeDiff,reduceSub,csF])
   (repeat refine And.intro (by first|omega|(simp;omega)) ?_)
   refine⟨_,cx (rfault_con 6 0),?_⟩
   (try simp only[l9_6,cw,cops,csW,csL,reduceIte,reduceEqDiff,reduceCtorEq,reduceAdd,reduceLT,reduceLeDiff,reduceSub,csF])
   (repeat refine And.intro (by first|omega|(simp;omega)) ?_)
   refine keep [4] ?_
   (try simp only[cw,cops,csW,csL,reduceIte,reduceEqDiff,reduceCtorEq,reduceAdd,reduceLT,reduceLeDiff,reduceSub,csF,Ends,resD,resL,resV])
   (repeat refine And.intro (by first|omega|(simp;omega)) ?_)
   rw[chk_prime hP]
end Go.Proofs.Ytlnhembcfhfpkaa.M
