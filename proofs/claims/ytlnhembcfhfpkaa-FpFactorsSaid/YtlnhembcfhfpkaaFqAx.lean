/- Polynomials modulo a prime: the small functions walked. -/
import Derived.Test.YtlnhembcfhfpkaaK4
import Derived.Test.YtlnhembcfhfpkaaFqCCx
namespace Go.Proofs.Ytlnhembcfhfpkaa.M
open Go.RowKit
open Nat (reduceEqDiff reduceAdd reduceLT reduceLeDiff reduceSub)
set_option linter.unusedSimpArgs false
set_option linter.unusedVariables false
def NoDiv (p:Int) (n:Nat):Prop:=∀ d:Nat,2≤d→d<n→(d:Int)*d≤p→p.tmod d≠0
def Prime (p:Int):Prop:=2≤p∧∀ n,NoDiv p n
def IsP (p:Int):Prop:=Prime p∧p≤1073741824
theorem sq_bound {d:Nat} {p:Int} (h:(d:Int)*d≤p) (hp:p≤1073741824):d≤32768:=by
 rcases Nat.lt_or_ge 32768 d with hlt | hge
 ·have h1:32769*32769≤d*d:=Nat.mul_le_mul hlt hlt
  have h2:((d*d:Nat):Int)=(d:Int)*d:=by simp
  omega
 ·exact hge
theorem sq_small {d:Nat} (h:d≤32769):0≤(d:Int)*d∧(d:Int)*d≤1073807361:=by
 have h1:d*d≤32769*32769:=Nat.mul_le_mul h h
 have h2:((d*d:Nat):Int)=(d:Int)*d:=by simp
 omega
theorem prime_stop {p:Int} {d:Nat} (h2:2≤p) (hn:NoDiv p d) (h:¬ (d:Int)*d≤p):Prime p:=by
 refine⟨h2,fun n e he hlt hle => ?_⟩
 rcases Nat.lt_or_ge e d with hh | hh
 ·exact hn e he hh hle
 ·exfalso
  have h1:d*d≤e*e:=Nat.mul_le_mul hh hh
  have h2:((d*d:Nat):Int)=(d:Int)*d:=by simp
  have h3:((e*e:Nat):Int)=(e:Int)*e:=by simp
  omega
set_option maxHeartbeats 400000 in
theorem prime_con (p:Int) (b:Bool) (hb:b=true↔IsP p):Con Try.prog [] 46 [I p] (.bool b):=by
 by_cases h2:p<2
 ·have hbf:b=false:=by
   cases b with
   | false=>rfl
   | true=>have:=(hb.1 rfl).1.1;omega
  refine fn46.con rfl (by simp) ?_
  (try simp only[init1,c46,c46_35,c46_1,l46_0,cw,cops,csW,csL,reduceIte,reduceEqDiff,reduceCtorEq,reduceAdd,reduceLT,reduceLeDiff,reduceSub,h2])
  (repeat refine And.intro (by first|omega|(simp;omega)) ?_)
  refine keep [0] ?_
  (try simp only[c46_34,c46_8,c46_3,l46_2,cw,cops,csW,csL,reduceIte,reduceEqDiff,reduceCtorEq,reduceAdd,reduceLT,reduceLeDiff,reduceSub,h2])
  (repeat refine And.intro (by first|omega|(simp;omega)) ?_)
  refine keep [0,9] ?_
  (try simp only[c46_7,cw,cops,csW,csL,reduceIte,reduceEqDiff,reduceCtorEq,reduceAdd,reduceLT,reduceLeDiff,reduceSub,h2])
  (repeat refine And.intro (by first|omega|(simp;omega)) ?_)
  (try simp only[c46_6,c46_5,l46_4,cw,cops,csW,csL,reduceIte,reduceEqDiff,reduceCtorEq,reduceAdd,reduceLT,reduceLeDiff,reduceSub])
  (repeat refine And.intro (by first|omega|(simp;omega)) ?_)
  refine keep [2] ?_
  (try simp only[cw,cops,csW,csL,reduceIte,reduceEqDiff,reduceCtorEq,reduceAdd,reduceLT,reduceLeDiff,reduceSub,Ends,resD,resL,resV])
  (repeat refine And.intro (by first|omega|(simp;omega)) ?_)
  rw[hbf]
 ·by_cases h3:1073741824<p
  ·have hbf:b=false:=by
    cases b with
    | false=>rfl
    | true=>have:=(hb.1 rfl).2;omega
   refine fn46.con rfl (by simp) ?_
   (try simp only[init1,c46,c46_35,c46_1,l46_0,cw,cops,csW,csL,reduceIte,reduceEqDiff,reduceCtorEq,reduceAdd,reduceLT,reduceLeDiff,reduceSub,h2,h3])
   (repeat refine And.intro (by first|omega|(simp;omega)) ?_)
   refine keep [0] ?_
   (try simp only[c46_34,c46_8,c46_3,l46_2,cw,cops,csW,csL,reduceIte,reduceEqDiff,reduceCtorEq,reduceAdd,reduceLT,reduceLeDiff,reduceSub,h2,h3])
   (repeat refine And.intro (by first|omega|(simp;omega)) ?_)
   refine keep [0,9] ?_
   (try simp only[c46_7,cw,cops,csW,csL,reduceIte,reduceEqDiff,reduceCtorEq,reduceAdd,reduceLT,reduceLeDiff,reduceSub,h2,h3])
   (repeat refine And.intro (by first|omega|(simp;omega)) ?_)
   (try simp only[c46_6,c46_5,l46_4,cw,cops,csW,csL,reduceIte,reduceEqDiff,reduceCtorEq,reduceAdd,reduceLT,reduceLeDiff,reduceSub])
   (repeat refine And.intro (by first|omega|(simp;omega)) ?_)
   refine keep [2] ?_
   (try simp only[cw,cops,csW,csL,reduceIte,reduceEqDiff,reduceCtorEq,reduceAdd,reduceLT,reduceLeDiff,reduceSub,Ends,resD,resL,resV])
   (repeat refine And.intro (by first|omega|(simp;omega)) ?_)
   rw[hbf]
  ·refine fn46.con rfl (by simp) ?_
   (try simp only[init1,c46,c46_35,c46_1,l46_0,cw,cops,csW,csL,reduceIte,reduceEqDiff,reduceCtorEq,reduceAdd,reduceLT,reduceLeDiff,reduceSub,h2,h3])
   (repeat refine And.intro (by first|omega|(simp;omega)) ?_)
   refine keep [0] ?_
   (try simp only[c46_34,c46_8,c46_3,l46_2,cw,cops,csW,csL,reduceIte,reduceEqDiff,reduceCtorEq,reduceAdd,reduceLT,reduceLeDiff,reduceSub,h2,h3])
   (repeat refine And.intro (by first|omega|(simp;omega)) ?_)
   refine keep [0,9] ?_
   (try simp only[c46_7,cw,cops,csW,csL,reduceIte,reduceEqDiff,reduceCtorEq,reduceAdd,reduceLT,reduceLeDiff,reduceSub,h2,h3])
   (repeat refine And.intro (by first|omega|(simp;omega)) ?_)
   (try simp only[cw,cops,csW,csL,reduceIte,reduceEqDiff,reduceCtorEq,reduceAdd,reduceLT,reduceLeDiff,reduceSub])
   (repeat refine And.intro (by first|omega|(simp;omega)) ?_)
   refine keep [0] ?_
   (try simp only[c46_33,c46_29,c46_10,l46_9,cw,cops,csW,csL,reduceIte,reduceEqDiff,reduceCtorEq,reduceAdd,reduceLT,reduceLeDiff,reduceSub])
   (repeat refine And.intro (by first|omega|(simp;omega)) ?_)
   refine keep [0,3] ?_
   (try simp only[c46_28,cw,cops,csW,csL,reduceIte,reduceEqDiff,reduceCtorEq,reduceAdd,reduceLT,reduceLeDiff,reduceSub])
   refine loop_of (ι:=Nat) (fun d=>2≤d∧d≤32769∧NoDiv p d) (fun d=>⟨look [(0,.p (I p)),(3,.p (I d))],lookM []⟩) (fun d=>32770-d) 2 ⟨by omega,by omega,fun e he hlt=>by omega⟩ (Sub.rf _) ?_
   rintro d ⟨hd,hd2,hn⟩
   have hs:=sq_small hd2
   by_cases hle:(d:Int)*d≤p
   ·(try simp only[c46_26,c46_14,c46_12,l46_11,cw,cops,csW,csL,reduceIte,reduceEqDiff,reduceCtorEq,reduceAdd,reduceLT,reduceLeDiff,reduceSub,hle])
    (repeat refine And.intro (by first|omega|(simp;omega)) ?_)
    refine keep [0,3,14] ?_
    (try simp only[c46_13,cw,cops,csW,csL,reduceIte,reduceEqDiff,reduceCtorEq,reduceAdd,reduceLT,reduceLeDiff,reduceSub,hle])
    (repeat refine And.intro (by first|omega|(simp;omega)) ?_)
    (try simp only[cw,cops,csW,csL,reduceIte,reduceEqDiff,reduceCtorEq,reduceAdd,reduceLT,reduceLeDiff,reduceSub])
    (repeat refine And.intro (by first|omega|(simp;omega)) ?_)
    refine keep [0,3] ?_
    (try simp only[c46_25,c46_22,c46_21,c46_16,l46_15,cw,cops,csW,csL,reduceIte,reduceEqDiff,reduceCtorEq,reduceAdd,reduceLT,reduceLeDiff,reduceSub])
    (repeat refine And.intro (by first|omega|(simp;omega)) ?_)
    refine keep [0,3,20] ?_
    (try simp only[c46_20,cw,cops,csW,csL,reduceIte,reduceEqDiff,reduceCtorEq,reduceAdd,reduceLT,reduceLeDiff,reduceSub])
    (repeat refine And.intro (by first|omega|(simp;omega)) ?_)
    refine⟨fun hc => ?_,fun hc => ?_⟩
    ·(try simp only[c46_19,c46_18,l46_17,cw,cops,csW,csL,reduceIte,reduceEqDiff,reduceCtorEq,reduceAdd,reduceLT,reduceLeDiff,reduceSub])
     (repeat refine And.intro (by first|omega|(simp;omega)) ?_)
     refine keep [2] ?_
     (try simp only[cw,cops,csW,csL,reduceIte,reduceEqDiff,reduceCtorEq,reduceAdd,reduceLT,reduceLeDiff,reduceSub,Ends,resD,resL,resV])
     (repeat refine And.intro (by first|omega|(simp;omega)) ?_)
     cases b with
     | false=>rfl
     | true=>exact absurd (by simpa using hc) ((hb.1 rfl).1.2 (d+1) d hd (by omega) hle)
    ·(try simp only[cw,cops,csW,csL,reduceIte,reduceEqDiff,reduceCtorEq,reduceAdd,reduceLT,reduceLeDiff,reduceSub])
     (repeat refine And.intro (by first|omega|(simp;omega)) ?_)
     refine keep [0,3] ?_
     (try simp only[c46_24,l46_23,cw,cops,csW,csL,reduceIte,reduceEqDiff,reduceCtorEq,reduceAdd,reduceLT,reduceLeDiff,reduceSub])
     (repeat refine And.intro (by first|omega|(simp;omega)) ?_)
     refine⟨d+1,⟨by omega,by have:=sq_bound hle (by omega);omega,fun e he hlt hle' => ?_⟩,(Sub.toG [0,3] [] (by rfl) (by rfl) (by rfl) (by rfl)),by omega⟩
     rcases Nat.lt_or_ge e d with hh | hh
     ·exact hn e he hh hle'
     ·obtain rfl:e=d:=by omega
      simpa using hc
   ·-- skip
    (try simp only[c46_26,c46_14,c46_12,l46_11,cw,cops,csW,csL,reduceIte,reduceEqDiff,reduceCtorEq,reduceAdd,reduceLT,reduceLeDiff,reduceSub,hle])
    (repeat refine And.intro (by first|omega|(simp;omega)) ?_)
    refine keep [0,3,14] ?_
    (try simp only[c46_13,cw,cops,csW,csL,reduceIte,reduceEqDiff,reduceCtorEq,reduceAdd,reduceLT,reduceLeDiff,reduceSub,hle])
    (repeat refine And.intro (by first|omega|(simp;omega)) ?_)
    (try simp only[cw,cops,csW,csL,reduceIte,reduceEqDiff,reduceCtorEq,reduceAdd,reduceLT,reduceLeDiff,reduceSub])
    (repeat refine And.intro (by first|omega|(simp;omega)) ?_)
    refine keep [] ?_
    (try simp only[c46_32,c46_31,l46_30,cw,cops,csW,csL,reduceIte,reduceEqDiff,reduceCtorEq,reduceAdd,reduceLT,reduceLeDiff,reduceSub])
    (repeat refine And.intro (by first|omega|(simp;omega)) ?_)
    refine keep [2] ?_
    (try simp only[cw,cops,csW,csL,reduceIte,reduceEqDiff,reduceCtorEq,reduceAdd,reduceLT,reduceLeDiff,reduceSub,Ends,resD,resL,resV])
    (repeat refine And.intro (by first|omega|(simp;omega)) ?_)
    rw[hb.2 ⟨prime_stop (by omega) hn hle,by omega⟩]
set_option maxHeartbeats 400000 in
theorem made_con {T:Nat} (l:List Int) (h:l.length≤9223372036854775807):Con Try.prog [] 61 [LT T l] (LT T (trim l)):=by
 refine fn61.con rfl (by simp) ?_
 (try simp only[init1,c61,c61_19,c61_1,l61_0,cw,cops,csW,csL,reduceIte,reduceEqDiff,reduceCtorEq,reduceAdd,reduceLT,reduceLeDiff,reduceSub])
 (repeat refine And.intro (by first|omega|(simp;omega)) ?_)
 refine keep [0] ?_
 (try simp only[c61_18,c61_3,l61_2,cw,cops,csW,csL,reduceIte,reduceEqDiff,reduceCtorEq,reduceAdd,reduceLT,reduceLeDiff,reduceSub])
 (repeat refine And.intro (by first|omega|(simp;omega)) ?_)
 refine keep [0,3] ?_
 (try simp only[c61_17,c61_13,cw,cops,csW,csL,reduceIte,reduceEqDiff,reduceCtorEq,reduceAdd,reduceLT,reduceLeDiff,reduceSub])
 refine loop_of (ι:=Nat) (fun n=>n≤l.length∧trim (l.take n)=trim l) (fun n=>⟨look [(0,.p (LT T l)),(3,.p (I n))],lookM []⟩) (fun n=>n) l.length ⟨by omega,by simp⟩ (Sub.rf _) ?_
 rintro n ⟨hn,ht⟩
 rcases n with _ | k
 ·have hp':¬ ((0:Int)<0):=by omega
  (try simp only[c61_11,c61_7,c61_5,l61_4,cw,cops,csW,csL,reduceIte,reduceEqDiff,reduceCtorEq,reduceAdd,reduceLT,reduceLeDiff,reduceSub,hp'])
  (repeat refine And.intro (by first|omega|(simp;omega)) ?_)
  refine keep [0,3,15] ?_
  (try simp only[c61_6,cw,cops,csW,csL,reduceIte,reduceEqDiff,reduceCtorEq,reduceAdd,reduceLT,reduceLeDiff,reduceSub,hp'])
  (repeat refine And.intro (by first|omega|(simp;omega)) ?_)
  (try simp only[cw,cops,csW,csL,reduceIte,reduceEqDiff,reduceCtorEq,reduceAdd,reduceLT,reduceLeDiff,reduceSub])
  (repeat refine And.intro (by first|omega|(simp;omega)) ?_)
  refine keep [0,3] ?_
  (try simp only[c61_16,c61_15,l61_14,cw,cops,csW,csL,reduceIte,reduceEqDiff,reduceCtorEq,reduceAdd,reduceLT,reduceLeDiff,reduceSub])
  (repeat refine And.intro (by first|omega|(simp;omega)) ?_)
  refine keep [2] ?_
  (try simp only[cw,cops,csW,csL,reduceIte,reduceEqDiff,reduceCtorEq,reduceAdd,reduceLT,reduceLeDiff,reduceSub,Ends,resD,resL,resV])
  (repeat refine And.intro (by first|omega|(simp;omega)) ?_)
  rw[←ht]
  rfl
 ·have hp':(0:Int)<(k:Int)+1:=by omega
  have htk:=trim_take (l:=l) (k:=k) (by omega)
  (try simp only[c61_11,c61_7,c61_5,l61_4,cw,cops,csW,csL,reduceIte,reduceEqDiff,reduceCtorEq,reduceAdd,reduceLT,reduceLeDiff,reduceSub,hp'])
  (repeat refine And.intro (by first|omega|(simp;omega)) ?_)
  refine keep [0,3,15] ?_
  (try simp only[c61_6,cw,cops,csW,csL,reduceIte,reduceEqDiff,reduceCtorEq,reduceAdd,reduceLT,reduceLeDiff,reduceSub,hp'])
  (repeat refine And.intro (by first|omega|(simp;omega)) ?_)
  refine⟨fun hc => ?_,fun hc => ?_⟩
  ·(try simp only[cw,cops,csW,csL,reduceIte,reduceEqDiff,reduceCtorEq,reduceAdd,reduceLT,reduceLeDiff,reduceSub])
   (repeat refine And.intro (by first|omega|(simp;omega)) ?_)
   refine keep [0,3] ?_
   (try simp only[c61_10,c61_9,l61_8,cw,cops,csW,csL,reduceIte,reduceEqDiff,reduceCtorEq,reduceAdd,reduceLT,reduceLeDiff,reduceSub])
   (repeat refine And.intro (by first|omega|(simp;omega)) ?_)
   rw[if_pos hc] at htk
   exact⟨k,⟨by omega,htk.symm.trans ht⟩,(Sub.toG [0,3] [] (by rfl) (by rfl) (by rfl) (by rfl)),by omega⟩
  ·(try simp only[cw,cops,csW,csL,reduceIte,reduceEqDiff,reduceCtorEq,reduceAdd,reduceLT,reduceLeDiff,reduceSub])
   (repeat refine And.intro (by first|omega|(simp;omega)) ?_)
   refine keep [0,3] ?_
   (try simp only[c61_16,c61_15,l61_14,cw,cops,csW,csL,reduceIte,reduceEqDiff,reduceCtorEq,reduceAdd,reduceLT,reduceLeDiff,reduceSub])
   (repeat refine And.intro (by first|omega|(simp;omega)) ?_)
   refine keep [2] ?_
   (try simp only[cw,cops,csW,csL,reduceIte,reduceEqDiff,reduceCtorEq,reduceAdd,reduceLT,reduceLeDiff,reduceSub,Ends,resD,resL,resV])
   (repeat refine And.intro (by first|omega|(simp;omega)) ?_)
   rw[if_neg (by simpa using hc)] at htk
   rw[←ht,htk]
theorem at_con {T:Nat} (l:List Int) (i:Nat):Con Try.prog [] 63 [LT T l,I i] (I (l.getD i 0)):=by
 refine fn63.con rfl (by simp) ?_
 by_cases h:i<l.length
 ·have hI:(i:Int)<(l.length:Int):=by omega
  (try simp only[init2,c63,c63_13,c63_1,l63_0,cw,cops,csW,csL,reduceIte,reduceEqDiff,reduceCtorEq,reduceAdd,reduceLT,reduceLeDiff,reduceSub,hI])
  (repeat refine And.intro (by first|omega|(simp;omega)) ?_)
  refine keep [0,1] ?_
  (try simp only[c63_12,c63_8,c63_3,l63_2,cw,cops,csW,csL,reduceIte,reduceEqDiff,reduceCtorEq,reduceAdd,reduceLT,reduceLeDiff,reduceSub,hI])
  (repeat refine And.intro (by first|omega|(simp;omega)) ?_)
  refine keep [0,1,8] ?_
  (try simp only[c63_7,cw,cops,csW,csL,reduceIte,reduceEqDiff,reduceCtorEq,reduceAdd,reduceLT,reduceLeDiff,reduceSub,hI])
  (repeat refine And.intro (by first|omega|(simp;omega)) ?_)
  (try simp only[c63_6,c63_5,l63_4,cw,cops,csW,csL,reduceIte,reduceEqDiff,reduceCtorEq,reduceAdd,reduceLT,reduceLeDiff,reduceSub,hI])
  (repeat refine And.intro (by first|omega|(simp;omega)) ?_)
  refine keep [4] ?_
  (try simp only[cw,cops,csW,csL,reduceIte,reduceEqDiff,reduceCtorEq,reduceAdd,reduceLT,reduceLeDiff,reduceSub,Ends,resD,resL,resV,hI])
  (repeat refine And.intro (by first|omega|(simp;omega)) ?_)
 ·have hI:¬ (i:Int)<(l.length:Int):=by omega
  have h0:l.getD i 0=0:=by simp[List.getD_eq_getElem?_getD,List.getElem?_eq_none (Nat.not_lt.1 h)]
  (try simp only[init2,c63,c63_13,c63_1,l63_0,cw,cops,csW,csL,reduceIte,reduceEqDiff,reduceCtorEq,reduceAdd,reduceLT,reduceLeDiff,reduceSub,hI])
  (repeat refine And.intro (by first|omega|(simp;omega)) ?_)
  refine keep [0,1] ?_
  (try simp only[c63_12,c63_8,c63_3,l63_2,cw,cops,csW,csL,reduceIte,reduceEqDiff,reduceCtorEq,reduceAdd,reduceLT,reduceLeDiff,reduceSub,hI])
  (repeat refine And.intro (by first|omega|(simp;omega)) ?_)
  refine keep [0,1,8] ?_
  (try simp only[c63_7,cw,cops,csW,csL,reduceIte,reduceEqDiff,reduceCtorEq,reduceAdd,reduceLT,reduceLeDiff,reduceSub,hI])
  (repeat refine And.intro (by first|omega|(simp;omega)) ?_)
  (try simp only[cw,cops,csW,csL,reduceIte,reduceEqDiff,reduceCtorEq,reduceAdd,reduceLT,reduceLeDiff,reduceSub,hI])
  (repeat refine And.intro (by first|omega|(simp;omega)) ?_)
  refine keep [] ?_
  (try simp only[c63_11,c63_10,l63_9,cw,cops,csW,csL,reduceIte,reduceEqDiff,reduceCtorEq,reduceAdd,reduceLT,reduceLeDiff,reduceSub,hI])
  (repeat refine And.intro (by first|omega|(simp;omega)) ?_)
  refine keep [4] ?_
  (try simp only[cw,cops,csW,csL,reduceIte,reduceEqDiff,reduceCtorEq,reduceAdd,reduceLT,reduceLeDiff,reduceSub,Ends,resD,resL,resV,hI])
  (repeat refine And.intro (by first|omega|(simp;omega)) ?_)
  rw[h0]
end Go.Proofs.Ytlnhembcfhfpkaa.M
