/- Polynomials of the program and of the reference: sums, multiples, differences. -/
import Derived.Test.YtkidkimjdiichaaGreatPoAw
namespace Go.Proofs.YtkidkimjdiichaaGreat.M
open Go.RowKit
set_option linter.unusedSimpArgs false
set_option linter.unusedVariables false
set_option linter.defProp false
theorem at_nat (l:List Rat) (i:Nat):Con Tryz.prog AN 32 [pI l,J i] (qI (cf l i)):=by have:=at_con l i;rwa[cfZ_nat] at this
theorem pat_nat (l:List Rat) (i:Nat):Con Tryz.prog AN 35 [LZ l,J i] (qZ (cf l i)):=by have:=pat_con l i;rwa[cfZ_nat] at this
def part (N:Nat) (f:Nat→Rat) (i:Nat):List Rat:=tab N fun j=>if j<i then f j else 0
theorem part_0 (N:Nat) (f:Nat→Rat):part N f 0=List.replicate N 0:=by apply List.ext_getElem<;>simp[part,tab]
theorem part_len (N:Nat) (f:Nat→Rat) (i:Nat):(part N f i).length=N:=tab_len _ _
theorem part_set {N:Nat} {f:Nat→Rat} {i:Nat} (h:i<N):(part N f i).set i (f i)=part N f (i+1):=by
 unfold part
 rw[tab_set]
 refine tab_ext fun j hj => ?_
 by_cases e:j=i
 ·subst e;rw[if_pos rfl,if_pos (by omega)]
 ·rw[if_neg e]
  by_cases hj:j<i
  ·rw[if_pos hj,if_pos (by omega)]
  ·rw[if_neg hj,if_neg (by omega)]
theorem part_all (N:Nat) (f:Nat→Rat):part N f N=tab N f:=tab_ext fun j hj=>if_pos hj
theorem tab_succ (N:Nat) (f:Nat→Rat):tab N f++[f N]=tab (N+1) f:=by simp[tab,List.range_succ]
abbrev zPoly:AV:=.p (.agg [.list 52 4 []])
set_option maxHeartbeats 1000000 in
theorem add_con (l m:List Rat) (n:Nat) (hl:Bl n l) (hm:Bl n m) (hs:∀ i,Bq n (cf l i+cf m i)) (hn:n≤big) (h1:l.length≤1000000) (h2:m.length≤1000000):Con Tryz.prog AN 17 [pI l,pI m] (pI (addQ l m)):=by
 obtain⟨N,hN⟩:∃ N,N=max l.length m.length:=⟨_,rfl⟩
 have hmx:(if (m.length:Int) > (l.length:Int) then (m.length:Int) else (l.length:Int))=(N:Int):=by split<;>omega
 refine fn17.con rfl (by simp) ?_
 simp only[c17,c17_32,c17_1,l17_0,init2,cw,csW,cops,reduceCtorEq,Nat.reduceEqDiff]
 refine keep [2,3,4] ?_
 simp only[c17_31,c17_3,l17_2,csQ,csW,reduceCtorEq,Nat.reduceEqDiff,cw,cops,csM,hmx]
 (repeat refine And.intro (by first | omega | (simp;omega)) ?_)
 refine keep [2,3,4,5] ?_
 simp only[c17_30,c17_25,c17_5,l17_4,csW,Nat.reduceEqDiff,cw,cops]
 refine keep [2,3,4,5,16,17] ?_
 simp only[c17_24,csW,Nat.reduceEqDiff,cw]
 refine loop_of (ι:=Nat) (fun i=>i≤N) (fun i=>⟨look [(2,.ptr 2 0 0),(3,.ptr 3 0 0),(4,.ptr 4 0 0),(5,.slice 14 0 N),(16,.p (J N)),(17,.p (J i))],
  lookM [(2,⟨25,1,.box (.p (pI l)),false⟩),(3,⟨25,1,.box (.p (pI m)),false⟩),(4,⟨25,1,.box zPoly,false⟩),(14,⟨52,4,.row ((part N (fun j=>cf l j+cf m j) i).map qI),false⟩)]⟩) (fun i=>N-i) 0 (by omega) (by rw[part_0];exact Sub.rf _) ?_
 rintro i hi
 by_cases h:i<N
 ·have hI:(i:Int)<(N:Int):=by omega
  simp only[c17_22,c17_7,l17_6,cw,csW,cops,Nat.reduceEqDiff,hI]
  refine keep [2,3,4,5,16,17,18] ?_
  simp only[c17_21,c17_8,csW,Nat.reduceEqDiff,cw]
  refine keep [2,3,4,5,16,17] ?_
  simp only[c17_20,c17_17,c17_16,c17_10,l17_9,csW,Nat.reduceEqDiff,cw,cops]
  refine keep [2,3,4,5,6,16,17] ?_
  simp only[c17_15,l17_11,csW,Nat.reduceEqDiff,cw,cops,csM]
  refine⟨_,at_nat l i,?_⟩
  simp only[l17_12,cops,csW,Nat.reduceEqDiff]
  refine⟨_,at_nat m i,?_⟩
  simp only[l17_13,cops,csW,Nat.reduceEqDiff]
  refine⟨_,qAdd _ _ n (hl i) (hm i) hn,?_⟩
  simp only[l17_14,cops,csW,csM,Nat.reduceEqDiff,csQ,Nat.reduceAdd,part_len]
  (repeat refine And.intro (by first | omega | (simp;omega)) ?_)
  refine keep [2,3,4,5,16,17] ?_
  simp only[c17_19,l17_18,csW,Nat.reduceEqDiff,cw,cops]
  (repeat refine And.intro (by first | omega | (simp;omega)) ?_)
  exact⟨i+1,by omega,by rw[←part_set (f:=fun j=>cf l j+cf m j) h];exact (Sub.toG [2,3,4,5,16,17] [] (by rfl) (by rfl) (by rfl) (by rfl)),by omega⟩
 ·have hI:¬ (i:Int)<(N:Int):=by omega
  have hiN:i=N:=by omega
  subst hiN
  simp only[c17_22,c17_7,l17_6,cw,csW,cops,Nat.reduceEqDiff,hI]
  refine keep [2,3,4,5,16,17,18] ?_
  simp only[c17_21,c17_8,csW,Nat.reduceEqDiff,cw]
  have htk:(part i (fun j=>cf l j+cf m j) i).take i=tab i (fun j=>cf l j+cf m j):=by rw[List.take_of_length_le (by rw[part_len];omega),part_all]
  refine keepF 14 _ [4,5] (by rfl) ?_
  simp only[c17_29,c17_28,l17_26,csW,Nat.reduceEqDiff,cw,cops,Bool.true_or,part_len,Nat.le_refl,csQ,htk]
  refine⟨_,made_con (tab i (fun j=>cf l j+cf m j)) n (Bl.tab hl.pos fun j _=>hs j) hn (by rw[tab_len];omega),?_⟩
  simp only[l17_27,cops,csW,Nat.reduceEqDiff,csM]
  refine keep [4] ?_
  simp only[Ends,resD,resL,resV,csW,Nat.reduceEqDiff,csM]
  rw[hN];rfl
set_option maxHeartbeats 1000000 in
theorem padd_con (l m:List Rat) (n:Nat) (hl:Bl n l) (hm:Bl n m) (hs:∀ i,Bq n (cf l i+cf m i)) (hn:n≤big) (h1:l.length≤1000000) (h2:m.length≤1000000):Con Tryz.prog AN 18 [LZ l,LZ m] (LZ (addQ l m)):=by
 obtain⟨N,hN⟩:∃ N,N=max l.length m.length:=⟨_,rfl⟩
 refine fn18.con rfl (by simp) ?_
 simp only[c18,c18_29,c18_1,l18_0,init2,cw,csW,cops,reduceCtorEq,Nat.reduceEqDiff]
 refine keep [0,1] ?_
 simp only[c18_28,c18_3,l18_2,csW,reduceCtorEq,Nat.reduceEqDiff,cw,cops]
 refine keep [0,1,5] ?_
 simp only[c18_27,c18_22,c18_5,l18_4,csW,reduceCtorEq,Nat.reduceEqDiff,cw,cops]
 refine keep [0,1,5,6] ?_
 simp only[c18_21,csW,reduceCtorEq,Nat.reduceEqDiff,cw]
 refine loop_of (ι:=Nat) (fun i=>i≤N) (fun i=>⟨look [(0,.p (LZ l)),(1,.p (LZ m)),(5,.slice 105 0 i),(6,.p (J i))],
  lookM [(105,⟨60,4,.row ((tab i fun j=>cf l j+cf m j).map qZ),false⟩)]⟩) (fun i=>N-i) 0 (by omega) (Sub.nilG 5 105 60 4 (by rfl) (by rfl) (by decide) (by rfl) (by rfl)) ?_
 rintro i hi
 by_cases ha:(i:Int)<(l.length:Int)
 ·(try simp only[c18_19,c18_9,c18_7,l18_6,cw,cops,csW,reduceIte,Nat.reduceEqDiff,reduceCtorEq,Nat.reduceAdd,Nat.reduceLT,Nat.reduceLeDiff,Nat.reduceSub,csM,csQ,part_len,tab_len,ha,tab_len])
  refine keep [0,1,5,6,16] ?_
  simp only[c18_8,csW,reduceCtorEq,Nat.reduceEqDiff,cw]
  refine keep [0,1,5,6] ?_
  simp only[c18_18,c18_15,c18_14,l18_10,csW,reduceCtorEq,Nat.reduceEqDiff,cw,cops]
  refine⟨_,pat_nat l i,?_⟩
  simp only[l18_11,cops,csW,reduceCtorEq,Nat.reduceEqDiff]
  refine⟨_,pat_nat m i,?_⟩
  simp only[l18_12,cops,csW,reduceCtorEq,Nat.reduceEqDiff]
  refine⟨_,zAdd _ _ n (hl i) (hm i) hn,?_⟩
  simp only[l18_13,cops,csW,Nat.reduceEqDiff,reduceCtorEq,csQ,Nat.reduceAdd,csM,tab_len,Nat.reduceLeDiff]
  (repeat refine And.intro (by first | omega | (simp;omega)) ?_)
  refine keep [0,1,5,6] ?_
  simp only[c18_17,l18_16,csW,reduceCtorEq,Nat.reduceEqDiff,cw,cops]
  (repeat refine And.intro (by first | omega | (simp;omega)) ?_)
  exact⟨i+1,by omega,by rw[←tab_succ];exact (Sub.toG [0,1,5,6] [27] (by rfl) (by rfl) (by rfl) (by rfl)),by omega⟩
 by_cases hb:(i:Int)<(m.length:Int)
 ·-- skip
  simp only[c18_19,c18_9,c18_7,l18_6,cw,csW,cops,reduceCtorEq,Nat.reduceEqDiff,ha,hb]
  refine keep [0,1,5,6,16] ?_
  simp only[c18_8,csW,reduceCtorEq,Nat.reduceEqDiff,cw]
  refine keep [0,1,5,6] ?_
  simp only[c18_18,c18_15,c18_14,l18_10,csW,reduceCtorEq,Nat.reduceEqDiff,cw,cops]
  refine⟨_,pat_nat l i,?_⟩
  simp only[l18_11,cops,csW,reduceCtorEq,Nat.reduceEqDiff]
  refine⟨_,pat_nat m i,?_⟩
  simp only[l18_12,cops,csW,reduceCtorEq,Nat.reduceEqDiff]
  refine⟨_,zAdd _ _ n (hl i) (hm i) hn,?_⟩
  simp only[l18_13,cops,csW,Nat.reduceEqDiff,reduceCtorEq,csQ,Nat.reduceAdd,csM,tab_len,Nat.reduceLeDiff]
  (repeat refine And.intro (by first | omega | (simp;omega)) ?_)
  refine keep [0,1,5,6] ?_
  simp only[c18_17,l18_16,csW,reduceCtorEq,Nat.reduceEqDiff,cw,cops]
  (repeat refine And.intro (by first | omega | (simp;omega)) ?_)
  exact⟨i+1,by omega,by rw[←tab_succ];exact (Sub.toG [0,1,5,6] [27] (by rfl) (by rfl) (by rfl) (by rfl)),by omega⟩
 ·have hiN:i=N:=by omega
  subst hiN
  simp only[c18_19,c18_9,c18_7,l18_6,cw,csW,cops,reduceCtorEq,Nat.reduceEqDiff,ha,hb]
  refine keep [0,1,5,6,16] ?_
  simp only[c18_8,csW,reduceCtorEq,Nat.reduceEqDiff,cw]
  have htk:(tab i fun j=>cf l j+cf m j).take i=tab i (fun j=>cf l j+cf m j):=List.take_of_length_le (by rw[tab_len];omega)
  refine keepF 105 _ [5] (by rfl) ?_
  simp only[c18_26,c18_25,l18_23,csW,reduceCtorEq,Nat.reduceEqDiff,cw,cops,Bool.true_or,tab_len,Nat.le_refl,csQ,htk]
  refine⟨_,pmade_con (tab i (fun j=>cf l j+cf m j)) n (Bl.tab hl.pos fun j _=>hs j) hn (by rw[tab_len];omega),?_⟩
  simp only[l18_24,cops,csW,Nat.reduceEqDiff]
  refine keep [4] ?_
  simp only[Ends,resD,resL,resV,csW,Nat.reduceEqDiff]
  rw[hN];rfl
set_option maxHeartbeats 1000000 in
theorem scale_con (l:List Rat) (x:Rat) (n:Nat) (hl:Bl n l) (hx:Bq n x) (hs:∀ i,Bq n (cf l i*x)) (hn:n≤big) (h1:l.length≤1000000):Con Tryz.prog AN 47 [pI l,qI x] (pI (sclQ l x)):=by
 obtain⟨N,hN⟩:∃ N,N=l.length:=⟨_,rfl⟩
 refine fn47.con rfl (by simp) ?_
 simp only[c47,c47_30,c47_1,l47_0,init2,cw,csW,cops,reduceCtorEq,Nat.reduceEqDiff,csQ,Nat.reduceAdd,csM]
 refine keep [2,3,4] ?_
 simp only[c47_29,c47_3,l47_2,csQ,csW,reduceCtorEq,Nat.reduceEqDiff,cw,cops,csM,←hN]
 (repeat refine And.intro (by first | omega | (simp;omega)) ?_)
 refine keep [2,3,4,5] ?_
 simp only[c47_28,c47_23,c47_5,l47_4,csW,Nat.reduceEqDiff,cw,cops,csM,←hN]
 refine keep [3,4,5,13,14,15] ?_
 simp only[c47_22,csW,Nat.reduceEqDiff,cw]
 refine loop_of (ι:=Nat) (fun i=>i≤N) (fun i=>⟨look [(3,.ptr 3 0 0),(4,.ptr 4 0 0),(5,.slice 11 0 N),(13,.p (LI l)),(14,.p (J N)),(15,.p (J i))],
  lookM [(3,⟨52,4,.box (.p (qI x)),false⟩),(4,⟨25,1,.box zPoly,false⟩),(11,⟨52,4,.row ((part N (fun j=>cf l j*x) i).map qI),false⟩)]⟩) (fun i=>N-i) 0 (by omega) (by rw[part_0];exact (Sub.toG [3,4,5,13,14,15] [2,7] (by rfl) (by rfl) (by rfl) (by rfl))) ?_
 rintro i hi
 by_cases h:i<N
 ·have hI:(i:Int)<(N:Int):=by omega
  have hil:i<l.length:=by omega
  simp only[c47_20,c47_7,l47_6,cw,csW,cops,Nat.reduceEqDiff,hI]
  refine keep [3,4,5,13,14,15,16] ?_
  simp only[c47_19,c47_8,csW,Nat.reduceEqDiff,cw]
  refine keep [3,4,5,13,14,15] ?_
  simp only[c47_18,c47_15,c47_14,c47_10,l47_9,csQ,csW,Nat.reduceEqDiff,cw,cops,csM,Nat.reduceLT,getD_q hil,Nat.reduceAdd]
  (repeat refine And.intro (by first | omega | (simp;omega)) ?_)
  refine keep [3,4,5,6,7,13,14,15] ?_
  simp only[c47_13,l47_11,csW,Nat.reduceEqDiff,cw,cops,csM,Nat.reduceLT,csQ,Nat.reduceAdd]
  refine⟨_,qMul _ _ n (hl i) hx hn,?_⟩
  simp only[l47_12,cops,csW,csM,Nat.reduceEqDiff,csQ,Nat.reduceAdd,part_len]
  (repeat refine And.intro (by first | omega | (simp;omega)) ?_)
  refine keep [3,4,5,13,14,15] ?_
  simp only[c47_17,l47_16,csW,Nat.reduceEqDiff,cw,cops]
  (repeat refine And.intro (by first | omega | (simp;omega)) ?_)
  exact⟨i+1,by omega,by rw[←part_set (f:=fun j=>cf l j*x) h];exact (Sub.toG [3,4,5,13,14,15] [2,7] (by rfl) (by rfl) (by rfl) (by rfl)),by omega⟩
 ·have hI:¬ (i:Int)<(N:Int):=by omega
  have hiN:i=N:=by omega
  subst hiN
  simp only[c47_20,c47_7,l47_6,cw,csW,cops,Nat.reduceEqDiff,hI]
  refine keep [3,4,5,13,14,15,16] ?_
  simp only[c47_19,c47_8,csW,Nat.reduceEqDiff,cw]
  have htk:(part i (fun j=>cf l j*x) i).take i=tab i (fun j=>cf l j*x):=by rw[List.take_of_length_le (by rw[part_len];omega),part_all]
  refine keepF 11 _ [4,5] (by rfl) ?_
  simp only[c47_27,c47_26,l47_24,csW,Nat.reduceEqDiff,cw,cops,Bool.true_or,part_len,Nat.le_refl,csQ,htk]
  refine⟨_,made_con (tab i (fun j=>cf l j*x)) n (Bl.tab hl.pos fun j _=>hs j) hn (by rw[tab_len];omega),?_⟩
  simp only[l47_25,cops,csW,Nat.reduceEqDiff,csM]
  refine keep [4] ?_
  simp only[Ends,resD,resL,resV,csW,Nat.reduceEqDiff,csM]
  rw[hN];rfl
set_option maxHeartbeats 1000000 in
theorem pscale_con (l:List Rat) (x:Rat) (n:Nat) (hl:Bl n l) (hx:Bq n x) (hs:∀ i,Bq n (cf l i*x)) (hn:n≤big) (h1:l.length≤1000000):Con Tryz.prog AN 48 [LZ l,qZ x] (LZ (sclQ l x)):=by
 obtain⟨N,hN⟩:∃ N,N=l.length:=⟨_,rfl⟩
 refine fn48.con rfl (by simp) ?_
 simp only[c48,c48_27,c48_1,l48_0,init2,cw,csW,cops,reduceCtorEq,csQ,Nat.reduceAdd,csM,Nat.reduceEqDiff]
 refine keep [0,3] ?_
 simp only[c48_26,c48_3,l48_2,csW,reduceCtorEq,Nat.reduceEqDiff,cw,cops]
 refine keep [0,3,5] ?_
 simp only[c48_25,c48_20,c48_5,l48_4,csW,reduceCtorEq,Nat.reduceEqDiff,cw,cops]
 refine keep [0,3,5,6] ?_
 simp only[c48_19,csW,reduceCtorEq,Nat.reduceEqDiff,cw]
 refine loop_of (ι:=Nat) (fun i=>i≤N) (fun i=>⟨look [(0,.p (LZ l)),(3,.ptr 3 0 0),(5,.slice 105 0 i),(6,.p (J i))],
  lookM [(3,⟨60,4,.box (.p (qZ x)),false⟩),(105,⟨60,4,.row ((tab i fun j=>cf l j*x).map qZ),false⟩)]⟩) (fun i=>N-i) 0 (by omega) (Sub.nilG 5 105 60 4 (by rfl) (by rfl) (by decide) (by rfl) (by rfl)) ?_
 rintro i hi
 by_cases h:i<N
 ·have hI:(i:Int)<(N:Int):=by omega
  have hil:i<l.length:=by omega
  simp only[c48_17,c48_9,c48_7,l48_6,cw,csW,cops,reduceCtorEq,Nat.reduceEqDiff,←hN,hI]
  refine keep [0,3,5,6,10] ?_
  simp only[c48_8,csW,reduceCtorEq,Nat.reduceEqDiff,cw]
  refine keep [0,3,5,6] ?_
  simp only[c48_16,c48_13,c48_12,l48_10,csW,reduceCtorEq,Nat.reduceEqDiff,cw,cops,csM,Nat.reduceLT,csQ,Nat.reduceAdd,getD_z hil]
  (repeat refine And.intro (by first | omega | (simp;omega)) ?_)
  refine⟨_,zMul _ _ n (hl i) hx hn,?_⟩
  simp only[l48_11,cops,csW,Nat.reduceEqDiff,reduceCtorEq,csQ,Nat.reduceAdd,csM,tab_len,Nat.reduceLeDiff]
  (repeat refine And.intro (by first | omega | (simp;omega)) ?_)
  refine keep [0,3,5,6] ?_
  simp only[c48_15,l48_14,csW,reduceCtorEq,Nat.reduceEqDiff,cw,cops]
  (repeat refine And.intro (by first | omega | (simp;omega)) ?_)
  exact⟨i+1,by omega,by rw[←tab_succ];exact (Sub.toG [0,3,5,6] [20] (by rfl) (by rfl) (by rfl) (by rfl)),by omega⟩
 ·have hI:¬ (i:Int)<(N:Int):=by omega
  have hiN:i=N:=by omega
  subst hiN
  simp only[c48_17,c48_9,c48_7,l48_6,cw,csW,cops,reduceCtorEq,Nat.reduceEqDiff,←hN,hI]
  refine keep [0,3,5,6,10] ?_
  simp only[c48_8,csW,reduceCtorEq,Nat.reduceEqDiff,cw]
  have htk:(tab i fun j=>cf l j*x).take i=tab i (fun j=>cf l j*x):=List.take_of_length_le (by rw[tab_len];omega)
  refine keepF 105 _ [5] (by rfl) ?_
  simp only[c48_24,c48_23,l48_21,csW,reduceCtorEq,Nat.reduceEqDiff,cw,cops,Bool.true_or,tab_len,Nat.le_refl,csQ,htk]
  refine⟨_,pmade_con (tab i (fun j=>cf l j*x)) n (Bl.tab hl.pos fun j _=>hs j) hn (by rw[tab_len];omega),?_⟩
  simp only[l48_22,cops,csW,Nat.reduceEqDiff]
  refine keep [4] ?_
  simp only[Ends,resD,resL,resV,csW,Nat.reduceEqDiff]
  rw[hN];rfl
theorem cOf (n:Int) (hn:-9223372036854775808≤n∧n≤9223372036854775807):Con Tryz.prog AN 110 [.int .i64 n] (encI n):=con1 fun base w v1 hav h1=>by
 cases int_V h1
 exact (of_any n w hn).mono fun e w' ⟨x,h1,h2,h3⟩=>⟨_,h1,fun _ hav=>V_encI h2 hav,h3⟩
theorem bq_neg1 {n:Nat} (hn:1<n):Bq n (-1):=by
 have h1:(1:Nat)<2^n:=Nat.one_lt_two_pow (by omega)
 exact⟨h1,h1⟩
theorem bq_one {n:Nat} (hn:1<n):Bq n 1:=by
 have h1:(1:Nat)<2^n:=Nat.one_lt_two_pow (by omega)
 exact⟨h1,h1⟩
theorem Bq.neg {n:Nat} {x:Rat} (h:Bq n x):Bq n (-x):=⟨by rw[Rat.neg_num,Int.natAbs_neg];exact h.1,by rw[Rat.neg_den];exact h.2⟩
theorem mul_neg1 (x:Rat):x*(-1) = -x:=by grind
theorem sub_as (l m:List Rat):addQ l (sclQ m (-1))=subQ l m:=nf_ext (nf_add _ _) (nf_sub _ _) fun i=>by rw[cf_add,cf_scl,cf_sub];grind
theorem scl_len (l:List Rat) (x:Rat):(sclQ l x).length≤l.length:=by unfold sclQ;exact Nat.le_trans (trim_len _) (by rw[tab_len];omega)
theorem add_len (l m:List Rat):(addQ l m).length≤max l.length m.length:=by unfold addQ;exact Nat.le_trans (trim_len _) (by rw[tab_len];omega)
theorem sub_len (l m:List Rat):(subQ l m).length≤max l.length m.length:=by unfold subQ;exact Nat.le_trans (trim_len _) (by rw[tab_len];omega)
theorem intm1:(((-1:Int)):Rat) = -1:=rfl
set_option maxHeartbeats 1000000 in
theorem sub_con (l m:List Rat) (n:Nat) (hl:Bl n l) (hm:Bl n m) (hs:∀ i,Bq n (cf l i-cf m i)) (hn:n≤big) (hn1:1<n) (h1:l.length≤1000000) (h2:m.length≤1000000):Con Tryz.prog AN 19 [pI l,pI m] (pI (subQ l m)):=by
 have hneg:Bl n (sclQ m (-1)):=fun i=>by rw[cf_scl,mul_neg1];exact (hm i).neg
 have hlen:=scl_len m (-1)
 refine fn19.con rfl (by simp) ?_
 simp only[c19,c19_9,c19_1,l19_0,init2,cw,csW,cops,reduceCtorEq,Nat.reduceEqDiff]
 refine keep [2,3,4] ?_
 simp only[c19_8,c19_7,l19_2,csW,reduceCtorEq,Nat.reduceEqDiff,cw,cops,csM]
 refine⟨_,cOf (-1) (by omega),?_⟩
 simp only[l19_3,cops,csW,Nat.reduceEqDiff]
 refine⟨_,qWhole (-1) n (bq_neg1 hn1).1 hn,?_⟩
 simp only[l19_4,intm1,cops,csW,Nat.reduceEqDiff]
 refine⟨_,scale_con m (-1) n hm (bq_neg1 hn1) (fun i=>by rw[mul_neg1];exact (hm i).neg) hn h2,?_⟩
 simp only[l19_5,cops,csW,Nat.reduceEqDiff]
 refine⟨_,add_con l (sclQ m (-1)) n hl hneg (fun i=>by rw[cf_scl,mul_neg1,←Rat.sub_eq_add_neg];exact hs i) hn h1 (by omega),?_⟩
 simp only[l19_6,cops,csW,Nat.reduceEqDiff,csM]
 refine keep [4] ?_
 simp only[Ends,resD,resL,resV,csW,Nat.reduceEqDiff,csM]
 rw[sub_as]
set_option maxHeartbeats 1000000 in
theorem psub_con (l m:List Rat) (n:Nat) (hl:Bl n l) (hm:Bl n m) (hs:∀ i,Bq n (cf l i-cf m i)) (hn:n≤big) (hn1:1<n) (h1:l.length≤1000000) (h2:m.length≤1000000):Con Tryz.prog AN 20 [LZ l,LZ m] (LZ (subQ l m)):=by
 have hneg:Bl n (sclQ m (-1)):=fun i=>by rw[cf_scl,mul_neg1];exact (hm i).neg
 have hlen:=scl_len m (-1)
 refine fn20.con rfl (by simp) ?_
 simp only[c20,c20_8,c20_1,l20_0,init2,cw,csW,cops,reduceCtorEq,Nat.reduceEqDiff]
 refine keep [0,1] ?_
 simp only[c20_7,c20_6,l20_2,csW,reduceCtorEq,Nat.reduceEqDiff,cw,cops]
 refine⟨_,fof_con (-1) (by omega),?_⟩
 simp only[l20_3,intm1,cops,csW,reduceCtorEq,Nat.reduceEqDiff]
 refine⟨_,pscale_con m (-1) n hm (bq_neg1 hn1) (fun i=>by rw[mul_neg1];exact (hm i).neg) hn h2,?_⟩
 simp only[l20_4,cops,csW,reduceCtorEq,Nat.reduceEqDiff]
 refine⟨_,padd_con l (sclQ m (-1)) n hl hneg (fun i=>by rw[cf_scl,mul_neg1,←Rat.sub_eq_add_neg];exact hs i) hn h1 (by omega),?_⟩
 simp only[l20_5,cops,csW,reduceCtorEq,Nat.reduceEqDiff]
 refine keep [4] ?_
 simp only[Ends,resD,resL,resV,csW,reduceCtorEq,Nat.reduceEqDiff]
 rw[sub_as]
theorem sub_nil {l m:List Rat} (hl:Nf l) (hm:Nf m):subQ l m=[]↔l=m:=by
 constructor
 ·intro h
  exact nf_ext hl hm fun i=>by
   have:=cf_sub l m i
   rw[h,cf_nil] at this
   grind
 ·rintro rfl
  exact nf_ext (nf_sub _ _) nf_nil fun i=>by rw[cf_sub,cf_nil];grind
set_option maxHeartbeats 1000000 in
theorem psame_con (l m:List Rat) (nl:Nf l) (nm:Nf m) (n:Nat) (hl:Bl n l) (hm:Bl n m) (hs:∀ i,Bq n (cf l i-cf m i)) (hn:n≤big) (hn1:1<n) (h1:l.length≤1000000) (h2:m.length≤1000000):Con Tryz.prog AN 22 [LZ l,LZ m] (.bool (decide (l=m))):=by
 have hlen:=sub_len l m
 refine fn22.con rfl (by simp) ?_
 simp only[c22,c22_6,c22_1,l22_0,init2,cw,csW,cops,reduceCtorEq,Nat.reduceEqDiff]
 refine keep [0,1] ?_
 simp only[c22_5,c22_4,l22_2,csW,reduceCtorEq,Nat.reduceEqDiff,cw,cops]
 refine⟨_,psub_con l m n hl hm hs hn hn1 h1 h2,?_⟩
 simp only[l22_3,cops,csW,reduceCtorEq,Nat.reduceEqDiff]
 refine keep [4] ?_
 simp only[Ends,resD,resL,resV,csW,reduceCtorEq,Nat.reduceEqDiff]
 congr 2
 refine propext ?_
 rw[←sub_nil nl nm,←List.length_eq_zero_iff]
 omega
end Go.Proofs.YtkidkimjdiichaaGreat.M
