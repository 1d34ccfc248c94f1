/- Polynomials of the program and of the reference: sums, multiples, differences. -/
import Derived.Test.YtdjbfgfbpimakaaPoAx
namespace Go.Proofs.Ytdjbfgfbpimakaa.M
open Go.RowKit
set_option linter.unusedSimpArgs false
set_option linter.unusedVariables false
set_option linter.defProp false
theorem at_nat (l:List Rat) (i:Nat):Con Try.prog AN 71 [pI l,J i] (qI (cf l i)):=by have:=at_con l i;rwa[cfZ_nat] at this
def part (N:Nat) (f:Nat→Rat) (i:Nat):List Rat:=tab N fun j=>if j<i then f j else 0
theorem part_0 (N:Nat) (f:Nat→Rat):part N f 0=List.replicate N 0:=by apply List.ext_getElem<;>simp[part,tab]
theorem part_len (N:Nat) (f:Nat→Rat) (i:Nat):(part N f i).length=N:=tab_len _ _
theorem part_set {N:Nat} {f:Nat→Rat} {i:Nat} (h:i<N):(part N f i).set i (f i)=part N f (i+1):=by
 unfold part
 rw[tab_set]
 refine tab_ext fun j hj => ?_
 by_cases e:j=i
 ·subst e;rw[if_pos rfl,if_pos (by omega)]
 ·rw[if_neg e]
  by_cases hj:j<i
  ·rw[if_pos hj,if_pos (by omega)]
  ·rw[if_neg hj,if_neg (by omega)]
theorem part_all (N:Nat) (f:Nat→Rat):part N f N=tab N f:=tab_ext fun j hj=>if_pos hj
theorem tab_succ (N:Nat) (f:Nat→Rat):tab N f++[f N]=tab (N+1) f:=by simp[tab,List.range_succ]
abbrev zPoly:AV:=.p (.agg [.list 39 4 []])
set_option maxHeartbeats 1000000 in
theorem add_con (l m:List Rat) (n:Nat) (hl:Bl n l) (hm:Bl n m) (hs:∀ i,Bq n (cf l i+cf m i)) (hn:n≤big) (h1:l.length≤1000000) (h2:m.length≤1000000):Con Try.prog AN 30 [pI l,pI m] (pI (addQ l m)):=by
 obtain⟨N,hN⟩:∃ N,N=max l.length m.length:=⟨_,rfl⟩
 have hmx:(if (m.length:Int) > (l.length:Int) then (m.length:Int) else (l.length:Int))=(N:Int):=by split<;>omega
 refine fn30.con rfl (by simp) ?_
 simp only[c30,c30_32,c30_1,l30_0,init2,cw,csW,cops,reduceCtorEq,Nat.reduceEqDiff]
 refine keep [2,3,4] ?_
 simp only[c30_31,c30_3,l30_2,csQ,csW,reduceCtorEq,Nat.reduceEqDiff,cw,cops,csM,hmx]
 (repeat refine And.intro (by first | omega | (simp;omega)) ?_)
 refine keep [2,3,4,5] ?_
 simp only[c30_30,c30_25,c30_5,l30_4,csW,Nat.reduceEqDiff,cw,cops]
 refine keep [2,3,4,5,16,17] ?_
 simp only[c30_24,csW,Nat.reduceEqDiff,cw]
 refine loop_of (ι:=Nat) (fun i=>i≤N) (fun i=>⟨look [(2,.ptr 2 0 0),(3,.ptr 3 0 0),(4,.ptr 4 0 0),(5,.slice 14 0 N),(16,.p (J N)),(17,.p (J i))],
  lookM [(2,⟨25,1,.box (.p (pI l)),false⟩),(3,⟨25,1,.box (.p (pI m)),false⟩),(4,⟨25,1,.box zPoly,false⟩),(14,⟨39,4,.row ((part N (fun j=>cf l j+cf m j) i).map qI),false⟩)]⟩) (fun i=>N-i) 0 (by omega) (by rw[part_0];exact Sub.rf _) ?_
 rintro i hi
 by_cases h:i<N
 ·have hI:(i:Int)<(N:Int):=by omega
  simp only[c30_22,c30_7,l30_6,cw,csW,cops,Nat.reduceEqDiff,hI]
  refine keep [2,3,4,5,16,17,18] ?_
  simp only[c30_21,c30_8,csW,Nat.reduceEqDiff,cw]
  refine keep [2,3,4,5,16,17] ?_
  simp only[c30_20,c30_17,c30_16,c30_10,l30_9,csW,Nat.reduceEqDiff,cw,cops]
  refine keep [2,3,4,5,6,16,17] ?_
  simp only[c30_15,l30_11,csW,Nat.reduceEqDiff,cw,cops,csM]
  refine⟨_,at_nat l i,?_⟩
  simp only[l30_12,cops,csW,Nat.reduceEqDiff]
  refine⟨_,at_nat m i,?_⟩
  simp only[l30_13,cops,csW,Nat.reduceEqDiff]
  refine⟨_,qAdd _ _ n (hl i) (hm i) hn,?_⟩
  simp only[l30_14,cops,csW,csM,Nat.reduceEqDiff,csQ,Nat.reduceAdd,part_len]
  (repeat refine And.intro (by first | omega | (simp;omega)) ?_)
  refine keep [2,3,4,5,16,17] ?_
  simp only[c30_19,l30_18,csW,Nat.reduceEqDiff,cw,cops]
  (repeat refine And.intro (by first | omega | (simp;omega)) ?_)
  exact⟨i+1,by omega,by rw[←part_set (f:=fun j=>cf l j+cf m j) h];exact (Sub.toG [2,3,4,5,16,17] [] (by rfl) (by rfl) (by rfl) (by rfl)),by omega⟩
 ·have hI:¬ (i:Int)<(N:Int):=by omega
  have hiN:i=N:=by omega
  subst hiN
  simp only[c30_22,c30_7,l30_6,cw,csW,cops,Nat.reduceEqDiff,hI]
  refine keep [2,3,4,5,16,17,18] ?_
  simp only[c30_21,c30_8,csW,Nat.reduceEqDiff,cw]
  have htk:(part i (fun j=>cf l j+cf m j) i).take i=tab i (fun j=>cf l j+cf m j):=by rw[List.take_of_length_le (by rw[part_len];omega),part_all]
  refine keepF 14 _ [4,5] (by rfl) ?_
  simp only[c30_29,c30_28,l30_26,csW,Nat.reduceEqDiff,cw,cops,Bool.true_or,part_len,Nat.le_refl,csQ,htk]
  refine⟨_,made_con (tab i (fun j=>cf l j+cf m j)) n (Bl.tab hl.pos fun j _=>hs j) hn (by rw[tab_len];omega),?_⟩
  simp only[l30_27,cops,csW,Nat.reduceEqDiff,csM]
  refine keep [4] ?_
  simp only[Ends,resD,resL,resV,csW,Nat.reduceEqDiff,csM]
  rw[hN];rfl
set_option maxHeartbeats 1000000 in
theorem scale_con (l:List Rat) (x:Rat) (n:Nat) (hl:Bl n l) (hx:Bq n x) (hs:∀ i,Bq n (cf l i*x)) (hn:n≤big) (h1:l.length≤1000000):Con Try.prog AN 62 [pI l,qI x] (pI (sclQ l x)):=by
 obtain⟨N,hN⟩:∃ N,N=l.length:=⟨_,rfl⟩
 refine fn62.con rfl (by simp) ?_
 simp only[c62,c62_30,c62_1,l62_0,init2,cw,csW,cops,reduceCtorEq,Nat.reduceEqDiff,csQ,Nat.reduceAdd,csM]
 refine keep [2,3,4] ?_
 simp only[c62_29,c62_3,l62_2,csQ,csW,reduceCtorEq,Nat.reduceEqDiff,cw,cops,csM,←hN]
 (repeat refine And.intro (by first | omega | (simp;omega)) ?_)
 refine keep [2,3,4,5] ?_
 simp only[c62_28,c62_23,c62_5,l62_4,csW,Nat.reduceEqDiff,cw,cops,csM,←hN]
 refine keep [3,4,5,13,14,15] ?_
 simp only[c62_22,csW,Nat.reduceEqDiff,cw]
 refine loop_of (ι:=Nat) (fun i=>i≤N) (fun i=>⟨look [(3,.ptr 3 0 0),(4,.ptr 4 0 0),(5,.slice 11 0 N),(13,.p (LI l)),(14,.p (J N)),(15,.p (J i))],
  lookM [(3,⟨39,4,.box (.p (qI x)),false⟩),(4,⟨25,1,.box zPoly,false⟩),(11,⟨39,4,.row ((part N (fun j=>cf l j*x) i).map qI),false⟩)]⟩) (fun i=>N-i) 0 (by omega) (by rw[part_0];exact (Sub.toG [3,4,5,13,14,15] [2,7] (by rfl) (by rfl) (by rfl) (by rfl))) ?_
 rintro i hi
 by_cases h:i<N
 ·have hI:(i:Int)<(N:Int):=by omega
  have hil:i<l.length:=by omega
  simp only[c62_20,c62_7,l62_6,cw,csW,cops,Nat.reduceEqDiff,hI]
  refine keep [3,4,5,13,14,15,16] ?_
  simp only[c62_19,c62_8,csW,Nat.reduceEqDiff,cw]
  refine keep [3,4,5,13,14,15] ?_
  simp only[c62_18,c62_15,c62_14,c62_10,l62_9,csQ,csW,Nat.reduceEqDiff,cw,cops,csM,Nat.reduceLT,getD_q hil,Nat.reduceAdd]
  (repeat refine And.intro (by first | omega | (simp;omega)) ?_)
  refine keep [3,4,5,6,7,13,14,15] ?_
  simp only[c62_13,l62_11,csW,Nat.reduceEqDiff,cw,cops,csM,Nat.reduceLT,csQ,Nat.reduceAdd]
  refine⟨_,qMul _ _ n (hl i) hx hn,?_⟩
  simp only[l62_12,cops,csW,csM,Nat.reduceEqDiff,csQ,Nat.reduceAdd,part_len]
  (repeat refine And.intro (by first | omega | (simp;omega)) ?_)
  refine keep [3,4,5,13,14,15] ?_
  simp only[c62_17,l62_16,csW,Nat.reduceEqDiff,cw,cops]
  (repeat refine And.intro (by first | omega | (simp;omega)) ?_)
  exact⟨i+1,by omega,by rw[←part_set (f:=fun j=>cf l j*x) h];exact (Sub.toG [3,4,5,13,14,15] [2,7] (by rfl) (by rfl) (by rfl) (by rfl)),by omega⟩
 ·have hI:¬ (i:Int)<(N:Int):=by omega
  have hiN:i=N:=by omega
  subst hiN
  simp only[c62_20,c62_7,l62_6,cw,csW,cops,Nat.reduceEqDiff,hI]
  refine keep [3,4,5,13,14,15,16] ?_
  simp only[c62_19,c62_8,csW,Nat.reduceEqDiff,cw]
  have htk:(part i (fun j=>cf l j*x) i).take i=tab i (fun j=>cf l j*x):=by rw[List.take_of_length_le (by rw[part_len];omega),part_all]
  refine keepF 11 _ [4,5] (by rfl) ?_
  simp only[c62_27,c62_26,l62_24,csW,Nat.reduceEqDiff,cw,cops,Bool.true_or,part_len,Nat.le_refl,csQ,htk]
  refine⟨_,made_con (tab i (fun j=>cf l j*x)) n (Bl.tab hl.pos fun j _=>hs j) hn (by rw[tab_len];omega),?_⟩
  simp only[l62_25,cops,csW,Nat.reduceEqDiff,csM]
  refine keep [4] ?_
  simp only[Ends,resD,resL,resV,csW,Nat.reduceEqDiff,csM]
  rw[hN];rfl
theorem cOf (n:Int) (hn:-9223372036854775808≤n∧n≤9223372036854775807):Con Try.prog AN 38 [.int .i64 n] (encI n):=con1 fun base w v1 hav h1=>by
 cases int_V h1
 exact (of_any n w hn).mono fun e w' ⟨x,h1,h2,h3⟩=>⟨_,h1,fun _ hav=>V_encI h2 hav,h3⟩
theorem bq_neg1 {n:Nat} (hn:1<n):Bq n (-1):=by
 have h1:(1:Nat)<2^n:=Nat.one_lt_two_pow (by omega)
 exact⟨h1,h1⟩
theorem bq_one {n:Nat} (hn:1<n):Bq n 1:=by
 have h1:(1:Nat)<2^n:=Nat.one_lt_two_pow (by omega)
 exact⟨h1,h1⟩
theorem Bq.neg {n:Nat} {x:Rat} (h:Bq n x):Bq n (-x):=⟨by rw[Rat.neg_num,Int.natAbs_neg];exact h.1,by rw[Rat.neg_den];exact h.2⟩
theorem mul_neg1 (x:Rat):x*(-1) = -x:=by grind
theorem sub_as (l m:List Rat):addQ l (sclQ m (-1))=subQ l m:=nf_ext (nf_add _ _) (nf_sub _ _) fun i=>by rw[cf_add,cf_scl,cf_sub];grind
theorem scl_len (l:List Rat) (x:Rat):(sclQ l x).length≤l.length:=by unfold sclQ;exact Nat.le_trans (trim_len _) (by rw[tab_len];omega)
theorem add_len (l m:List Rat):(addQ l m).length≤max l.length m.length:=by unfold addQ;exact Nat.le_trans (trim_len _) (by rw[tab_len];omega)
theorem sub_len (l m:List Rat):(subQ l m).length≤max l.length m.length:=by unfold subQ;exact Nat.le_trans (trim_len _) (by rw[tab_len];omega)
theorem intm1:(((-1:Int)):Rat) = -1:=rfl
set_option maxHeartbeats 1000000 in
theorem sub_con (l m:List Rat) (n:Nat) (hl:Bl n l) (hm:Bl n m) (hs:∀ i,Bq n (cf l i-cf m i)) (hn:n≤big) (hn1:1<n) (h1:l.length≤1000000) (h2:m.length≤1000000):Con Try.prog AN 70 [pI l,pI m] (pI (subQ l m)):=by
 have hneg:Bl n (sclQ m (-1)):=fun i=>by rw[cf_scl,mul_neg1];exact (hm i).neg
 have hlen:=scl_len m (-1)
 refine fn70.con rfl (by simp) ?_
 simp only[c70,c70_9,c70_1,l70_0,init2,cw,csW,cops,reduceCtorEq,Nat.reduceEqDiff]
 refine keep [2,3,4] ?_
 simp only[c70_8,c70_7,l70_2,csW,reduceCtorEq,Nat.reduceEqDiff,cw,cops,csM]
 refine⟨_,cOf (-1) (by omega),?_⟩
 simp only[l70_3,cops,csW,Nat.reduceEqDiff]
 refine⟨_,qWhole (-1) n (bq_neg1 hn1).1 hn,?_⟩
 simp only[l70_4,intm1,cops,csW,Nat.reduceEqDiff]
 refine⟨_,scale_con m (-1) n hm (bq_neg1 hn1) (fun i=>by rw[mul_neg1];exact (hm i).neg) hn h2,?_⟩
 simp only[l70_5,cops,csW,Nat.reduceEqDiff]
 refine⟨_,add_con l (sclQ m (-1)) n hl hneg (fun i=>by rw[cf_scl,mul_neg1,←Rat.sub_eq_add_neg];exact hs i) hn h1 (by omega),?_⟩
 simp only[l70_6,cops,csW,Nat.reduceEqDiff,csM]
 refine keep [4] ?_
 simp only[Ends,resD,resL,resV,csW,Nat.reduceEqDiff,csM]
 rw[sub_as]
theorem sub_nil {l m:List Rat} (hl:Nf l) (hm:Nf m):subQ l m=[]↔l=m:=by
 constructor
 ·intro h
  exact nf_ext hl hm fun i=>by
   have:=cf_sub l m i
   rw[h,cf_nil] at this
   grind
 ·rintro rfl
  exact nf_ext (nf_sub _ _) nf_nil fun i=>by rw[cf_sub,cf_nil];grind
set_option maxHeartbeats 1000000 in
theorem same_con (l m:List Rat) (nl:Nf l) (nm:Nf m) (n:Nat) (hl:Bl n l) (hm:Bl n m) (hs:∀ i,Bq n (cf l i-cf m i)) (hn:n≤big) (hn1:1<n) (h1:l.length≤1000000) (h2:m.length≤1000000):Con Try.prog AN 28 [pI l,pI m] (.bool (decide (l=m))):=by
 have hlen:=sub_len l m
 refine fn28.con rfl (by simp) ?_
 simp only[c28,c28_7,c28_1,l28_0,init2,cw,csW,cops,reduceCtorEq,Nat.reduceEqDiff]
 refine keep [2,3] ?_
 simp only[c28_6,c28_5,l28_2,csW,reduceCtorEq,Nat.reduceEqDiff,cw,cops,csM]
 refine⟨_,sub_con l m n hl hm hs hn hn1 h1 h2,?_⟩
 simp only[l28_3,cops,csW,Nat.reduceEqDiff]
 refine⟨_,degree_con (subQ l m) (by omega),?_⟩
 simp only[l28_4,cops,csW,Nat.reduceEqDiff]
 refine keep [4] ?_
 simp only[Ends,resD,resL,resV,csW,Nat.reduceEqDiff]
 congr 2
 refine propext ?_
 rw[←sub_nil nl nm,←List.length_eq_zero_iff]
 omega
end Go.Proofs.Ytdjbfgfbpimakaa.M
