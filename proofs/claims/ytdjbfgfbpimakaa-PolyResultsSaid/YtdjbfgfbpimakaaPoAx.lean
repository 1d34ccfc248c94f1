/- Polynomials of the program: the small functions. -/
import Derived.Test.YtdjbfgfbpimakaaK8
import Derived.Test.YtdjbfgfbpimakaaK1
import Derived.Test.YtdjbfgfbpimakaaK5
import Derived.Test.YtdjbfgfbpimakaaK4
namespace Go.Proofs.Ytdjbfgfbpimakaa.M
open Go.RowKit
set_option linter.unusedSimpArgs false
set_option linter.unusedVariables false
set_option linter.defProp false
abbrev J (n:Int):D:=.int .i64 n
abbrev LI (l:List Rat):D:=.list 39 4 (l.map qI)
abbrev LZ (l:List Rat):D:=.list 47 4 (l.map qZ)
abbrev pI (l:List Rat):D:=.agg [LI l]
abbrev big:Nat:=32768000000000
def Bl (n:Nat) (l:List Rat):Prop:=∀ i,Bq n (cf l i)
theorem Bl.tab {n N:Nat} {f:Nat→Rat} (hn:0<n) (h:∀ i,i<N→Bq n (f i)):Bl n (tab N f):=fun i=>by
 rw[cf_tab];split
 ·exact h i ‹_›
 ·exact Bq.zero n hn
theorem Bl.pos {n:Nat} {l:List Rat} (h:Bl n l):0<n:=by
 have:=(h l.length).2
 rw[cf_ge (Nat.le_refl _)] at this
 rcases Nat.eq_zero_or_pos n with e | e
 ·subst e;simp at this
 ·exact e
theorem Bl.take {n:Nat} {l:List Rat} (h:Bl n l) (k:Nat):Bl n (l.take k):=fun i=>by
 unfold cf
 rw[List.getD_eq_getElem?_getD,List.getElem?_take]
 split
 ·have:=h i;unfold cf at this;rwa[List.getD_eq_getElem?_getD] at this
 ·exact Bq.zero n h.pos
theorem getD_q {l:List Rat} {i:Nat} (h:i<l.length):(l.map qI).getD i default=qI (cf l i):=by simp[cf,h]
theorem getD_z {l:List Rat} {i:Nat} (h:i<l.length):(l.map qZ).getD i default=qZ (cf l i):=by simp[cf,h]
theorem set_q (l:List Rat) (i:Nat) (x:Rat):(l.map qI).set i (qI x)=(l.set i x).map qI:=List.map_set.symm
theorem set_z (l:List Rat) (i:Nat) (x:Rat):(l.map qZ).set i (qZ x)=(l.set i x).map qZ:=List.map_set.symm
theorem rep_q (n:Nat) (x:Rat):List.replicate n (qI x)=(List.replicate n x).map qI:=List.map_replicate.symm
theorem rep_z (n:Nat) (x:Rat):List.replicate n (qZ x)=(List.replicate n x).map qZ:=List.map_replicate.symm
theorem take_q (l:List Rat) (n:Nat):(l.map qI).take n=(l.take n).map qI:=List.map_take.symm
theorem take_z (l:List Rat) (n:Nat):(l.map qZ).take n=(l.take n).map qZ:=List.map_take.symm
theorem app_q (l:List Rat) (x:Rat):l.map qI++[qI x]=(l++[x]).map qI:=by simp
theorem app_z (l:List Rat) (x:Rat):l.map qZ++[qZ x]=(l++[x]).map qZ:=by simp
theorem rep1_q (x:Rat):List.replicate 1 x=[x]:=rfl
theorem rep2_q (x:Rat):List.replicate 2 x=[x,x]:=rfl
theorem set0_q (x z:Rat) (l:List Rat):(z::l).set 0 x=x::l:=rfl
theorem set1_q (x y z:Rat) (l:List Rat):(z::y::l).set 1 x=z::x::l:=rfl
def csQ:=And.intro @rep1_q (And.intro @rep2_q (And.intro @set0_q (And.intro @set1_q (And.intro @one_qI (And.intro @one_qZ (And.intro @isAgg_qI (And.intro @isAgg_qZ (And.intro @cells_qI (And.intro @cells_qZ (And.intro @fold_qI (And.intro @fold_qZ (And.intro @qI_0 (And.intro @set_q (And.intro @set_z (And.intro @rep_q (And.intro @rep_z (And.intro @take_q (And.intro @take_z (And.intro @app_q (@app_z))))))))))))))))))))
set_option maxHeartbeats 1000000 in
theorem made_con (l:List Rat) (n:Nat) (hb:Bl n l) (hn:n≤big) (h:l.length≤9223372036854775807):Con Try.prog AN 33 [LI l] (pI (trimQ l)):=by
 refine fn33.con rfl (by simp) ?_
 simp only[c33,c33_20,c33_1,l33_0,init1,cw,csW,cops,reduceCtorEq]
 refine keep [0,2] ?_
 simp only[c33_19,c33_3,l33_2,csW,reduceCtorEq,cw,cops,Nat.reduceEqDiff]
 refine keep [0,2,3] ?_
 simp only[c33_18,c33_14,csW,reduceCtorEq,Nat.reduceEqDiff,cw]
 refine loop_of (ι:=Nat) (fun k=>k≤l.length∧trimQ (l.take k)=trimQ l) (fun k=>⟨look [(0,.p (LI l)),(2,.ptr 2 0 0),(3,.p (J k))],lookM [(2,⟨25,1,.box (.p (.agg [.list 39 4 []])),false⟩)]⟩) (fun k=>k) l.length ⟨by omega,by simp⟩ (Sub.rf _) ?_
 rintro k ⟨hk,ht⟩
 rcases k with _ | k
 ·have hp':¬ ((0:Int)<0):=by omega
  simp only[c33_12,c33_8,c33_6,l33_4,csW,cw,cops,csM,Nat.reduceLT,reduceCtorEq,Nat.reduceEqDiff,hp']
  simp only[l33_5,cops,csW,reduceCtorEq,Nat.reduceEqDiff]
  refine keep [0,2,3,16] ?_
  simp only[c33_7,csW,reduceCtorEq,Nat.reduceEqDiff,cw]
  refine keep [0,2,3] ?_
  simp only[c33_17,c33_16,l33_15,csW,reduceCtorEq,Nat.reduceEqDiff,cw,cops,csM]
  (repeat refine And.intro (by first | omega | (simp;omega)) ?_)
  refine keep [2] ?_
  simp only[Ends,resD,resL,resV,csW,reduceCtorEq,Nat.reduceEqDiff,csM]
  rw[←ht]
  rfl
 ·have hp':(0:Int)<(k:Int)+1:=by omega
  have hkl:k<l.length:=by omega
  have htk:=trimQ_take (l:=l) (k:=k) (by omega)
  simp only[c33_12,c33_8,c33_6,l33_4,csW,cw,cops,csM,Nat.reduceLT,reduceCtorEq,Nat.reduceEqDiff,hp',getD_q hkl,csQ,Nat.reduceAdd]
  (repeat refine And.intro (by first | omega | (simp;omega)) ?_)
  refine⟨_,qSign (cf l k) n (hb k) hn,?_⟩
  simp only[l33_5,cops,csW,reduceCtorEq,Nat.reduceEqDiff]
  refine keep [0,2,3,16] ?_
  simp only[c33_7,csW,reduceCtorEq,Nat.reduceEqDiff,cw]
  refine⟨fun hc => ?_,fun hc => ?_⟩
  ·(try simp only[cw,cops,csW,reduceIte,Nat.reduceEqDiff,reduceCtorEq,Nat.reduceAdd,Nat.reduceLT,Nat.reduceLeDiff,Nat.reduceSub,csM,csQ])
   refine keep [0,2,3] ?_
   simp only[c33_11,c33_10,l33_9,csW,reduceCtorEq,Nat.reduceEqDiff,cw,cops]
   (repeat refine And.intro (by first | omega | (simp;omega)) ?_)
   rw[if_pos (sgnQ_0.1 (by simpa using hc))] at htk
   exact⟨k,⟨by omega,htk.symm.trans ht⟩,(Sub.toG [0,2,3] [] (by rfl) (by rfl) (by rfl) (by rfl)),by omega⟩
  ·(try simp only[cw,cops,csW,reduceIte,Nat.reduceEqDiff,reduceCtorEq,Nat.reduceAdd,Nat.reduceLT,Nat.reduceLeDiff,Nat.reduceSub,csM,csQ])
   refine keep [0,2,3] ?_
   simp only[c33_17,c33_16,l33_15,csW,reduceCtorEq,Nat.reduceEqDiff,cw,cops,csM,csQ]
   (repeat refine And.intro (by first | omega | (simp;omega)) ?_)
   refine keep [2] ?_
   simp only[Ends,resD,resL,resV,csW,reduceCtorEq,Nat.reduceEqDiff,csM]
   rw[if_neg (fun e=>by simp[sgnQ_0.2 e] at hc)] at htk
   rw[←ht,htk]
set_option maxHeartbeats 1000000 in
theorem pmade_con (l:List Rat) (n:Nat) (hb:Bl n l) (hn:n≤big) (h:l.length≤9223372036854775807):Con Try.prog AN 54 [LZ l] (LZ (trimQ l)):=by
 refine fn54.con rfl (by simp) ?_
 simp only[c54,c54_20,c54_1,l54_0,init1,cw,csW,cops,reduceCtorEq]
 refine keep [0] ?_
 simp only[c54_19,c54_3,l54_2,csW,reduceCtorEq,cw,cops,Nat.reduceEqDiff]
 refine keep [0,3] ?_
 simp only[c54_18,c54_14,csW,reduceCtorEq,Nat.reduceEqDiff,cw]
 refine loop_of (ι:=Nat) (fun k=>k≤l.length∧trimQ (l.take k)=trimQ l) (fun k=>⟨look [(0,.p (LZ l)),(3,.p (J k))],lookM []⟩) (fun k=>k) l.length ⟨by omega,by simp⟩ (Sub.rf _) ?_
 rintro k ⟨hk,ht⟩
 rcases k with _ | k
 ·have hp':¬ ((0:Int)<0):=by omega
  simp only[c54_12,c54_8,c54_6,l54_4,csW,cw,cops,csM,Nat.reduceLT,reduceCtorEq,Nat.reduceEqDiff,hp']
  simp only[l54_5,cops,csW,reduceCtorEq,Nat.reduceEqDiff]
  refine keep [0,3,16] ?_
  simp only[c54_7,csW,reduceCtorEq,Nat.reduceEqDiff,cw]
  refine keep [0,3] ?_
  simp only[c54_17,c54_16,l54_15,csW,reduceCtorEq,Nat.reduceEqDiff,cw,cops]
  (repeat refine And.intro (by first | omega | (simp;omega)) ?_)
  refine keep [2] ?_
  simp only[Ends,resD,resL,resV,csW,reduceCtorEq,Nat.reduceEqDiff]
  rw[←ht]
  rfl
 ·have hp':(0:Int)<(k:Int)+1:=by omega
  have hkl:k<l.length:=by omega
  have htk:=trimQ_take (l:=l) (k:=k) (by omega)
  simp only[c54_12,c54_8,c54_6,l54_4,csW,cw,cops,csM,Nat.reduceLT,reduceCtorEq,Nat.reduceEqDiff,hp',getD_z hkl,csQ,Nat.reduceAdd]
  (repeat refine And.intro (by first | omega | (simp;omega)) ?_)
  refine⟨_,zSign (cf l k) n (hb k) hn,?_⟩
  simp only[l54_5,cops,csW,reduceCtorEq,Nat.reduceEqDiff]
  refine keep [0,3,16] ?_
  simp only[c54_7,csW,reduceCtorEq,Nat.reduceEqDiff,cw]
  refine⟨fun hc => ?_,fun hc => ?_⟩
  ·(try simp only[cw,cops,csW,reduceIte,Nat.reduceEqDiff,reduceCtorEq,Nat.reduceAdd,Nat.reduceLT,Nat.reduceLeDiff,Nat.reduceSub,csM,csQ])
   refine keep [0,3] ?_
   simp only[c54_11,c54_10,l54_9,csW,reduceCtorEq,Nat.reduceEqDiff,cw,cops]
   (repeat refine And.intro (by first | omega | (simp;omega)) ?_)
   rw[if_pos (sgnQ_0.1 (by simpa using hc))] at htk
   exact⟨k,⟨by omega,htk.symm.trans ht⟩,(Sub.toG [0,3] [] (by rfl) (by rfl) (by rfl) (by rfl)),by omega⟩
  ·(try simp only[cw,cops,csW,reduceIte,Nat.reduceEqDiff,reduceCtorEq,Nat.reduceAdd,Nat.reduceLT,Nat.reduceLeDiff,Nat.reduceSub,csM,csQ])
   refine keep [0,3] ?_
   simp only[c54_17,c54_16,l54_15,csW,reduceCtorEq,Nat.reduceEqDiff,cw,cops,csQ]
   (repeat refine And.intro (by first | omega | (simp;omega)) ?_)
   refine keep [2] ?_
   simp only[Ends,resD,resL,resV,csW,reduceCtorEq,Nat.reduceEqDiff]
   rw[if_neg (fun e=>by simp[sgnQ_0.2 e] at hc)] at htk
   rw[←ht,htk]
def cfZ (l:List Rat) (i:Int):Rat:=if 0≤i then cf l i.toNat else 0
theorem cfZ_ld (l:List Rat):cfZ l ((l.length:Int)-1)=ld l:=by
 unfold cfZ ld
 split
 ·congr 1;omega
 ·have:l=[]:=List.eq_nil_of_length_eq_zero (by omega)
  subst this;rfl
set_option maxHeartbeats 1000000 in
theorem at_con (l:List Rat) (i:Int):Con Try.prog AN 71 [pI l,J i] (qI (cfZ l i)):=by
 by_cases h0:i<0
 ·have e:cfZ l i=0:=by unfold cfZ;rw[if_neg (by omega)]
  refine fn71.con rfl (by simp) ?_
  simp only[c71,c71_13,c71_1,l71_0,csQ,init2,cw,csW,cops,reduceCtorEq,Nat.reduceEqDiff]
  refine keep [1,2,4] ?_
  simp only[c71_12,c71_8,c71_3,l71_2,csW,reduceCtorEq,Nat.reduceEqDiff,cw,cops,csM,h0]
  refine keep [1,2,4,13] ?_
  simp only[c71_7,csW,Nat.reduceEqDiff,cw]
  simp only[c71_6,c71_5,l71_4,cw,csW,cops,csM,csQ,Nat.reduceEqDiff,Nat.reduceAdd]
  refine keep [4] ?_
  simp only[Ends,resD,resL,resV,csW,Nat.reduceEqDiff,csM,csQ,Nat.reduceAdd]
  rw[e]
 ·by_cases h1:(l.length:Int)≤i
  ·have e:cfZ l i=0:=by unfold cfZ;rw[if_pos (by omega),cf_ge (by omega)]
   refine fn71.con rfl (by simp) ?_
   simp only[c71,c71_13,c71_1,l71_0,csQ,init2,cw,csW,cops,reduceCtorEq,Nat.reduceEqDiff]
   refine keep [1,2,4] ?_
   simp only[c71_12,c71_8,c71_3,l71_2,csW,reduceCtorEq,Nat.reduceEqDiff,cw,cops,csM,h0,h1]
   refine keep [1,2,4,13] ?_
   simp only[c71_7,csW,Nat.reduceEqDiff,cw]
   simp only[c71_6,c71_5,l71_4,cw,csW,cops,csM,csQ,Nat.reduceEqDiff,Nat.reduceAdd]
   refine keep [4] ?_
   simp only[Ends,resD,resL,resV,csW,Nat.reduceEqDiff,csM,csQ,Nat.reduceAdd]
   rw[e]
  ·have hi:i.toNat<l.length:=by omega
   have e:cfZ l i=cf l i.toNat:=by unfold cfZ;rw[if_pos (by omega)]
   refine fn71.con rfl (by simp) ?_
   simp only[c71,c71_13,c71_1,l71_0,csQ,init2,cw,csW,cops,reduceCtorEq,Nat.reduceEqDiff]
   refine keep [1,2,4] ?_
   simp only[c71_12,c71_8,c71_3,l71_2,csW,reduceCtorEq,Nat.reduceEqDiff,cw,cops,csM,h0,h1]
   refine keep [1,2,4,13] ?_
   simp only[c71_7,csW,Nat.reduceEqDiff,cw]
   refine keep [1,2,4] ?_
   simp only[c71_11,c71_10,l71_9,csW,Nat.reduceEqDiff,cw,cops,csM,Nat.reduceLT,getD_q hi,csQ,Nat.reduceAdd]
   (repeat refine And.intro (by first | omega | (simp;omega)) ?_)
   refine keep [4] ?_
   simp only[Ends,resD,resL,resV,csW,Nat.reduceEqDiff,csM,csQ,Nat.reduceAdd]
   rw[e]
set_option maxHeartbeats 1000000 in
theorem lead_con (l:List Rat) (hl:l.length≤1000000000):Con Try.prog AN 42 [pI l] (qI (ld l)):=by
 rw[←cfZ_ld]
 refine fn42.con rfl (by simp) ?_
 simp only[c42,c42_6,c42_1,l42_0,csQ,init1,cw,csW,cops,reduceCtorEq,Nat.reduceEqDiff]
 refine keep [1,2] ?_
 simp only[c42_5,c42_4,l42_2,csW,reduceCtorEq,Nat.reduceEqDiff,cw,cops,csM]
 (repeat refine And.intro (by first | omega | (simp;omega)) ?_)
 refine⟨_,at_con l _,?_⟩
 simp only[l42_3,cops,csW,Nat.reduceEqDiff,csQ,Nat.reduceAdd,csM]
 refine keep [2] ?_
 simp only[Ends,resD,resL,resV,csW,Nat.reduceEqDiff,csM,csQ,Nat.reduceAdd]
theorem degree_con (l:List Rat) (hl:l.length≤1000000000):Con Try.prog AN 22 [pI l] (J ((l.length:Int)-1)):=by
 refine fn22.con rfl (by simp) ?_
 simp only[c22,c22_5,c22_1,l22_0,init1,cw,csW,cops,reduceCtorEq,Nat.reduceEqDiff]
 refine keep [1] ?_
 simp only[c22_4,c22_3,l22_2,csW,reduceCtorEq,Nat.reduceEqDiff,cw,cops,csM]
 (repeat refine And.intro (by first | omega | (simp;omega)) ?_)
 refine keep [2] ?_
 simp only[Ends,resD,resL,resV,csW,Nat.reduceEqDiff]
theorem fault_con (c a:Int):Con Try.prog AN 32 [J c,J a] (flt c a):=by
 refine fn32.con rfl (by simp) ?_
 simp only[c32,c32_5,c32_1,l32_0,csM,init2,cw,csW,cops,reduceCtorEq,Nat.reduceEqDiff]
 refine keep [0,1,4] ?_
 simp only[c32_4,c32_3,l32_2,csW,reduceCtorEq,Nat.reduceEqDiff,cw,cops,csM,Nat.reduceAdd,Nat.reduceLeDiff]
 refine keep [4] ?_
 simp only[Ends,resD,resL,resV,csW,reduceCtorEq,Nat.reduceEqDiff,csM,Nat.reduceAdd]
theorem rfault_con (c a:Int):Con Try.prog AN 34 [J c,J a] (flt c a):=by
 refine fn34.con rfl (by simp) ?_
 simp only[c34,c34_5,c34_1,l34_0,csM,init2,cw,csW,cops,reduceCtorEq,Nat.reduceEqDiff]
 refine keep [0,1,4] ?_
 simp only[c34_4,c34_3,l34_2,csW,reduceCtorEq,Nat.reduceEqDiff,cw,cops,csM,Nat.reduceAdd,Nat.reduceLeDiff]
 refine keep [4] ?_
 simp only[Ends,resD,resL,resV,csW,reduceCtorEq,Nat.reduceEqDiff,csM,Nat.reduceAdd]
theorem lfault_con (c a:Int):Con Try.prog AN 14 [J c,J a] (flt c a):=by
 refine fn14.con rfl (by simp) ?_
 simp only[c14,c14_5,c14_1,l14_0,csM,init2,cw,csW,cops,reduceCtorEq,Nat.reduceEqDiff]
 refine keep [0,1,4] ?_
 simp only[c14_4,c14_3,l14_2,csW,reduceCtorEq,Nat.reduceEqDiff,cw,cops,csM,Nat.reduceAdd,Nat.reduceLeDiff]
 refine keep [4] ?_
 simp only[Ends,resD,resL,resV,csW,reduceCtorEq,Nat.reduceEqDiff,csM,Nat.reduceAdd]
theorem fof_con (i:Int) (hi:-9223372036854775808≤i∧i≤9223372036854775807):Con Try.prog AN 47 [J i] (qZ (i:Rat)):=by
 refine fn47.con rfl (by simp) ?_
 simp only[c47,c47_7,c47_1,l47_0,init1,cw,csW,cops,reduceCtorEq]
 refine keep [0,2] ?_
 simp only[c47_6,c47_5,l47_2,csW,reduceCtorEq,cw,cops,Nat.reduceEqDiff]
 refine⟨_,cZOf i hi,?_⟩
 simp only[l47_3,cops,csW,reduceCtorEq,Nat.reduceEqDiff]
 refine⟨_,cZOf 1 (by omega),?_⟩
 simp only[l47_4,cops,csW,csM,reduceCtorEq,Nat.reduceEqDiff,Nat.reduceAdd,Nat.reduceLeDiff]
 refine keep [2] ?_
 simp only[Ends,resD,resL,resV,csW,reduceCtorEq,Nat.reduceEqDiff,csM,Nat.reduceAdd]
 rfl
theorem pat_con (l:List Rat) (i:Int):Con Try.prog AN 48 [LZ l,J i] (qZ (cfZ l i)):=by
 by_cases h0:i<0
 ·have e:cfZ l i=0:=by unfold cfZ;rw[if_neg (by omega)]
  refine fn48.con rfl (by simp) ?_
  simp only[c48,c48_14,c48_1,l48_0,init2,cw,csW,cops,reduceCtorEq,Nat.reduceEqDiff]
  refine keep [0,1,4] ?_
  simp only[c48_13,c48_9,c48_3,l48_2,csW,reduceCtorEq,Nat.reduceEqDiff,cw,cops,h0]
  refine keep [0,1,4,12] ?_
  simp only[c48_8,csW,reduceCtorEq,Nat.reduceEqDiff,cw]
  simp only[c48_7,c48_6,l48_4,csW,cw,cops,reduceCtorEq,Nat.reduceEqDiff]
  refine⟨_,fof_con 0 (by omega),?_⟩
  simp only[l48_5,cops,csW,reduceCtorEq,Nat.reduceEqDiff,csQ,Nat.reduceAdd,csM]
  refine keep [4] ?_
  simp only[Ends,resD,resL,resV,csW,reduceCtorEq,Nat.reduceEqDiff,csM,csQ,Nat.reduceAdd]
  rw[e];rfl
 ·by_cases h1:(l.length:Int)≤i
  ·have e:cfZ l i=0:=by unfold cfZ;rw[if_pos (by omega),cf_ge (by omega)]
   refine fn48.con rfl (by simp) ?_
   simp only[c48,c48_14,c48_1,l48_0,init2,cw,csW,cops,reduceCtorEq,Nat.reduceEqDiff]
   refine keep [0,1,4] ?_
   simp only[c48_13,c48_9,c48_3,l48_2,csW,reduceCtorEq,Nat.reduceEqDiff,cw,cops,h0,h1]
   refine keep [0,1,4,12] ?_
   simp only[c48_8,csW,reduceCtorEq,Nat.reduceEqDiff,cw]
   simp only[c48_7,c48_6,l48_4,csW,cw,cops,reduceCtorEq,Nat.reduceEqDiff]
   refine⟨_,fof_con 0 (by omega),?_⟩
   simp only[l48_5,cops,csW,reduceCtorEq,Nat.reduceEqDiff,csQ,Nat.reduceAdd,csM]
   refine keep [4] ?_
   simp only[Ends,resD,resL,resV,csW,reduceCtorEq,Nat.reduceEqDiff,csM,csQ,Nat.reduceAdd]
   rw[e];rfl
  ·have hi:i.toNat<l.length:=by omega
   have e:cfZ l i=cf l i.toNat:=by unfold cfZ;rw[if_pos (by omega)]
   refine fn48.con rfl (by simp) ?_
   simp only[c48,c48_14,c48_1,l48_0,init2,cw,csW,cops,reduceCtorEq,Nat.reduceEqDiff]
   refine keep [0,1,4] ?_
   simp only[c48_13,c48_9,c48_3,l48_2,csW,reduceCtorEq,Nat.reduceEqDiff,cw,cops,h0,h1]
   refine keep [0,1,4,12] ?_
   simp only[c48_8,csW,reduceCtorEq,Nat.reduceEqDiff,cw]
   refine keep [0,1,4] ?_
   simp only[c48_12,c48_11,l48_10,csW,reduceCtorEq,Nat.reduceEqDiff,cw,cops,csM,Nat.reduceLT,getD_z hi,csQ,Nat.reduceAdd]
   (repeat refine And.intro (by first | omega | (simp;omega)) ?_)
   refine keep [4] ?_
   simp only[Ends,resD,resL,resV,csW,reduceCtorEq,Nat.reduceEqDiff,csM,csQ,Nat.reduceAdd]
   rw[e]
theorem plead_con (l:List Rat) (hl:l.length≤1000000000):Con Try.prog AN 18 [LZ l] (qZ (ld l)):=by
 rw[←cfZ_ld]
 refine fn18.con rfl (by simp) ?_
 simp only[c18,c18_6,c18_1,l18_0,init1,cw,csW,cops,reduceCtorEq]
 refine keep [0,2] ?_
 simp only[c18_5,c18_4,l18_2,csW,reduceCtorEq,cw,cops,Nat.reduceEqDiff]
 (repeat refine And.intro (by first | omega | (simp;omega)) ?_)
 refine⟨_,pat_con l _,?_⟩
 simp only[l18_3,cops,csW,reduceCtorEq,Nat.reduceEqDiff,csQ,Nat.reduceAdd,csM]
 refine keep [2] ?_
 simp only[Ends,resD,resL,resV,csW,reduceCtorEq,Nat.reduceEqDiff,csM,csQ,Nat.reduceAdd]
end Go.Proofs.Ytdjbfgfbpimakaa.M
