/- Polynomials of the program: the small functions. -/
import Derived.Test.YtkidkimjdiichaaGreatK7w
import Derived.Test.YtkidkimjdiichaaGreatK1w
import Derived.Test.YtkidkimjdiichaaGreatK4w
import Derived.Test.YtkidkimjdiichaaGreatPoCCw
import Derived.Test.YtkidkimjdiichaaGreatPoCDw
namespace Go.Proofs.YtkidkimjdiichaaGreat.M
open Go.RowKit
set_option linter.unusedSimpArgs false
set_option linter.unusedVariables false
set_option linter.defProp false
abbrev J (n:Int):D:=.int .i64 n
abbrev LI (l:List Rat):D:=.list 52 4 (l.map qI)
abbrev LZ (l:List Rat):D:=.list 60 4 (l.map qZ)
abbrev pI (l:List Rat):D:=.agg [LI l]
abbrev big:Nat:=2048000000000
def Bl (n:Nat) (l:List Rat):Prop:=∀ i,Bq n (cf l i)
theorem Bl.mono {n m:Nat} {l:List Rat} (h:Bl n l) (hm:n≤m):Bl m l:=fun i=>(h i).mono hm
theorem Bl.tab {n N:Nat} {f:Nat→Rat} (hn:0<n) (h:∀ i,i<N→Bq n (f i)):Bl n (tab N f):=fun i=>by
 rw[cf_tab];split
 ·exact h i ‹_›
 ·exact Bq.zero n hn
theorem Bl.pos {n:Nat} {l:List Rat} (h:Bl n l):0<n:=by
 have:=(h l.length).2
 rw[cf_ge (Nat.le_refl _)] at this
 rcases Nat.eq_zero_or_pos n with e | e
 ·subst e;simp at this
 ·exact e
theorem getD_q {l:List Rat} {i:Nat} (h:i<l.length):(l.map qI).getD i default=qI (cf l i):=by simp[cf,h]
theorem getD_z {l:List Rat} {i:Nat} (h:i<l.length):(l.map qZ).getD i default=qZ (cf l i):=by simp[cf,h]
theorem set_q (l:List Rat) (i:Nat) (x:Rat):(l.map qI).set i (qI x)=(l.set i x).map qI:=List.map_set.symm
theorem set_z (l:List Rat) (i:Nat) (x:Rat):(l.map qZ).set i (qZ x)=(l.set i x).map qZ:=List.map_set.symm
theorem rep_q (n:Nat) (x:Rat):List.replicate n (qI x)=(List.replicate n x).map qI:=List.map_replicate.symm
theorem rep_z (n:Nat) (x:Rat):List.replicate n (qZ x)=(List.replicate n x).map qZ:=List.map_replicate.symm
theorem take_q (l:List Rat) (n:Nat):(l.map qI).take n=(l.take n).map qI:=List.map_take.symm
theorem take_z (l:List Rat) (n:Nat):(l.map qZ).take n=(l.take n).map qZ:=List.map_take.symm
theorem app_q (l:List Rat) (x:Rat):l.map qI++[qI x]=(l++[x]).map qI:=by simp
theorem app_z (l:List Rat) (x:Rat):l.map qZ++[qZ x]=(l++[x]).map qZ:=by simp
theorem rep1_q (x:Rat):List.replicate 1 x=[x]:=rfl
theorem rep2_q (x:Rat):List.replicate 2 x=[x,x]:=rfl
theorem set0_q (x z:Rat) (l:List Rat):(z::l).set 0 x=x::l:=rfl
theorem set1_q (x y z:Rat) (l:List Rat):(z::y::l).set 1 x=z::x::l:=rfl
def csQ:=And.intro @rep1_q (And.intro @rep2_q (And.intro @set0_q (And.intro @set1_q (And.intro @one_qI (And.intro @one_qZ (And.intro @isAgg_qI (And.intro @isAgg_qZ (And.intro @cells_qI (And.intro @cells_qZ (And.intro @fold_qI (And.intro @fold_qZ (And.intro @qI_0 (And.intro @set_q (And.intro @set_z (And.intro @rep_q (And.intro @rep_z (And.intro @take_q (And.intro @take_z (And.intro @app_q (@app_z))))))))))))))))))))
set_option maxHeartbeats 1000000 in
theorem made_con (l:List Rat) (n:Nat) (hb:Bl n l) (hn:n≤big) (h:l.length≤9223372036854775807):Con Tryz.prog AN 101 [LI l] (pI (trimQ l)):=by
 refine fn101.con rfl (by simp) ?_
 simp only[c101,c101_20,c101_1,l101_0,init1,cw,csW,cops,reduceCtorEq]
 refine keep [0,2] ?_
 simp only[c101_19,c101_3,l101_2,csW,reduceCtorEq,cw,cops,Nat.reduceEqDiff]
 refine keep [0,2,3] ?_
 simp only[c101_18,c101_14,csW,reduceCtorEq,Nat.reduceEqDiff,cw]
 refine loop_of (ι:=Nat) (fun k=>k≤l.length∧trimQ (l.take k)=trimQ l) (fun k=>⟨look [(0,.p (LI l)),(2,.ptr 2 0 0),(3,.p (J k))],lookM [(2,⟨25,1,.box (.p (.agg [.list 52 4 []])),false⟩)]⟩) (fun k=>k) l.length ⟨by omega,by simp⟩ (Sub.rf _) ?_
 rintro k ⟨hk,ht⟩
 rcases k with _ | k
 ·have hp':¬ ((0:Int)<0):=by omega
  simp only[c101_12,c101_8,c101_6,l101_4,csW,cw,cops,csM,Nat.reduceLT,reduceCtorEq,Nat.reduceEqDiff,hp']
  simp only[l101_5,cops,csW,reduceCtorEq,Nat.reduceEqDiff]
  refine keep [0,2,3,16] ?_
  simp only[c101_7,csW,reduceCtorEq,Nat.reduceEqDiff,cw]
  refine keep [0,2,3] ?_
  simp only[c101_17,c101_16,l101_15,csW,reduceCtorEq,Nat.reduceEqDiff,cw,cops,csM]
  (repeat refine And.intro (by first | omega | (simp;omega)) ?_)
  refine keep [2] ?_
  simp only[Ends,resD,resL,resV,csW,reduceCtorEq,Nat.reduceEqDiff,csM]
  rw[←ht]
  rfl
 ·have hp':(0:Int)<(k:Int)+1:=by omega
  have hkl:k<l.length:=by omega
  have htk:=trimQ_take (l:=l) (k:=k) (by omega)
  simp only[c101_12,c101_8,c101_6,l101_4,csW,cw,cops,csM,Nat.reduceLT,reduceCtorEq,Nat.reduceEqDiff,hp',getD_q hkl,csQ,Nat.reduceAdd]
  (repeat refine And.intro (by first | omega | (simp;omega)) ?_)
  refine⟨_,qSign (cf l k) n (hb k) hn,?_⟩
  simp only[l101_5,cops,csW,reduceCtorEq,Nat.reduceEqDiff]
  refine keep [0,2,3,16] ?_
  simp only[c101_7,csW,reduceCtorEq,Nat.reduceEqDiff,cw]
  refine⟨fun hc => ?_,fun hc => ?_⟩
  ·(try simp only[cw,cops,csW,reduceIte,Nat.reduceEqDiff,reduceCtorEq,Nat.reduceAdd,Nat.reduceLT,Nat.reduceLeDiff,Nat.reduceSub,csM,csQ])
   refine keep [0,2,3] ?_
   simp only[c101_11,c101_10,l101_9,csW,reduceCtorEq,Nat.reduceEqDiff,cw,cops]
   (repeat refine And.intro (by first | omega | (simp;omega)) ?_)
   rw[if_pos (sgnQ_0.1 (by simpa using hc))] at htk
   exact⟨k,⟨by omega,htk.symm.trans ht⟩,(Sub.toG [0,2,3] [] (by rfl) (by rfl) (by rfl) (by rfl)),by omega⟩
  ·(try simp only[cw,cops,csW,reduceIte,Nat.reduceEqDiff,reduceCtorEq,Nat.reduceAdd,Nat.reduceLT,Nat.reduceLeDiff,Nat.reduceSub,csM,csQ])
   refine keep [0,2,3] ?_
   simp only[c101_17,c101_16,l101_15,csW,reduceCtorEq,Nat.reduceEqDiff,cw,cops,csM,csQ]
   (repeat refine And.intro (by first | omega | (simp;omega)) ?_)
   refine keep [2] ?_
   simp only[Ends,resD,resL,resV,csW,reduceCtorEq,Nat.reduceEqDiff,csM]
   rw[if_neg (fun e=>by simp[sgnQ_0.2 e] at hc)] at htk
   rw[←ht,htk]
set_option maxHeartbeats 1000000 in
theorem pmade_con (l:List Rat) (n:Nat) (hb:Bl n l) (hn:n≤big) (h:l.length≤9223372036854775807):Con Tryz.prog AN 108 [LZ l] (LZ (trimQ l)):=by
 refine fn108.con rfl (by simp) ?_
 simp only[c108,c108_20,c108_1,l108_0,init1,cw,csW,cops,reduceCtorEq]
 refine keep [0] ?_
 simp only[c108_19,c108_3,l108_2,csW,reduceCtorEq,cw,cops,Nat.reduceEqDiff]
 refine keep [0,3] ?_
 simp only[c108_18,c108_14,csW,reduceCtorEq,Nat.reduceEqDiff,cw]
 refine loop_of (ι:=Nat) (fun k=>k≤l.length∧trimQ (l.take k)=trimQ l) (fun k=>⟨look [(0,.p (LZ l)),(3,.p (J k))],lookM []⟩) (fun k=>k) l.length ⟨by omega,by simp⟩ (Sub.rf _) ?_
 rintro k ⟨hk,ht⟩
 rcases k with _ | k
 ·have hp':¬ ((0:Int)<0):=by omega
  simp only[c108_12,c108_8,c108_6,l108_4,csW,cw,cops,csM,Nat.reduceLT,reduceCtorEq,Nat.reduceEqDiff,hp']
  simp only[l108_5,cops,csW,reduceCtorEq,Nat.reduceEqDiff]
  refine keep [0,3,16] ?_
  simp only[c108_7,csW,reduceCtorEq,Nat.reduceEqDiff,cw]
  refine keep [0,3] ?_
  simp only[c108_17,c108_16,l108_15,csW,reduceCtorEq,Nat.reduceEqDiff,cw,cops]
  (repeat refine And.intro (by first | omega | (simp;omega)) ?_)
  refine keep [2] ?_
  simp only[Ends,resD,resL,resV,csW,reduceCtorEq,Nat.reduceEqDiff]
  rw[←ht]
  rfl
 ·have hp':(0:Int)<(k:Int)+1:=by omega
  have hkl:k<l.length:=by omega
  have htk:=trimQ_take (l:=l) (k:=k) (by omega)
  simp only[c108_12,c108_8,c108_6,l108_4,csW,cw,cops,csM,Nat.reduceLT,reduceCtorEq,Nat.reduceEqDiff,hp',getD_z hkl,csQ,Nat.reduceAdd]
  (repeat refine And.intro (by first | omega | (simp;omega)) ?_)
  refine⟨_,zSign (cf l k) n (hb k) hn,?_⟩
  simp only[l108_5,cops,csW,reduceCtorEq,Nat.reduceEqDiff]
  refine keep [0,3,16] ?_
  simp only[c108_7,csW,reduceCtorEq,Nat.reduceEqDiff,cw]
  refine⟨fun hc => ?_,fun hc => ?_⟩
  ·(try simp only[cw,cops,csW,reduceIte,Nat.reduceEqDiff,reduceCtorEq,Nat.reduceAdd,Nat.reduceLT,Nat.reduceLeDiff,Nat.reduceSub,csM,csQ])
   refine keep [0,3] ?_
   simp only[c108_11,c108_10,l108_9,csW,reduceCtorEq,Nat.reduceEqDiff,cw,cops]
   (repeat refine And.intro (by first | omega | (simp;omega)) ?_)
   rw[if_pos (sgnQ_0.1 (by simpa using hc))] at htk
   exact⟨k,⟨by omega,htk.symm.trans ht⟩,(Sub.toG [0,3] [] (by rfl) (by rfl) (by rfl) (by rfl)),by omega⟩
  ·(try simp only[cw,cops,csW,reduceIte,Nat.reduceEqDiff,reduceCtorEq,Nat.reduceAdd,Nat.reduceLT,Nat.reduceLeDiff,Nat.reduceSub,csM,csQ])
   refine keep [0,3] ?_
   simp only[c108_17,c108_16,l108_15,csW,reduceCtorEq,Nat.reduceEqDiff,cw,cops,csQ]
   (repeat refine And.intro (by first | omega | (simp;omega)) ?_)
   refine keep [2] ?_
   simp only[Ends,resD,resL,resV,csW,reduceCtorEq,Nat.reduceEqDiff]
   rw[if_neg (fun e=>by simp[sgnQ_0.2 e] at hc)] at htk
   rw[←ht,htk]
def cfZ (l:List Rat) (i:Int):Rat:=if 0≤i then cf l i.toNat else 0
theorem cfZ_nat (l:List Rat) (i:Nat):cfZ l (i:Int)=cf l i:=by unfold cfZ;rw[if_pos (by omega),Int.toNat_natCast]
theorem cfZ_ld (l:List Rat):cfZ l ((l.length:Int)-1)=ld l:=by
 unfold cfZ ld
 split
 ·congr 1;omega
 ·have:l=[]:=List.eq_nil_of_length_eq_zero (by omega)
  subst this;rfl
set_option maxHeartbeats 1000000 in
theorem at_con (l:List Rat) (i:Int):Con Tryz.prog AN 32 [pI l,J i] (qI (cfZ l i)):=by
 by_cases h0:i<0
 ·have e:cfZ l i=0:=by unfold cfZ;rw[if_neg (by omega)]
  refine fn32.con rfl (by simp) ?_
  simp only[c32,c32_13,c32_1,l32_0,csQ,init2,cw,csW,cops,reduceCtorEq,Nat.reduceEqDiff]
  refine keep [1,2,4] ?_
  simp only[c32_12,c32_8,c32_3,l32_2,csW,reduceCtorEq,Nat.reduceEqDiff,cw,cops,csM,h0]
  refine keep [1,2,4,13] ?_
  simp only[c32_7,csW,Nat.reduceEqDiff,cw]
  simp only[c32_6,c32_5,l32_4,cw,csW,cops,csM,csQ,Nat.reduceEqDiff,Nat.reduceAdd]
  refine keep [4] ?_
  simp only[Ends,resD,resL,resV,csW,Nat.reduceEqDiff,csM,csQ,Nat.reduceAdd]
  rw[e]
 ·by_cases h1:(l.length:Int)≤i
  ·have e:cfZ l i=0:=by unfold cfZ;rw[if_pos (by omega),cf_ge (by omega)]
   refine fn32.con rfl (by simp) ?_
   simp only[c32,c32_13,c32_1,l32_0,csQ,init2,cw,csW,cops,reduceCtorEq,Nat.reduceEqDiff]
   refine keep [1,2,4] ?_
   simp only[c32_12,c32_8,c32_3,l32_2,csW,reduceCtorEq,Nat.reduceEqDiff,cw,cops,csM,h0,h1]
   refine keep [1,2,4,13] ?_
   simp only[c32_7,csW,Nat.reduceEqDiff,cw]
   simp only[c32_6,c32_5,l32_4,cw,csW,cops,csM,csQ,Nat.reduceEqDiff,Nat.reduceAdd]
   refine keep [4] ?_
   simp only[Ends,resD,resL,resV,csW,Nat.reduceEqDiff,csM,csQ,Nat.reduceAdd]
   rw[e]
  ·have hi:i.toNat<l.length:=by omega
   have e:cfZ l i=cf l i.toNat:=by unfold cfZ;rw[if_pos (by omega)]
   refine fn32.con rfl (by simp) ?_
   simp only[c32,c32_13,c32_1,l32_0,csQ,init2,cw,csW,cops,reduceCtorEq,Nat.reduceEqDiff]
   refine keep [1,2,4] ?_
   simp only[c32_12,c32_8,c32_3,l32_2,csW,reduceCtorEq,Nat.reduceEqDiff,cw,cops,csM,h0,h1]
   refine keep [1,2,4,13] ?_
   simp only[c32_7,csW,Nat.reduceEqDiff,cw]
   refine keep [1,2,4] ?_
   simp only[c32_11,c32_10,l32_9,csW,Nat.reduceEqDiff,cw,cops,csM,Nat.reduceLT,getD_q hi,csQ,Nat.reduceAdd]
   (repeat refine And.intro (by first | omega | (simp;omega)) ?_)
   refine keep [4] ?_
   simp only[Ends,resD,resL,resV,csW,Nat.reduceEqDiff,csM,csQ,Nat.reduceAdd]
   rw[e]
set_option maxHeartbeats 1000000 in
theorem lead_con (l:List Rat) (hl:l.length≤1000000000):Con Tryz.prog AN 36 [pI l] (qI (ld l)):=by
 rw[←cfZ_ld]
 refine fn36.con rfl (by simp) ?_
 simp only[c36,c36_6,c36_1,l36_0,csQ,init1,cw,csW,cops,reduceCtorEq,Nat.reduceEqDiff]
 refine keep [1,2] ?_
 simp only[c36_5,c36_4,l36_2,csW,reduceCtorEq,Nat.reduceEqDiff,cw,cops,csM]
 (repeat refine And.intro (by first | omega | (simp;omega)) ?_)
 refine⟨_,at_con l _,?_⟩
 simp only[l36_3,cops,csW,Nat.reduceEqDiff,csQ,Nat.reduceAdd,csM]
 refine keep [2] ?_
 simp only[Ends,resD,resL,resV,csW,Nat.reduceEqDiff,csM,csQ,Nat.reduceAdd]
theorem degree_con (l:List Rat) (hl:l.length≤1000000000):Con Tryz.prog AN 27 [pI l] (J ((l.length:Int)-1)):=by
 refine fn27.con rfl (by simp) ?_
 simp only[c27,c27_5,c27_1,l27_0,init1,cw,csW,cops,reduceCtorEq,Nat.reduceEqDiff]
 refine keep [1] ?_
 simp only[c27_4,c27_3,l27_2,csW,reduceCtorEq,Nat.reduceEqDiff,cw,cops,csM]
 (repeat refine And.intro (by first | omega | (simp;omega)) ?_)
 refine keep [2] ?_
 simp only[Ends,resD,resL,resV,csW,Nat.reduceEqDiff]
theorem fault_con (c a:Int):Con Tryz.prog AN 100 [J c,J a] (flt c a):=by
 refine fn100.con rfl (by simp) ?_
 simp only[c100,c100_5,c100_1,l100_0,csM,init2,cw,csW,cops,reduceCtorEq,Nat.reduceEqDiff]
 refine keep [0,1,4] ?_
 simp only[c100_4,c100_3,l100_2,csW,reduceCtorEq,Nat.reduceEqDiff,cw,cops,csM,Nat.reduceAdd,Nat.reduceLeDiff]
 refine keep [4] ?_
 simp only[Ends,resD,resL,resV,csW,reduceCtorEq,Nat.reduceEqDiff,csM,Nat.reduceAdd]
theorem rfault_con (c a:Int):Con Tryz.prog AN 102 [J c,J a] (flt c a):=by
 refine fn102.con rfl (by simp) ?_
 simp only[c102,c102_5,c102_1,l102_0,csM,init2,cw,csW,cops,reduceCtorEq,Nat.reduceEqDiff]
 refine keep [0,1,4] ?_
 simp only[c102_4,c102_3,l102_2,csW,reduceCtorEq,Nat.reduceEqDiff,cw,cops,csM,Nat.reduceAdd,Nat.reduceLeDiff]
 refine keep [4] ?_
 simp only[Ends,resD,resL,resV,csW,reduceCtorEq,Nat.reduceEqDiff,csM,Nat.reduceAdd]
theorem lfault_con (c a:Int):Con Tryz.prog AN 26 [J c,J a] (flt c a):=by
 refine fn26.con rfl (by simp) ?_
 simp only[c26,c26_5,c26_1,l26_0,csM,init2,cw,csW,cops,reduceCtorEq,Nat.reduceEqDiff]
 refine keep [0,1,4] ?_
 simp only[c26_4,c26_3,l26_2,csW,reduceCtorEq,Nat.reduceEqDiff,cw,cops,csM,Nat.reduceAdd,Nat.reduceLeDiff]
 refine keep [4] ?_
 simp only[Ends,resD,resL,resV,csW,reduceCtorEq,Nat.reduceEqDiff,csM,Nat.reduceAdd]
theorem fof_con (i:Int) (hi:-9223372036854775808≤i∧i≤9223372036854775807):Con Tryz.prog AN 53 [J i] (qZ (i:Rat)):=by
 refine fn53.con rfl (by simp) ?_
 simp only[c53,c53_7,c53_1,l53_0,init1,cw,csW,cops,reduceCtorEq]
 refine keep [0,2] ?_
 simp only[c53_6,c53_5,l53_2,csW,reduceCtorEq,cw,cops,Nat.reduceEqDiff]
 refine⟨_,cZOf i hi,?_⟩
 simp only[l53_3,cops,csW,reduceCtorEq,Nat.reduceEqDiff]
 refine⟨_,cZOf 1 (by omega),?_⟩
 simp only[l53_4,cops,csW,csM,reduceCtorEq,Nat.reduceEqDiff,Nat.reduceAdd,Nat.reduceLeDiff]
 refine keep [2] ?_
 simp only[Ends,resD,resL,resV,csW,reduceCtorEq,Nat.reduceEqDiff,csM,Nat.reduceAdd]
 rfl
theorem pat_con (l:List Rat) (i:Int):Con Tryz.prog AN 35 [LZ l,J i] (qZ (cfZ l i)):=by
 by_cases h0:i<0
 ·have e:cfZ l i=0:=by unfold cfZ;rw[if_neg (by omega)]
  refine fn35.con rfl (by simp) ?_
  simp only[c35,c35_14,c35_1,l35_0,init2,cw,csW,cops,reduceCtorEq,Nat.reduceEqDiff]
  refine keep [0,1,4] ?_
  simp only[c35_13,c35_9,c35_3,l35_2,csW,reduceCtorEq,Nat.reduceEqDiff,cw,cops,h0]
  refine keep [0,1,4,12] ?_
  simp only[c35_8,csW,reduceCtorEq,Nat.reduceEqDiff,cw]
  simp only[c35_7,c35_6,l35_4,csW,cw,cops,reduceCtorEq,Nat.reduceEqDiff]
  refine⟨_,fof_con 0 (by omega),?_⟩
  simp only[l35_5,cops,csW,reduceCtorEq,Nat.reduceEqDiff,csQ,Nat.reduceAdd,csM]
  refine keep [4] ?_
  simp only[Ends,resD,resL,resV,csW,reduceCtorEq,Nat.reduceEqDiff,csM,csQ,Nat.reduceAdd]
  rw[e];rfl
 ·by_cases h1:(l.length:Int)≤i
  ·have e:cfZ l i=0:=by unfold cfZ;rw[if_pos (by omega),cf_ge (by omega)]
   refine fn35.con rfl (by simp) ?_
   simp only[c35,c35_14,c35_1,l35_0,init2,cw,csW,cops,reduceCtorEq,Nat.reduceEqDiff]
   refine keep [0,1,4] ?_
   simp only[c35_13,c35_9,c35_3,l35_2,csW,reduceCtorEq,Nat.reduceEqDiff,cw,cops,h0,h1]
   refine keep [0,1,4,12] ?_
   simp only[c35_8,csW,reduceCtorEq,Nat.reduceEqDiff,cw]
   simp only[c35_7,c35_6,l35_4,csW,cw,cops,reduceCtorEq,Nat.reduceEqDiff]
   refine⟨_,fof_con 0 (by omega),?_⟩
   simp only[l35_5,cops,csW,reduceCtorEq,Nat.reduceEqDiff,csQ,Nat.reduceAdd,csM]
   refine keep [4] ?_
   simp only[Ends,resD,resL,resV,csW,reduceCtorEq,Nat.reduceEqDiff,csM,csQ,Nat.reduceAdd]
   rw[e];rfl
  ·have hi:i.toNat<l.length:=by omega
   have e:cfZ l i=cf l i.toNat:=by unfold cfZ;rw[if_pos (by omega)]
   refine fn35.con rfl (by simp) ?_
   simp only[c35,c35_14,c35_1,l35_0,init2,cw,csW,cops,reduceCtorEq,Nat.reduceEqDiff]
   refine keep [0,1,4] ?_
   simp only[c35_13,c35_9,c35_3,l35_2,csW,reduceCtorEq,Nat.reduceEqDiff,cw,cops,h0,h1]
   refine keep [0,1,4,12] ?_
   simp only[c35_8,csW,reduceCtorEq,Nat.reduceEqDiff,cw]
   refine keep [0,1,4] ?_
   simp only[c35_12,c35_11,l35_10,csW,reduceCtorEq,Nat.reduceEqDiff,cw,cops,csM,Nat.reduceLT,getD_z hi,csQ,Nat.reduceAdd]
   (repeat refine And.intro (by first | omega | (simp;omega)) ?_)
   refine keep [4] ?_
   simp only[Ends,resD,resL,resV,csW,reduceCtorEq,Nat.reduceEqDiff,csM,csQ,Nat.reduceAdd]
   rw[e]
theorem plead_con (l:List Rat) (hl:l.length≤1000000000):Con Tryz.prog AN 37 [LZ l] (qZ (ld l)):=by
 rw[←cfZ_ld]
 refine fn37.con rfl (by simp) ?_
 simp only[c37,c37_6,c37_1,l37_0,init1,cw,csW,cops,reduceCtorEq]
 refine keep [0,2] ?_
 simp only[c37_5,c37_4,l37_2,csW,reduceCtorEq,cw,cops,Nat.reduceEqDiff]
 (repeat refine And.intro (by first | omega | (simp;omega)) ?_)
 refine⟨_,pat_con l _,?_⟩
 simp only[l37_3,cops,csW,reduceCtorEq,Nat.reduceEqDiff,csQ,Nat.reduceAdd,csM]
 refine keep [2] ?_
 simp only[Ends,resD,resL,resV,csW,reduceCtorEq,Nat.reduceEqDiff,csM,csQ,Nat.reduceAdd]
end Go.Proofs.YtkidkimjdiichaaGreat.M
