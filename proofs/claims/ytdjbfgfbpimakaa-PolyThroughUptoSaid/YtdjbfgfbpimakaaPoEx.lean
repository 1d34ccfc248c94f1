/- Polynomials: products. -/
import Derived.Test.YtdjbfgfbpimakaaPoDx
import Derived.Test.YtdjbfgfbpimakaaK5
namespace Go.Proofs.Ytdjbfgfbpimakaa.M
open Go.RowKit
set_option linter.unusedSimpArgs false
set_option linter.unusedVariables false
set_option linter.defProp false
def tm (l m:List Rat) (k a:Nat):Rat:=if a≤k then cf l a*cf m (k-a) else 0
def pmv (l m:List Rat) (i j k:Nat):Rat:=sumQ i (tm l m k)+if i≤k∧k<i+j then cf l i*cf m (k-i) else 0
theorem pmv_0 (l m:List Rat) (k:Nat):pmv l m 0 0 k=0:=by unfold pmv;rw[if_neg (by omega)];simp only[sumQ];grind
theorem pmv_at (l m:List Rat) (i j:Nat):pmv l m i j (i+j)+cf l i*cf m j=pmv l m i (j+1) (i+j):=by
 unfold pmv
 rw[if_neg (by omega),if_pos (by omega),show i+j-i=j by omega];grind
theorem pmv_ne (l m:List Rat) {i j k:Nat} (h:k≠i+j):pmv l m i (j+1) k=pmv l m i j k:=by
 unfold pmv
 by_cases e:i≤k∧k<i+j
 ·rw[if_pos e,if_pos (by omega)]
 ·rw[if_neg e,if_neg (by omega)]
theorem pmv_row (l m:List Rat) (i k:Nat):pmv l m i m.length k=pmv l m (i+1) 0 k:=by
 unfold pmv
 rw[sumQ,if_neg (show ¬ (i+1≤k∧k<i+1+0) by omega)]
 unfold tm
 by_cases h:i≤k
 ·rw[if_pos h]
  by_cases h2:k<i+m.length
  ·rw[if_pos ⟨h,h2⟩];grind
  ·rw[if_neg (fun e=>h2 e.2),cf_ge (l:=m) (by omega)];grind
 ·rw[if_neg h,if_neg (fun e=>h e.1)];grind
theorem pmv_skip (l m:List Rat) {i:Nat} (h:cf l i=0) (k:Nat):pmv l m i 0 k=pmv l m (i+1) 0 k:=by
 rw[←pmv_row]
 unfold pmv
 rw[if_neg (by omega),h]
 split<;>grind
theorem pmv_end (l m:List Rat) (k:Nat):pmv l m l.length 0 k=cnv l m k:=by
 unfold pmv cnv
 rw[if_neg (by omega)]
 have h1:sumQ (l.length+(k+1)) (tm l m k)=sumQ l.length (tm l m k):=sumQ_le (by omega) fun i h1 _=>by unfold tm;rw[cf_ge (l:=l) h1];split<;>grind
 have h2:sumQ (l.length+(k+1)) (tm l m k)=sumQ (k+1) (tm l m k):=sumQ_le (by omega) fun i h1 _=>by unfold tm;rw[if_neg (by omega)]
 have h3:sumQ (k+1) (tm l m k)=sumQ (k+1) fun i=>cf l i*cf m (k-i):=sumQ_ext fun i hi=>by unfold tm;rw[if_pos (by omega)]
 rw[←h1,h2,h3];grind
theorem pmv_set {l m:List Rat} {N i j:Nat} (h:i+j<N):(tab N (pmv l m i j)).set (i+j) (pmv l m i j (i+j)+cf l i*cf m j)=tab N (pmv l m i (j+1)):=by
 rw[tab_set]
 refine tab_ext fun k hk => ?_
 by_cases e:k=i+j
 ·subst e;rw[if_pos rfl,pmv_at]
 ·rw[if_neg e,pmv_ne _ _ e]
theorem pmv_db {l m:List Rat} {D H:Nat} (hD:0<D) (h:∀ i j,Db D H (cf l i*cf m j)) (i j k:Nat):Db D ((i+1)*H) (pmv l m i j k):=by
 unfold pmv
 rw[Nat.succ_mul]
 refine (Db.sum hD i _ fun a _ => ?_).add ?_
 ·unfold tm;split
  ·exact h _ _
  ·exact Db.zero hD _
 ·split
  ·exact h _ _
  ·exact Db.zero hD _
theorem tab_0 (N:Nat):List.replicate N (0:Rat)=tab N fun _=>0:=by apply List.ext_getElem<;>simp[tab]
set_option maxHeartbeats 4000000 in
theorem mul_con (l m:List Rat) (K H n:Nat) (hl:Bl n l) (hm:Bl n m) (hlm:∀ i j,Db K H (cf l i*cf m j)) (hK:K<2^n) (hH:(l.length+1)*H<2^n) (hn:n≤big) (h1:l.length≤1000000) (h2:m.length≤1000000) :
  Con Try.prog AN 26 [pI l,pI m] (pI (mulQ l m)):=by
 have hK0:0<K:=(hlm 0 0).1
 by_cases hl0:l=[]
 ·subst hl0
  have hI:((0:Nat):Int)=0:=rfl
  rw[mul_nil_l]
  refine fn26.con rfl (by simp) ?_
  simp only[c26,c26_62,c26_1,l26_0,init2,cw,csW,cops,reduceCtorEq,Nat.reduceEqDiff]
  refine keep [2,3,4] ?_
  simp only[c26_61,c26_8,c26_3,l26_2,csW,reduceCtorEq,Nat.reduceEqDiff,cw,cops,csP]
  refine keep [2,3,4,19] ?_
  simp only[c26_7,csW,Nat.reduceEqDiff,cw]
  simp only[c26_6,c26_5,l26_4,cw,csW,cops,csP,Nat.reduceEqDiff]
  refine keep [4] ?_
  simp only[Ends,resD,resL,resV,csW,Nat.reduceEqDiff,csP]
  rfl
 by_cases hm0:m=[]
 ·subst hm0
  have hlI:¬ ((l.length:Int)=0):=by have:=List.length_pos_iff.2 hl0;omega
  rw[mul_nil_r]
  refine fn26.con rfl (by simp) ?_
  simp only[c26,c26_62,c26_1,l26_0,init2,cw,csW,cops,reduceCtorEq,Nat.reduceEqDiff]
  refine keep [2,3,4] ?_
  simp only[c26_61,c26_8,c26_3,l26_2,csW,reduceCtorEq,Nat.reduceEqDiff,cw,cops,csP,hlI]
  refine keep [2,3,4,19] ?_
  simp only[c26_7,csW,Nat.reduceEqDiff,cw]
  simp only[c26_6,c26_5,l26_4,cw,csW,cops,csP,Nat.reduceEqDiff]
  refine keep [4] ?_
  simp only[Ends,resD,resL,resV,csW,Nat.reduceEqDiff,csP]
  rfl
 have hp1:=List.length_pos_iff.2 hl0
 have hp2:=List.length_pos_iff.2 hm0
 have hlI:¬ ((l.length:Int)=0):=by omega
 have hmI:¬ ((m.length:Int)=0):=by omega
 obtain⟨N,hN⟩:∃ N,N=l.length+m.length-1:=⟨_,rfl⟩
 have hNI:(l.length:Int)+(m.length:Int)-1=(N:Int):=by omega
 refine fn26.con rfl (by simp) ?_
 simp only[c26,c26_62,c26_1,l26_0,init2,cw,csW,cops,reduceCtorEq,Nat.reduceEqDiff]
 refine keep [2,3,4] ?_
 simp only[c26_61,c26_8,c26_3,l26_2,csW,reduceCtorEq,Nat.reduceEqDiff,cw,cops,csP,hlI,hmI]
 refine keep [2,3,4,19] ?_
 simp only[c26_7,csW,Nat.reduceEqDiff,cw]
 refine keep [2,3,4] ?_
 simp only[c26_60,c26_10,l26_9,csP,csW,Nat.reduceEqDiff,cw,cops,hNI]
 (repeat refine And.intro (by first | omega | (simp;omega)) ?_)
 refine keep [2,3,4,5] ?_
 simp only[c26_59,c26_54,c26_12,l26_11,csW,Nat.reduceEqDiff,cw,cops,csP]
 refine keep [3,4,5,31,32,33] ?_
 simp only[c26_53,csW,Nat.reduceEqDiff,cw]
 refine loop_of (ι:=Nat) (fun i=>i≤l.length) (fun i=>⟨look [(3,.ptr 3 0 0),(4,.ptr 4 0 0),(5,.slice 29 0 N),(31,.p (LI l)),(32,.p (J l.length)),(33,.p (J i))],
  lookM [(3,⟨25,1,.box (.p (pI m)),false⟩),(4,⟨25,1,.box zPoly,false⟩),(29,⟨39,4,.row ((tab N (pmv l m i 0)).map qI),false⟩)]⟩) (fun i=>l.length-i) 0 (by omega) (by rw[tab_ext (g:=fun _=>0) fun k _=>pmv_0 l m k,←tab_0];exact (Sub.toG [3,4,5,31,32,33] [2,7,9] (by rfl) (by rfl) (by rfl) (by rfl))) ?_
 rintro i hi
 by_cases h:i<l.length
 ·have hI:(i:Int)<(l.length:Int):=by omega
  simp only[c26_51,c26_14,l26_13,cw,csW,cops,Nat.reduceEqDiff,hI]
  refine keep [3,4,5,31,32,33,34] ?_
  simp only[c26_50,c26_15,csW,Nat.reduceEqDiff,cw]
  refine keep [3,4,5,31,32,33] ?_
  simp only[c26_49,c26_46,c26_45,c26_17,l26_16,csP,csW,Nat.reduceEqDiff,cw,cops,Nat.reduceLT,hI,getD_q h,Nat.reduceAdd]
  (repeat refine And.intro (by first | omega | (simp;omega)) ?_)
  refine keep [3,4,5,6,7,31,32,33] ?_
  simp only[c26_44,c26_22,c26_20,l26_18,csW,Nat.reduceEqDiff,cw,cops,csP,Nat.reduceAdd]
  refine⟨_,qSign _ n (hl i) hn,?_⟩
  simp only[l26_19,cops,csW,Nat.reduceEqDiff]
  refine keep [3,4,5,6,7,31,32,33,40] ?_
  simp only[c26_21,csW,Nat.reduceEqDiff,cw,reduceCtorEq]
  refine⟨fun hc => ?_,fun hc => ?_⟩
  ·(try simp only[cw,cops,csW,reduceIte,Nat.reduceEqDiff,reduceCtorEq,Nat.reduceAdd,Nat.reduceLT,Nat.reduceLeDiff,Nat.reduceSub,csP])
   refine keep [3,4,5,31,32,33] ?_
   simp only[c26_48,l26_47,csW,Nat.reduceEqDiff,cw,cops]
   (repeat refine And.intro (by first | omega | (simp;omega)) ?_)
   have hz:cf l i=0:=sgnQ_0.1 (by simpa using hc)
   exact⟨i+1,by omega,by rw[←tab_ext (f:=pmv l m i 0) fun k _=>pmv_skip l m hz k];exact (Sub.toG [3,4,5,31,32,33] [2,7,9] (by rfl) (by rfl) (by rfl) (by rfl)),by omega⟩
  ·(try simp only[cw,cops,csW,reduceIte,Nat.reduceEqDiff,reduceCtorEq,Nat.reduceAdd,Nat.reduceLT,Nat.reduceLeDiff,Nat.reduceSub,csP])
   refine keep [3,4,5,6,7,31,32,33] ?_
   simp only[c26_43,c26_24,l26_23,csW,Nat.reduceEqDiff,cw,cops,csP]
   refine keep [3,4,5,6,7,31,32,33,42,43,44] ?_
   simp only[c26_42,csW,Nat.reduceEqDiff,cw]
   refine loop_of (ι:=Nat) (fun j=>j≤m.length) (fun j=>⟨look [(3,.ptr 3 0 0),(4,.ptr 4 0 0),(5,.slice 29 0 N),(6,.p (J i)),(7,.ptr 7 0 0),(31,.p (LI l)),(32,.p (J l.length)),(33,.p (J i)),(42,.p (LI m)),(43,.p (J m.length)),(44,.p (J j))],
    lookM [(3,⟨25,1,.box (.p (pI m)),false⟩),(4,⟨25,1,.box zPoly,false⟩),(29,⟨39,4,.row ((tab N (pmv l m i j)).map qI),false⟩),(7,⟨39,4,.box (.p (qI (cf l i))),false⟩)]⟩) (fun j=>m.length-j) 0 (by omega) (Sub.toG [3,4,5,6,7,31,32,33,42,43,44] [2,9] (by rfl) (by rfl) (by rfl) (by rfl)) ?_
   rintro j hj
   by_cases h':j<m.length
   ·have hJ:(j:Int)<(m.length:Int):=by omega
    have hij:i+j<(tab N (pmv l m i j)).length:=by rw[tab_len];omega
    have hijt:((i:Int)+(j:Int)).toNat=i+j:=by omega
    have hcf:cf (tab N (pmv l m i j)) (i+j)=pmv l m i j (i+j):=by rw[cf_tab,if_pos (by omega)]
    have hb1:=(pmv_db hK0 hlm i j (i+j)).Bq hK (Nat.lt_of_le_of_lt (Nat.mul_le_mul_right _ (by omega)) hH)
    have hb2:=(hlm i j).Bq hK (Nat.lt_of_le_of_lt (Nat.le_mul_of_pos_left _ (by omega)) hH)
    simp only[c26_40,c26_26,l26_25,cw,csW,cops,Nat.reduceEqDiff,hJ]
    refine keep [3,4,5,6,7,31,32,33,42,43,44,45] ?_
    simp only[c26_39,c26_27,csW,Nat.reduceEqDiff,cw,reduceCtorEq]
    refine keep [3,4,5,6,7,31,32,33,42,43,44] ?_
    simp only[c26_38,c26_35,c26_34,c26_29,l26_28,csP,csW,Nat.reduceEqDiff,cw,cops,Nat.reduceLT,hJ,getD_q h',Nat.reduceAdd]
    (repeat refine And.intro (by first | omega | (simp;omega)) ?_)
    refine keep [3,4,5,6,7,8,9,31,32,33,42,43,44] ?_
    simp only[c26_33,l26_30,csW,Nat.reduceEqDiff,cw,cops,csP,Nat.reduceLT,Nat.reduceAdd]
    refine⟨_,qMul _ _ n (hl i) (hm j) hn,?_⟩
    simp only[l26_31,cops,csW,csP,Nat.reduceLT,Nat.reduceEqDiff,hijt,getD_q hij,hcf,Nat.reduceAdd]
    (repeat refine And.intro (by first | omega | (simp;omega)) ?_)
    refine⟨_,qAdd _ _ n hb1 hb2 hn,?_⟩
    simp only[l26_32,cops,csW,csP,Nat.reduceEqDiff,hijt,Nat.reduceAdd]
    (repeat refine And.intro (by first | omega | (simp;omega)) ?_)
    refine keep [3,4,5,6,7,31,32,33,42,43,44] ?_
    simp only[c26_37,l26_36,csW,Nat.reduceEqDiff,cw,cops]
    (repeat refine And.intro (by first | omega | (simp;omega)) ?_)
    exact⟨j+1,by omega,by rw[←pmv_set (show i+j<N by omega)];exact (Sub.toG [3,4,5,6,7,31,32,33,42,43,44] [2,9] (by rfl) (by rfl) (by rfl) (by rfl)),by omega⟩
   ·have hJ:¬ (j:Int)<(m.length:Int):=by omega
    have hjm:j=m.length:=by omega
    subst hjm
    simp only[c26_40,c26_26,l26_25,cw,csW,cops,Nat.reduceEqDiff,hJ]
    refine keep [3,4,5,6,7,31,32,33,42,43,44,45] ?_
    simp only[c26_39,c26_27,csW,Nat.reduceEqDiff,cw,reduceCtorEq]
    refine keep [3,4,5,31,32,33] ?_
    simp only[c26_48,l26_47,csW,Nat.reduceEqDiff,cw,cops]
    (repeat refine And.intro (by first | omega | (simp;omega)) ?_)
    exact⟨i+1,by omega,by rw[←tab_ext (f:=pmv l m i m.length) fun k _=>pmv_row l m i k];exact (Sub.toG [3,4,5,31,32,33] [2,7,9] (by rfl) (by rfl) (by rfl) (by rfl)),by omega⟩
 ·have hI:¬ (i:Int)<(l.length:Int):=by omega
  have hil:i=l.length:=by omega
  subst hil
  simp only[c26_51,c26_14,l26_13,cw,csW,cops,Nat.reduceEqDiff,hI]
  refine keep [3,4,5,31,32,33,34] ?_
  simp only[c26_50,c26_15,csW,Nat.reduceEqDiff,cw]
  have htk:(tab N (pmv l m l.length 0)).take N=tab N (cnv l m):=by rw[List.take_of_length_le (by rw[tab_len];omega)];exact tab_ext fun k _=>pmv_end l m k
  refine keepF 29 _ [4,5] (by rfl) ?_
  simp only[c26_58,c26_57,l26_55,csW,Nat.reduceEqDiff,cw,cops,Bool.true_or,csP,Nat.le_refl,htk]
  have hbl:Bl n (tab N (cnv l m)):=Bl.tab hl.pos fun k _=>by
   rw[←pmv_end]
   have:=pmv_db hK0 hlm l.length 0 k
   exact this.Bq hK hH
  refine⟨_,made_con (tab N (cnv l m)) n hbl hn (by rw[tab_len];omega),?_⟩
  simp only[l26_56,cops,csW,Nat.reduceEqDiff,csP]
  refine keep [4] ?_
  simp only[Ends,resD,resL,resV,csW,Nat.reduceEqDiff,csP]
  have e:trimQ (tab N (cnv l m))=mulQ l m:=nf_ext (nf_trim _) (nf_mul _ _) fun k=>by
   rw[cf_trim,cf_mul,cf_tab]
   split
   ·rfl
   ·rw[cnv_0 (by omega)]
  rw[e]
end Go.Proofs.Ytdjbfgfbpimakaa.M
