/- Polynomials: products. -/
import Derived.Test.YtkidkimjdiichaaGreatPoDw
import Derived.Test.YtkidkimjdiichaaGreatK4w
namespace Go.Proofs.YtkidkimjdiichaaGreat.M
open Go.RowKit
set_option linter.unusedSimpArgs false
set_option linter.unusedVariables false
set_option linter.defProp false
theorem tab_0 (N:Nat):List.replicate N (0:Rat)=tab N fun _=>0:=by apply List.ext_getElem<;>simp[tab]
def cnt (l m:List Rat) (k i:Nat):Rat:=sumQ i fun a=>cf l a*cf m (k-a)
theorem cnt_s (l m:List Rat) (k i:Nat):cnt l m k (i+1)=cnt l m k i+cf l i*cf m (k-i):=rfl
theorem cnt_db {l m:List Rat} {K H:Nat} (hK:0<K) (h:∀ i j,Db K H (cf l i*cf m j)) (k i:Nat) (hi:i≤k+1):Db K ((l.length+1)*H) (cnt l m k i):=by
 unfold cnt
 rw[sumQ_le (n:=min i l.length) (by omega) fun j h1 h2=>by rw[cf_ge (l:=l) (by omega)];grind]
 exact (Db.sum hK _ _ fun a _=>h _ _).mono (Nat.mul_le_mul_right _ (by omega))
theorem rat_zero:((0:Int):Rat)=0:=rfl
set_option maxHeartbeats 4000000 in
theorem pmul_con (l m:List Rat) (K H n:Nat) (hl:Bl n l) (hm:Bl n m) (hlm:∀ i j,Db K H (cf l i*cf m j)) (hK:K<2^n) (hH:(l.length+1)*H<2^n) (hn:n≤big) (h1:l.length≤1000000) (h2:m.length≤1000000) :
  Con Tryz.prog AN 24 [LZ l,LZ m] (LZ (mulQ l m)):=by
 have hK0:0<K:=(hlm 0 0).1
 obtain⟨N,hN⟩:∃ N,N=l.length+m.length:=⟨_,rfl⟩
 have hNI:(l.length:Int)+(m.length:Int)=(N:Int):=by omega
 refine fn24.con rfl (by simp) ?_
 simp only[c24,c24_53,c24_1,l24_0,init2,cw,csW,cops,reduceCtorEq,Nat.reduceEqDiff]
 refine keep [0,1] ?_
 simp only[c24_52,c24_3,l24_2,csW,reduceCtorEq,Nat.reduceEqDiff,cw,cops]
 refine keep [0,1,5] ?_
 simp only[c24_51,c24_46,c24_5,l24_4,csW,reduceCtorEq,Nat.reduceEqDiff,cw,cops]
 refine keep [0,1,5,6] ?_
 simp only[c24_45,csW,reduceCtorEq,Nat.reduceEqDiff,cw]
 refine loop_of (ι:=Nat) (fun k=>k≤N) (fun k=>⟨look [(0,.p (LZ l)),(1,.p (LZ m)),(5,.slice 105 0 k),(6,.p (J k))],
  lookM [(105,⟨60,4,.row ((tab k (cnv l m)).map qZ),false⟩)]⟩) (fun k=>N-k) 0 (by omega) (Sub.nilG 5 105 60 4 (by rfl) (by rfl) (by decide) (by rfl) (by rfl)) ?_
 rintro k hk
 by_cases h:k<N
 ·have hI:(k:Int)<(N:Int):=by omega
  simp only[c24_43,c24_9,c24_7,l24_6,cw,csW,cops,reduceCtorEq,Nat.reduceEqDiff,hNI,hI]
  (repeat refine And.intro (by first | omega | (simp;omega)) ?_)
  refine keep [0,1,5,6,15] ?_
  simp only[c24_8,csW,reduceCtorEq,Nat.reduceEqDiff,cw]
  refine keep [0,1,5,6] ?_
  simp only[c24_42,c24_39,c24_38,c24_12,l24_10,csW,reduceCtorEq,Nat.reduceEqDiff,cw,cops]
  refine⟨_,fof_con 0 (by omega),?_⟩
  simp only[l24_11,rat_zero,cops,csW,csP,Nat.reduceEqDiff,reduceCtorEq,Nat.reduceAdd]
  refine keep [0,1,5,6,7] ?_
  simp only[c24_37,c24_34,c24_14,l24_13,csW,reduceCtorEq,Nat.reduceEqDiff,cw,cops]
  refine keep [0,1,5,6,7,8] ?_
  simp only[c24_33,csW,reduceCtorEq,Nat.reduceEqDiff,cw]
  refine loop_of (ι:=Nat) (fun i=>i≤k+1) (fun i=>⟨look [(0,.p (LZ l)),(1,.p (LZ m)),(5,.slice 105 0 k),(6,.p (J k)),(7,.ptr 7 0 0),(8,.p (J i))],
   lookM [(105,⟨60,4,.row ((tab k (cnv l m)).map qZ),false⟩),(7,⟨60,4,.box (.p (qZ (cnt l m k i))),false⟩)]⟩) (fun i=>k+1-i) 0 (by omega) (Sub.toG [0,1,5,6,7,8] [51] (by rfl) (by rfl) (by rfl) (by rfl)) ?_
  rintro i hi
  by_cases h':i≤k
  ·have hJ:(i:Int)≤(k:Int):=by omega
   by_cases ha:i<l.length
   ·have haI:(i:Int)<(l.length:Int):=by omega
    by_cases hb:k-i<m.length
    ·have hbI:(k:Int)-(i:Int)<(m.length:Int):=by omega
     have hkt:((k:Int)-(i:Int)).toNat=k-i:=by omega
     have hb1:=(cnt_db hK0 hlm k i (by omega)).Bq hK hH
     have hb2:=(hlm i (k-i)).Bq hK (Nat.lt_of_le_of_lt (Nat.le_mul_of_pos_left _ (by omega)) hH)
     simp only[c24_31,c24_18,c24_16,l24_15,cw,csW,cops,reduceCtorEq,Nat.reduceEqDiff,hJ]
     refine keep [0,1,5,6,7,8,21] ?_
     simp only[c24_17,csW,reduceCtorEq,Nat.reduceEqDiff,cw]
     refine keep [0,1,5,6,7,8] ?_
     simp only[c24_30,c24_27,c24_26,c24_20,l24_19,csW,reduceCtorEq,Nat.reduceEqDiff,cw,cops,haI,hbI]
     (repeat refine And.intro (by first | omega | (simp;omega)) ?_)
     refine keep [0,1,5,6,7,8,35] ?_
     simp only[c24_25,csW,reduceCtorEq,Nat.reduceEqDiff,cw]
     simp only[c24_24,l24_21,csW,cw,cops,csP,Nat.reduceLT,reduceCtorEq,Nat.reduceEqDiff,Nat.reduceAdd,getD_z ha,hkt,getD_z hb]
     (repeat refine And.intro (by first | omega | (simp;omega)) ?_)
     refine⟨_,zMul _ _ n (hl i) (hm (k-i)) hn,?_⟩
     simp only[l24_22,cops,csW,reduceCtorEq,Nat.reduceEqDiff]
     refine⟨_,zAdd _ _ n hb1 hb2 hn,?_⟩
     simp only[l24_23,cops,csW,reduceCtorEq,Nat.reduceEqDiff,csP,Nat.reduceAdd]
     refine keep [0,1,5,6,7,8] ?_
     simp only[c24_29,l24_28,csW,reduceCtorEq,Nat.reduceEqDiff,cw,cops]
     (repeat refine And.intro (by first | omega | (simp;omega)) ?_)
     exact⟨i+1,by omega,by rw[cnt_s];exact (Sub.toG [0,1,5,6,7,8] [51] (by rfl) (by rfl) (by rfl) (by rfl)),by omega⟩
    ·have hbI:¬ (k:Int)-(i:Int)<(m.length:Int):=by omega
     have e:cnt l m k (i+1)=cnt l m k i:=by rw[cnt_s,cf_ge (l:=m) (by omega)];grind
     simp only[c24_31,c24_18,c24_16,l24_15,cw,csW,cops,reduceCtorEq,Nat.reduceEqDiff,hJ]
     refine keep [0,1,5,6,7,8,21] ?_
     simp only[c24_17,csW,reduceCtorEq,Nat.reduceEqDiff,cw]
     refine keep [0,1,5,6,7,8] ?_
     simp only[c24_30,c24_27,c24_26,c24_20,l24_19,csW,reduceCtorEq,Nat.reduceEqDiff,cw,cops,haI,hbI]
     (repeat refine And.intro (by first | omega | (simp;omega)) ?_)
     refine keep [0,1,5,6,7,8,35] ?_
     simp only[c24_25,csW,reduceCtorEq,Nat.reduceEqDiff,cw]
     refine keep [0,1,5,6,7,8] ?_
     simp only[c24_29,l24_28,csW,reduceCtorEq,Nat.reduceEqDiff,cw,cops]
     (repeat refine And.intro (by first | omega | (simp;omega)) ?_)
     exact⟨i+1,by omega,by rw[e];exact (Sub.toG [0,1,5,6,7,8] [51] (by rfl) (by rfl) (by rfl) (by rfl)),by omega⟩
   ·have haI:¬ (i:Int)<(l.length:Int):=by omega
    have e:cnt l m k (i+1)=cnt l m k i:=by rw[cnt_s,cf_ge (l:=l) (by omega)];grind
    simp only[c24_31,c24_18,c24_16,l24_15,cw,csW,cops,reduceCtorEq,Nat.reduceEqDiff,hJ]
    refine keep [0,1,5,6,7,8,21] ?_
    simp only[c24_17,csW,reduceCtorEq,Nat.reduceEqDiff,cw]
    refine keep [0,1,5,6,7,8] ?_
    simp only[c24_30,c24_27,c24_26,c24_20,l24_19,csW,reduceCtorEq,Nat.reduceEqDiff,cw,cops,haI]
    refine keep [0,1,5,6,7,8,35] ?_
    simp only[c24_25,csW,reduceCtorEq,Nat.reduceEqDiff,cw]
    refine keep [0,1,5,6,7,8] ?_
    simp only[c24_29,l24_28,csW,reduceCtorEq,Nat.reduceEqDiff,cw,cops]
    (repeat refine And.intro (by first | omega | (simp;omega)) ?_)
    exact⟨i+1,by omega,by rw[e];exact (Sub.toG [0,1,5,6,7,8] [51] (by rfl) (by rfl) (by rfl) (by rfl)),by omega⟩
  ·have hJ:¬ (i:Int)≤(k:Int):=by omega
   have hik:i=k+1:=by omega
   subst hik
   have hJ:¬ (k:Int)+1≤(k:Int):=by omega
   have e:cnt l m k (k+1)=cnv l m k:=rfl
   simp only[c24_31,c24_18,c24_16,l24_15,csW,e,cw,cops,reduceCtorEq,Nat.reduceEqDiff,hJ]
   refine keep [0,1,5,6,7,8,21] ?_
   simp only[c24_17,csW,reduceCtorEq,Nat.reduceEqDiff,cw]
   refine keep [0,1,5,6,7] ?_
   simp only[c24_36,l24_35,csW,reduceCtorEq,Nat.reduceEqDiff,cw,cops,csP,Nat.reduceLT,Nat.reduceAdd,Nat.reduceLeDiff]
   (repeat refine And.intro (by first | omega | (simp;omega)) ?_)
   refine keep [0,1,5,6] ?_
   simp only[c24_41,l24_40,csW,reduceCtorEq,Nat.reduceEqDiff,cw,cops]
   (repeat refine And.intro (by first | omega | (simp;omega)) ?_)
   exact⟨k+1,by omega,by rw[←tab_succ];exact (Sub.toG [0,1,5,6] [7,51] (by rfl) (by rfl) (by rfl) (by rfl)),by omega⟩
 ·have hI:¬ (k:Int)<(N:Int):=by omega
  have hkN:k=N:=by omega
  subst hkN
  simp only[c24_43,c24_9,c24_7,l24_6,cw,csW,cops,reduceCtorEq,Nat.reduceEqDiff,hNI,hI]
  (repeat refine And.intro (by first | omega | (simp;omega)) ?_)
  refine keep [0,1,5,6,15] ?_
  simp only[c24_8,csW,reduceCtorEq,Nat.reduceEqDiff,cw]
  have htk:(tab k (cnv l m)).take k=tab k (cnv l m):=List.take_of_length_le (by rw[tab_len];omega)
  refine keepF 105 _ [5] (by rfl) ?_
  simp only[c24_50,c24_49,l24_47,csW,reduceCtorEq,Nat.reduceEqDiff,cw,cops,Bool.true_or,csP,Nat.le_refl,htk]
  have hbl:Bl n (tab k (cnv l m)):=Bl.tab hl.pos fun j _=>(cnt_db hK0 hlm j (j+1) (by omega)).Bq hK hH
  refine⟨_,pmade_con (tab k (cnv l m)) n hbl hn (by rw[tab_len];omega),?_⟩
  simp only[l24_48,cops,csW,Nat.reduceEqDiff]
  refine keep [4] ?_
  simp only[Ends,resD,resL,resV,csW,Nat.reduceEqDiff]
  rw[hN];rfl
end Go.Proofs.YtkidkimjdiichaaGreat.M
