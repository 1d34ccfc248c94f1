/- The reference's resultant walked. -/
import Derived.Test.YtdjbfgfbpimakaaDtAx
namespace Go.Proofs.Ytdjbfgfbpimakaa.M
open Go.RowKit
set_option linter.unusedSimpArgs false
set_option linter.unusedVariables false
set_option linter.defProp false
theorem rowS_len (l:List Rat) (N s:Nat):(rowS l N s).length=N:=by simp[rowS]
theorem rowS_succ (l:List Rat) (N s:Nat):rowS l N s++[cfZ l ((l.length:Int)-1-((N:Int)-(s:Int)))]=rowS l (N+1) s:=by simp[rowS,List.range_succ]
theorem rows_take {p q:List Rat} {m n i:Nat} (hi:i<m+n):(rowsS p q m n).take i++[if i<n then rowS p (m+n) i else rowS q (m+n) (i-n)]=(rowsS p q m n).take (i+1):=by
 have hl:i<(rowsS p q m n).length:=by rw[(rowsS_sq p q m n).1];exact hi
 have e:(rowsS p q m n)[i]=if i<n then rowS p (m+n) i else rowS q (m+n) (i-n):=by simp[rowsS]
 rw[←e,List.take_append_getElem hl]
theorem rowS_db {K H N s:Nat} {l:List Rat} (h:∀ c,Db K H (cf l c)) (hK:0<K) (c:Nat):Db K H (cf (rowS l N s) c):=by
 by_cases hc:c<N
 ·rw[rowS,cf_map_range _ hc]
  unfold cfZ
  split
  ·exact h _
  ·exact Db.zero hK _
 ·rw[cf_ge (by rw[rowS_len];omega)];exact Db.zero hK _
theorem rows_mb {p q:List Rat} {k e N m n:Nat} (hp:Sz k p) (hq:Sz k q) (he:k+k≤e) (hn:7*e+20<N) (hb:N≤big):∃ K H,MB K H e N (rowsS p q m n):=by
 obtain⟨K,g1,g2⟩:=hp
 obtain⟨K',g3,g4⟩:=hq
 have hkk:K*K'≤2^e:=Nat.le_trans (pm g1 g3) (Nat.pow_le_pow_right (by omega) he)
 have hup:∀ A,A≤2^k→2^k*A≤2^e:=fun A hA=>Nat.le_trans (pm (Nat.le_refl _) hA) (Nat.pow_le_pow_right (by omega) he)
 refine⟨K*K',2^e,Nat.mul_pos g2.pos g4.pos,hkk,Nat.le_refl _,fun r hr c => ?_,hn,hb⟩
 obtain⟨i,_,rfl⟩:=List.mem_map.1 hr
 split
 ·exact rowS_db (fun c=>((g2 c).up g4.pos).mono (hup _ g3)) (Nat.mul_pos g2.pos g4.pos) c
 ·exact rowS_db (fun c=>by rw[Nat.mul_comm K];exact ((g4 c).up g2.pos).mono (hup _ g1)) (Nat.mul_pos g2.pos g4.pos) c
set_option maxHeartbeats 8000000 in
theorem pres_con (p q:List Rat) {k e N:Nat} (hp:Sz k p) (hq:Sz k q) (he:k+k≤e) (hN:7*e+20<N) (hb:N≤big) (hl:p.length+q.length≤8):Con Try.prog AN 12 [LZ p,LZ q] (qZ (resQ p q)):=by
 by_cases p0:p=[]
 ·have hz:resQ p q=0:=if_pos (.inl p0)
  have hI:(p.length:Int)=0:=by rw[p0];rfl
  rw[hz]
  refine fn12.con rfl (by simp) ?_
  simp only[c12,c12_78,c12_1,l12_0,init2,cw,csW,cops,reduceCtorEq,Nat.reduceEqDiff]
  refine keep [0,1,4] ?_
  simp only[c12_77,c12_9,c12_3,l12_2,csW,reduceCtorEq,Nat.reduceEqDiff,cw,cops,hI]
  refine keep [0,1,4,20] ?_
  simp only[c12_8,csW,reduceCtorEq,Nat.reduceEqDiff,cw]
  simp only[c12_7,c12_6,l12_4,csW,cw,cops,reduceCtorEq,Nat.reduceEqDiff]
  refine⟨_,fof_con 0 (by omega),?_⟩
  simp only[l12_5,rat_zero,cops,csW,reduceCtorEq,Nat.reduceEqDiff,csP,Nat.reduceAdd]
  refine keep [4] ?_
  simp only[Ends,resD,resL,resV,csW,reduceCtorEq,Nat.reduceEqDiff,csP,Nat.reduceAdd]
 ·by_cases q0:q=[]
  ·have hz:resQ p q=0:=if_pos (.inr q0)
   have hI:¬ (p.length:Int)=0:=by have:=List.length_pos_iff.2 p0;omega
   have hJ:(q.length:Int)=0:=by rw[q0];rfl
   rw[hz]
   refine fn12.con rfl (by simp) ?_
   simp only[c12,c12_78,c12_1,l12_0,init2,cw,csW,cops,reduceCtorEq,Nat.reduceEqDiff]
   refine keep [0,1,4] ?_
   simp only[c12_77,c12_9,c12_3,l12_2,csW,reduceCtorEq,Nat.reduceEqDiff,cw,cops,hI,hJ]
   refine keep [0,1,4,20] ?_
   simp only[c12_8,csW,reduceCtorEq,Nat.reduceEqDiff,cw]
   simp only[c12_7,c12_6,l12_4,csW,cw,cops,reduceCtorEq,Nat.reduceEqDiff]
   refine⟨_,fof_con 0 (by omega),?_⟩
   simp only[l12_5,rat_zero,cops,csW,reduceCtorEq,Nat.reduceEqDiff,csP,Nat.reduceAdd]
   refine keep [4] ?_
   simp only[Ends,resD,resL,resV,csW,reduceCtorEq,Nat.reduceEqDiff,csP,Nat.reduceAdd]
  ·obtain⟨m,em⟩:∃ m,p.length=m+1:=⟨p.length-1,by have:=List.length_pos_iff.2 p0;omega⟩
   obtain⟨n,en⟩:∃ n,q.length=n+1:=⟨q.length-1,by have:=List.length_pos_iff.2 q0;omega⟩
   have hI:¬ (p.length:Int)=0:=by omega
   have hJ:¬ (q.length:Int)=0:=by omega
   have emI:(p.length:Int)-1=(m:Int):=by omega
   have enI:(q.length:Int)-1=(n:Int):=by omega
   have hz:resQ p q=dt (m+n) (enM (rowsS p q m n)):=by
    rw[rowsS_sy em en]
    unfold resQ
    rw[if_neg (by simp[p0,q0]),em,en];rfl
   rw[hz]
   obtain⟨K,H,hmb⟩:=rows_mb (m:=m) (n:=n) hp hq he hN hb
   have hsq:=rowsS_sq p q m n
   refine fn12.con rfl (by simp) ?_
   simp only[c12,c12_78,c12_1,l12_0,init2,cw,csW,cops,reduceCtorEq,Nat.reduceEqDiff]
   refine keep [0,1,4] ?_
   simp only[c12_77,c12_9,c12_3,l12_2,csW,reduceCtorEq,Nat.reduceEqDiff,cw,cops,hI,hJ]
   refine keep [0,1,4,20] ?_
   simp only[c12_8,csW,reduceCtorEq,Nat.reduceEqDiff,cw]
   refine keep [0,1,4] ?_
   simp only[c12_76,c12_11,l12_10,csW,reduceCtorEq,Nat.reduceEqDiff,cw,cops,emI]
   (repeat refine And.intro (by first | omega | (simp;omega)) ?_)
   refine keep [0,1,4,5] ?_
   simp only[c12_75,c12_13,l12_12,csW,reduceCtorEq,Nat.reduceEqDiff,cw,cops,enI]
   (repeat refine And.intro (by first | omega | (simp;omega)) ?_)
   refine keep [0,1,4,5,6] ?_
   simp only[c12_74,c12_15,l12_14,csW,reduceCtorEq,Nat.reduceEqDiff,cw,cops]
   refine keep [0,1,4,5,6,7] ?_
   simp only[c12_73,c12_68,c12_17,l12_16,csW,reduceCtorEq,Nat.reduceEqDiff,cw,cops]
   refine keep [0,1,4,5,6,7,8] ?_
   simp only[c12_67,csW,reduceCtorEq,Nat.reduceEqDiff,cw]
   refine loop_of (ι:=Nat) (fun i=>i≤m+n) (fun i=>⟨look [(0,.p (LZ p)),(1,.p (LZ q)),(4,.ptr 4 0 0),(5,.p (J m)),(6,.p (J n)),(7,.slice 205 0 i),(8,.p (J i))],
    lookM [(4,⟨47,4,.box (.p (.agg [.bool false,.list 3 1 [],.bool false,.list 3 1 []])),false⟩),(205,⟨30,1,.row (((rowsS p q m n).take i).map rZ),false⟩)]⟩) (fun i=>m+n-i) 0 (by omega) (Sub.nilG 7 205 30 1 (by rfl) (by rfl) (by decide) (by rfl) (by rfl)) ?_
   rintro i hi
   by_cases him:i<m+n
   ·have hK:(i:Int)<(m:Int)+(n:Int):=by omega
    have htl:((rowsS p q m n).take i).length=i:=by rw[List.length_take,hsq.1];omega
    have hrow:=rows_take (p:=p) (q:=q) him
    by_cases hin:i<n
    ·have hM:¬ (n:Int)≤(i:Int):=by omega
     rw[if_pos hin] at hrow
     simp only[c12_65,c12_21,c12_19,l12_18,cw,csW,cops,reduceCtorEq,Nat.reduceEqDiff,hK]
     (repeat refine And.intro (by first | omega | (simp;omega)) ?_)
     refine keep [0,1,4,5,6,7,8,32] ?_
     simp only[c12_20,csW,reduceCtorEq,Nat.reduceEqDiff,cw]
     refine keep [0,1,4,5,6,7,8] ?_
     simp only[c12_64,c12_61,c12_60,c12_23,l12_22,csW,reduceCtorEq,Nat.reduceEqDiff,cw,cops]
     refine keep [0,1,4,5,6,7,8,9] ?_
     simp only[c12_59,c12_25,l12_24,csW,reduceCtorEq,Nat.reduceEqDiff,cw,cops]
     refine keep [0,1,4,5,6,7,8,9,10] ?_
     simp only[c12_58,c12_34,c12_27,l12_26,csW,reduceCtorEq,Nat.reduceEqDiff,cw,cops,hM]
     refine keep [0,1,4,5,6,7,8,9,10,39] ?_
     simp only[c12_33,csW,reduceCtorEq,Nat.reduceEqDiff,cw]
     refine keep [0,1,4,5,6,7,8,9,10] ?_
     simp only[c12_57,c12_36,l12_35,csW,reduceCtorEq,Nat.reduceEqDiff,cw,cops]
     refine keep [0,1,4,5,6,7,8,9,10,11] ?_
     simp only[c12_56,c12_53,c12_38,l12_37,csW,reduceCtorEq,Nat.reduceEqDiff,cw,cops]
     refine keep [0,1,4,5,6,7,8,9,10,11,12] ?_
     simp only[c12_52,csW,reduceCtorEq,Nat.reduceEqDiff,cw]
     refine loop_of (ι:=Nat) (fun j=>j≤m+n) (fun j=>⟨look [(0,.p (LZ p)),(1,.p (LZ q)),(4,.ptr 4 0 0),(5,.p (J m)),(6,.p (J n)),(7,.slice 205 0 i),(8,.p (J i)),(9,.p (LZ p)),(10,.p (J i)),(11,.slice 206 0 j),(12,.p (J j))],
      lookM [(4,⟨47,4,.box (.p (.agg [.bool false,.list 3 1 [],.bool false,.list 3 1 []])),false⟩),(205,⟨30,1,.row (((rowsS p q m n).take i).map rZ),false⟩),
       (206,⟨47,4,.row ((rowS p j i).map qZ),false⟩)]⟩) (fun j=>m+n-j) 0 (by omega) (Sub.nilG 11 206 47 4 (by rfl) (by rfl) (by decide) (by rfl) (by rfl)) ?_
     rintro j hj
     by_cases hjn:j<m+n
     ·have hJ:(j:Int)<(m:Int)+(n:Int):=by omega
      simp only[c12_50,c12_42,c12_40,l12_39,cw,csW,cops,reduceCtorEq,Nat.reduceEqDiff,hJ]
      (repeat refine And.intro (by first | omega | (simp;omega)) ?_)
      refine keep [0,1,4,5,6,7,8,9,10,11,12,48] ?_
      simp only[c12_41,csW,reduceCtorEq,Nat.reduceEqDiff,cw]
      refine keep [0,1,4,5,6,7,8,9,10,11,12] ?_
      simp only[c12_49,c12_46,c12_45,l12_43,csW,reduceCtorEq,Nat.reduceEqDiff,cw,cops]
      (repeat refine And.intro (by first | omega | (simp;omega)) ?_)
      refine⟨_,pat_con p ((p.length:Int)-1-((j:Int)-(i:Int))),?_⟩
      simp only[l12_44,cops,csW,Nat.reduceEqDiff,reduceCtorEq,csP,Nat.reduceAdd,rowS_len,Nat.reduceLeDiff]
      (repeat refine And.intro (by first | omega | (simp;omega)) ?_)
      refine keep [0,1,4,5,6,7,8,9,10,11,12] ?_
      simp only[c12_48,l12_47,csW,reduceCtorEq,Nat.reduceEqDiff,cw,cops]
      (repeat refine And.intro (by first | omega | (simp;omega)) ?_)
      exact⟨j+1,by omega,by rw[←rowS_succ];exact (Sub.toG [0,1,4,5,6,7,8,9,10,11,12] [61,65] (by rfl) (by rfl) (by rfl) (by rfl)),by omega⟩
     ·have hJ:¬ (j:Int)<(m:Int)+(n:Int):=by omega
      obtain rfl:j=m+n:=by omega
      have hrl:(rowS p (m+n) i).take (m+n)=rowS p (m+n) i:=List.take_of_length_le (by rw[rowS_len];omega)
      simp only[c12_50,c12_42,c12_40,l12_39,cw,csW,cops,reduceCtorEq,Nat.reduceEqDiff,hJ]
      (repeat refine And.intro (by first | omega | (simp;omega)) ?_)
      refine keep [0,1,4,5,6,7,8,9,10,11,12,48] ?_
      simp only[c12_41,csW,reduceCtorEq,Nat.reduceEqDiff,cw]
      refine keepF 206 _ [0,1,4,5,6,7,8,11] (by rfl) ?_
      simp only[c12_55,l12_54,csW,reduceCtorEq,Nat.reduceEqDiff,cw,cops,Bool.true_or,rowS_len,Nat.le_refl,csP,hrl,htl,Nat.reduceLeDiff,app_r]
      (repeat refine And.intro (by first | omega | (simp;omega)) ?_)
      refine keep [0,1,4,5,6,7,8] ?_
      simp only[c12_63,l12_62,csW,reduceCtorEq,Nat.reduceEqDiff,cw,cops]
      (repeat refine And.intro (by first | omega | (simp;omega)) ?_)
      exact⟨i+1,by omega,by rw[←hrow];exact (Sub.toG [0,1,4,5,6,7,8] [61,62,65,206] (by rfl) (by rfl) (by rfl) (by rfl)),by omega⟩
    ·have hM:(n:Int)≤(i:Int):=by omega
     have hsub:(i:Int)-(n:Int)=((i-n:Nat):Int):=by omega
     rw[if_neg hin] at hrow
     simp only[c12_65,c12_21,c12_19,l12_18,cw,csW,cops,reduceCtorEq,Nat.reduceEqDiff,hK]
     (repeat refine And.intro (by first | omega | (simp;omega)) ?_)
     refine keep [0,1,4,5,6,7,8,32] ?_
     simp only[c12_20,csW,reduceCtorEq,Nat.reduceEqDiff,cw]
     refine keep [0,1,4,5,6,7,8] ?_
     simp only[c12_64,c12_61,c12_60,c12_23,l12_22,csW,reduceCtorEq,Nat.reduceEqDiff,cw,cops]
     refine keep [0,1,4,5,6,7,8,9] ?_
     simp only[c12_59,c12_25,l12_24,csW,reduceCtorEq,Nat.reduceEqDiff,cw,cops]
     refine keep [0,1,4,5,6,7,8,9,10] ?_
     simp only[c12_58,c12_34,c12_27,l12_26,csW,reduceCtorEq,Nat.reduceEqDiff,cw,cops,hM]
     refine keep [0,1,4,5,6,7,8,9,10,39] ?_
     simp only[c12_33,csW,reduceCtorEq,Nat.reduceEqDiff,cw]
     simp only[c12_32,c12_29,l12_28,cw,csW,cops,reduceCtorEq,Nat.reduceEqDiff]
     refine keep [0,1,4,5,6,7,8,9] ?_
     simp only[c12_31,l12_30,csW,reduceCtorEq,Nat.reduceEqDiff,cw,cops,hsub]
     (repeat refine And.intro (by first | omega | (simp;omega)) ?_)
     refine keep [0,1,4,5,6,7,8,9,10] ?_
     simp only[c12_57,c12_36,l12_35,csW,reduceCtorEq,Nat.reduceEqDiff,cw,cops]
     refine keep [0,1,4,5,6,7,8,9,10,11] ?_
     simp only[c12_56,c12_53,c12_38,l12_37,csW,reduceCtorEq,Nat.reduceEqDiff,cw,cops]
     refine keep [0,1,4,5,6,7,8,9,10,11,12] ?_
     simp only[c12_52,csW,reduceCtorEq,Nat.reduceEqDiff,cw]
     refine loop_of (ι:=Nat) (fun j=>j≤m+n) (fun j=>⟨look [(0,.p (LZ p)),(1,.p (LZ q)),(4,.ptr 4 0 0),(5,.p (J m)),(6,.p (J n)),(7,.slice 205 0 i),(8,.p (J i)),(9,.p (LZ q)),(10,.p (J (i-n:Nat))),(11,.slice 206 0 j),(12,.p (J j))],
      lookM [(4,⟨47,4,.box (.p (.agg [.bool false,.list 3 1 [],.bool false,.list 3 1 []])),false⟩),(205,⟨30,1,.row (((rowsS p q m n).take i).map rZ),false⟩),
       (206,⟨47,4,.row ((rowS q j (i-n)).map qZ),false⟩)]⟩) (fun j=>m+n-j) 0 (by omega) (Sub.nilG 11 206 47 4 (by rfl) (by rfl) (by decide) (by rfl) (by rfl)) ?_
     rintro j hj
     by_cases hjn:j<m+n
     ·have hJ:(j:Int)<(m:Int)+(n:Int):=by omega
      simp only[c12_50,c12_42,c12_40,l12_39,cw,csW,cops,reduceCtorEq,Nat.reduceEqDiff,hJ]
      (repeat refine And.intro (by first | omega | (simp;omega)) ?_)
      refine keep [0,1,4,5,6,7,8,9,10,11,12,48] ?_
      simp only[c12_41,csW,reduceCtorEq,Nat.reduceEqDiff,cw]
      refine keep [0,1,4,5,6,7,8,9,10,11,12] ?_
      simp only[c12_49,c12_46,c12_45,l12_43,csW,reduceCtorEq,Nat.reduceEqDiff,cw,cops]
      (repeat refine And.intro (by first | omega | (simp;omega)) ?_)
      refine⟨_,pat_con q ((q.length:Int)-1-((j:Int)-((i-n:Nat):Int))),?_⟩
      simp only[l12_44,cops,csW,Nat.reduceEqDiff,reduceCtorEq,csP,Nat.reduceAdd,rowS_len,Nat.reduceLeDiff]
      (repeat refine And.intro (by first | omega | (simp;omega)) ?_)
      refine keep [0,1,4,5,6,7,8,9,10,11,12] ?_
      simp only[c12_48,l12_47,csW,reduceCtorEq,Nat.reduceEqDiff,cw,cops]
      (repeat refine And.intro (by first | omega | (simp;omega)) ?_)
      exact⟨j+1,by omega,by rw[←rowS_succ];exact (Sub.toG [0,1,4,5,6,7,8,9,10,11,12] [61,65] (by rfl) (by rfl) (by rfl) (by rfl)),by omega⟩
     ·have hJ:¬ (j:Int)<(m:Int)+(n:Int):=by omega
      obtain rfl:j=m+n:=by omega
      have hrl:(rowS q (m+n) (i-n)).take (m+n)=rowS q (m+n) (i-n):=List.take_of_length_le (by rw[rowS_len];omega)
      simp only[c12_50,c12_42,c12_40,l12_39,cw,csW,cops,reduceCtorEq,Nat.reduceEqDiff,hJ]
      (repeat refine And.intro (by first | omega | (simp;omega)) ?_)
      refine keep [0,1,4,5,6,7,8,9,10,11,12,48] ?_
      simp only[c12_41,csW,reduceCtorEq,Nat.reduceEqDiff,cw]
      refine keepF 206 _ [0,1,4,5,6,7,8,11] (by rfl) ?_
      simp only[c12_55,l12_54,csW,reduceCtorEq,Nat.reduceEqDiff,cw,cops,Bool.true_or,rowS_len,Nat.le_refl,csP,hrl,htl,Nat.reduceLeDiff,app_r]
      (repeat refine And.intro (by first | omega | (simp;omega)) ?_)
      refine keep [0,1,4,5,6,7,8] ?_
      simp only[c12_63,l12_62,csW,reduceCtorEq,Nat.reduceEqDiff,cw,cops]
      (repeat refine And.intro (by first | omega | (simp;omega)) ?_)
      exact⟨i+1,by omega,by rw[←hrow];exact (Sub.toG [0,1,4,5,6,7,8] [61,62,65,206] (by rfl) (by rfl) (by rfl) (by rfl)),by omega⟩
   ·have hK:¬ (i:Int)<(m:Int)+(n:Int):=by omega
    obtain rfl:i=m+n:=by omega
    have hall:(rowsS p q m n).take (m+n)=rowsS p q m n:=List.take_of_length_le (by rw[hsq.1];omega)
    have hlen:(rowsS p q m n).length=m+n:=hsq.1
    simp only[c12_65,c12_21,c12_19,l12_18,cw,csW,cops,reduceCtorEq,Nat.reduceEqDiff,hK]
    (repeat refine And.intro (by first | omega | (simp;omega)) ?_)
    refine keep [0,1,4,5,6,7,8,32] ?_
    simp only[c12_20,csW,reduceCtorEq,Nat.reduceEqDiff,cw]
    simp only[hall]
    refine keepF 205 _ [4,7] (by rfl) ?_
    simp only[c12_72,c12_71,l12_69,csW,reduceCtorEq,Nat.reduceEqDiff,cw,cops,Bool.true_or,hlen,Nat.le_refl,take_r,hall]
    refine⟨_,det_con (m+n) (rowsS p q m n) (by omega) hsq hmb,?_⟩
    simp only[l12_70,cops,csW,Nat.reduceEqDiff,csP,Nat.reduceAdd]
    refine keep [4] ?_
    simp only[Ends,resD,resL,resV,csW,Nat.reduceEqDiff,csP,Nat.reduceAdd]
end Go.Proofs.Ytdjbfgfbpimakaa.M
