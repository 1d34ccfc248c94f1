/- Interpolation: the law walked. -/
import Derived.Test.YtdjbfgfbpimakaaThDx
namespace Go.Proofs.Ytdjbfgfbpimakaa.M
open Go.RowKit
set_option linter.unusedSimpArgs false
set_option linter.unusedVariables false
set_option linter.defProp false
theorem first_twice (f:Nat→Rat):∀ N,∃ i0,i0≤N∧Dist f i0∧(i0=N∨(i0<N∧∃ j,j<i0∧f i0=f j))
 | 0=>⟨0,by omega,fun j k h1 h2=>by omega,.inl rfl⟩
 | N+1=>by
  obtain⟨i0,h1,h2,h3⟩:=first_twice f N
  rcases h3 with rfl | ⟨h4,h5⟩
  ·by_cases h:∃ j,j<i0∧f i0=f j
   ·exact⟨i0,by omega,h2,.inr ⟨by omega,h⟩⟩
   ·refine⟨i0+1,by omega,fun j k hj hk => ?_,.inl rfl⟩
    by_cases e:k=i0
    ·subst e;exact fun e2=>h ⟨j,hj,e2.symm⟩
    ·exact h2 j k hj (by omega)
  ·exact⟨i0,by omega,h2,.inr ⟨by omega,h5⟩⟩
theorem cmpZ_eq {x y:Rat}:cmpZ (x.num*y.den) (y.num*x.den)=0↔x=y:=by
 rw[Rat.eq_iff_mul_eq_mul]
 unfold cmpZ
 (repeat' split)<;>omega
theorem cmpZ_self (x:Int):cmpZ x x=0:=by unfold cmpZ;simp
noncomputable def rdQ (cs:List (List UInt8)) (i:Nat):List Rat:=tab i fun j=>qR (cs.getD j [])
theorem rd_succ (cs:List (List UInt8)) (i:Nat):rdQ cs i++[qR (cs.getD i [])]=rdQ cs (i+1):=tab_succ _ _
theorem rd_len (cs:List (List UInt8)) (i:Nat):(rdQ cs i).length=i:=tab_len _ _
theorem rd_cf (cs:List (List UInt8)) (i j:Nat):cf (rdQ cs i) j=if j<i then qR (cs.getD j []) else 0:=cf_tab _ _ _
theorem sN_tot (cs:List (List UInt8)):∀ i,i≤cs.length→sN i (fun k=>(cs.getD k []).length)=tot (cs.take i)
 | 0,_=>by simp[sN,tot]
 | i+1,h=>by rw[sN,sN_tot cs i (by omega),tot_take cs i (by omega)]
theorem tot_le (cs:List (List UInt8)):∀ i,tot (cs.take i)≤tot cs:=by
 induction cs with
 | nil=>intro i;simp
 | cons t l ih =>
  intro i
  cases i with
  | zero=>simp[tot]
  | succ i=>rw[List.take_succ_cons,tot,tot];have:=ih i;omega
theorem rd_bq (cs:List (List UInt8)) (i j:Nat):Bq 4000 (cf (rdQ cs i) j):=by
 rw[rd_cf];split
 ·exact qR_bq _
 ·exact Bq.zero _ (by omega)
theorem thr_s {xs ys:List (List UInt8)} {N:Nat} (h1:xs.length=N) (h2:ys.length=N) (hb:xs.length+tot xs+ys.length+tot ys≤1048576) {i0:Nat} (hi0:i0≤N) (hd:Dist (cf (rdQ xs N)) i0) :
  ThS (cf (rdQ xs N)) (cf (rdQ ys N)) i0 N 1840000000000 5000000 4000 2048000000000:=by
 have key:∀ i,i≤i0→(sN i fun j=>2*(sN i fun k=>bt (xs.getD k []).length+1)+i*bt (xs.getD j []).length+bt (ys.getD j []).length+2)≤1840000000000∧sN i (fun k=>bt (xs.getD k []).length+1)≤5000000:=fun i hi=>by
  have g1:=sN_tot xs i (by omega)
  have g2:=sN_tot ys i (by omega)
  have g3:=tot_le xs i
  have g4:=tot_le ys i
  exact lag_bits (u:=fun k=>(xs.getD k []).length) (v:=fun k=>(ys.getD k []).length) (B:=0) (by omega)
 have hf:∀ (cs:List (List UInt8)) k,k<N→Bq (bt (cs.getD k []).length) (cf (rdQ cs N) k):=fun cs k hk=>by
  rw[rd_cf,if_pos hk];exact qR_bt _
 refine⟨fun i hi => ?_,fun i hi => ?_,rd_bq xs N,rd_bq ys N,?_,?_,?_,by decide,by omega⟩
 ·refine (out_sz (β:=fun k=>bt (xs.getD k []).length) (γ:=fun k=>bt (ys.getD k []).length) (fun a b h1 h2=>hd a b h1 (by omega)) (fun k hk=>hf xs k (by omega)) (fun k hk=>hf ys k (by omega))).mono (key i hi).1
 ·exact (roots_sz (β:=fun k=>bt (xs.getD k []).length) i fun k hk=>hf xs k (by omega)).mono (key i hi).2
 all_goals omega
theorem tot_at {cs:List (List UInt8)} {i:Nat} (h:i<cs.length):(cs.getD i []).length≤tot cs:=by
 have h1:=tot_take cs i h
 have h2:=tot_le cs (i+1)
 omega
set_option maxHeartbeats 16000000 in
theorem thr_main (T U:Nat) (xs ys:List (List UInt8)) (hb:xs.length+tot xs+ys.length+tot ys≤1048576):Con Try.prog AN 4 [LS T xs,LS U ys] (.bool true):=by
 refine fn4.con rfl (by simp) ?_
 simp only[c4,c4_153,c4_1,l4_0,init2,cw,csW,cops,reduceCtorEq,Nat.reduceEqDiff]
 refine keep [0,1] ?_
 simp only[c4_152,c4_3,l4_2,csW,reduceCtorEq,Nat.reduceEqDiff,cw,cops]
 refine keep [0,1,5,6] ?_
 simp only[c4_151,c4_23,c4_5,l4_4,csW,reduceCtorEq,Nat.reduceEqDiff,cw,cops]
 refine keep [0,1,5,6,7] ?_
 simp only[c4_22,csW,reduceCtorEq,Nat.reduceEqDiff,cw]
 refine loop_of (ι:=Nat) (fun i=>i≤xs.length) (fun i=>⟨look [(0,.p (LS T xs)),(1,.p (LS U ys)),(5,.slice 205 0 i),(6,.nils 39 4),(7,.p (J i))],
  lookM [(205,⟨39,4,.row ((rdQ xs i).map qI),false⟩)]⟩) (fun i=>xs.length-i) 0 (by omega) (Sub.nilG 5 205 39 4 (by rfl) (by rfl) (by decide) (by rfl) (by rfl)) ?_
 rintro i hi
 by_cases h:i<xs.length
 ·have hI:(i:Int)<(xs.length:Int):=by omega
  have hlen:=tot_at h
  simp only[c4_20,c4_9,c4_7,l4_6,cw,csW,cops,reduceCtorEq,Nat.reduceEqDiff,hI]
  refine keep [0,1,5,6,7,21] ?_
  simp only[c4_8,csW,reduceCtorEq,Nat.reduceEqDiff,cw]
  refine keep [0,1,5,6,7] ?_
  simp only[c4_19,c4_16,c4_15,c4_12,l4_10,csW,reduceCtorEq,Nat.reduceEqDiff,cw,cops,csP,hI,getD_s h]
  (repeat refine And.intro (by first | omega | (simp;omega)) ?_)
  refine⟨_,qParse (xs.getD i []) (by omega),?_⟩
  simp only[l4_11,csP,cops,csW,reduceCtorEq,Nat.reduceEqDiff,Nat.reduceAdd]
  refine keep [0,1,5,6,7,8] ?_
  simp only[c4_14,l4_13,csP,csW,reduceCtorEq,Nat.reduceEqDiff,cw,cops,Nat.reduceLT,Nat.reduceAdd,rd_len,Nat.reduceLeDiff]
  (repeat refine And.intro (by first | omega | (simp;omega)) ?_)
  refine keep [0,1,5,6,7] ?_
  simp only[c4_18,l4_17,csW,reduceCtorEq,Nat.reduceEqDiff,cw,cops]
  (repeat refine And.intro (by first | omega | (simp;omega)) ?_)
  exact⟨i+1,by omega,by rw[←rd_succ];exact (Sub.toG [0,1,5,6,7] [8,9,11,12,13,14,34,52] (by rfl) (by rfl) (by rfl) (by rfl)),by omega⟩
 ·have hI:¬ (i:Int)<(xs.length:Int):=by omega
  obtain rfl:i=xs.length:=by omega
  simp only[c4_20,c4_9,c4_7,l4_6,cw,csW,cops,reduceCtorEq,Nat.reduceEqDiff,hI]
  refine keep [0,1,5,6,7,21] ?_
  simp only[c4_8,csW,reduceCtorEq,Nat.reduceEqDiff,cw]
  refine keep [0,1,5,6] ?_
  simp only[c4_150,c4_43,c4_25,l4_24,csW,reduceCtorEq,Nat.reduceEqDiff,cw,cops]
  refine keep [0,1,5,6,10] ?_
  simp only[c4_42,csW,reduceCtorEq,Nat.reduceEqDiff,cw]
  refine loop_of (ι:=Nat) (fun i=>i≤ys.length) (fun i=>⟨look [(0,.p (LS T xs)),(1,.p (LS U ys)),(5,.slice 205 0 xs.length),(6,.slice 206 0 i),(10,.p (J i))],
   lookM [(205,⟨39,4,.row ((rdQ xs xs.length).map qI),false⟩),(206,⟨39,4,.row ((rdQ ys i).map qI),false⟩)]⟩) (fun i=>ys.length-i) 0 (by omega) (Sub.nilG 6 206 39 4 (by rfl) (by rfl) (by decide) (by rfl) (by rfl)) ?_
  rintro i hi
  by_cases h:i<ys.length
  ·have hI:(i:Int)<(ys.length:Int):=by omega
   have hlen:=tot_at h
   simp only[c4_40,c4_29,c4_27,l4_26,cw,csW,cops,reduceCtorEq,Nat.reduceEqDiff,hI]
   refine keep [0,1,5,6,10,39] ?_
   simp only[c4_28,csW,reduceCtorEq,Nat.reduceEqDiff,cw]
   refine keep [0,1,5,6,10] ?_
   simp only[c4_39,c4_36,c4_35,c4_32,l4_30,csW,reduceCtorEq,Nat.reduceEqDiff,cw,cops,csP,hI,getD_s h]
   (repeat refine And.intro (by first | omega | (simp;omega)) ?_)
   refine⟨_,qParse (ys.getD i []) (by omega),?_⟩
   simp only[l4_31,csP,cops,csW,reduceCtorEq,Nat.reduceEqDiff,Nat.reduceAdd]
   refine keep [0,1,5,6,10,11] ?_
   simp only[c4_34,l4_33,csP,csW,reduceCtorEq,Nat.reduceEqDiff,cw,cops,Nat.reduceLT,Nat.reduceAdd,rd_len,Nat.reduceLeDiff]
   (repeat refine And.intro (by first | omega | (simp;omega)) ?_)
   refine keep [0,1,5,6,10] ?_
   simp only[c4_38,l4_37,csW,reduceCtorEq,Nat.reduceEqDiff,cw,cops]
   (repeat refine And.intro (by first | omega | (simp;omega)) ?_)
   exact⟨i+1,by omega,by rw[←rd_succ];exact (Sub.toG [0,1,5,6,10] [8,9,11,12,13,14,34,52] (by rfl) (by rfl) (by rfl) (by rfl)),by omega⟩
  ·have hI:¬ (i:Int)<(ys.length:Int):=by omega
   obtain rfl:i=ys.length:=by omega
   obtain⟨l,hl⟩:∃ l,l=rdQ xs xs.length:=⟨_,rfl⟩
   obtain⟨m,hm⟩:∃ m,m=rdQ ys ys.length:=⟨_,rfl⟩
   have ll:l.length=xs.length:=by rw[hl,rd_len]
   have lm:m.length=ys.length:=by rw[hm,rd_len]
   have tl:l.take xs.length=l:=List.take_of_length_le (by omega)
   have tm:m.take ys.length=m:=List.take_of_length_le (by omega)
   rw[←hl,←hm]
   by_cases hne:xs.length=ys.length
   ·have hnI:(xs.length:Int)=(ys.length:Int):=by omega
    have hm':m=rdQ ys xs.length:=by rw[hm,hne]
    obtain⟨i0,hi0,hd,h3⟩:=first_twice (cf l) xs.length
    have hS:=thr_s rfl hne.symm hb hi0 (hl ▸ hd)
    rw[←hl,←hm'] at hS
    have hbg:=hS.nb
    obtain⟨P,c,q,hR⟩:∃ (P:List Rat) (c q:Int),(i0=xs.length∧P=outI (cf l) (cf m) xs.length∧c=0∧q=0)∨(i0<xs.length∧(∃ j,j<i0∧cf l i0=cf l j)∧P=[]∧c=12∧q=i0):=by
     rcases h3 with h | ⟨h,h'⟩
     ·exact⟨_,_,_,.inl ⟨h,rfl,rfl,rfl⟩⟩
     ·exact⟨_,_,_,.inr ⟨h,h',rfl,rfl,rfl⟩⟩
    have hT:Con Try.prog AN 21 [LI l,LI m] (.tup [pI P,flt c q]):=through_con l m ll (by omega) hS hd (by
     rcases hR with⟨a,rfl,rfl,rfl⟩ | ⟨a,b,rfl,rfl,rfl⟩
     ·exact .inl ⟨a,rfl⟩
     ·exact .inr ⟨a,b,rfl⟩)
    have bl:∀ i,Bq 4000 (cf l i):=fun i=>by rw[hl];exact rd_bq _ _ _
    have bm:∀ i,Bq 4000 (cf m i):=fun i=>by rw[hm];exact rd_bq _ _ _
    simp only[c4_40,c4_29,c4_27,l4_26,cw,csW,cops,reduceCtorEq,Nat.reduceEqDiff,hI]
    refine keep [0,1,5,6,10,39] ?_
    simp only[c4_28,csW,reduceCtorEq,Nat.reduceEqDiff,cw]
    refine keepF2 205 _ 206 _ [0,1,5,6] (by rfl) (by rfl) ?_
    simp only[c4_149,c4_46,l4_44,csW,reduceCtorEq,Nat.reduceEqDiff,cw,cops,Bool.true_or,ll,Nat.le_refl,csP,tl,lm,tm]
    refine⟨_,hT,?_⟩
    simp only[l4_45,csP,cops,csW,reduceCtorEq,Nat.reduceEqDiff,Nat.reduceAdd]
    refine keep [0,1,5,6,13,14] ?_
    simp only[c4_148,c4_54,c4_49,l4_47,csW,reduceCtorEq,Nat.reduceEqDiff,cw,cops]
    refine⟨_,begun_con,?_⟩
    simp only[l4_48,cops,csW,reduceCtorEq,Nat.reduceEqDiff]
    refine keep [0,1,5,6,13,14,61] ?_
    simp only[c4_53,csW,reduceCtorEq,Nat.reduceEqDiff,cw]
    refine keep [0,1,5,6,13,14] ?_
    simp only[c4_147,c4_63,c4_56,l4_55,csW,reduceCtorEq,Nat.reduceEqDiff,cw,cops,hnI]
    refine keep [0,5,6,13,14,66] ?_
    simp only[c4_62,csW,reduceCtorEq,Nat.reduceEqDiff,cw]
    by_cases h40:40<xs.length
    ·have h40I:(40:Int)<(xs.length:Int):=by omega
     refine keep [0,5,6,13,14] ?_
     simp only[c4_146,c4_70,c4_65,l4_64,csW,reduceCtorEq,Nat.reduceEqDiff,cw,cops,h40I]
     refine keep [0,5,6,13,14,77] ?_
     simp only[c4_69,csW,reduceCtorEq,Nat.reduceEqDiff,cw]
     simp only[c4_68,c4_67,l4_66,cw,csW,cops,reduceCtorEq,Nat.reduceEqDiff]
     refine keep [4] ?_
     simp only[Ends,resD,resL,resV,csW,reduceCtorEq,Nat.reduceEqDiff]
    ·have h40I:¬ (40:Int)<(xs.length:Int):=by omega
     refine keep [0,5,6,13,14] ?_
     simp only[c4_146,c4_70,c4_65,l4_64,csW,reduceCtorEq,Nat.reduceEqDiff,cw,cops,h40I]
     refine keep [0,5,6,13,14,77] ?_
     simp only[c4_69,csW,reduceCtorEq,Nat.reduceEqDiff,cw]
     refine keep [0,5,6,13,14] ?_
     simp only[c4_145,c4_108,c4_72,l4_71,csW,reduceCtorEq,Nat.reduceEqDiff,cw,cops]
     refine keep [0,5,6,13,14,15] ?_
     simp only[c4_107,csW,reduceCtorEq,Nat.reduceEqDiff,cw]
     refine loop_of (ι:=Nat) (fun i=>i≤xs.length∧i≤i0) (fun i=>⟨look [(0,.p (LS T xs)),(5,.slice 205 0 xs.length),(6,.slice 206 0 ys.length),(13,.ptr 13 0 0),(14,.ptr 14 0 0),(15,.p (J i))],
      lookM [(205,⟨39,4,.row (l.map qI),true⟩),(206,⟨39,4,.row (m.map qI),true⟩),(13,⟨25,1,.box (.p (pI P)),false⟩),(14,⟨27,2,.box (.p (flt c q)),false⟩)]⟩) (fun i=>xs.length-i) 0 ⟨by omega,by omega⟩ (Sub.toG [0,5,6,13,14,15] [8,9,11,12,34,52] (by rfl) (by rfl) (by rfl) (by rfl)) ?_
     rintro i ⟨hi1,hi2⟩
     by_cases hiN:i<xs.length
     ·have hIi:(i:Int)<(xs.length:Int):=by omega
      have hil:i<l.length:=by omega
      simp only[c4_105,c4_76,c4_74,l4_73,csP,cw,csW,cops,reduceCtorEq,Nat.reduceEqDiff,hIi]
      refine keep [0,5,6,13,14,15,81] ?_
      simp only[c4_75,csW,reduceCtorEq,Nat.reduceEqDiff,cw]
      refine keep [0,5,6,13,14,15] ?_
      simp only[c4_104,c4_101,c4_100,c4_78,l4_77,csW,reduceCtorEq,Nat.reduceEqDiff,cw,cops]
      refine keep [0,5,6,13,14,15,16] ?_
      simp only[c4_99,csW,reduceCtorEq,Nat.reduceEqDiff,cw]
      refine loop_of (ι:=Nat) (fun j=>j≤i∧∀ k,k<j→cf l i≠cf l k) (fun j=>⟨look [(0,.p (LS T xs)),(5,.slice 205 0 xs.length),(6,.slice 206 0 ys.length),(13,.ptr 13 0 0),(14,.ptr 14 0 0),(15,.p (J i)),(16,.p (J j))],
       lookM [(205,⟨39,4,.row (l.map qI),true⟩),(206,⟨39,4,.row (m.map qI),true⟩),(13,⟨25,1,.box (.p (pI P)),false⟩),(14,⟨27,2,.box (.p (flt c q)),false⟩)]⟩) (fun j=>i-j) 0 ⟨by omega,by omega⟩ (Sub.toG [0,5,6,13,14,15,16] [8,9,11,12,34,52] (by rfl) (by rfl) (by rfl) (by rfl)) ?_
      rintro j ⟨hj1,hj2⟩
      by_cases hji:j<i
      ·have hJ:(j:Int)<(i:Int):=by omega
       have hjl:j<l.length:=by omega
       by_cases he:cf l i=cf l j
       ·have hz:cmpZ ((cf l i).num*(cf l i).den) ((cf l i).num*(cf l i).den)=0:=cmpZ_self _
        have hii:i=i0:=by
         rcases Nat.lt_or_ge i i0 with hlt | hge
         ·exact absurd he.symm (hd j i hji hlt)
         ·omega
        obtain⟨g1,g2,rfl,rfl,rfl⟩:=hR.resolve_left (by omega)
        subst hii
        simp only[c4_97,c4_82,c4_80,l4_79,csW,csP,cw,cops,reduceCtorEq,Nat.reduceEqDiff,hJ]
        refine keep [0,5,6,13,14,15,16,86] ?_
        simp only[c4_81,csW,reduceCtorEq,Nat.reduceEqDiff,cw]
        refine keep [0,5,6,13,14,15,16] ?_
        simp only[c4_96,c4_93,c4_92,c4_85,l4_83,csW,reduceCtorEq,Nat.reduceEqDiff,cw,cops,csP,Nat.reduceLT,getD_q hil,Nat.reduceAdd,getD_q hjl,←he]
        (repeat refine And.intro (by first | omega | (simp;omega)) ?_)
        refine⟨_,qCmp (cf l i) (cf l i) 4000 (bl i) (bl i) (by omega),?_⟩
        simp only[l4_84,hz,cops,csW,reduceCtorEq,Nat.reduceEqDiff]
        refine keep [0,5,6,13,14,15,16,98] ?_
        simp only[c4_91,csW,reduceCtorEq,Nat.reduceEqDiff,cw]
        simp only[c4_90,c4_89,l4_86,csW,cw,cops,reduceCtorEq,Nat.reduceEqDiff,csP,Nat.reduceAdd]
        refine⟨_,lfault_con 12 i,?_⟩
        simp only[l4_87,csP,cops,csW,reduceCtorEq,Nat.reduceEqDiff,intsOf,Nat.reduceAdd]
        refine⟨_,degree_con [] (by simp),?_⟩
        simp only[l4_88,csW,cops,reduceCtorEq,Nat.reduceEqDiff]
        refine keep [4] ?_
        simp only[Ends,resD,resL,resV,csW,reduceCtorEq,Nat.reduceEqDiff]
        first | done | rfl
       ·have hz:¬ cmpZ ((cf l i).num*(cf l j).den) ((cf l j).num*(cf l i).den)=0:=fun h=>he (cmpZ_eq.1 h)
        simp only[c4_97,c4_82,c4_80,l4_79,csW,csP,cw,cops,reduceCtorEq,Nat.reduceEqDiff,hJ]
        refine keep [0,5,6,13,14,15,16,86] ?_
        simp only[c4_81,csW,reduceCtorEq,Nat.reduceEqDiff,cw]
        refine keep [0,5,6,13,14,15,16] ?_
        simp only[c4_96,c4_93,c4_92,c4_85,l4_83,csW,reduceCtorEq,Nat.reduceEqDiff,cw,cops,csP,Nat.reduceLT,getD_q hil,Nat.reduceAdd,getD_q hjl]
        (repeat refine And.intro (by first | omega | (simp;omega)) ?_)
        refine⟨_,qCmp (cf l i) (cf l j) 4000 (bl i) (bl j) (by omega),?_⟩
        simp only[l4_84,cops,csW,reduceCtorEq,Nat.reduceEqDiff,hz]
        refine keep [0,5,6,13,14,15,16,98] ?_
        simp only[c4_91,csW,reduceCtorEq,Nat.reduceEqDiff,cw]
        refine keep [0,5,6,13,14,15,16] ?_
        simp only[c4_95,l4_94,csW,reduceCtorEq,Nat.reduceEqDiff,cw,cops]
        (repeat refine And.intro (by first | omega | (simp;omega)) ?_)
        exact⟨j+1,⟨by omega,fun k hk=>by
         by_cases e:k=j
         ·rw[e];exact he
         ·exact hj2 k (by omega)⟩,(Sub.toG [0,5,6,13,14,15,16] [8,9,11,12,34,52] (by rfl) (by rfl) (by rfl) (by rfl)),by omega⟩
      ·have hJ:¬ (j:Int)<(i:Int):=by omega
       obtain rfl:j=i:=by omega
       have hnx:j+1≤i0:=by
        rcases hR with⟨g1,-⟩ | ⟨g1,⟨k,g2,g3⟩,-⟩
        ·omega
        ·rcases Nat.lt_or_ge j i0 with hlt | hge
         ·omega
         ·obtain rfl:j=i0:=by omega
          exact absurd g3 (hj2 k g2)
       simp only[c4_97,c4_82,c4_80,l4_79,csW,csP,cw,cops,reduceCtorEq,Nat.reduceEqDiff,hJ]
       refine keep [0,5,6,13,14,15,16,86] ?_
       simp only[c4_81,csW,reduceCtorEq,Nat.reduceEqDiff,cw]
       refine keep [0,5,6,13,14,15] ?_
       simp only[c4_103,l4_102,csW,reduceCtorEq,Nat.reduceEqDiff,cw,cops]
       (repeat refine And.intro (by first | omega | (simp;omega)) ?_)
       exact⟨j+1,⟨by omega,hnx⟩,(Sub.toG [0,5,6,13,14,15] [8,9,11,12,34,52] (by rfl) (by rfl) (by rfl) (by rfl)),by omega⟩
     ·have hIi:¬ (i:Int)<(xs.length:Int):=by omega
      obtain⟨g1,rfl,rfl,rfl⟩:=hR.resolve_right (by omega)
      obtain rfl:i=xs.length:=by omega
      have hlen:=out_len (cf l) (cf m) xs.length
      have hge:¬ (xs.length:Int)≤((outI (cf l) (cf m) xs.length).length:Int)-1:=by omega
      have hev:∀ k,k<xs.length→evQ (outI (cf l) (cf m) xs.length) (cf l k)=cf m k:=fun k hk=>interp _ (fun a b h1 h2=>hd a b h1 (by omega)) k hk
      have hed:∀ k,k<xs.length→EvD (outI (cf l) (cf m) xs.length) (cf l k) 2048000000000:=fun k hk=>by
       have hN:=hS.hN
       exact (hS.o xs.length (by omega)).evd (hS.bf k) (N:=xs.length) (by omega) (by omega) (by omega)
      simp only[c4_105,c4_76,c4_74,l4_73,csP,cw,csW,cops,reduceCtorEq,Nat.reduceEqDiff,hIi]
      refine keep [0,5,6,13,14,15,81] ?_
      simp only[c4_75,csW,reduceCtorEq,Nat.reduceEqDiff,cw]
      refine keep [0,5,6,13,14] ?_
      simp only[c4_144,c4_116,c4_111,l4_109,csW,reduceCtorEq,Nat.reduceEqDiff,cw,cops,csP,Nat.reduceAdd,Nat.reduceLeDiff]
      refine⟨_,degree_con (outI (cf l) (cf m) xs.length) (by omega),?_⟩
      simp only[l4_110,cops,csW,reduceCtorEq,Nat.reduceEqDiff,hge]
      refine keep [0,5,6,13,117] ?_
      simp only[c4_115,csW,reduceCtorEq,Nat.reduceEqDiff,cw]
      refine keep [0,5,6,13] ?_
      simp only[c4_143,c4_139,c4_118,l4_117,csW,reduceCtorEq,Nat.reduceEqDiff,cw,cops]
      refine keep [0,5,6,13,17] ?_
      simp only[c4_138,csW,reduceCtorEq,Nat.reduceEqDiff,cw]
      refine loop_of (ι:=Nat) (fun k=>k≤xs.length) (fun k=>⟨look [(0,.p (LS T xs)),(5,.slice 205 0 xs.length),(6,.slice 206 0 ys.length),(13,.ptr 13 0 0),(17,.p (J k))],
       lookM [(205,⟨39,4,.row (l.map qI),true⟩),(206,⟨39,4,.row (m.map qI),true⟩),(13,⟨25,1,.box (.p (pI (outI (cf l) (cf m) xs.length))),false⟩)]⟩) (fun k=>xs.length-k) 0 (by omega) (Sub.toG [0,5,6,13,17] [8,9,11,12,14,34,52] (by rfl) (by rfl) (by rfl) (by rfl)) ?_
      rintro k hk1
      by_cases hk:k<xs.length
      ·have hJ:(k:Int)<(xs.length:Int):=by omega
       have hkl:k<l.length:=by omega
       have hkm:k<m.length:=by omega
       have hz:cmpZ ((cf m k).num*(cf m k).den) ((cf m k).num*(cf m k).den)=0:=cmpZ_self _
       have hE:=evalN_con (outI (cf l) (cf m) xs.length) (cf l k) _ (hed k hk) (by omega)
       rw[hev k hk] at hE
       simp only[c4_136,c4_122,c4_120,l4_119,cw,csW,cops,reduceCtorEq,Nat.reduceEqDiff,hJ]
       refine keep [0,5,6,13,17,121] ?_
       simp only[c4_121,csW,reduceCtorEq,Nat.reduceEqDiff,cw]
       refine keep [0,5,6,13,17] ?_
       simp only[c4_135,c4_132,c4_131,c4_126,l4_123,csW,reduceCtorEq,Nat.reduceEqDiff,cw,cops,csP,Nat.reduceLT,hJ,getD_q hkl,Nat.reduceAdd]
       (repeat refine And.intro (by first | omega | (simp;omega)) ?_)
       refine⟨_,hE,?_⟩
       simp only[l4_124,cops,csW,csP,Nat.reduceLT,reduceCtorEq,Nat.reduceEqDiff,getD_q hkm,Nat.reduceAdd]
       (repeat refine And.intro (by first | omega | (simp;omega)) ?_)
       refine⟨_,qCmp (cf m k) (cf m k) 4000 (bm k) (bm k) (by omega),?_⟩
       simp only[l4_125,hz,cops,csW,reduceCtorEq,Nat.reduceEqDiff]
       refine keep [0,5,6,13,17,135] ?_
       simp only[c4_130,csW,reduceCtorEq,Nat.reduceEqDiff,cw]
       refine keep [0,5,6,13,17] ?_
       simp only[c4_134,l4_133,csW,reduceCtorEq,Nat.reduceEqDiff,cw,cops]
       (repeat refine And.intro (by first | omega | (simp;omega)) ?_)
       exact⟨k+1,by omega,(Sub.toG [0,5,6,13,17] [8,9,11,12,14,34,52] (by rfl) (by rfl) (by rfl) (by rfl)),by omega⟩
      ·have hJ:¬ (k:Int)<(xs.length:Int):=by omega
       simp only[c4_136,c4_122,c4_120,l4_119,cw,csW,cops,reduceCtorEq,Nat.reduceEqDiff,hJ]
       refine keep [0,5,6,13,17,121] ?_
       simp only[c4_121,csW,reduceCtorEq,Nat.reduceEqDiff,cw]
       refine keep [] ?_
       simp only[c4_142,c4_141,l4_140,csW,cw,cops]
       refine keep [4] ?_
       simp only[Ends,resD,resL,resV,csW]
   ·have hnI:¬ (xs.length:Int)=(ys.length:Int):=by omega
    simp only[c4_40,c4_29,c4_27,l4_26,cw,csW,cops,reduceCtorEq,Nat.reduceEqDiff,hI]
    refine keep [0,1,5,6,10,39] ?_
    simp only[c4_28,csW,reduceCtorEq,Nat.reduceEqDiff,cw]
    refine keepF2 205 _ 206 _ [0,1,5,6] (by rfl) (by rfl) ?_
    simp only[c4_149,c4_46,l4_44,csW,reduceCtorEq,Nat.reduceEqDiff,cw,cops,Bool.true_or,ll,Nat.le_refl,csP,tl,lm,tm]
    refine⟨_,through_ne l m (by omega),?_⟩
    simp only[l4_45,csP,cops,csW,reduceCtorEq,Nat.reduceEqDiff,Nat.reduceAdd]
    refine keep [0,1,5,6,13,14] ?_
    simp only[c4_148,c4_54,c4_49,l4_47,csW,reduceCtorEq,Nat.reduceEqDiff,cw,cops]
    refine⟨_,begun_con,?_⟩
    simp only[l4_48,cops,csW,reduceCtorEq,Nat.reduceEqDiff]
    refine keep [0,1,5,6,13,14,61] ?_
    simp only[c4_53,csW,reduceCtorEq,Nat.reduceEqDiff,cw]
    refine keep [0,1,5,6,13,14] ?_
    simp only[c4_147,c4_63,c4_56,l4_55,csW,reduceCtorEq,Nat.reduceEqDiff,cw,cops,hnI]
    refine keep [0,5,6,13,14,66] ?_
    simp only[c4_62,csW,reduceCtorEq,Nat.reduceEqDiff,cw]
    simp only[c4_61,c4_60,l4_57,csW,cw,cops,reduceCtorEq,Nat.reduceEqDiff,csP,Nat.reduceAdd]
    refine⟨_,lfault_con 8 0,?_⟩
    simp only[l4_58,csP,cops,csW,reduceCtorEq,Nat.reduceEqDiff,intsOf,Nat.reduceAdd]
    refine⟨_,degree_con [] (by simp),?_⟩
    simp only[l4_59,csW,cops,reduceCtorEq,Nat.reduceEqDiff]
    refine keep [4] ?_
    simp only[Ends,resD,resL,resV,csW,reduceCtorEq,Nat.reduceEqDiff]
    first | done | rfl
end Go.Proofs.Ytdjbfgfbpimakaa.M
