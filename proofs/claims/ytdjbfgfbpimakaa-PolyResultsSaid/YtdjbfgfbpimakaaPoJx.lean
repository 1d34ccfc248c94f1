/- Polynomials: the document's example. -/
import Derived.Test.YtdjbfgfbpimakaaK10
namespace Go.Proofs.Ytdjbfgfbpimakaa.M
open Go.RowKit
set_option linter.unusedSimpArgs false
set_option linter.unusedVariables false
set_option linter.defProp false
set_option maxHeartbeats 4000000 in
theorem fpow_con (x:Rat) (N n:Nat) (hb:∀ i,i≤N→Bq n (x^i)) (hx:Bq n x) (hn:n≤big) (hn1:1<n) (hN:N≤1000000):Con Try.prog AN 39 [qI x,J N] (qI (x^N)):=by
 refine fn39.con rfl (by simp) ?_
 simp only[c39,c39_28,c39_1,l39_0,csP,init2,cw,csW,cops,reduceCtorEq,Nat.reduceAdd,Nat.reduceEqDiff]
 refine keep [1,2,4] ?_
 simp only[c39_27,c39_5,l39_2,csW,reduceCtorEq,Nat.reduceEqDiff,cw,cops]
 refine⟨_,cOf 1 (by omega),?_⟩
 simp only[l39_3,cops,csW,Nat.reduceEqDiff]
 refine⟨_,qWhole 1 n (bq_one hn1).1 hn,?_⟩
 simp only[l39_4,csP,rat_one,cops,csW,Nat.reduceEqDiff,Nat.reduceAdd]
 refine keep [1,2,4,5] ?_
 simp only[c39_26,c39_22,c39_7,l39_6,csW,Nat.reduceEqDiff,cw,cops]
 refine keep [2,4,5,8,9] ?_
 simp only[c39_21,csW,Nat.reduceEqDiff,cw]
 refine loop_of (ι:=Nat) (fun i=>i≤N) (fun i=>⟨look [(2,.ptr 2 0 0),(4,.ptr 4 0 0),(5,.ptr 5 0 0),(8,.p (J N)),(9,.p (J i))],
  lookM [(2,⟨39,4,.box (.p (qI x)),false⟩),(4,⟨39,4,.box (.p (qI 0)),false⟩),(5,⟨39,4,.box (.p (qI (x^i))),false⟩)]⟩) (fun i=>N-i) 0 (by omega) (by rw[Rat.pow_zero];exact (Sub.toG [2,4,5,8,9] [] (by rfl) (by rfl) (by rfl) (by rfl))) ?_
 rintro i hi
 by_cases h:i<N
 ·have hI:(i:Int)<(N:Int):=by omega
  simp only[c39_19,c39_9,l39_8,cw,csW,cops,Nat.reduceEqDiff,hI]
  refine keep [2,4,5,8,9,10] ?_
  simp only[c39_18,c39_10,csW,Nat.reduceEqDiff,cw]
  refine keep [2,4,5,8,9] ?_
  simp only[c39_17,c39_14,c39_13,l39_11,csW,Nat.reduceEqDiff,cw,cops,csP,Nat.reduceLT,Nat.reduceAdd]
  refine⟨_,qMul _ _ n (hb i (by omega)) hx hn,?_⟩
  simp only[l39_12,cops,csW,Nat.reduceEqDiff,csP,Nat.reduceAdd]
  refine keep [2,4,5,8,9] ?_
  simp only[c39_16,l39_15,csW,Nat.reduceEqDiff,cw,cops]
  (repeat refine And.intro (by first | omega | (simp;omega)) ?_)
  exact⟨i+1,by omega,by rw[Rat.pow_succ];exact (Sub.toG [2,4,5,8,9] [] (by rfl) (by rfl) (by rfl) (by rfl)),by omega⟩
 ·have hI:¬ (i:Int)<(N:Int):=by omega
  have hiN:i=N:=by omega
  subst hiN
  simp only[c39_19,c39_9,l39_8,cw,csW,cops,Nat.reduceEqDiff,hI]
  refine keep [2,4,5,8,9,10] ?_
  simp only[c39_18,c39_10,csW,Nat.reduceEqDiff,cw]
  refine keep [4,5] ?_
  simp only[c39_25,c39_24,l39_23,csW,Nat.reduceEqDiff,cw,cops,csP,Nat.reduceAdd]
  refine keep [4] ?_
  simp only[Ends,resD,resL,resV,csW,Nat.reduceEqDiff,csP,Nat.reduceAdd]
theorem fr_m2:fracR [45,50]=(-2,1,0,0):=by decide +kernel
theorem fr_m5:fracR [45,53]=(-5,1,0,0):=by decide +kernel
theorem fr_1:fracR [49]=(1,1,0,0):=by decide +kernel
theorem tx_m3:frText (-3) 1=[45,51]:=by decide +kernel
theorem qR_eq {t:List UInt8} {a:Int} {b:Nat} (h:fracR t=(a,(b:Int),0,0)):(qR t).num=a∧(qR t).den=b∧cR t=0:=by
 have h1:=(fracR_rat t).choose_spec.1
 have h2:=(fracR_rat t).choose_spec.2.1
 have e:(fracR_rat t).choose=qR t:=rfl
 rw[e] at h1 h2
 refine⟨?_,?_,?_⟩
 ·rw[←h1,h]
 ·have:((qR t).den:Int)=(b:Int):=by rw[←h2,h]
  omega
 ·unfold cR;rw[h]
theorem qR_m2:qR [45,50] = -2:=Rat.ext (qR_eq (b:=1) fr_m2).1 (qR_eq (b:=1) fr_m2).2.1
theorem qR_m5:qR [45,53] = -5:=Rat.ext (qR_eq (b:=1) fr_m5).1 (qR_eq (b:=1) fr_m5).2.1
theorem qR_1:qR [49]=1:=Rat.ext (qR_eq (b:=1) fr_1).1 (qR_eq (b:=1) fr_1).2.1
theorem new_two {t:List UInt8} {x:Rat} (h:qR t=x) (hc:cR t=0):newQ [t,[49]]=([x,1],0,0):=by
 rw[newQ_ok (by simp) (fun j hj=>by
  match j,hj with
  | 0,_=>exact hc
  | 1,_=>exact (qR_eq (b:=1) fr_1).2.2
  | j+2,hj=>simp at hj;omega) (by
   rintro⟨-,h0⟩
   have e:qR ([t,[49]].getD ([t,[49]].length-1) [])=qR [49]:=rfl
   rw[e,qR_1] at h0
   cases h0)]
 have:(tab [t,[49]].length fun j=>qR ([t,[49]].getD j []))=[qR t,qR [49]]:=rfl
 rw[this,h,qR_1]
theorem db_int (z:Int) {H:Nat} (h:z.natAbs≤H):Db 1 H (z:Rat):=(Db.ofInt z).mono h
theorem lb_two (a b:Int) {H:Nat} (ha:a.natAbs≤H) (hb:b.natAbs≤H):Lb 1 H [(a:Rat),(b:Rat)]:=fun i=>by
 match i with
 | 0=>exact db_int a ha
 | 1=>exact db_int b hb
 | i+2=>exact Db.zero (by omega) _
theorem ex_nf (a:Rat):Nf [a,1]:=.inr (by show (1:Rat)≠0;decide)
theorem ex_divB:DivB [-2,1] [-5,1] 1 5 1 5 4 40 1 where
 lb:=lb_two (-2) 1 (by decide) (by decide)
 e0:=by omega
 eg:=fun j=>by
  have e:ld [(-5:Rat),1]=1:=rfl
  rw[e,show ∀ x:Rat,x / 1=x from fun x=>by grind]
  exact lb_two (-5) 1 (by decide) (by decide) j
 ld:=by have e:ld [(-5:Rat),1]=1:=rfl;rw[e];exact bq_one (by omega)
 bl:=Bl.ofLb (lb_two (-5) 1 (H:=5) (by decide) (by decide)) (by decide) (by decide)
 len:=rfl
 hK:=by decide
 hH:=by decide
 hn:=by decide
theorem ex_div:quoQ [-2,1] [-5,1]=[1]∧remQ [-2,1] [-5,1]=[3]:=by
 have:=div_eq (p:=[-2,1]) (d:=[-5,1]) (q:=[1]) (r:=[3]) (ex_nf _) ⟨.inr (by show (1:Rat)≠0;decide),.inr (by show (3:Rat)≠0;decide),fun x=>by simp only[evQ];grind,by decide⟩
 exact⟨this.1.symm,this.2.symm⟩
def exA:List Rat:=[-2,1]
def exB:List Rat:=[-5,1]
def exC:List Rat:=[3]
theorem exA_len:(exA.length:Int)=2:=rfl
theorem exB_len:(exB.length:Int)=2:=rfl
theorem exC_len:(exC.length:Int)=1:=rfl
theorem exB_ld:ld exB=1:=rfl
theorem exC_0:cf exC 0=3:=rfl
def exP:Nat→List Rat
 | 0=>exB
 | _=>exA
def exQ:Nat→List Rat
 | 0=>exC
 | _=>exB
def exO:Nat→Rat
 | 0 => -1
 | _=>1
theorem exP_1:exP (0+1)=exA:=rfl
theorem exQ_1:exQ (0+1)=exB:=rfl
theorem exO_1:exO (0+1)=1:=rfl
theorem exP_0:exP 0=exB:=rfl
theorem exQ_0:exQ 0=exC:=rfl
theorem exO_0:exO 0 = -1:=rfl
theorem bq_small (z:Int) (h:z.natAbs≤5):Bq 40 (z:Rat):=(db_int z h).Bq (by decide) (by decide)
set_option maxHeartbeats 4000000 in
theorem res_ex:Con Try.prog AN 9 [pI exA,pI exB] (qI (-3)):=by
 have hD:=div_con [-2,1] [-5,1] (ex_nf _) (by simp) ex_divB (by omega) (by decide) (by decide)
 rw[ex_div.1,ex_div.2] at hD
 have hD:Con Try.prog AN 41 [pI exA,pI exB] (.tup [pI [1],pI exC,flt 0 0]):=hD
 have hm1:(-1:Rat)*1 = -1:=by grind
 have b1:Bq 40 (1:Rat):=bq_small 1 (by decide)
 have b3:Bq 40 (3:Rat):=bq_small 3 (by decide)
 have bm1:Bq 40 (-1:Rat):=bq_small (-1) (by decide)
 refine fn9.con rfl (by simp) ?_
 simp only[c9,c9_82,c9_1,l9_0,csP,init2,cw,csW,apartV,bne,cops,reduceCtorEq,Nat.reduceEqDiff]
 refine keep [2,3,4] ?_
 simp only[c9_81,c9_5,l9_2,csW,reduceCtorEq,Nat.reduceEqDiff,cw,apartV,bne,cops]
 refine⟨_,cOf 1 (by omega),?_⟩
 simp only[l9_3,cops,csW,Nat.reduceEqDiff]
 refine⟨_,qWhole 1 40 b1.1 (by omega),?_⟩
 simp only[l9_4,csP,rat_one,cops,csW,Nat.reduceEqDiff,Nat.reduceAdd]
 refine keep [2,3,4,5] ?_
 simp only[c9_80,csW,Nat.reduceEqDiff,cw]
 refine loop_of (ι:=Nat) (fun i=>i≤1) (fun i=>⟨look [(2,.ptr 2 0 0),(3,.ptr 3 0 0),(4,.ptr 4 0 0),(5,.ptr 5 0 0)],
  lookM [(2,⟨25,1,.box (.p (pI (exP i))),false⟩),(3,⟨25,1,.box (.p (pI (exQ i))),false⟩),(4,⟨39,4,.box (.p (qI 0)),false⟩),(5,⟨39,4,.box (.p (qI (exO i))),false⟩)]⟩) (fun i=>i) 1 (by omega) (Sub.toG [2,3,4,5] [6,7,8] (by rfl) (by rfl) (by rfl) (by rfl)) ?_
 rintro i hi
 rcases i with _ | i
 ·(try simp only[c9_78,c9_77,c9_12,c9_7,l9_6,cw,cops,csW,reduceIte,Nat.reduceEqDiff,reduceCtorEq,Nat.reduceAdd,Nat.reduceLT,Nat.reduceLeDiff,Nat.reduceSub,csP,apartV,bne,Nat.reduceBEq,Bool.not_false,exA_len,exB_len,exC_len,exB_ld,exC_0,Int.reduceAdd,Int.reduceEq,exP_0,exP_1,exQ_0,exQ_1,exO_0,exO_1,Int.reduceSub,Int.reduceLT,Int.reduceEq,Int.reduceMul,Int.reduceTMod,decide_true,decide_false,Bool.false_eq_true,not_false_eq_true,Int.reduceToNat,Int.reduceLE])
  refine keep [2,3,4,5,20] ?_
  simp only[c9_11,csW,Nat.reduceEqDiff,cw]
  refine keep [2,3,4,5] ?_
  simp only[c9_76,c9_23,c9_15,l9_13,csW,Nat.reduceEqDiff,cw,apartV,bne,cops,csP]
  refine⟨_,degree_con exC (by decide),?_⟩
  simp only[l9_14,exC_len,Int.reduceSub,cops,csW,Nat.reduceEqDiff]
  refine keep [2,3,4,5,24] ?_
  simp only[c9_22,csW,Nat.reduceEqDiff,cw]
  simp only[c9_21,c9_20,l9_16,csW,cw,apartV,bne,cops,csP,Nat.reduceEqDiff,Nat.reduceAdd]
  refine⟨_,degree_con exB (by decide),?_⟩
  simp only[l9_17,exB_len,Int.reduceSub,cops,csW,csP,Nat.reduceLT,Nat.reduceEqDiff,Int.reduceLE,exC_len,Int.reduceLT,getD_q (l:=exC) (i:=0) (by decide),exC_0,Nat.reduceAdd]
  refine⟨_,fpow_con 3 1 40 (fun i hi=>by match i,hi with | 0,_=>rw[Rat.pow_zero];exact b1 | 1,_=>rw[Rat.pow_one];exact b3) b3 (by decide) (by omega) (by omega),?_⟩
  simp only[l9_18,Rat.pow_one,cops,csW,Nat.reduceEqDiff]
  refine⟨_,qMul (-1) 3 40 bm1 b3 (by omega),?_⟩
  simp only[l9_19,cops,csW,Nat.reduceEqDiff,csP,Nat.reduceAdd]
  refine keep [4] ?_
  simp only[Ends,resD,resL,resV,csW,Nat.reduceEqDiff,csP,Nat.reduceAdd]
  rw[show (-1:Rat)*3 = -3 by grind]
 ·obtain rfl:i=0:=by omega
  simp only[c9_78,c9_77,c9_12,c9_7,l9_6,csW,exP_1,exQ_1,exO_1,cw,apartV,bne,cops,csP,Nat.reduceEqDiff,exA_len,Int.reduceEq,exB_len]
  refine keep [2,3,4,5,20] ?_
  simp only[c9_11,csW,Nat.reduceEqDiff,cw]
  refine keep [2,3,4,5] ?_
  simp only[c9_76,c9_23,c9_15,l9_13,csW,Nat.reduceEqDiff,cw,apartV,bne,cops,csP]
  refine⟨_,degree_con exB (by decide),?_⟩
  simp only[l9_14,exB_len,Int.reduceSub,cops,csW,Nat.reduceEqDiff,Int.reduceEq]
  refine keep [2,3,4,5,24] ?_
  simp only[c9_22,csW,Nat.reduceEqDiff,cw]
  refine keep [2,3,4,5] ?_
  simp only[c9_75,c9_42,c9_27,l9_24,csW,Nat.reduceEqDiff,cw,apartV,bne,cops,csP]
  refine⟨_,degree_con exA (by decide),?_⟩
  simp only[l9_25,exA_len,Int.reduceSub,cops,csW,Nat.reduceEqDiff,csP]
  refine⟨_,degree_con exB (by decide),?_⟩
  simp only[l9_26,exB_len,Int.reduceSub,cops,csW,Nat.reduceEqDiff,Int.reduceLT]
  refine keep [2,3,4,5,38] ?_
  simp only[c9_41,csW,Nat.reduceEqDiff,cw]
  refine keep [2,3,4,5] ?_
  simp only[c9_74,c9_45,l9_43,csW,Nat.reduceEqDiff,cw,apartV,bne,cops,csP]
  refine⟨_,hD,?_⟩
  simp only[l9_44,csP,cops,csW,Nat.reduceEqDiff,Nat.reduceAdd]
  refine keep [2,3,4,5,7] ?_
  simp only[c9_73,c9_52,c9_47,l9_46,csW,Nat.reduceEqDiff,cw,apartV,bne,cops,csP,exC_len,Int.reduceEq]
  refine keep [2,3,4,5,7,60] ?_
  simp only[c9_51,csW,Nat.reduceEqDiff,cw]
  refine keep [2,3,4,5,7] ?_
  simp only[c9_72,c9_61,c9_56,l9_53,csW,Nat.reduceEqDiff,cw,apartV,bne,cops,csP]
  refine⟨_,degree_con exA (by decide),?_⟩
  simp only[l9_54,exA_len,Int.reduceSub,cops,csW,Nat.reduceEqDiff,csP]
  refine⟨_,degree_con exB (by decide),?_⟩
  simp only[l9_55,exB_len,Int.reduceSub,cops,csW,Nat.reduceEqDiff,Int.reduceMul,Int.reduceLE,Int.reduceEq,Int.reduceTMod]
  refine keep [2,3,4,5,7,68] ?_
  simp only[c9_60,csW,Nat.reduceEqDiff,cw]
  simp only[c9_59,l9_57,csW,cw,apartV,bne,cops,Nat.reduceEqDiff,csP,Nat.reduceAdd]
  refine⟨_,qNeg 1 40 b1 (by omega),?_⟩
  simp only[l9_58,cops,csW,Nat.reduceEqDiff,csP,Nat.reduceAdd]
  refine keep [2,3,4,5,7] ?_
  simp only[c9_71,c9_68,l9_62,csW,Nat.reduceEqDiff,cw,apartV,bne,cops,csP,Nat.reduceAdd]
  refine⟨_,lead_con exB (by decide),?_⟩
  simp only[l9_63,exB_ld,cops,csW,Nat.reduceEqDiff,csP]
  refine⟨_,degree_con exA (by decide),?_⟩
  simp only[l9_64,exA_len,Int.reduceSub,cops,csW,Nat.reduceEqDiff,csP]
  refine⟨_,degree_con exC (by decide),?_⟩
  simp only[l9_65,exC_len,Int.reduceSub,cops,csW,Nat.reduceEqDiff,Int.reduceLE]
  refine⟨_,fpow_con 1 1 40 (fun i hi=>by match i,hi with | 0,_=>rw[Rat.pow_zero];exact b1 | 1,_=>rw[Rat.pow_one];exact b1) b1 (by decide) (by omega) (by omega),?_⟩
  simp only[l9_66,Rat.pow_one,cops,csW,Nat.reduceEqDiff]
  refine⟨_,qMul (-1) 1 40 bm1 b1 (by omega),?_⟩
  simp only[l9_67,hm1,cops,csW,Nat.reduceEqDiff,csP,Nat.reduceAdd]
  refine keep [2,3,4,5,7] ?_
  simp only[c9_70,l9_69,csW,Nat.reduceEqDiff,cw,apartV,bne,Nat.reduceBEq,cops,csP]
  exact⟨0,by omega,(Sub.toG [2,3,4,5] [6,7,8] (by rfl) (by rfl) (by rfl) (by rfl)),by omega⟩
set_option maxHeartbeats 4000000 in
theorem begun_con:Con Try.prog AN 8 [] (.bool true):=by
 have n1:=new_con 9 [[45,50],[49]] (by decide) (by decide)
 have n2:=new_con 9 [[45,53],[49]] (by decide) (by decide)
 rw[new_two qR_m2 (qR_eq (b:=1) fr_m2).2.2] at n1
 rw[new_two qR_m5 (qR_eq (b:=1) fr_m5).2.2] at n2
 have n1:Con Try.prog AN 6 [LS 9 [[45,50],[49]]] (.tup [pI exA,flt 0 0]):=n1
 have n2:Con Try.prog AN 6 [LS 9 [[45,53],[49]]] (.tup [pI exB,flt 0 0]):=n2
 have htx:frText ((-3:Rat)).num ((-3:Rat)).den=[45,51]:=tx_m3
 refine fn8.con rfl (by simp) ?_
 simp only[c8,c8_15,c8_1,l8_0,init0,cw,csW,apartV,cops]
 refine keep [] ?_
 simp only[c8_14,c8_4,l8_2,csW,cw,apartV,cops,csP,Nat.reduceLT,Nat.reduceEqDiff]
 refine⟨_,n1,?_⟩
 simp only[l8_3,csP,cops,csW,Nat.reduceEqDiff,Nat.reduceAdd]
 refine keep [1,2] ?_
 simp only[c8_13,c8_7,l8_5,csW,Nat.reduceEqDiff,cw,apartV,bne,cops,csP,Nat.reduceLT]
 refine⟨_,n2,?_⟩
 simp only[l8_6,csP,cops,csW,Nat.reduceEqDiff,Nat.reduceAdd]
 refine keep [1,2,3,4] ?_
 simp only[c8_12,c8_11,l8_8,csW,Nat.reduceEqDiff,cw,apartV,bne,cops,csP,Nat.reduceAdd,Nat.reduceLeDiff]
 refine⟨_,res_ex,?_⟩
 simp only[l8_9,cops,csW,Nat.reduceEqDiff]
 refine⟨_,qText (-3) 40 (bq_small (-3) (by decide)) (by omega),?_⟩
 simp only[l8_10,htx,cops,csW,Nat.reduceEqDiff,reduceCtorEq]
 refine keep [0] ?_
 simp only[Ends,resD,resL,resV,csW,reduceCtorEq]
end Go.Proofs.Ytdjbfgfbpimakaa.M
