/- PolyResults walked. -/
import Derived.Test.YtdjbfgfbpimakaaDtBx
import Derived.Test.YtdjbfgfbpimakaaReBx
import Derived.Test.YtdjbfgfbpimakaaRvAx
namespace Go.Proofs.Ytdjbfgfbpimakaa.M
open Go.RowKit
set_option linter.unusedSimpArgs false
set_option linter.unusedVariables false
set_option linter.defProp false
def disQ (l:List Rat) (d k:Nat):Rat:=if d*k / 2 % 2=1 then -(resQ l (derQ l) / ld l) else resQ l (derQ l) / ld l
theorem tdv2 {a b:Nat}:Int.tmod (Int.tdiv ((a:Int)*(b:Int)) 2) 2=((a*b / 2 % 2:Nat):Int):=by
 rw[←Int.natCast_mul];rfl
theorem tri1 {a b:Nat} (h:a*b / 2 % 2=1):Int.tmod (Int.tdiv ((a:Int)*(b:Int)) 2) 2=1:=by rw[tdv2,h];rfl
theorem tri0 {a b:Nat} (h:¬ a*b / 2 % 2=1):¬ Int.tmod (Int.tdiv ((a:Int)*(b:Int)) 2) 2=1:=by rw[tdv2];omega
structure DiS (l:List Rat) (n d k:Nat):Prop where
 rs:ResT l (derQ l) 808008 8 201 n
 dc:Con Try.prog AN 29 [pI l] (pI (derQ l))
 lb:Bq n (ld l)
 q:Bq n (resQ l (derQ l) / ld l)
 l0:ld l≠0
 nl:Nf l
 bn:n≤big
 ld:l.length=d+1
 lk:d=k+1
 le:l.length≤201
theorem DiS.of {l:List Rat} {K n d k:Nat} (hl:In 808000 l K) (hd:l.length=d+1) (hk:d=k+1) (hn:n=28000000000000) (hb:n≤big):DiS l n d k:=by
 have h1:=hl.len
 have sl:Sz 808000 l:=⟨K,hl.k,hl.lb⟩
 have l1:=der_len l
 have l0:l≠[]:=fun e=>by rw[e] at hd;simp at hd
 have rs:ResT l (derQ l) 808008 8 201 n:=⟨hl.nf,der_nf _,sl.mono (by omega),sl.der (by omega),by omega,by omega,by omega,by omega,by omega,by subst hn;decide,hb⟩
 have hq:resQ l (derQ l) / M.ld l=resQ l (derQ l)*(1 / M.ld l):=by grind
 refine⟨rs,derive_con l 4000 n hl.bl (by omega) hb (by omega),sl.ld.mono (by omega),?_,ld_ne hl.nf l0,hl.nf,hb,hd,hk,h1⟩
 rw[hq]
 exact (rs.bqs.mul sl.ld.inv).mono (by subst hn;decide)
set_option maxHeartbeats 4000000 in
theorem disc0_con (l:List Rat) (h:l.length<2):Con Try.prog AN 13 [pI l] (.tup [qI 0,flt 5 0]):=by
 have hI:(l.length:Int)-1<1:=by omega
 refine fn13.con rfl (by simp) ?_
 simp only[c13,c13_33,c13_1,l13_0,csP,init1,cw,csW,apartV,bne,cops,reduceCtorEq,Nat.reduceEqDiff]
 refine keep [1,2,3] ?_
 simp only[c13_32,c13_4,l13_2,csW,reduceCtorEq,Nat.reduceEqDiff,cw,apartV,bne,cops,csP]
 refine⟨_,degree_con l (by omega),?_⟩
 simp only[l13_3,cops,csW,Nat.reduceEqDiff]
 refine keep [1,2,3,4] ?_
 simp only[c13_31,c13_12,c13_6,l13_5,csW,Nat.reduceEqDiff,cw,apartV,bne,cops,hI]
 refine keep [1,2,3,4,10] ?_
 simp only[c13_11,csW,Nat.reduceEqDiff,cw]
 simp only[c13_10,c13_9,l13_7,csW,cw,apartV,bne,cops,csP,Nat.reduceEqDiff]
 refine⟨_,fault_con 5 0,?_⟩
 simp only[l13_8,csP,cops,csW,Nat.reduceEqDiff,Nat.reduceAdd]
 refine keep [2,3] ?_
 simp only[Ends,resD,resL,resV,csW,Nat.reduceEqDiff,csP,Nat.reduceAdd]
 first | done | rfl
set_option maxHeartbeats 4000000 in
theorem disc_con {l:List Rat} {n d k:Nat} (h:DiS l n d k):Con Try.prog AN 13 [pI l] (.tup [qI (disQ l d k),flt 0 0]):=by
 have hl:=h.ld
 have hk:=h.lk
 have h201:=h.le
 have hb:=h.bn
 have e1:(l.length:Int)-1=(d:Int):=by omega
 have e2:(d:Int)-1=(k:Int):=by omega
 have hI:¬ (d:Int)<1:=by omega
 obtain⟨r0,r1⟩:=prII (a:=d) (b:=k) (L:=201) (by omega) (by omega) (by omega)
 have r2:Int.tdiv ((d:Int)*(k:Int)) 2≤810000∧0≤Int.tdiv ((d:Int)*(k:Int)) 2:=by
  rw[←Int.natCast_mul] at r0 r1 ⊢
  have:Int.tdiv ((d*k:Nat):Int) 2=((d*k / 2:Nat):Int):=rfl
  rw[this];omega
 by_cases hp:d*k / 2 % 2=1
 ·have hP:=tri1 hp
  rw[show disQ l d k = -(resQ l (derQ l) / M.ld l) from if_pos hp]
  refine fn13.con rfl (by simp) ?_
  simp only[c13,c13_33,c13_1,l13_0,csP,init1,cw,csW,apartV,bne,cops,reduceCtorEq,Nat.reduceEqDiff]
  refine keep [1,2,3] ?_
  simp only[c13_32,c13_4,l13_2,csW,reduceCtorEq,Nat.reduceEqDiff,cw,apartV,bne,cops,csP]
  refine⟨_,degree_con l (by omega),?_⟩
  simp only[l13_3,e1,cops,csW,Nat.reduceEqDiff]
  refine keep [1,2,3,4] ?_
  simp only[c13_31,c13_12,c13_6,l13_5,csW,Nat.reduceEqDiff,cw,apartV,bne,cops,hI]
  refine keep [1,2,3,4,10] ?_
  simp only[c13_11,csW,Nat.reduceEqDiff,cw]
  refine keep [1,2,3,4] ?_
  simp only[c13_30,c13_18,l13_13,csW,Nat.reduceEqDiff,cw,apartV,bne,cops,csP]
  refine⟨_,h.dc,?_⟩
  simp only[l13_14,cops,csW,Nat.reduceEqDiff]
  refine⟨_,resT_con h.rs,?_⟩
  simp only[l13_15,cops,csW,Nat.reduceEqDiff,csP]
  refine⟨_,lead_con l (by omega),?_⟩
  simp only[l13_16,cops,csW,Nat.reduceEqDiff]
  refine⟨_,qQuo _ _ n h.rs.bq h.lb hb h.l0,?_⟩
  simp only[l13_17,csP,cops,csW,Nat.reduceEqDiff,Nat.reduceAdd]
  refine keep [2,3,4,5] ?_
  simp only[c13_29,c13_25,c13_20,l13_19,csW,Nat.reduceEqDiff,cw,apartV,bne,cops,e2,Int.reduceEq,hP]
  (repeat refine And.intro (by first | omega | (simp;omega)) ?_)
  refine keep [2,3,5,29] ?_
  simp only[c13_24,csW,Nat.reduceEqDiff,cw]
  simp only[c13_23,l13_21,csW,cw,apartV,bne,cops,Nat.reduceEqDiff,csP,Nat.reduceAdd]
  refine⟨_,qNeg _ n h.q hb,?_⟩
  simp only[l13_22,cops,csW,Nat.reduceEqDiff,csP,Nat.reduceAdd]
  refine keep [2,3,5] ?_
  simp only[c13_28,c13_27,l13_26,csW,Nat.reduceEqDiff,cw,apartV,bne,cops,csP,Nat.reduceAdd]
  refine keep [2,3] ?_
  simp only[Ends,resD,resL,resV,csW,Nat.reduceEqDiff,csP,Nat.reduceAdd]
  first | done | rfl
 ·have hP:=tri0 hp
  rw[show disQ l d k=resQ l (derQ l) / M.ld l from if_neg hp]
  refine fn13.con rfl (by simp) ?_
  simp only[c13,c13_33,c13_1,l13_0,csP,init1,cw,csW,apartV,bne,cops,reduceCtorEq,Nat.reduceEqDiff]
  refine keep [1,2,3] ?_
  simp only[c13_32,c13_4,l13_2,csW,reduceCtorEq,Nat.reduceEqDiff,cw,apartV,bne,cops,csP]
  refine⟨_,degree_con l (by omega),?_⟩
  simp only[l13_3,e1,cops,csW,Nat.reduceEqDiff]
  refine keep [1,2,3,4] ?_
  simp only[c13_31,c13_12,c13_6,l13_5,csW,Nat.reduceEqDiff,cw,apartV,bne,cops,hI]
  refine keep [1,2,3,4,10] ?_
  simp only[c13_11,csW,Nat.reduceEqDiff,cw]
  refine keep [1,2,3,4] ?_
  simp only[c13_30,c13_18,l13_13,csW,Nat.reduceEqDiff,cw,apartV,bne,cops,csP]
  refine⟨_,h.dc,?_⟩
  simp only[l13_14,cops,csW,Nat.reduceEqDiff]
  refine⟨_,resT_con h.rs,?_⟩
  simp only[l13_15,cops,csW,Nat.reduceEqDiff,csP]
  refine⟨_,lead_con l (by omega),?_⟩
  simp only[l13_16,cops,csW,Nat.reduceEqDiff]
  refine⟨_,qQuo _ _ n h.rs.bq h.lb hb h.l0,?_⟩
  simp only[l13_17,csP,cops,csW,Nat.reduceEqDiff,Nat.reduceAdd]
  refine keep [2,3,4,5] ?_
  simp only[c13_29,c13_25,c13_20,l13_19,csW,Nat.reduceEqDiff,cw,apartV,bne,cops,e2,Int.reduceEq,hP]
  (repeat refine And.intro (by first | omega | (simp;omega)) ?_)
  refine keep [2,3,5,29] ?_
  simp only[c13_24,csW,Nat.reduceEqDiff,cw]
  refine keep [2,3,5] ?_
  simp only[c13_28,c13_27,l13_26,csW,Nat.reduceEqDiff,cw,apartV,bne,cops,csP,Nat.reduceAdd]
  refine keep [2,3] ?_
  simp only[Ends,resD,resL,resV,csW,Nat.reduceEqDiff,csP,Nat.reduceAdd]
  first | done | rfl
set_option maxHeartbeats 8000000 in
theorem res_tail {l:List Rat} {K n:Nat} (hl:In 808000 l K) (hn:n=28000000000000) (hb:n≤big) :
  cw [25,27,39,47] (Con Try.prog AN) c3_74 (Ends (.bool true) [(4,none)]) ⟨look [(5,.ptr 5 0 0),(9,.p (LZ l))],
   lookM [(5,⟨25,1,.box (.p (pI l)),false⟩)]⟩:=by
 have h1:=hl.len
 have sl:Sz 808000 l:=⟨K,hl.k,hl.lb⟩
 by_cases k1:l.length<2
 ·have i1:(l.length:Int)<2:=by omega
  have hs0:sgnQ (0:Rat)=0:=sgnQ_0.2 rfl
  simp only[c3_74,c3_35,l3_33,csW,cw,apartV,bne,cops,Nat.reduceEqDiff,csP]
  refine⟨_,disc0_con l k1,?_⟩
  simp only[l3_34,csP,cops,csW,Nat.reduceEqDiff,Nat.reduceAdd]
  refine keep [9,13,14] ?_
  simp only[c3_73,c3_44,c3_37,l3_36,csW,Nat.reduceEqDiff,cw,apartV,bne,cops,i1]
  refine keep [9,13,14,63] ?_
  simp only[c3_43,csW,Nat.reduceEqDiff,cw]
  simp only[c3_42,c3_41,l3_38,csW,cw,apartV,bne,cops,Nat.reduceEqDiff,csP,Nat.reduceAdd]
  refine⟨_,lfault_con 5 0,?_⟩
  simp only[l3_39,csP,cops,csW,Nat.reduceLT,Nat.reduceEqDiff,intsOf,Nat.reduceAdd]
  refine⟨_,qSign 0 n (Bq.zero _ (by omega)) hb,?_⟩
  simp only[l3_40,hs0,cops,csW,Nat.reduceEqDiff]
  refine keep [4] ?_
  simp only[Ends,resD,resL,resV,csW,Nat.reduceEqDiff]
  first | done | rfl
 ·have i1:¬ (l.length:Int)<2:=by omega
  obtain⟨d,hd⟩:∃ d,l.length=d+1:=⟨l.length-1,by omega⟩
  obtain⟨k,hk⟩:∃ k,d=k+1:=⟨d-1,by omega⟩
  have hD:=DiS.of hl hd hk hn hb
  by_cases k2:4<l.length
  ·have i2:(4:Int)<(l.length:Int):=by omega
   simp only[c3_74,c3_35,l3_33,csW,cw,apartV,bne,cops,Nat.reduceEqDiff,csP]
   refine⟨_,disc_con hD,?_⟩
   simp only[l3_34,csP,cops,csW,Nat.reduceEqDiff,Nat.reduceAdd]
   refine keep [9,13,14] ?_
   simp only[c3_73,c3_44,c3_37,l3_36,csW,Nat.reduceEqDiff,cw,apartV,bne,cops,i1]
   refine keep [9,13,14,63] ?_
   simp only[c3_43,csW,Nat.reduceEqDiff,cw]
   refine keep [9,13,14] ?_
   simp only[c3_72,c3_51,c3_46,l3_45,csW,Nat.reduceEqDiff,cw,apartV,bne,cops,i2]
   refine keep [9,13,14,74] ?_
   simp only[c3_50,csW,Nat.reduceEqDiff,cw]
   simp only[c3_49,c3_48,l3_47,cw,csW,apartV,bne,cops,csP,Nat.reduceEqDiff,Nat.reduceAdd,Nat.reduceLeDiff]
   refine keep [4] ?_
   simp only[Ends,resD,resL,resV,csW,Nat.reduceEqDiff]
  ·have i2:¬ (4:Int)<(l.length:Int):=by omega
   have e1:(l.length:Int)-1=(d:Int):=by omega
   have e2:(l.length:Int)-2=(k:Int):=by omega
   obtain⟨r0,r1⟩:=prII (a:=d) (b:=k) (L:=201) (by omega) (by omega) (by omega)
   have r2:Int.tdiv ((d:Int)*(k:Int)) 2≤810000∧0≤Int.tdiv ((d:Int)*(k:Int)) 2:=by
    rw[←Int.natCast_mul] at r0 r1 ⊢
    have:Int.tdiv ((d*k:Nat):Int) 2=((d*k / 2:Nat):Int):=rfl
    rw[this];omega
   have dl:=der_lt (a:=l) (fun e=>by rw[e] at hd;simp at hd)
   have hpd:=pderive_con l 4000 n hl.bl (by omega) hb (by omega)
   have hpr:=pres_con l (derQ l) (k:=808008) (e:=1616016) (N:=n) (sl.mono (by omega)) (sl.der (by omega)) (by omega) (by omega) hb (by omega)
   by_cases hp:d*k / 2 % 2=1
   ·have hP:=tri1 hp
    have hDq:disQ l d k = -(resQ l (derQ l) / ld l):=if_pos hp
    have hdc:=disc_con hD
    rw[hDq] at hdc
    simp only[c3_74,c3_35,l3_33,csW,cw,apartV,bne,cops,Nat.reduceEqDiff,csP]
    refine⟨_,hdc,?_⟩
    simp only[l3_34,csP,cops,csW,Nat.reduceEqDiff,Nat.reduceAdd]
    refine keep [9,13,14] ?_
    simp only[c3_73,c3_44,c3_37,l3_36,csW,Nat.reduceEqDiff,cw,apartV,bne,cops,i1]
    refine keep [9,13,14,63] ?_
    simp only[c3_43,csW,Nat.reduceEqDiff,cw]
    refine keep [9,13,14] ?_
    simp only[c3_72,c3_51,c3_46,l3_45,csW,Nat.reduceEqDiff,cw,apartV,bne,cops,i2]
    refine keep [9,13,14,74] ?_
    simp only[c3_50,csW,Nat.reduceEqDiff,cw]
    refine keep [9,13,14] ?_
    simp only[c3_71,c3_57,l3_52,csW,Nat.reduceEqDiff,cw,apartV,bne,cops]
    refine⟨_,hpd,?_⟩
    simp only[l3_53,cops,csW,Nat.reduceEqDiff]
    refine⟨_,hpr,?_⟩
    simp only[l3_54,cops,csW,Nat.reduceEqDiff]
    refine⟨_,plead_con l (by omega),?_⟩
    simp only[l3_55,cops,csW,Nat.reduceEqDiff]
    refine⟨_,zQuo _ _ n hD.rs.bq hD.lb hb hD.l0,?_⟩
    simp only[l3_56,csP,cops,csW,Nat.reduceEqDiff,Nat.reduceAdd]
    refine keep [9,13,14,15] ?_
    simp only[c3_70,c3_64,c3_59,l3_58,csW,Nat.reduceEqDiff,cw,apartV,bne,cops,e1,e2,Int.reduceEq,hP]
    (repeat refine And.intro (by first | omega | (simp;omega)) ?_)
    refine keep [13,14,15,97] ?_
    simp only[c3_63,csW,Nat.reduceEqDiff,cw]
    simp only[c3_62,l3_60,csW,cw,apartV,bne,cops,Nat.reduceEqDiff,csP,Nat.reduceAdd]
    refine⟨_,zNeg _ n hD.q hb,?_⟩
    simp only[l3_61,cops,csW,Nat.reduceEqDiff,csP,Nat.reduceAdd]
    refine keep [13,14,15] ?_
    simp only[c3_69,c3_68,l3_65,csW,Nat.reduceEqDiff,cw,apartV,bne,cops,csP,Nat.reduceLT,Nat.reduceAdd,Nat.reduceLeDiff]
    refine⟨_,qText _ n hD.q.neg hb,?_⟩
    simp only[l3_66,cops,csW,Nat.reduceEqDiff,csP,Nat.reduceAdd]
    refine⟨_,zText _ n hD.q.neg hb,?_⟩
    simp only[l3_67,cops,csW,Nat.reduceEqDiff]
    refine keep [4] ?_
    simp only[Ends,resD,resL,resV,csW,Nat.reduceEqDiff]
    first | done | rfl
   ·have hP:=tri0 hp
    have hDq:disQ l d k=resQ l (derQ l) / ld l:=if_neg hp
    have hdc:=disc_con hD
    rw[hDq] at hdc
    simp only[c3_74,c3_35,l3_33,csW,cw,apartV,bne,cops,Nat.reduceEqDiff,csP]
    refine⟨_,hdc,?_⟩
    simp only[l3_34,csP,cops,csW,Nat.reduceEqDiff,Nat.reduceAdd]
    refine keep [9,13,14] ?_
    simp only[c3_73,c3_44,c3_37,l3_36,csW,Nat.reduceEqDiff,cw,apartV,bne,cops,i1]
    refine keep [9,13,14,63] ?_
    simp only[c3_43,csW,Nat.reduceEqDiff,cw]
    refine keep [9,13,14] ?_
    simp only[c3_72,c3_51,c3_46,l3_45,csW,Nat.reduceEqDiff,cw,apartV,bne,cops,i2]
    refine keep [9,13,14,74] ?_
    simp only[c3_50,csW,Nat.reduceEqDiff,cw]
    refine keep [9,13,14] ?_
    simp only[c3_71,c3_57,l3_52,csW,Nat.reduceEqDiff,cw,apartV,bne,cops]
    refine⟨_,hpd,?_⟩
    simp only[l3_53,cops,csW,Nat.reduceEqDiff]
    refine⟨_,hpr,?_⟩
    simp only[l3_54,cops,csW,Nat.reduceEqDiff]
    refine⟨_,plead_con l (by omega),?_⟩
    simp only[l3_55,cops,csW,Nat.reduceEqDiff]
    refine⟨_,zQuo _ _ n hD.rs.bq hD.lb hb hD.l0,?_⟩
    simp only[l3_56,csP,cops,csW,Nat.reduceEqDiff,Nat.reduceAdd]
    refine keep [9,13,14,15] ?_
    simp only[c3_70,c3_64,c3_59,l3_58,csW,Nat.reduceEqDiff,cw,apartV,bne,cops,e1,e2,Int.reduceEq,hP]
    (repeat refine And.intro (by first | omega | (simp;omega)) ?_)
    refine keep [13,14,15,97] ?_
    simp only[c3_63,csW,Nat.reduceEqDiff,cw]
    refine keep [13,14,15] ?_
    simp only[c3_69,c3_68,l3_65,csW,Nat.reduceEqDiff,cw,apartV,bne,cops,csP,Nat.reduceLT,Nat.reduceAdd,Nat.reduceLeDiff]
    refine⟨_,qText _ n hD.q hb,?_⟩
    simp only[l3_66,cops,csW,Nat.reduceEqDiff,csP,Nat.reduceAdd]
    refine⟨_,zText _ n hD.q hb,?_⟩
    simp only[l3_67,cops,csW,Nat.reduceEqDiff]
    refine keep [4] ?_
    simp only[Ends,resD,resL,resV,csW,Nat.reduceEqDiff]
    first | done | rfl
set_option maxHeartbeats 8000000 in
theorem results_main (T U:Nat) (a b:List (List UInt8)) (ha:a.length≤9223372036854775807) (hb:b.length≤9223372036854775807) (hsa:∀ t∈a,t.length≤9223372036854775807) (hsb:∀ t∈b,t.length≤9223372036854775807) :
  Con Try.prog AN 3 [LS T a,LS U b] (.bool true):=by
 obtain⟨n,hn⟩:∃ n:Nat,n=28000000000000:=⟨_,rfl⟩
 have hbg:n≤big:=by subst hn;decide
 obtain⟨K,hl⟩:=newQ_in a (e:=808000) (by omega)
 obtain⟨K',hm⟩:=newQ_in b (e:=808000) (by omega)
 have na:=new_con T a ha hsa
 have nb:=new_con U b hb hsb
 have pa:=pread_con T a ha hsa
 have pb:=pread_con U b hb hsb
 generalize newQ a=qa at hl na pa
 generalize newQ b=qb at hm nb pb
 obtain⟨l,c1,i1⟩:=qa
 obtain⟨m,c2,i2⟩:=qb
 replace na:Con Try.prog AN 6 [LS T a] (.tup [pI l,flt c1 i1]):=na
 replace nb:Con Try.prog AN 6 [LS U b] (.tup [pI m,flt c2 i2]):=nb
 replace pa:Con Try.prog AN 7 [LS T a] (.tup [LZ l,flt c1 i1]):=pa
 replace pb:Con Try.prog AN 7 [LS U b] (.tup [LZ m,flt c2 i2]):=pb
 replace hl:In 808000 l K:=hl
 replace hm:In 808000 m K':=hm
 have h1:=hl.len
 have h2:=hm.len
 have sl:Sz 808000 l:=⟨K,hl.k,hl.lb⟩
 have sm:Sz 808000 m:=⟨K',hm.k,hm.lb⟩
 refine fn3.con rfl (by simp) ?_
 simp only[c3,c3_81,c3_1,l3_0,init2,cw,csW,apartV,bne,cops,reduceCtorEq,Nat.reduceEqDiff]
 refine keep [0,1] ?_
 simp only[c3_80,c3_4,l3_2,csW,reduceCtorEq,Nat.reduceEqDiff,cw,apartV,bne,cops]
 refine⟨_,na,?_⟩
 simp only[l3_3,csP,cops,csW,reduceCtorEq,Nat.reduceEqDiff,Nat.reduceAdd]
 refine keep [0,1,5] ?_
 simp only[c3_79,c3_7,l3_5,csW,reduceCtorEq,Nat.reduceEqDiff,cw,apartV,bne,cops]
 refine⟨_,nb,?_⟩
 simp only[l3_6,csP,cops,csW,reduceCtorEq,Nat.reduceEqDiff,Nat.reduceAdd]
 refine keep [0,1,5,7] ?_
 simp only[c3_78,c3_10,l3_8,csW,reduceCtorEq,Nat.reduceEqDiff,cw,apartV,bne,cops]
 refine⟨_,pa,?_⟩
 simp only[l3_9,csP,cops,csW,reduceCtorEq,Nat.reduceEqDiff,Nat.reduceAdd]
 refine keep [1,5,7,9] ?_
 simp only[c3_77,c3_13,l3_11,csW,reduceCtorEq,Nat.reduceEqDiff,cw,apartV,bne,cops]
 refine⟨_,pb,?_⟩
 simp only[l3_12,csP,cops,csW,Nat.reduceEqDiff,Nat.reduceAdd]
 refine keep [5,7,9,11] ?_
 simp only[c3_76,c3_21,c3_16,l3_14,csW,Nat.reduceEqDiff,cw,apartV,bne,cops]
 refine⟨_,begun_con,?_⟩
 simp only[l3_15,cops,csW,Nat.reduceEqDiff]
 refine keep [5,7,9,11,38] ?_
 simp only[c3_20,csW,Nat.reduceEqDiff,cw]
 by_cases k1:l.length+m.length≤8
 ·have e1:(l.length:Int)+(m.length:Int)≤8:=by omega
  have rs:ResT l m 808000 3 8 n:=⟨hl.nf,hm.nf,sl,sm,by omega,by omega,by omega,by omega,by omega,by subst hn;decide,hbg⟩
  have hpr:=pres_con l m (k:=808000) (e:=1616000) (N:=n) sl sm (by omega) (by omega) hbg k1
  refine keep [5,7,9,11] ?_
  simp only[c3_75,c3_32,c3_27,l3_22,csW,Nat.reduceEqDiff,cw,apartV,bne,cops,csP,e1]
  (repeat refine And.intro (by first | omega | (simp;omega)) ?_)
  refine⟨_,resT_con rs,?_⟩
  simp only[l3_23,cops,csW,Nat.reduceEqDiff]
  refine⟨_,qText _ n rs.bq hbg,?_⟩
  simp only[l3_24,cops,csW,Nat.reduceEqDiff]
  refine⟨_,hpr,?_⟩
  simp only[l3_25,cops,csW,Nat.reduceEqDiff]
  refine⟨_,zText _ n rs.bq hbg,?_⟩
  simp only[l3_26,cops,csW,Nat.reduceEqDiff]
  refine keep [5,9,55] ?_
  simp only[c3_31,csW,Nat.reduceEqDiff,cw]
  exact⟨_,(Sub.toG [5,9] [6,7,8,10,12,13,14,15,16] (by rfl) (by rfl) (by rfl) (by rfl)),res_tail hl hn hbg⟩
 ·have e1:¬ (l.length:Int)+(m.length:Int)≤8:=by omega
  refine keep [5,7,9,11] ?_
  simp only[c3_75,c3_32,c3_27,l3_22,csW,Nat.reduceEqDiff,cw,apartV,bne,cops,csP,e1]
  (repeat refine And.intro (by first | omega | (simp;omega)) ?_)
  simp only[l3_23,cops,csW,Nat.reduceEqDiff]
  simp only[l3_24,cops,csW,Nat.reduceEqDiff]
  simp only[l3_25,cops,csW,Nat.reduceEqDiff]
  simp only[l3_26,cops,csW,Nat.reduceEqDiff]
  refine keep [5,9,55] ?_
  simp only[c3_31,csW,Nat.reduceEqDiff,cw]
  exact⟨_,(Sub.toG [5,9] [6,7,8,10,12,13,14,15,16] (by rfl) (by rfl) (by rfl) (by rfl)),res_tail hl hn hbg⟩
end Go.Proofs.Ytdjbfgfbpimakaa.M
