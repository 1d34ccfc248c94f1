/- PolyLaws walked. -/
import Derived.Test.YtdjbfgfbpimakaaReAx
import Derived.Test.YtdjbfgfbpimakaaK12
import Derived.Test.YtdjbfgfbpimakaaRvBx
import Derived.Test.YtdjbfgfbpimakaaThDx
import Derived.Test.YtdjbfgfbpimakaaK5
namespace Go.Proofs.Ytdjbfgfbpimakaa.M
open Go.RowKit
set_option linter.unusedSimpArgs false
set_option linter.unusedVariables false
set_option linter.defProp false
theorem prod_rule (l m:List Rat):derQ (mulQ l m)=addQ (mulQ (derQ l) m) (mulQ l (derQ m)):=
 ev_nf (der_nf _) (nf_add _ _) fun x=>by rw[der_mul,ev_add,ev_mul,ev_mul]
theorem dist_rule (l m o:List Rat):mulQ (addQ l m) o=addQ (mulQ l o) (mulQ m o):=
 ev_nf (nf_mul _ _) (nf_add _ _) fun x=>by rw[ev_mul,ev_add,ev_add,ev_mul,ev_mul];grind
structure P27 (e:Nat) (l:List Rat) (N:Nat):Prop where
 nf:Nf l
 sz:Sz e l
 bl:Bl 4000 l
 len:l.length≤N
set_option maxHeartbeats 16000000 in
theorem laws_main (T U W:Nat) (a b c:List (List UInt8)) (ha:a.length≤9223372036854775807) (hb:b.length≤9223372036854775807) (hc:c.length≤9223372036854775807) (hsa:∀ t∈a,t.length≤9223372036854775807) (hsb:∀ t∈b,t.length≤9223372036854775807) (hsc:∀ t∈c,t.length≤9223372036854775807) :
  Con Try.prog AN 5 [LS T a,LS U b,LS W c] (.bool true):=by
 obtain⟨e,he⟩:∃ e:Nat,e=808000:=⟨_,rfl⟩
 obtain⟨n,hn⟩:∃ n:Nat,n=2000000000000:=⟨_,rfl⟩
 have hbg:n≤big:=by subst hn;decide
 obtain⟨K,hl⟩:=newQ_in a (e:=e) (by omega)
 obtain⟨K',hm⟩:=newQ_in b (e:=e) (by omega)
 obtain⟨K'',ho⟩:=newQ_in c (e:=e) (by omega)
 have na:=new_con T a ha hsa
 have nb:=new_con U b hb hsb
 have nc:=new_con W c hc hsc
 generalize newQ a=qa at hl na
 generalize newQ b=qb at hm nb
 generalize newQ c=qc at ho nc
 obtain⟨l,c1,i1⟩:=qa
 obtain⟨m,c2,i2⟩:=qb
 obtain⟨o,c3,i3⟩:=qc
 replace na:Con Try.prog AN 6 [LS T a] (.tup [pI l,flt c1 i1]):=na
 replace nb:Con Try.prog AN 6 [LS U b] (.tup [pI m,flt c2 i2]):=nb
 replace nc:Con Try.prog AN 6 [LS W c] (.tup [pI o,flt c3 i3]):=nc
 replace hl:In e l K:=hl
 replace hm:In e m K':=hm
 replace ho:In e o K'':=ho
 have h1:=hl.len
 have h2:=hm.len
 have h3:=ho.len
 have sl:Sz e l:=⟨K,hl.k,hl.lb⟩
 have sm:Sz e m:=⟨K',hm.k,hm.lb⟩
 have so:Sz e o:=⟨K'',ho.k,ho.lb⟩
 refine fn5.con rfl (by simp) ?_
 simp only[c5,c5_106,c5_1,l5_0,init3,cw,csW,apartV,bne,cops,reduceCtorEq,Nat.reduceEqDiff]
 refine keep [0,1,2] ?_
 simp only[c5_105,c5_4,l5_2,csW,reduceCtorEq,Nat.reduceEqDiff,cw,apartV,bne,cops]
 refine⟨_,na,?_⟩
 simp only[l5_3,csP,cops,csW,reduceCtorEq,Nat.reduceEqDiff,Nat.reduceAdd]
 refine keep [1,2,7,8] ?_
 simp only[c5_104,c5_7,l5_5,csW,reduceCtorEq,Nat.reduceEqDiff,cw,apartV,bne,cops]
 refine⟨_,nb,?_⟩
 simp only[l5_6,csP,cops,csW,Nat.reduceEqDiff,Nat.reduceAdd]
 refine keep [2,7,8,9,10] ?_
 simp only[c5_103,c5_10,l5_8,csW,Nat.reduceEqDiff,cw,apartV,bne,cops]
 refine⟨_,nc,?_⟩
 simp only[l5_9,csP,cops,csW,Nat.reduceEqDiff,Nat.reduceAdd]
 refine keep [7,8,9,10,11,12] ?_
 simp only[c5_102,c5_18,c5_13,l5_11,csW,Nat.reduceEqDiff,cw,apartV,bne,cops]
 refine⟨_,begun_con,?_⟩
 simp only[l5_12,cops,csW,Nat.reduceEqDiff]
 refine keep [7,8,9,10,11,12,36] ?_
 simp only[c5_17,csW,Nat.reduceEqDiff,cw]
 by_cases k1:c1=0
 ·by_cases k2:c2=0
  ·by_cases k3:c3=0
   ·by_cases k4:(24:Int)<(l.length:Int)-1+((m.length:Int)-1)+((o.length:Int)-1)
    ·(try simp only[cw,cops,csW,reduceIte,Nat.reduceEqDiff,reduceCtorEq,Nat.reduceAdd,Nat.reduceLT,Nat.reduceLeDiff,Nat.reduceSub,csP,apartV,bne,Nat.reduceBEq,beq_self_eq_true,Int.reduceEq,Bool.not_false,Bool.not_true,decide_true,decide_false,k1,k2,k3,decide_true,decide_false])
     refine keep [7,8,9,10,11,12] ?_
     simp only[c5_101,c5_28,c5_23,l5_19,csW,Nat.reduceEqDiff,cw,apartV,bne,cops,csP,Nat.reduceAdd,Nat.reduceLeDiff]
     refine⟨_,degree_con l (by omega),?_⟩
     simp only[l5_20,cops,csW,Nat.reduceEqDiff,csP]
     refine⟨_,degree_con m (by omega),?_⟩
     simp only[l5_21,cops,csW,Nat.reduceEqDiff,csP]
     refine⟨_,degree_con o (by omega),?_⟩
     simp only[l5_22,cops,csW,Nat.reduceEqDiff,k4]
     (repeat refine And.intro (by first | omega | (simp;omega)) ?_)
     refine keep [7,9,11,60] ?_
     simp only[c5_27,csW,Nat.reduceEqDiff,cw]
     simp only[c5_26,c5_25,l5_24,cw,csW,apartV,bne,cops,Nat.reduceEqDiff]
     refine keep [6] ?_
     simp only[Ends,resD,resL,resV,csW,Nat.reduceEqDiff]
    ·obtain⟨z4,hz4⟩:∃ z:Int,z=(l.length:Int)-1+((m.length:Int)-1)+((o.length:Int)-1):=⟨_,rfl⟩
     have hsum:l.length+m.length+o.length≤27:=by omega
     have lM:=mul_len_le l m
     have sM:Sz 1616005 (mulQ l m):=(sl.mul sm (r:=5) (by omega)).mono (by omega)
     have P1:PrB l 810000 n:=prB hl.nf hl.bl h1 (by omega) (by omega) (by omega)
     have P2:PrB m 810000 n:=prB hm.nf hm.bl h2 (by omega) (by omega) (by omega)
     have P3:PrB (mulQ l m) 325000000 n:=prB (nf_mul _ _) (sM.bl (n:=1616006) (by omega)) (by omega) (by omega) (by omega) (by omega)
     have p1:=prim_con l _ n P1 hbg
     have p2:=prim_con m _ n P2 hbg
     have p3:=prim_con (mulQ l m) _ n P3 hbg
     have kb:=P3.k
     obtain⟨q1,q2⟩:=prim_mul hl.nf hm.nf
     rw[q1,q2] at p3
     rw[q1] at kb
     have sp1:Sz (e+810000) (primQ l):=sl.scl P1.k.inv
     have sp2:Sz (e+810000) (primQ m):=sm.scl P2.k.inv
     have lp1:(primQ l).length≤l.length:=scl_len _ _
     have lp2:(primQ m).length≤m.length:=scl_len _ _
     have mpp:=imulz_con (r:=5) sp1 sp2 (by omega) (by omega) (by omega) (n:=n) (by omega) hbg
     have spp:Sz 3300000 (mulQ (primQ l) (primQ m)):=(sp1.mul sp2 (r:=5) (by omega)).mono (by omega)
     have lpp:=mul_len_le (primQ l) (primQ m)
     have spps:=samez_con (mulQ (primQ l) (primQ m)) n (nf_mul _ _) (spp.bl (by omega)) hbg (by omega) (by omega)
     have mlm:=imulz_con (r:=5) sl sm (by omega) (by omega) (by omega) (n:=n) (by omega) hbg
     have dlm:=derive_con (mulQ l m) 1616006 n (sM.bl (by omega)) (by omega) hbg (by omega)
     have dl:=derive_con l 4000 n hl.bl (by omega) hbg (by omega)
     have dm:=derive_con m 4000 n hm.bl (by omega) hbg (by omega)
     have sdl:Sz (e+8) (derQ l):=sl.der (by omega)
     have sdm:Sz (e+8) (derQ m):=sm.der (by omega)
     have ldl:=der_len l
     have ldm:=der_len m
     have m1:=imulz_con (r:=5) sdl sm (by omega) (by omega) (by omega) (n:=n) (by omega) hbg
     have m2:=imulz_con (r:=5) sl sdm (by omega) (by omega) (by omega) (n:=n) (by omega) hbg
     have s1:Sz 1616013 (mulQ (derQ l) m):=(sdl.mul sm (r:=5) (by omega)).mono (by omega)
     have s2:Sz 1616013 (mulQ l (derQ m)):=(sl.mul sdm (r:=5) (by omega)).mono (by omega)
     have lm1:=mul_len_le (derQ l) m
     have lm2:=mul_len_le l (derQ m)
     have a1:=addz_con s1 s2 (by omega) (by omega) (n:=n) (by omega) hbg
     have same1:Con Try.prog AN 28 [pI (derQ (mulQ l m)),pI (addQ (mulQ (derQ l) m) (mulQ l (derQ m)))] (.bool true):=by
      rw[←prod_rule]
      have:=der_len (mulQ l m)
      exact samez_con _ n (der_nf _) ((sM.der (by omega)).bl (by omega)) hbg (by omega) (by omega)
     have alm:=addz_con sl sm (by omega) (by omega) (n:=n) (by omega) hbg
     have sa:Sz 1616001 (addQ l m):=(sl.add sm).mono (by omega)
     have la:=add_len l m
     have m3:=imulz_con (r:=5) sa so (by omega) (by omega) (by omega) (n:=n) (by omega) hbg
     have m4:=imulz_con (r:=5) sl so (by omega) (by omega) (by omega) (n:=n) (by omega) hbg
     have m5:=imulz_con (r:=5) sm so (by omega) (by omega) (by omega) (n:=n) (by omega) hbg
     have s3:Sz 1616005 (mulQ l o):=(sl.mul so (r:=5) (by omega)).mono (by omega)
     have s4:Sz 1616005 (mulQ m o):=(sm.mul so (r:=5) (by omega)).mono (by omega)
     have s5:Sz 2424006 (mulQ (addQ l m) o):=(sa.mul so (r:=5) (by omega)).mono (by omega)
     have l3:=mul_len_le l o
     have l4:=mul_len_le m o
     have l5:=mul_len_le (addQ l m) o
     have a2:=addz_con s3 s4 (by omega) (by omega) (n:=n) (by omega) hbg
     have same2:Con Try.prog AN 28 [pI (mulQ (addQ l m) o),pI (addQ (mulQ l o) (mulQ m o))] (.bool true):=by
      rw[←dist_rule]
      exact samez_con _ n (nf_mul _ _) (s5.bl (by omega)) hbg (by omega) (by omega)
     have rs1:ResS l o e 5 27 n:=⟨hl.nf,ho.nf,sl,so,by omega,by omega,by omega,by omega,by omega,by subst he hn;decide,hbg⟩
     have rs3:ResS m o e 5 27 n:=⟨hm.nf,ho.nf,sm,so,by omega,by omega,by omega,by omega,by omega,by subst he hn;decide,hbg⟩
     have rs2:ResS (mulQ l m) o 1616005 5 28 n:=⟨nf_mul _ _,ho.nf,sM,so.mono (by omega),by omega,by omega,by omega,by omega,by omega,by subst hn;decide,hbg⟩
     have hrm:resQ l o*resQ m o=resQ (mulQ l m) o:=(res_mul hl.nf hm.nf ho.nf).symm
     have hz1:cmpZ ((kQ l*kQ m).num*(kQ l*kQ m).den) ((kQ l*kQ m).num*(kQ l*kQ m).den)=0:=by unfold cmpZ;simp
     have hz2:cmpZ ((resQ (mulQ l m) o).num*(resQ (mulQ l m) o).den) ((resQ (mulQ l m) o).num*(resQ (mulQ l m) o).den)=0:=by unfold cmpZ;simp
     obtain⟨g,hg⟩:=gcd_ex o.length l o (Nat.le_refl _) hl.nf ho.nf
     have hgc:=gcd_con (n:=n) l o hl.nf ho.nf sl so (L:=27) (r:=5) (by omega) (by omega) (by omega) (by omega) (by subst he hn;decide) hbg hg
     simp only[k1,k2,k3]
     refine keep [7,8,9,10,11,12] ?_
     simp only[c5_101,c5_28,c5_23,l5_19,csW,Nat.reduceEqDiff,cw,apartV,bne,cops,csP,Nat.reduceAdd,Nat.reduceLeDiff]
     refine⟨_,degree_con l (by omega),?_⟩
     simp only[l5_20,cops,csW,Nat.reduceEqDiff,csP]
     refine⟨_,degree_con m (by omega),?_⟩
     simp only[l5_21,cops,csW,Nat.reduceEqDiff,csP]
     refine⟨_,degree_con o (by omega),?_⟩
     simp only[l5_22,cops,csW,Nat.reduceEqDiff,k4]
     (repeat refine And.intro (by first | omega | (simp;omega)) ?_)
     refine keep [7,9,11,60] ?_
     simp only[c5_27,csW,Nat.reduceEqDiff,cw]
     refine keep [7,9,11] ?_
     simp only[c5_100,c5_31,l5_29,csW,Nat.reduceEqDiff,cw,apartV,bne,cops,csP]
     refine⟨_,p1,?_⟩
     simp only[l5_30,csP,cops,csW,Nat.reduceEqDiff,Nat.reduceAdd]
     refine keep [7,9,11,13,14] ?_
     simp only[c5_99,c5_34,l5_32,csW,Nat.reduceEqDiff,cw,apartV,bne,cops,csP]
     refine⟨_,p2,?_⟩
     simp only[l5_33,csP,cops,csW,Nat.reduceEqDiff,Nat.reduceAdd]
     refine keep [7,9,11,13,14,15,16] ?_
     simp only[c5_98,c5_38,l5_35,csW,Nat.reduceEqDiff,cw,apartV,bne,cops,csP]
     refine⟨_,mlm,?_⟩
     simp only[l5_36,cops,csW,Nat.reduceEqDiff]
     refine⟨_,p3,?_⟩
     simp only[l5_37,csP,cops,csW,Nat.reduceEqDiff,Nat.reduceAdd]
     refine keep [7,9,11,13,14,15,16,17,18] ?_
     simp only[c5_97,c5_49,c5_44,l5_39,csW,Nat.reduceEqDiff,cw,apartV,bne,cops,csP,Nat.reduceLT,Nat.reduceAdd]
     refine⟨_,qMul (kQ l) (kQ m) n (P1.k.mono (by omega)) (P2.k.mono (by omega)) hbg,?_⟩
     simp only[l5_40,cops,csW,Nat.reduceEqDiff,csP,Nat.reduceAdd]
     refine⟨_,qCmp (kQ l*kQ m) (kQ l*kQ m) n (kb.mono (by omega)) (kb.mono (by omega)) hbg,?_⟩
     simp only[l5_41,hz1,cops,csW,csP,Nat.reduceEqDiff]
     refine⟨_,mpp,?_⟩
     simp only[l5_42,cops,csW,Nat.reduceEqDiff,csP]
     refine⟨_,spps,?_⟩
     simp only[l5_43,cops,csW,Nat.reduceEqDiff]
     refine keep [7,9,11,91] ?_
     simp only[c5_48,csW,Nat.reduceEqDiff,cw]
     refine keep [7,9,11] ?_
     simp only[c5_96,c5_70,c5_65,l5_50,csW,Nat.reduceEqDiff,cw,apartV,bne,cops,csP]
     refine⟨_,mlm,?_⟩
     simp only[l5_51,cops,csW,Nat.reduceEqDiff]
     refine⟨_,dlm,?_⟩
     simp only[l5_52,cops,csW,Nat.reduceEqDiff,csP]
     refine⟨_,dl,?_⟩
     simp only[l5_53,cops,csW,Nat.reduceEqDiff,csP]
     refine⟨_,m1,?_⟩
     simp only[l5_54,cops,csW,csP,Nat.reduceEqDiff]
     refine⟨_,dm,?_⟩
     simp only[l5_55,cops,csW,Nat.reduceEqDiff]
     refine⟨_,m2,?_⟩
     simp only[l5_56,cops,csW,Nat.reduceEqDiff]
     refine⟨_,a1,?_⟩
     simp only[l5_57,cops,csW,Nat.reduceEqDiff]
     refine⟨_,same1,?_⟩
     simp only[l5_58,cops,csW,csP,Nat.reduceEqDiff]
     refine⟨_,alm,?_⟩
     simp only[l5_59,cops,csW,Nat.reduceEqDiff,csP]
     refine⟨_,m3,?_⟩
     simp only[l5_60,cops,csW,csP,Nat.reduceEqDiff]
     refine⟨_,m4,?_⟩
     simp only[l5_61,cops,csW,csP,Nat.reduceEqDiff]
     refine⟨_,m5,?_⟩
     simp only[l5_62,cops,csW,Nat.reduceEqDiff]
     refine⟨_,a2,?_⟩
     simp only[l5_63,cops,csW,Nat.reduceEqDiff]
     refine⟨_,same2,?_⟩
     simp only[l5_64,cops,csW,Nat.reduceEqDiff]
     refine keep [7,9,11,122] ?_
     simp only[c5_69,csW,Nat.reduceEqDiff,cw]
     refine keep [7,9,11] ?_
     simp only[c5_95,c5_73,l5_71,csW,Nat.reduceEqDiff,cw,apartV,bne,cops,csP]
     by_cases l0:l=[]
     ·have hA:¬ (0:Int)≤(l.length:Int)-1:=by rw[l0];simp
      refine⟨_,res_con rs1,?_⟩
      simp only[l5_72,csP,cops,csW,Nat.reduceEqDiff,Nat.reduceAdd]
      refine keep [7,9,11,19] ?_
      simp only[c5_94,c5_85,c5_80,l5_74,csW,Nat.reduceEqDiff,cw,apartV,bne,cops,csP]
      refine⟨_,degree_con l (by omega),?_⟩
      simp only[l5_75,cops,csW,csP,Nat.reduceEqDiff,hA]
      simp only[l5_76,cops,csW,csP,Nat.reduceLT,Nat.reduceEqDiff,Nat.reduceAdd]
      simp only[l5_77,cops,csW,csP,Nat.reduceEqDiff]
      simp only[l5_78,cops,csW,Nat.reduceEqDiff]
      simp only[l5_79,cops,csW,Nat.reduceEqDiff]
      refine keep [7,9,11,19,144] ?_
      simp only[c5_84,csW,Nat.reduceEqDiff,cw]
      refine keep [7,9,11,19] ?_
      simp only[c5_93,c5_92,l5_86,csW,Nat.reduceEqDiff,cw,apartV,bne,cops,csP]
      refine⟨_,mlm,?_⟩
      simp only[l5_87,cops,csW,Nat.reduceEqDiff,csP]
      refine⟨_,res_con rs2,?_⟩
      simp only[l5_88,cops,csW,csP,Nat.reduceEqDiff,Nat.reduceAdd]
      refine⟨_,res_con rs3,?_⟩
      simp only[l5_89,cops,csW,Nat.reduceEqDiff]
      refine⟨_,qMul (resQ l o) (resQ m o) n rs1.bq rs3.bq hbg,?_⟩
      simp only[l5_90,hrm,cops,csW,Nat.reduceEqDiff]
      refine⟨_,qCmp (resQ (mulQ l m) o) (resQ (mulQ l m) o) n rs2.bq rs2.bq hbg,?_⟩
      simp only[l5_91,hz2,cops,csW,Nat.reduceEqDiff]
      refine keep [6] ?_
      simp only[Ends,resD,resL,resV,csW,Nat.reduceEqDiff]
     ·have hA:(0:Int)≤(l.length:Int)-1:=by have:=List.length_pos_iff.2 l0;omega
      by_cases o0:o=[]
      ·have hB:¬ (0:Int)≤(o.length:Int)-1:=by rw[o0];simp
       refine⟨_,res_con rs1,?_⟩
       simp only[l5_72,csP,cops,csW,Nat.reduceEqDiff,Nat.reduceAdd]
       refine keep [7,9,11,19] ?_
       simp only[c5_94,c5_85,c5_80,l5_74,csW,Nat.reduceEqDiff,cw,apartV,bne,cops,csP]
       refine⟨_,degree_con l (by omega),?_⟩
       simp only[l5_75,cops,csW,csP,Nat.reduceEqDiff,hA]
       refine⟨_,degree_con o (by omega),?_⟩
       simp only[l5_76,cops,csW,csP,Nat.reduceLT,Nat.reduceEqDiff,hB,Nat.reduceAdd]
       simp only[l5_77,cops,csW,csP,Nat.reduceEqDiff]
       simp only[l5_78,cops,csW,Nat.reduceEqDiff]
       simp only[l5_79,cops,csW,Nat.reduceEqDiff]
       refine keep [7,9,11,19,144] ?_
       simp only[c5_84,csW,Nat.reduceEqDiff,cw]
       refine keep [7,9,11,19] ?_
       simp only[c5_93,c5_92,l5_86,csW,Nat.reduceEqDiff,cw,apartV,bne,cops,csP]
       refine⟨_,mlm,?_⟩
       simp only[l5_87,cops,csW,Nat.reduceEqDiff,csP]
       refine⟨_,res_con rs2,?_⟩
       simp only[l5_88,cops,csW,csP,Nat.reduceEqDiff,Nat.reduceAdd]
       refine⟨_,res_con rs3,?_⟩
       simp only[l5_89,cops,csW,Nat.reduceEqDiff]
       refine⟨_,qMul (resQ l o) (resQ m o) n rs1.bq rs3.bq hbg,?_⟩
       simp only[l5_90,hrm,cops,csW,Nat.reduceEqDiff]
       refine⟨_,qCmp (resQ (mulQ l m) o) (resQ (mulQ l m) o) n rs2.bq rs2.bq hbg,?_⟩
       simp only[l5_91,hz2,cops,csW,Nat.reduceEqDiff]
       refine keep [6] ?_
       simp only[Ends,resD,resL,resV,csW,Nat.reduceEqDiff]
      ·have hB:(0:Int)≤(o.length:Int)-1:=by have:=List.length_pos_iff.2 o0;omega
       obtain⟨g',_,_,_,_,hgl⟩:=hg.dp.len hg.ng hl.nf l0
       have hrg:=res_gcd (l.length+2*o.length) (Nat.le_refl _) hl.nf ho.nf l0 o0 hg
       by_cases hz:resQ l o=0
       ·have hs0:sgnQ (resQ l o)=0:=sgnQ_0.2 hz
        have hg1:(0:Int)<(g.length:Int)-1:=by have:=hrg.1 hz;omega
        refine⟨_,res_con rs1,?_⟩
        simp only[l5_72,csP,cops,csW,Nat.reduceEqDiff,Nat.reduceAdd]
        refine keep [7,9,11,19] ?_
        simp only[c5_94,c5_85,c5_80,l5_74,csW,Nat.reduceEqDiff,cw,apartV,bne,cops,csP]
        refine⟨_,degree_con l (by omega),?_⟩
        simp only[l5_75,cops,csW,csP,Nat.reduceEqDiff,hA]
        refine⟨_,degree_con o (by omega),?_⟩
        simp only[l5_76,cops,csW,csP,Nat.reduceLT,Nat.reduceEqDiff,hB,Nat.reduceAdd]
        refine⟨_,qSign (resQ l o) n rs1.bq hbg,?_⟩
        simp only[l5_77,cops,csW,csP,Nat.reduceEqDiff]
        refine⟨_,hgc,?_⟩
        simp only[l5_78,cops,csW,Nat.reduceEqDiff]
        refine⟨_,degree_con g (by omega),?_⟩
        simp only[l5_79,hs0,cops,csW,Nat.reduceEqDiff,hg1,beq_self_eq_true]
        refine keep [7,9,11,19,144] ?_
        simp only[c5_84,csW,Nat.reduceEqDiff,cw]
        refine keep [7,9,11,19] ?_
        simp only[c5_93,c5_92,l5_86,csW,Nat.reduceEqDiff,cw,apartV,bne,cops,csP]
        refine⟨_,mlm,?_⟩
        simp only[l5_87,cops,csW,Nat.reduceEqDiff,csP]
        refine⟨_,res_con rs2,?_⟩
        simp only[l5_88,cops,csW,csP,Nat.reduceEqDiff,Nat.reduceAdd]
        refine⟨_,res_con rs3,?_⟩
        simp only[l5_89,cops,csW,Nat.reduceEqDiff]
        refine⟨_,qMul (resQ l o) (resQ m o) n rs1.bq rs3.bq hbg,?_⟩
        simp only[l5_90,hrm,cops,csW,Nat.reduceEqDiff]
        refine⟨_,qCmp (resQ (mulQ l m) o) (resQ (mulQ l m) o) n rs2.bq rs2.bq hbg,?_⟩
        simp only[l5_91,hz2,cops,csW,Nat.reduceEqDiff]
        refine keep [6] ?_
        simp only[Ends,resD,resL,resV,csW,Nat.reduceEqDiff]
       ·have hs0:¬ sgnQ (resQ l o)=0:=fun h=>hz (sgnQ_0.1 h)
        have hg1:¬ (0:Int)<(g.length:Int)-1:=fun h=>hz (hrg.2 (by omega))
        refine⟨_,res_con rs1,?_⟩
        simp only[l5_72,csP,cops,csW,Nat.reduceEqDiff,Nat.reduceAdd]
        refine keep [7,9,11,19] ?_
        simp only[c5_94,c5_85,c5_80,l5_74,csW,Nat.reduceEqDiff,cw,apartV,bne,cops,csP]
        refine⟨_,degree_con l (by omega),?_⟩
        simp only[l5_75,cops,csW,csP,Nat.reduceEqDiff,hA]
        refine⟨_,degree_con o (by omega),?_⟩
        simp only[l5_76,cops,csW,csP,Nat.reduceLT,Nat.reduceEqDiff,hB,Nat.reduceAdd]
        refine⟨_,qSign (resQ l o) n rs1.bq hbg,?_⟩
        simp only[l5_77,cops,csW,csP,Nat.reduceEqDiff]
        refine⟨_,hgc,?_⟩
        simp only[l5_78,cops,csW,Nat.reduceEqDiff]
        refine⟨_,degree_con g (by omega),?_⟩
        simp only[l5_79,cops,csW,Nat.reduceEqDiff,hs0,hg1,beq_self_eq_true]
        refine keep [7,9,11,19,144] ?_
        simp only[c5_84,csW,Nat.reduceEqDiff,cw]
        refine keep [7,9,11,19] ?_
        simp only[c5_93,c5_92,l5_86,csW,Nat.reduceEqDiff,cw,apartV,bne,cops,csP]
        refine⟨_,mlm,?_⟩
        simp only[l5_87,cops,csW,Nat.reduceEqDiff,csP]
        refine⟨_,res_con rs2,?_⟩
        simp only[l5_88,cops,csW,csP,Nat.reduceEqDiff,Nat.reduceAdd]
        refine⟨_,res_con rs3,?_⟩
        simp only[l5_89,cops,csW,Nat.reduceEqDiff]
        refine⟨_,qMul (resQ l o) (resQ m o) n rs1.bq rs3.bq hbg,?_⟩
        simp only[l5_90,hrm,cops,csW,Nat.reduceEqDiff]
        refine⟨_,qCmp (resQ (mulQ l m) o) (resQ (mulQ l m) o) n rs2.bq rs2.bq hbg,?_⟩
        simp only[l5_91,hz2,cops,csW,Nat.reduceEqDiff]
        refine keep [6] ?_
        simp only[Ends,resD,resL,resV,csW,Nat.reduceEqDiff]
   ·-- skip
    simp only[k1,k2]
    refine keep [7,8,9,10,11,12] ?_
    simp only[c5_101,c5_28,c5_23,l5_19,csW,Nat.reduceEqDiff,cw,apartV,bne,cops,csP,Nat.reduceAdd,Nat.reduceLeDiff,k3]
    simp only[l5_20,cops,csW,Nat.reduceEqDiff,csP]
    simp only[l5_21,cops,csW,Nat.reduceEqDiff,csP]
    simp only[l5_22,cops,csW,Nat.reduceEqDiff]
    refine keep [7,9,11,60] ?_
    simp only[c5_27,csW,Nat.reduceEqDiff,cw]
    simp only[c5_26,c5_25,l5_24,cw,csW,apartV,bne,cops,Nat.reduceEqDiff]
    refine keep [6] ?_
    simp only[Ends,resD,resL,resV,csW,Nat.reduceEqDiff]
  ·-- skip
   simp only[k1]
   refine keep [7,8,9,10,11,12] ?_
   simp only[c5_101,c5_28,c5_23,l5_19,csW,Nat.reduceEqDiff,cw,apartV,bne,cops,csP,Nat.reduceAdd,Nat.reduceLeDiff,k2]
   simp only[l5_20,cops,csW,Nat.reduceEqDiff,csP]
   simp only[l5_21,cops,csW,Nat.reduceEqDiff,csP]
   simp only[l5_22,cops,csW,Nat.reduceEqDiff]
   refine keep [7,9,11,60] ?_
   simp only[c5_27,csW,Nat.reduceEqDiff,cw]
   simp only[c5_26,c5_25,l5_24,cw,csW,apartV,bne,cops,Nat.reduceEqDiff]
   refine keep [6] ?_
   simp only[Ends,resD,resL,resV,csW,Nat.reduceEqDiff]
 ·-- skip
  refine keep [7,8,9,10,11,12] ?_
  simp only[c5_101,c5_28,c5_23,l5_19,csW,Nat.reduceEqDiff,cw,apartV,bne,cops,csP,Nat.reduceAdd,Nat.reduceLeDiff,k1]
  simp only[l5_20,cops,csW,Nat.reduceEqDiff,csP]
  simp only[l5_21,cops,csW,Nat.reduceEqDiff,csP]
  simp only[l5_22,cops,csW,Nat.reduceEqDiff]
  refine keep [7,9,11,60] ?_
  simp only[c5_27,csW,Nat.reduceEqDiff,cw]
  simp only[c5_26,c5_25,l5_24,cw,csW,apartV,bne,cops,Nat.reduceEqDiff]
  refine keep [6] ?_
  simp only[Ends,resD,resL,resV,csW,Nat.reduceEqDiff]
end Go.Proofs.Ytdjbfgfbpimakaa.M
