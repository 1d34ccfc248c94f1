/- PolyDivides returns true. -/
import Derived.Test.YtkidkimjdiichaaGreatDvFz
namespace Go.Proofs.YtkidkimjdiichaaGreat.M
open Go.RowKit
set_option linter.unusedSimpArgs false
set_option linter.unusedVariables false
set_option linter.defProp false
set_option maxHeartbeats 8000000 in
theorem divides_main (T U : Nat) (a b : List (List UInt8)) (ha : a.length ≤ 9223372036854775807) (hb : b.length ≤ 9223372036854775807) (hsa : ∀ t ∈ a,t.length ≤ 9223372036854775807) (hsb : ∀ t ∈ b,t.length ≤ 9223372036854775807) :
  Con Tryz.prog AN 6 [LS T a,LS U b] (.bool true):=by
 obtain ⟨e,he⟩ : ∃ e : Nat,e = 808000:=⟨_,rfl⟩
 obtain ⟨n,hn⟩ : ∃ n : Nat,n = 40000000000:=⟨_,rfl⟩
 have hbg : n ≤ big:=by subst hn;decide
 have hs : S12 e n:=⟨by omega,by omega,hbg⟩
 obtain ⟨K,hl⟩:=newQ_in a (e:=e) (by omega)
 obtain ⟨K',hm⟩:=newQ_in b (e:=e) (by omega)
 have na:=new_con T a ha hsa
 have nb:=new_con U b hb hsb
 have pa:=pread_con T a ha hsa
 have pb:=pread_con U b hb hsb
 generalize newQ a = qa at hl na pa
 generalize newQ b = qb at hm nb pb
 obtain ⟨l,c1,i1⟩:=qa
 obtain ⟨m,c2,i2⟩:=qb
 replace na : Con Tryz.prog AN 13 [LS T a] (.tup [pI l,flt c1 i1]):=na
 replace nb : Con Tryz.prog AN 13 [LS U b] (.tup [pI m,flt c2 i2]):=nb
 replace pa : Con Tryz.prog AN 14 [LS T a] (.tup [LZ l,flt c1 i1]):=pa
 replace pb : Con Tryz.prog AN 14 [LS U b] (.tup [LZ m,flt c2 i2]):=pb
 replace hl : In e l K:=hl
 replace hm : In e m K':=hm
 have h1:=hl.len
 have h2:=hm.len
 have sl : Sz e l:=⟨K,hl.k,hl.lb⟩
 have sm : Sz e m:=⟨K',hm.k,hm.lb⟩
 refine fn6.con rfl (by simp) ?_
 simp only [c6,c6_73,c6_1,l6_0,init2,cw,csW,cops,reduceCtorEq,Nat.reduceEqDiff]
 refine keep [0,1] ?_
 simp only [c6_72,c6_4,l6_2,csW,reduceCtorEq,Nat.reduceEqDiff,cw,cops]
 refine ⟨_,na,?_⟩
 simp only [l6_3,csP,cops,csW,reduceCtorEq,Nat.reduceEqDiff,Nat.reduceAdd]
 refine keep [0,1,5] ?_
 simp only [c6_71,c6_7,l6_5,csW,reduceCtorEq,Nat.reduceEqDiff,cw,cops]
 refine ⟨_,nb,?_⟩
 simp only [l6_6,csP,cops,csW,reduceCtorEq,Nat.reduceEqDiff,Nat.reduceAdd]
 refine keep [0,1,5,7] ?_
 simp only [c6_70,c6_10,l6_8,csW,reduceCtorEq,Nat.reduceEqDiff,cw,cops]
 refine ⟨_,pa,?_⟩
 simp only [l6_9,csP,cops,csW,reduceCtorEq,Nat.reduceEqDiff,Nat.reduceAdd]
 refine keep [1,5,7,9] ?_
 simp only [c6_69,c6_13,l6_11,csW,reduceCtorEq,Nat.reduceEqDiff,cw,cops]
 refine ⟨_,pb,?_⟩
 simp only [l6_12,csP,cops,csW,Nat.reduceEqDiff,Nat.reduceAdd]
 refine keep [5,7,9,11] ?_
 simp only [c6_68,c6_21,c6_16,l6_14,csW,Nat.reduceEqDiff,cw,cops]
 refine ⟨_,begun_con,?_⟩
 simp only [l6_15,cops,csW,Nat.reduceEqDiff]
 refine keep [5,7,9,11,38] ?_
 simp only [c6_20,csW,Nat.reduceEqDiff,cw]
 by_cases k1 : 12 < l.length
 ·have i1 : (12 : Int) < (l.length : Int):=by omega
  refine keep [5,7,9,11] ?_
  simp only [c6_67,c6_28,c6_23,l6_22,csW,Nat.reduceEqDiff,cw,cops,i1]
  refine keep [5,7,9,11,46] ?_
  simp only [c6_27,csW,Nat.reduceEqDiff,cw]
  simp only [c6_26,c6_25,l6_24,cw,csW,cops,Nat.reduceEqDiff]
  refine keep [4] ?_
  simp only [Ends,resD,resL,resV,csW,Nat.reduceEqDiff]
 ·have i1 : ¬ (12 : Int) < (l.length : Int):=by omega
  by_cases k2 : 12 < m.length
  ·have i2 : (12 : Int) < (m.length : Int):=by omega
   refine keep [5,7,9,11] ?_
   simp only [c6_67,c6_28,c6_23,l6_22,csW,Nat.reduceEqDiff,cw,cops,i1,i2]
   refine keep [5,7,9,11,46] ?_
   simp only [c6_27,csW,Nat.reduceEqDiff,cw]
   simp only [c6_26,c6_25,l6_24,cw,csW,cops,Nat.reduceEqDiff]
   refine keep [4] ?_
   simp only [Ends,resD,resL,resV,csW,Nat.reduceEqDiff]
  ·have i2 : ¬ (12 : Int) < (m.length : Int):=by omega
   obtain ⟨g,hg⟩:=gcd_ex m.length l m (Nat.le_refl _) hl.nf hm.nf
   obtain ⟨u,v,hz⟩:=bez_con l m g hl.nf hm.nf sl sm (by omega) (by omega) hs hg
   have hG:=gS12 e
   have hc:=gcd_con (n:=n) l m hl.nf hm.nf sl sm (L:=12) (r:=4) (by omega) (by omega) (by omega) (by omega) (by omega) hbg hg
   have hp:=pgcd_con (n:=n) l m hl.nf hm.nf sl sm (L:=12) (r:=4) (by omega) (by omega) (by omega) (by omega) (by omega) hbg hg
   have hg2:=hz.gl
   have hlu:=hz.lu
   have hlv:=hz.lv
   refine keep [5,7,9,11] ?_
   simp only [c6_67,c6_28,c6_23,l6_22,csW,Nat.reduceEqDiff,cw,cops,i1,i2]
   refine keep [5,7,9,11,46] ?_
   simp only [c6_27,csW,Nat.reduceEqDiff,cw]
   refine keep [5,7,9,11] ?_
   simp only [c6_66,c6_31,l6_29,csW,Nat.reduceEqDiff,cw,cops]
   refine ⟨_,hp,?_⟩
   simp only [l6_30,cops,csW,Nat.reduceEqDiff]
   refine keep [5,7,9,11,13] ?_
   simp only [c6_65,c6_34,l6_32,csW,Nat.reduceEqDiff,cw,cops,csP]
   refine ⟨_,hz.bez,?_⟩
   simp only [l6_33,cops,csW,csP,Nat.reduceEqDiff]
   refine keep [5,7,9,11,13,14,15,16] ?_
   simp only [c6_64,c6_48,c6_43,l6_35,csW,Nat.reduceEqDiff,cw,cops,csP]
   refine ⟨_,hc,?_⟩
   simp only [l6_36,cops,csW,Nat.reduceEqDiff]
   refine ⟨_,is_con g n hz.gb hbg (by omega),?_⟩
   simp only [l6_37,cops,csW,csP,Nat.reduceEqDiff]
   refine ⟨_,is_con g n hz.gb hbg (by omega),?_⟩
   simp only [l6_38,cops,csW,csP,Nat.reduceEqDiff]
   refine ⟨_,hz.m1,?_⟩
   simp only [l6_39,cops,csW,csP,Nat.reduceEqDiff]
   refine ⟨_,hz.m2,?_⟩
   simp only [l6_40,cops,csW,Nat.reduceEqDiff]
   refine ⟨_,hz.ad,?_⟩
   simp only [l6_41,cops,csW,Nat.reduceEqDiff,csP]
   refine ⟨_,hz.sa,?_⟩
   simp only [l6_42,cops,csW,Nat.reduceEqDiff]
   refine keep [9,11,13,15,16,80] ?_
   simp only [c6_47,csW,Nat.reduceEqDiff,cw]
   by_cases hm0 : m = []
   ·obtain ⟨hv,hu⟩:=hz.q0 hm0
    have j1 : (m.length : Int) = 0:=by rw [hm0];rfl
    have j2 : (v.length : Int) - 1 < 0:=by rw [hv];decide
    refine keep [9,11,13,15,16] ?_
    simp only [c6_63,c6_57,c6_50,l6_49,csW,Nat.reduceEqDiff,cw,cops,j1]
    refine keep [9,11,13,15,16,83] ?_
    simp only [c6_56,csW,Nat.reduceEqDiff,cw]
    by_cases hl0 : l = []
    ·have j3 : ¬ (0 : Int) < (l.length : Int):=by rw [hl0];simp
     have j4 : (u.length : Int) - 1 < 0:=by rw [hu hl0];decide
     simp only [c6_55,c6_54,l6_51,csW,cw,cops,Nat.reduceEqDiff,csP]
     refine ⟨_,degree_con v (by omega),?_⟩
     simp only [l6_52,cops,csW,csP,Nat.reduceEqDiff,j2,j3]
     refine ⟨_,degree_con u (by omega),?_⟩
     simp only [l6_53,cops,csW,Nat.reduceEqDiff,j4]
     refine keep [4] ?_
     simp only [Ends,resD,resL,resV,csW,Nat.reduceEqDiff]
    ·have j3 : (0 : Int) < (l.length : Int):=by have:=List.length_pos_iff.2 hl0;omega
     simp only [c6_55,c6_54,l6_51,csW,cw,cops,Nat.reduceEqDiff,csP]
     refine ⟨_,degree_con v (by omega),?_⟩
     simp only [l6_52,cops,csW,csP,Nat.reduceEqDiff,j2,j3]
     simp only [l6_53,cops,csW,Nat.reduceEqDiff]
     refine keep [4] ?_
     simp only [Ends,resD,resL,resV,csW,Nat.reduceEqDiff]
   ·have j1 : ¬ (m.length : Int) = 0:=by have:=List.length_pos_iff.2 hm0;omega
    have hq:=hz.q1 hm0
    have j2 : (u.length : Int) - 1 < (m.length : Int) - (g.length : Int):=by omega
    refine keep [9,11,13,15,16] ?_
    simp only [c6_63,c6_57,c6_50,l6_49,csW,Nat.reduceEqDiff,cw,cops,j1]
    refine keep [9,11,13,15,16,83] ?_
    simp only [c6_56,csW,Nat.reduceEqDiff,cw]
    refine keep [11,13,15] ?_
    simp only [c6_62,c6_61,l6_58,csW,Nat.reduceEqDiff,cw,cops,csP]
    refine ⟨_,degree_con u (by omega),?_⟩
    simp only [l6_59,cops,csW,csP,Nat.reduceEqDiff,j2]
    (repeat refine And.intro (by first | omega | (simp;omega)) ?_)
    simp only [l6_60,cops,csW,Nat.reduceEqDiff]
    refine keep [4] ?_
    simp only [Ends,resD,resL,resV,csW,Nat.reduceEqDiff]
end Go.Proofs.YtkidkimjdiichaaGreat.M
