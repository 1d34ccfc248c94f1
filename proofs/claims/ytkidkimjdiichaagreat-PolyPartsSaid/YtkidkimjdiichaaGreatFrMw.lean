/- The reference's FParse, in the small machine's words. -/
import Derived.Test.YtkidkimjdiichaaGreatFrOw
namespace Go.Proofs.YtkidkimjdiichaaGreat.M
open Go.RowKit
set_option linter.defProp false
set_option linter.unusedSimpArgs false
set_option linter.unusedVariables false
set_option maxRecDepth 20000 in
set_option maxHeartbeats 8000000 in
theorem cFParse (t:List UInt8) (ht:t.length≤9223372036854775807):Con Tryz.prog AN 43 [.str t] (.tup [encFZ (fracR t).1 (fracR t).2.1,flt (fracR t).2.2.1 (fracR t).2.2.2]):=by
 obtain⟨n,hn⟩:∃ n,n=(numLen true t).1:=⟨_,rfl⟩
 obtain⟨ok,hok⟩:∃ ok,ok=(numLen true t).2:=⟨_,rfl⟩
 have hnl:n≤t.length:=by rw[hn];exact numLen_le true t
 have hho:ok=true→numOk (t.take n)=true:=by rw[hok,hn];exact head_ok
 have hFn:=fracR_no (t:=t)
 have hFw:=fracR_whole (t:=t)
 have hFc:=fracR_cut (t:=t)
 rw[←hn,←hok] at hFn hFw hFc
 have hW:=cWord t true ht
 rw[←hn,←hok] at hW
 refine fn43.con rfl (by simp) ?_
 simp only[c43,c43_71,c43_1,l43_0,csM,init1,cw,csW,cops,reduceCtorEq,Nat.reduceEqDiff]
 refine keep [0,2,3] ?_
 simp only[c43_70,c43_4,l43_2,csW,reduceCtorEq,Nat.reduceEqDiff,cw,cops,csM]
 refine⟨_,cZOf 1 (by omega),?_⟩
 simp only[l43_3,cops,csW,csM,reduceCtorEq,Nat.reduceEqDiff,Nat.reduceAdd,Nat.reduceLeDiff]
 refine keep [0,2,3,4] ?_
 simp only[c43_69,c43_7,l43_5,csW,reduceCtorEq,Nat.reduceEqDiff,cw,cops]
 cases ok
 ·have hF:=hFn (.inl rfl)
  refine⟨_,hW,?_⟩
  simp only[l43_6,cops,csW,reduceCtorEq,Nat.reduceEqDiff]
  refine keep [0,2,3,4,5,6] ?_
  simp only[c43_68,c43_9,l43_8,csW,reduceCtorEq,Nat.reduceEqDiff,cw,cops]
  refine keep [0,2,3,4,5,6,7] ?_
  simp only[c43_67,c43_22,c43_11,l43_10,csW,reduceCtorEq,Nat.reduceEqDiff,cw,cops,csM]
  refine keep [0,2,3,4,5,6,7,32] ?_
  simp only[c43_21,csW,reduceCtorEq,Nat.reduceEqDiff,cw]
  refine keep [0,2,3,4,5,6,7] ?_
  simp only[c43_66,c43_29,c43_24,l43_23,csW,reduceCtorEq,Nat.reduceEqDiff,cw,cops]
  refine keep [0,2,3,4,5,7,53] ?_
  simp only[c43_28,csW,reduceCtorEq,Nat.reduceEqDiff,cw]
  simp only[c43_27,c43_26,l43_25,cw,csW,cops,csM,Nat.reduceAdd,Nat.reduceLeDiff,reduceCtorEq,Nat.reduceEqDiff]
  refine keep [2,3] ?_
  simp only[Ends,resD,resL,resV,csW,reduceCtorEq,Nat.reduceEqDiff,csM,Nat.reduceAdd]
  rw[hF]
 ·have hho2:=hho rfl
  by_cases hlt:n<t.length
  ·have hltI:(n:Int)<(t.length:Int):=by omega
   by_cases h47:byt t n=47
   ·have hF:=hFc rfl hlt h47
    have h47I:(byt t n:Int)=47:=by omega
    obtain⟨k,hk⟩:∃ k,k=(numLen false (t.drop (n+1))).1:=⟨_,rfl⟩
    obtain⟨more,hmore⟩:∃ more,more=(numLen false (t.drop (n+1))).2:=⟨_,rfl⟩
    have hul:(t.drop (n+1)).length=t.length-(n+1):=List.length_drop
    have hW2:=cWord (t.drop (n+1)) false (by omega)
    have hku:k≤(t.drop (n+1)).length:=by rw[hk];exact numLen_le false _
    rw[←hk,←hmore] at hF hW2
    have hun:=fun h:more=true=>tail_ne (u:=t.drop (n+1)) (hmore.symm.trans h)
    have hut:=fun h:more=true=>tail_ok (u:=t.drop (n+1)) (hmore.symm.trans h)
    rw[←hk] at hun hut
    have hnt2:(t.take n).length≤9223372036854775807:=by simp;omega
    refine⟨_,hW,?_⟩
    simp only[l43_6,cops,csW,reduceCtorEq,Nat.reduceEqDiff]
    refine keep [0,2,3,4,5,6] ?_
    simp only[c43_68,c43_9,l43_8,csW,reduceCtorEq,Nat.reduceEqDiff,cw,cops]
    refine keep [0,2,3,4,5,6,7] ?_
    simp only[c43_67,c43_22,c43_11,l43_10,csW,reduceCtorEq,Nat.reduceEqDiff,cw,cops,csM,hltI,h47I]
    (repeat refine And.intro (by first | omega | (simp;omega)) ?_)
    refine keep [0,2,3,4,5,6,7,32] ?_
    simp only[c43_21,csW,reduceCtorEq,Nat.reduceEqDiff,cw]
    simp only[c43_20,c43_14,l43_12,csW,cw,cops,reduceCtorEq,Nat.reduceEqDiff,csM]
    (repeat refine And.intro (by first | omega | (simp;omega)) ?_)
    cases more
    ·rw[if_neg (by simp)] at hF
     refine⟨_,hW2,?_⟩
     simp only[l43_13,cops,csW,reduceCtorEq,Nat.reduceEqDiff]
     refine keep [0,2,3,4,5,8,9] ?_
     simp only[c43_19,c43_16,l43_15,csW,reduceCtorEq,Nat.reduceEqDiff,cw,cops]
     (repeat refine And.intro (by first | omega | (simp;omega)) ?_)
     refine keep [0,2,3,4,5,7,9] ?_
     simp only[c43_18,l43_17,csW,reduceCtorEq,Nat.reduceEqDiff,cw,cops]
     refine keep [0,2,3,4,5,6,7] ?_
     simp only[c43_66,c43_29,c43_24,l43_23,csW,reduceCtorEq,Nat.reduceEqDiff,cw,cops]
     refine keep [0,2,3,4,5,7,53] ?_
     simp only[c43_28,csW,reduceCtorEq,Nat.reduceEqDiff,cw]
     simp only[c43_27,c43_26,l43_25,cw,csW,cops,csM,Nat.reduceAdd,Nat.reduceLeDiff,reduceCtorEq,Nat.reduceEqDiff]
     refine keep [2,3] ?_
     simp only[Ends,resD,resL,resV,csW,reduceCtorEq,Nat.reduceEqDiff,csM,Nat.reduceAdd]
     rw[hF]
    ·by_cases hkl:n+1+k<t.length
     ·rw[if_neg (by rintro⟨_,h⟩;omega)] at hF
      have hkI:(n:Int)+1+(k:Int)<(t.length:Int):=by omega
      refine⟨_,hW2,?_⟩
      simp only[l43_13,cops,csW,reduceCtorEq,Nat.reduceEqDiff]
      refine keep [0,2,3,4,5,8,9] ?_
      simp only[c43_19,c43_16,l43_15,csW,reduceCtorEq,Nat.reduceEqDiff,cw,cops]
      (repeat refine And.intro (by first | omega | (simp;omega)) ?_)
      refine keep [0,2,3,4,5,7,9] ?_
      simp only[c43_18,l43_17,csW,reduceCtorEq,Nat.reduceEqDiff,cw,cops]
      refine keep [0,2,3,4,5,6,7] ?_
      simp only[c43_66,c43_29,c43_24,l43_23,csW,reduceCtorEq,Nat.reduceEqDiff,cw,cops,hkI]
      refine keep [0,2,3,4,5,7,53] ?_
      simp only[c43_28,csW,reduceCtorEq,Nat.reduceEqDiff,cw]
      simp only[c43_27,c43_26,l43_25,cw,csW,cops,csM,Nat.reduceAdd,Nat.reduceLeDiff,reduceCtorEq,Nat.reduceEqDiff]
      refine keep [2,3] ?_
      simp only[Ends,resD,resL,resV,csW,reduceCtorEq,Nat.reduceEqDiff,csM,Nat.reduceAdd]
      rw[hF]
     ·have hkI:¬ (n:Int)+1+(k:Int)<(t.length:Int):=by omega
      have hkk:k=(t.drop (n+1)).length:=by omega
      rw[if_pos ⟨rfl,by omega⟩] at hF
      refine⟨_,hW2,?_⟩
      simp only[l43_13,cops,csW,reduceCtorEq,Nat.reduceEqDiff]
      refine keep [0,2,3,4,5,8,9] ?_
      simp only[c43_19,c43_16,l43_15,csW,reduceCtorEq,Nat.reduceEqDiff,cw,cops]
      (repeat refine And.intro (by first | omega | (simp;omega)) ?_)
      refine keep [0,2,3,4,5,7,9] ?_
      simp only[c43_18,l43_17,csW,reduceCtorEq,Nat.reduceEqDiff,cw,cops]
      refine keep [0,2,3,4,5,6,7] ?_
      simp only[c43_66,c43_29,c43_24,l43_23,csW,reduceCtorEq,Nat.reduceEqDiff,cw,cops,hkI]
      refine keep [0,2,3,4,5,7,53] ?_
      simp only[c43_28,csW,reduceCtorEq,Nat.reduceEqDiff,cw]
      refine keep [0,2,3,4,5,7] ?_
      simp only[c43_65,c43_37,c43_32,l43_30,csW,reduceCtorEq,Nat.reduceEqDiff,cw,cops]
      (repeat refine And.intro (by first | omega | (simp;omega)) ?_)
      by_cases hb1:(body (t.take n)).length≤1000
      ·have hb1I:¬ (1000:Int)<((body (t.take n)).length:Int):=by omega
       by_cases hb2:(t.drop (n+1)).length≤1000
       ·have hb2I:¬ (1000:Int)<(n:Int)+1+(k:Int)-(n:Int)-1:=by omega
        rw[if_pos ⟨hb1,hb2⟩] at hF
        have hmn:(n:Int)<(n:Int)+1+(k:Int):=by omega
        have hut2:=hut rfl (by omega)
        have hbu:(body (t.drop (n+1))).length≤1000:=by rw[body_length];omega
        have hunz:=hun rfl (by omega) hb2
        refine⟨_,cDigs (t.take n) hnt2,?_⟩
        simp only[l43_31,cops,csW,reduceCtorEq,Nat.reduceEqDiff,hb1I,hb2I]
        (repeat refine And.intro (by first | omega | (simp;omega)) ?_)
        refine keep [0,2,3,4,5,7,68] ?_
        simp only[c43_36,csW,reduceCtorEq,Nat.reduceEqDiff,cw]
        refine keep [0,2,3,4,5,7] ?_
        simp only[c43_64,c43_41,l43_38,csW,reduceCtorEq,Nat.reduceEqDiff,cw,cops]
        (repeat refine And.intro (by first | omega | (simp;omega)) ?_)
        refine⟨_,cRead (t.take n) hho2 hb1,?_⟩
        simp only[l43_39,cops,csW,reduceCtorEq,Nat.reduceEqDiff]
        refine⟨_,cZOf 1 (by omega),?_⟩
        simp only[l43_40,cops,csW,csM,reduceCtorEq,Nat.reduceEqDiff,Nat.reduceAdd,Nat.reduceLeDiff]
        refine keep [0,2,3,4,5,7,10] ?_
        simp only[c43_63,c43_50,c43_43,l43_42,csW,reduceCtorEq,Nat.reduceEqDiff,cw,cops,hmn]
        refine keep [0,2,3,4,5,10,79] ?_
        simp only[c43_49,csW,reduceCtorEq,Nat.reduceEqDiff,cw]
        simp only[c43_48,l43_44,csW,cw,cops,reduceCtorEq,Nat.reduceEqDiff]
        (repeat refine And.intro (by first | omega | (simp;omega)) ?_)
        refine⟨_,cRead (t.take n) hho2 hb1,?_⟩
        simp only[l43_45,cops,csW,reduceCtorEq,Nat.reduceEqDiff,csM]
        (repeat refine And.intro (by first | omega | (simp;omega)) ?_)
        refine⟨_,cRead (t.drop (n+1)) hut2.1 hbu,?_⟩
        simp only[l43_46,cops,csW,reduceCtorEq,Nat.reduceEqDiff]
        refine⟨_,cfover _ _ 4000 (parseZ_bt _) (parseZ_bt _) (by omega) hunz,?_⟩
        simp only[l43_47,cops,csW,reduceCtorEq,Nat.reduceEqDiff,csM,Nat.reduceAdd]
        refine keep [0,2,3,4,10] ?_
        simp only[c43_62,c43_58,c43_53,l43_51,csW,reduceCtorEq,Nat.reduceEqDiff,cw,cops,csM,Nat.reduceAdd]
        by_cases heq:frText (frN (parseZ (t.take n)) (parseZ (t.drop (n+1)))) (frD (parseZ (t.take n)) (parseZ (t.drop (n+1))))=t
        ·rw[if_pos heq] at hF
         refine⟨_,cTextZ _ _ 4000 (frN_bt (parseZ_bt _)) (frD_bt (parseZ_bt _)) (by omega),?_⟩
         simp only[l43_52,heq,cops,csW,reduceCtorEq,Nat.reduceEqDiff]
         refine keep [2,3,4,10,93] ?_
         simp only[c43_57,csW,reduceCtorEq,Nat.reduceEqDiff,cw]
         refine keep [2,3,10] ?_
         simp only[c43_61,c43_60,l43_59,csW,Nat.reduceEqDiff,cw,cops,csM,Nat.reduceAdd]
         refine keep [2,3] ?_
         simp only[Ends,resD,resL,resV,csW,Nat.reduceEqDiff,csM,Nat.reduceAdd]
         rw[hF]
        ·rw[if_neg heq] at hF
         refine⟨_,cTextZ _ _ 4000 (frN_bt (parseZ_bt _)) (frD_bt (parseZ_bt _)) (by omega),?_⟩
         simp only[l43_52,cops,csW,reduceCtorEq,Nat.reduceEqDiff,heq]
         refine keep [2,3,4,10,93] ?_
         simp only[c43_57,csW,reduceCtorEq,Nat.reduceEqDiff,cw]
         simp only[c43_56,c43_55,l43_54,cw,csW,cops,csM,Nat.reduceAdd,Nat.reduceLeDiff,Nat.reduceEqDiff]
         refine keep [2,3] ?_
         simp only[Ends,resD,resL,resV,csW,Nat.reduceEqDiff,csM,Nat.reduceAdd]
         rw[hF]
       ·have hb2I:(1000:Int)<(n:Int)+1+(k:Int)-(n:Int)-1:=by omega
        rw[if_neg (fun h=>hb2 h.2)] at hF
        refine⟨_,cDigs (t.take n) hnt2,?_⟩
        simp only[l43_31,cops,csW,reduceCtorEq,Nat.reduceEqDiff,hb1I,hb2I]
        (repeat refine And.intro (by first | omega | (simp;omega)) ?_)
        refine keep [0,2,3,4,5,7,68] ?_
        simp only[c43_36,csW,reduceCtorEq,Nat.reduceEqDiff,cw]
        simp only[c43_35,c43_34,l43_33,cw,csW,cops,csM,Nat.reduceAdd,Nat.reduceLeDiff,reduceCtorEq,Nat.reduceEqDiff]
        refine keep [2,3] ?_
        simp only[Ends,resD,resL,resV,csW,reduceCtorEq,Nat.reduceEqDiff,csM,Nat.reduceAdd]
        rw[hF]
      ·have hb1I:(1000:Int)<((body (t.take n)).length:Int):=by omega
       rw[if_neg (fun h=>hb1 h.1)] at hF
       refine⟨_,cDigs (t.take n) hnt2,?_⟩
       simp only[l43_31,cops,csW,reduceCtorEq,Nat.reduceEqDiff,hb1I]
       refine keep [0,2,3,4,5,7,68] ?_
       simp only[c43_36,csW,reduceCtorEq,Nat.reduceEqDiff,cw]
       simp only[c43_35,c43_34,l43_33,cw,csW,cops,csM,Nat.reduceAdd,Nat.reduceLeDiff,reduceCtorEq,Nat.reduceEqDiff]
       refine keep [2,3] ?_
       simp only[Ends,resD,resL,resV,csW,reduceCtorEq,Nat.reduceEqDiff,csM,Nat.reduceAdd]
       rw[hF]
   ·have hF:=hFn (.inr ⟨hlt,h47⟩)
    have h47I:¬ (byt t n:Int)=47:=by omega
    refine⟨_,hW,?_⟩
    simp only[l43_6,cops,csW,reduceCtorEq,Nat.reduceEqDiff]
    refine keep [0,2,3,4,5,6] ?_
    simp only[c43_68,c43_9,l43_8,csW,reduceCtorEq,Nat.reduceEqDiff,cw,cops]
    refine keep [0,2,3,4,5,6,7] ?_
    simp only[c43_67,c43_22,c43_11,l43_10,csW,reduceCtorEq,Nat.reduceEqDiff,cw,cops,csM,hltI,h47I]
    (repeat refine And.intro (by first | omega | (simp;omega)) ?_)
    refine keep [0,2,3,4,5,6,7,32] ?_
    simp only[c43_21,csW,reduceCtorEq,Nat.reduceEqDiff,cw]
    refine keep [0,2,3,4,5,6,7] ?_
    simp only[c43_66,c43_29,c43_24,l43_23,csW,reduceCtorEq,Nat.reduceEqDiff,cw,cops,hltI]
    refine keep [0,2,3,4,5,7,53] ?_
    simp only[c43_28,csW,reduceCtorEq,Nat.reduceEqDiff,cw]
    simp only[c43_27,c43_26,l43_25,cw,csW,cops,csM,Nat.reduceAdd,Nat.reduceLeDiff,reduceCtorEq,Nat.reduceEqDiff]
    refine keep [2,3] ?_
    simp only[Ends,resD,resL,resV,csW,reduceCtorEq,Nat.reduceEqDiff,csM,Nat.reduceAdd]
    rw[hF]
  ·have hltI:¬ (n:Int)<(t.length:Int):=by omega
   have hF:=hFw rfl (by omega)
   have hnn:n=t.length:=by omega
   have hnt:t.take n=t:=List.take_of_length_le (by omega)
   have hnt2:(t.take n).length≤9223372036854775807:=by simp;omega
   refine⟨_,hW,?_⟩
   simp only[l43_6,cops,csW,reduceCtorEq,Nat.reduceEqDiff]
   refine keep [0,2,3,4,5,6] ?_
   simp only[c43_68,c43_9,l43_8,csW,reduceCtorEq,Nat.reduceEqDiff,cw,cops]
   refine keep [0,2,3,4,5,6,7] ?_
   simp only[c43_67,c43_22,c43_11,l43_10,csW,reduceCtorEq,Nat.reduceEqDiff,cw,cops,csM,hltI]
   refine keep [0,2,3,4,5,6,7,32] ?_
   simp only[c43_21,csW,reduceCtorEq,Nat.reduceEqDiff,cw]
   refine keep [0,2,3,4,5,6,7] ?_
   simp only[c43_66,c43_29,c43_24,l43_23,csW,reduceCtorEq,Nat.reduceEqDiff,cw,cops,hltI]
   refine keep [0,2,3,4,5,7,53] ?_
   simp only[c43_28,csW,reduceCtorEq,Nat.reduceEqDiff,cw]
   refine keep [0,2,3,4,5,7] ?_
   simp only[c43_65,c43_37,c43_32,l43_30,csW,reduceCtorEq,Nat.reduceEqDiff,cw,cops]
   (repeat refine And.intro (by first | omega | (simp;omega)) ?_)
   by_cases hb:(body t).length≤1000
   ·rw[if_pos hb] at hF
    have hb1I:¬ (1000:Int)<((body t).length:Int):=by omega
    have hb2I:¬ (1000:Int)<0-1:=by omega
    have hmn:¬ (n:Int)<(n:Int):=by omega
    rw[hnt] at hho2
    have hpc:parseC t=0:=by unfold parseC;rw[if_pos hho2,if_pos hb]
    have htx:frText (parseZ t) 1=t:=by unfold frText;rw[if_pos rfl];exact parse_dec hpc
    rw[hnt]
    refine⟨_,cDigs t (by omega),?_⟩
    simp only[l43_31,cops,csW,reduceCtorEq,Nat.reduceEqDiff,hb1I,Int.sub_self,hb2I]
    (repeat refine And.intro (by first | omega | (simp;omega)) ?_)
    refine keep [0,2,3,4,5,7,68] ?_
    simp only[c43_36,csW,reduceCtorEq,Nat.reduceEqDiff,cw]
    refine keep [0,2,3,4,5,7] ?_
    simp only[c43_64,c43_41,l43_38,csW,reduceCtorEq,Nat.reduceEqDiff,cw,cops,hnt]
    (repeat refine And.intro (by first | omega | (simp;omega)) ?_)
    refine⟨_,cRead t hho2 hb,?_⟩
    simp only[l43_39,cops,csW,reduceCtorEq,Nat.reduceEqDiff]
    refine⟨_,cZOf 1 (by omega),?_⟩
    simp only[l43_40,cops,csW,csM,reduceCtorEq,Nat.reduceEqDiff,Nat.reduceAdd,Nat.reduceLeDiff]
    refine keep [0,2,3,4,5,7,10] ?_
    simp only[c43_63,c43_50,c43_43,l43_42,csW,reduceCtorEq,Nat.reduceEqDiff,cw,cops,hmn]
    refine keep [0,2,3,4,5,10,79] ?_
    simp only[c43_49,csW,reduceCtorEq,Nat.reduceEqDiff,cw]
    refine keep [0,2,3,4,10] ?_
    simp only[c43_62,c43_58,c43_53,l43_51,csW,reduceCtorEq,Nat.reduceEqDiff,cw,cops,csM,Nat.reduceAdd]
    refine⟨_,cTextZ _ _ 4000 (parseZ_bt _) (bt_one) (by omega),?_⟩
    simp only[l43_52,htx,cops,csW,reduceCtorEq,Nat.reduceEqDiff]
    refine keep [2,3,4,10,93] ?_
    simp only[c43_57,csW,reduceCtorEq,Nat.reduceEqDiff,cw]
    refine keep [2,3,10] ?_
    simp only[c43_61,c43_60,l43_59,csW,Nat.reduceEqDiff,cw,cops,csM,Nat.reduceAdd]
    refine keep [2,3] ?_
    simp only[Ends,resD,resL,resV,csW,Nat.reduceEqDiff,csM,Nat.reduceAdd]
    rw[hF]
   ·rw[if_neg hb] at hF
    have hb1I:(1000:Int)<((body t).length:Int):=by omega
    rw[hnt]
    refine⟨_,cDigs t (by omega),?_⟩
    simp only[l43_31,cops,csW,reduceCtorEq,Nat.reduceEqDiff,hb1I]
    refine keep [0,2,3,4,5,7,68] ?_
    simp only[c43_36,csW,reduceCtorEq,Nat.reduceEqDiff,cw]
    simp only[c43_35,c43_34,l43_33,cw,csW,cops,csM,Nat.reduceAdd,Nat.reduceLeDiff,reduceCtorEq,Nat.reduceEqDiff]
    refine keep [2,3] ?_
    simp only[Ends,resD,resL,resV,csW,reduceCtorEq,Nat.reduceEqDiff,csM,Nat.reduceAdd]
    rw[hF]
end Go.Proofs.YtkidkimjdiichaaGreat.M
