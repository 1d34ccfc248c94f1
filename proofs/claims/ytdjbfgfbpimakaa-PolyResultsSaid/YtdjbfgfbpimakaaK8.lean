/- The reference's FParse, in the small machine's words. NumFracs: the law's walk, in the small machine's words. Fractions as rationals: what the program and the reference reckon with them. -/
import Derived.Test.YtdjbfgfbpimakaaFrOx
import Derived.Test.YtdjbfgfbpimakaaK1
section
namespace Go.Proofs.Ytdjbfgfbpimakaa.M
open Go.RowKit
set_option linter.defProp false
set_option linter.unusedSimpArgs false
set_option linter.unusedVariables false
set_option maxRecDepth 20000 in
set_option maxHeartbeats 8000000 in
theorem cFParse (t:List UInt8) (ht:t.length≤9223372036854775807):Con Try.prog AN 35 [.str t] (.tup [encFZ (fracR t).1 (fracR t).2.1,flt (fracR t).2.2.1 (fracR t).2.2.2]):=by
 obtain⟨n,hn⟩:∃ n,n=(numLen true t).1:=⟨_,rfl⟩
 obtain⟨ok,hok⟩:∃ ok,ok=(numLen true t).2:=⟨_,rfl⟩
 have hnl:n≤t.length:=by rw[hn];exact numLen_le true t
 have hho:ok=true→numOk (t.take n)=true:=by rw[hok,hn];exact head_ok
 have hFn:=fracR_no (t:=t)
 have hFw:=fracR_whole (t:=t)
 have hFc:=fracR_cut (t:=t)
 rw[←hn,←hok] at hFn hFw hFc
 have hW:=cWord t true ht
 rw[←hn,←hok] at hW
 refine fn35.con rfl (by simp) ?_
 simp only[c35,c35_71,c35_1,l35_0,csM,init1,cw,csW,cops,reduceCtorEq,Nat.reduceEqDiff]
 refine keep [0,2,3] ?_
 simp only[c35_70,c35_4,l35_2,csW,reduceCtorEq,Nat.reduceEqDiff,cw,cops,csM]
 refine⟨_,cZOf 1 (by omega),?_⟩
 simp only[l35_3,cops,csW,csM,reduceCtorEq,Nat.reduceEqDiff,Nat.reduceAdd,Nat.reduceLeDiff]
 refine keep [0,2,3,4] ?_
 simp only[c35_69,c35_7,l35_5,csW,reduceCtorEq,Nat.reduceEqDiff,cw,cops]
 cases ok
 ·have hF:=hFn (.inl rfl)
  refine⟨_,hW,?_⟩
  simp only[l35_6,cops,csW,reduceCtorEq,Nat.reduceEqDiff]
  refine keep [0,2,3,4,5,6] ?_
  simp only[c35_68,c35_9,l35_8,csW,reduceCtorEq,Nat.reduceEqDiff,cw,cops]
  refine keep [0,2,3,4,5,6,7] ?_
  simp only[c35_67,c35_22,c35_11,l35_10,csW,reduceCtorEq,Nat.reduceEqDiff,cw,cops,csM]
  refine keep [0,2,3,4,5,6,7,32] ?_
  simp only[c35_21,csW,reduceCtorEq,Nat.reduceEqDiff,cw]
  refine keep [0,2,3,4,5,6,7] ?_
  simp only[c35_66,c35_29,c35_24,l35_23,csW,reduceCtorEq,Nat.reduceEqDiff,cw,cops]
  refine keep [0,2,3,4,5,7,53] ?_
  simp only[c35_28,csW,reduceCtorEq,Nat.reduceEqDiff,cw]
  simp only[c35_27,c35_26,l35_25,cw,csW,cops,csM,Nat.reduceAdd,Nat.reduceLeDiff,reduceCtorEq,Nat.reduceEqDiff]
  refine keep [2,3] ?_
  simp only[Ends,resD,resL,resV,csW,reduceCtorEq,Nat.reduceEqDiff,csM,Nat.reduceAdd]
  rw[hF]
 ·have hho2:=hho rfl
  by_cases hlt:n<t.length
  ·have hltI:(n:Int)<(t.length:Int):=by omega
   by_cases h47:byt t n=47
   ·have hF:=hFc rfl hlt h47
    have h47I:(byt t n:Int)=47:=by omega
    obtain⟨k,hk⟩:∃ k,k=(numLen false (t.drop (n+1))).1:=⟨_,rfl⟩
    obtain⟨more,hmore⟩:∃ more,more=(numLen false (t.drop (n+1))).2:=⟨_,rfl⟩
    have hul:(t.drop (n+1)).length=t.length-(n+1):=List.length_drop
    have hW2:=cWord (t.drop (n+1)) false (by omega)
    have hku:k≤(t.drop (n+1)).length:=by rw[hk];exact numLen_le false _
    rw[←hk,←hmore] at hF hW2
    have hun:=fun h:more=true=>tail_ne (u:=t.drop (n+1)) (hmore.symm.trans h)
    have hut:=fun h:more=true=>tail_ok (u:=t.drop (n+1)) (hmore.symm.trans h)
    rw[←hk] at hun hut
    have hnt2:(t.take n).length≤9223372036854775807:=by simp;omega
    refine⟨_,hW,?_⟩
    simp only[l35_6,cops,csW,reduceCtorEq,Nat.reduceEqDiff]
    refine keep [0,2,3,4,5,6] ?_
    simp only[c35_68,c35_9,l35_8,csW,reduceCtorEq,Nat.reduceEqDiff,cw,cops]
    refine keep [0,2,3,4,5,6,7] ?_
    simp only[c35_67,c35_22,c35_11,l35_10,csW,reduceCtorEq,Nat.reduceEqDiff,cw,cops,csM,hltI,h47I]
    (repeat refine And.intro (by first | omega | (simp;omega)) ?_)
    refine keep [0,2,3,4,5,6,7,32] ?_
    simp only[c35_21,csW,reduceCtorEq,Nat.reduceEqDiff,cw]
    simp only[c35_20,c35_14,l35_12,csW,cw,cops,reduceCtorEq,Nat.reduceEqDiff,csM]
    (repeat refine And.intro (by first | omega | (simp;omega)) ?_)
    cases more
    ·rw[if_neg (by simp)] at hF
     refine⟨_,hW2,?_⟩
     simp only[l35_13,cops,csW,reduceCtorEq,Nat.reduceEqDiff]
     refine keep [0,2,3,4,5,8,9] ?_
     simp only[c35_19,c35_16,l35_15,csW,reduceCtorEq,Nat.reduceEqDiff,cw,cops]
     (repeat refine And.intro (by first | omega | (simp;omega)) ?_)
     refine keep [0,2,3,4,5,7,9] ?_
     simp only[c35_18,l35_17,csW,reduceCtorEq,Nat.reduceEqDiff,cw,cops]
     refine keep [0,2,3,4,5,6,7] ?_
     simp only[c35_66,c35_29,c35_24,l35_23,csW,reduceCtorEq,Nat.reduceEqDiff,cw,cops]
     refine keep [0,2,3,4,5,7,53] ?_
     simp only[c35_28,csW,reduceCtorEq,Nat.reduceEqDiff,cw]
     simp only[c35_27,c35_26,l35_25,cw,csW,cops,csM,Nat.reduceAdd,Nat.reduceLeDiff,reduceCtorEq,Nat.reduceEqDiff]
     refine keep [2,3] ?_
     simp only[Ends,resD,resL,resV,csW,reduceCtorEq,Nat.reduceEqDiff,csM,Nat.reduceAdd]
     rw[hF]
    ·by_cases hkl:n+1+k<t.length
     ·rw[if_neg (by rintro⟨_,h⟩;omega)] at hF
      have hkI:(n:Int)+1+(k:Int)<(t.length:Int):=by omega
      refine⟨_,hW2,?_⟩
      simp only[l35_13,cops,csW,reduceCtorEq,Nat.reduceEqDiff]
      refine keep [0,2,3,4,5,8,9] ?_
      simp only[c35_19,c35_16,l35_15,csW,reduceCtorEq,Nat.reduceEqDiff,cw,cops]
      (repeat refine And.intro (by first | omega | (simp;omega)) ?_)
      refine keep [0,2,3,4,5,7,9] ?_
      simp only[c35_18,l35_17,csW,reduceCtorEq,Nat.reduceEqDiff,cw,cops]
      refine keep [0,2,3,4,5,6,7] ?_
      simp only[c35_66,c35_29,c35_24,l35_23,csW,reduceCtorEq,Nat.reduceEqDiff,cw,cops,hkI]
      refine keep [0,2,3,4,5,7,53] ?_
      simp only[c35_28,csW,reduceCtorEq,Nat.reduceEqDiff,cw]
      simp only[c35_27,c35_26,l35_25,cw,csW,cops,csM,Nat.reduceAdd,Nat.reduceLeDiff,reduceCtorEq,Nat.reduceEqDiff]
      refine keep [2,3] ?_
      simp only[Ends,resD,resL,resV,csW,reduceCtorEq,Nat.reduceEqDiff,csM,Nat.reduceAdd]
      rw[hF]
     ·have hkI:¬ (n:Int)+1+(k:Int)<(t.length:Int):=by omega
      have hkk:k=(t.drop (n+1)).length:=by omega
      rw[if_pos ⟨rfl,by omega⟩] at hF
      refine⟨_,hW2,?_⟩
      simp only[l35_13,cops,csW,reduceCtorEq,Nat.reduceEqDiff]
      refine keep [0,2,3,4,5,8,9] ?_
      simp only[c35_19,c35_16,l35_15,csW,reduceCtorEq,Nat.reduceEqDiff,cw,cops]
      (repeat refine And.intro (by first | omega | (simp;omega)) ?_)
      refine keep [0,2,3,4,5,7,9] ?_
      simp only[c35_18,l35_17,csW,reduceCtorEq,Nat.reduceEqDiff,cw,cops]
      refine keep [0,2,3,4,5,6,7] ?_
      simp only[c35_66,c35_29,c35_24,l35_23,csW,reduceCtorEq,Nat.reduceEqDiff,cw,cops,hkI]
      refine keep [0,2,3,4,5,7,53] ?_
      simp only[c35_28,csW,reduceCtorEq,Nat.reduceEqDiff,cw]
      refine keep [0,2,3,4,5,7] ?_
      simp only[c35_65,c35_37,c35_32,l35_30,csW,reduceCtorEq,Nat.reduceEqDiff,cw,cops]
      (repeat refine And.intro (by first | omega | (simp;omega)) ?_)
      by_cases hb1:(body (t.take n)).length≤1000
      ·have hb1I:¬ (1000:Int)<((body (t.take n)).length:Int):=by omega
       by_cases hb2:(t.drop (n+1)).length≤1000
       ·have hb2I:¬ (1000:Int)<(n:Int)+1+(k:Int)-(n:Int)-1:=by omega
        rw[if_pos ⟨hb1,hb2⟩] at hF
        have hmn:(n:Int)<(n:Int)+1+(k:Int):=by omega
        have hut2:=hut rfl (by omega)
        have hbu:(body (t.drop (n+1))).length≤1000:=by rw[body_length];omega
        have hunz:=hun rfl (by omega) hb2
        refine⟨_,cDigs (t.take n) hnt2,?_⟩
        simp only[l35_31,cops,csW,reduceCtorEq,Nat.reduceEqDiff,hb1I,hb2I]
        (repeat refine And.intro (by first | omega | (simp;omega)) ?_)
        refine keep [0,2,3,4,5,7,68] ?_
        simp only[c35_36,csW,reduceCtorEq,Nat.reduceEqDiff,cw]
        refine keep [0,2,3,4,5,7] ?_
        simp only[c35_64,c35_41,l35_38,csW,reduceCtorEq,Nat.reduceEqDiff,cw,cops]
        (repeat refine And.intro (by first | omega | (simp;omega)) ?_)
        refine⟨_,cRead (t.take n) hho2 hb1,?_⟩
        simp only[l35_39,cops,csW,reduceCtorEq,Nat.reduceEqDiff]
        refine⟨_,cZOf 1 (by omega),?_⟩
        simp only[l35_40,cops,csW,csM,reduceCtorEq,Nat.reduceEqDiff,Nat.reduceAdd,Nat.reduceLeDiff]
        refine keep [0,2,3,4,5,7,10] ?_
        simp only[c35_63,c35_50,c35_43,l35_42,csW,reduceCtorEq,Nat.reduceEqDiff,cw,cops,hmn]
        refine keep [0,2,3,4,5,10,79] ?_
        simp only[c35_49,csW,reduceCtorEq,Nat.reduceEqDiff,cw]
        simp only[c35_48,l35_44,csW,cw,cops,reduceCtorEq,Nat.reduceEqDiff]
        (repeat refine And.intro (by first | omega | (simp;omega)) ?_)
        refine⟨_,cRead (t.take n) hho2 hb1,?_⟩
        simp only[l35_45,cops,csW,reduceCtorEq,Nat.reduceEqDiff,csM]
        (repeat refine And.intro (by first | omega | (simp;omega)) ?_)
        refine⟨_,cRead (t.drop (n+1)) hut2.1 hbu,?_⟩
        simp only[l35_46,cops,csW,reduceCtorEq,Nat.reduceEqDiff]
        refine⟨_,cfover _ _ 4000 (parseZ_bt _) (parseZ_bt _) (by omega) hunz,?_⟩
        simp only[l35_47,cops,csW,reduceCtorEq,Nat.reduceEqDiff,csM,Nat.reduceAdd]
        refine keep [0,2,3,4,10] ?_
        simp only[c35_62,c35_58,c35_53,l35_51,csW,reduceCtorEq,Nat.reduceEqDiff,cw,cops,csM,Nat.reduceAdd]
        by_cases heq:frText (frN (parseZ (t.take n)) (parseZ (t.drop (n+1)))) (frD (parseZ (t.take n)) (parseZ (t.drop (n+1))))=t
        ·rw[if_pos heq] at hF
         refine⟨_,cTextZ _ _ 4000 (frN_bt (parseZ_bt _)) (frD_bt (parseZ_bt _)) (by omega),?_⟩
         simp only[l35_52,heq,cops,csW,reduceCtorEq,Nat.reduceEqDiff]
         refine keep [2,3,4,10,93] ?_
         simp only[c35_57,csW,reduceCtorEq,Nat.reduceEqDiff,cw]
         refine keep [2,3,10] ?_
         simp only[c35_61,c35_60,l35_59,csW,Nat.reduceEqDiff,cw,cops,csM,Nat.reduceAdd]
         refine keep [2,3] ?_
         simp only[Ends,resD,resL,resV,csW,Nat.reduceEqDiff,csM,Nat.reduceAdd]
         rw[hF]
        ·rw[if_neg heq] at hF
         refine⟨_,cTextZ _ _ 4000 (frN_bt (parseZ_bt _)) (frD_bt (parseZ_bt _)) (by omega),?_⟩
         simp only[l35_52,cops,csW,reduceCtorEq,Nat.reduceEqDiff,heq]
         refine keep [2,3,4,10,93] ?_
         simp only[c35_57,csW,reduceCtorEq,Nat.reduceEqDiff,cw]
         simp only[c35_56,c35_55,l35_54,cw,csW,cops,csM,Nat.reduceAdd,Nat.reduceLeDiff,Nat.reduceEqDiff]
         refine keep [2,3] ?_
         simp only[Ends,resD,resL,resV,csW,Nat.reduceEqDiff,csM,Nat.reduceAdd]
         rw[hF]
       ·have hb2I:(1000:Int)<(n:Int)+1+(k:Int)-(n:Int)-1:=by omega
        rw[if_neg (fun h=>hb2 h.2)] at hF
        refine⟨_,cDigs (t.take n) hnt2,?_⟩
        simp only[l35_31,cops,csW,reduceCtorEq,Nat.reduceEqDiff,hb1I,hb2I]
        (repeat refine And.intro (by first | omega | (simp;omega)) ?_)
        refine keep [0,2,3,4,5,7,68] ?_
        simp only[c35_36,csW,reduceCtorEq,Nat.reduceEqDiff,cw]
        simp only[c35_35,c35_34,l35_33,cw,csW,cops,csM,Nat.reduceAdd,Nat.reduceLeDiff,reduceCtorEq,Nat.reduceEqDiff]
        refine keep [2,3] ?_
        simp only[Ends,resD,resL,resV,csW,reduceCtorEq,Nat.reduceEqDiff,csM,Nat.reduceAdd]
        rw[hF]
      ·have hb1I:(1000:Int)<((body (t.take n)).length:Int):=by omega
       rw[if_neg (fun h=>hb1 h.1)] at hF
       refine⟨_,cDigs (t.take n) hnt2,?_⟩
       simp only[l35_31,cops,csW,reduceCtorEq,Nat.reduceEqDiff,hb1I]
       refine keep [0,2,3,4,5,7,68] ?_
       simp only[c35_36,csW,reduceCtorEq,Nat.reduceEqDiff,cw]
       simp only[c35_35,c35_34,l35_33,cw,csW,cops,csM,Nat.reduceAdd,Nat.reduceLeDiff,reduceCtorEq,Nat.reduceEqDiff]
       refine keep [2,3] ?_
       simp only[Ends,resD,resL,resV,csW,reduceCtorEq,Nat.reduceEqDiff,csM,Nat.reduceAdd]
       rw[hF]
   ·have hF:=hFn (.inr ⟨hlt,h47⟩)
    have h47I:¬ (byt t n:Int)=47:=by omega
    refine⟨_,hW,?_⟩
    simp only[l35_6,cops,csW,reduceCtorEq,Nat.reduceEqDiff]
    refine keep [0,2,3,4,5,6] ?_
    simp only[c35_68,c35_9,l35_8,csW,reduceCtorEq,Nat.reduceEqDiff,cw,cops]
    refine keep [0,2,3,4,5,6,7] ?_
    simp only[c35_67,c35_22,c35_11,l35_10,csW,reduceCtorEq,Nat.reduceEqDiff,cw,cops,csM,hltI,h47I]
    (repeat refine And.intro (by first | omega | (simp;omega)) ?_)
    refine keep [0,2,3,4,5,6,7,32] ?_
    simp only[c35_21,csW,reduceCtorEq,Nat.reduceEqDiff,cw]
    refine keep [0,2,3,4,5,6,7] ?_
    simp only[c35_66,c35_29,c35_24,l35_23,csW,reduceCtorEq,Nat.reduceEqDiff,cw,cops,hltI]
    refine keep [0,2,3,4,5,7,53] ?_
    simp only[c35_28,csW,reduceCtorEq,Nat.reduceEqDiff,cw]
    simp only[c35_27,c35_26,l35_25,cw,csW,cops,csM,Nat.reduceAdd,Nat.reduceLeDiff,reduceCtorEq,Nat.reduceEqDiff]
    refine keep [2,3] ?_
    simp only[Ends,resD,resL,resV,csW,reduceCtorEq,Nat.reduceEqDiff,csM,Nat.reduceAdd]
    rw[hF]
  ·have hltI:¬ (n:Int)<(t.length:Int):=by omega
   have hF:=hFw rfl (by omega)
   have hnn:n=t.length:=by omega
   have hnt:t.take n=t:=List.take_of_length_le (by omega)
   have hnt2:(t.take n).length≤9223372036854775807:=by simp;omega
   refine⟨_,hW,?_⟩
   simp only[l35_6,cops,csW,reduceCtorEq,Nat.reduceEqDiff]
   refine keep [0,2,3,4,5,6] ?_
   simp only[c35_68,c35_9,l35_8,csW,reduceCtorEq,Nat.reduceEqDiff,cw,cops]
   refine keep [0,2,3,4,5,6,7] ?_
   simp only[c35_67,c35_22,c35_11,l35_10,csW,reduceCtorEq,Nat.reduceEqDiff,cw,cops,csM,hltI]
   refine keep [0,2,3,4,5,6,7,32] ?_
   simp only[c35_21,csW,reduceCtorEq,Nat.reduceEqDiff,cw]
   refine keep [0,2,3,4,5,6,7] ?_
   simp only[c35_66,c35_29,c35_24,l35_23,csW,reduceCtorEq,Nat.reduceEqDiff,cw,cops,hltI]
   refine keep [0,2,3,4,5,7,53] ?_
   simp only[c35_28,csW,reduceCtorEq,Nat.reduceEqDiff,cw]
   refine keep [0,2,3,4,5,7] ?_
   simp only[c35_65,c35_37,c35_32,l35_30,csW,reduceCtorEq,Nat.reduceEqDiff,cw,cops]
   (repeat refine And.intro (by first | omega | (simp;omega)) ?_)
   by_cases hb:(body t).length≤1000
   ·rw[if_pos hb] at hF
    have hb1I:¬ (1000:Int)<((body t).length:Int):=by omega
    have hb2I:¬ (1000:Int)<0-1:=by omega
    have hmn:¬ (n:Int)<(n:Int):=by omega
    rw[hnt] at hho2
    have hpc:parseC t=0:=by unfold parseC;rw[if_pos hho2,if_pos hb]
    have htx:frText (parseZ t) 1=t:=by unfold frText;rw[if_pos rfl];exact parse_dec hpc
    rw[hnt]
    refine⟨_,cDigs t (by omega),?_⟩
    simp only[l35_31,cops,csW,reduceCtorEq,Nat.reduceEqDiff,hb1I,Int.sub_self,hb2I]
    (repeat refine And.intro (by first | omega | (simp;omega)) ?_)
    refine keep [0,2,3,4,5,7,68] ?_
    simp only[c35_36,csW,reduceCtorEq,Nat.reduceEqDiff,cw]
    refine keep [0,2,3,4,5,7] ?_
    simp only[c35_64,c35_41,l35_38,csW,reduceCtorEq,Nat.reduceEqDiff,cw,cops,hnt]
    (repeat refine And.intro (by first | omega | (simp;omega)) ?_)
    refine⟨_,cRead t hho2 hb,?_⟩
    simp only[l35_39,cops,csW,reduceCtorEq,Nat.reduceEqDiff]
    refine⟨_,cZOf 1 (by omega),?_⟩
    simp only[l35_40,cops,csW,csM,reduceCtorEq,Nat.reduceEqDiff,Nat.reduceAdd,Nat.reduceLeDiff]
    refine keep [0,2,3,4,5,7,10] ?_
    simp only[c35_63,c35_50,c35_43,l35_42,csW,reduceCtorEq,Nat.reduceEqDiff,cw,cops,hmn]
    refine keep [0,2,3,4,5,10,79] ?_
    simp only[c35_49,csW,reduceCtorEq,Nat.reduceEqDiff,cw]
    refine keep [0,2,3,4,10] ?_
    simp only[c35_62,c35_58,c35_53,l35_51,csW,reduceCtorEq,Nat.reduceEqDiff,cw,cops,csM,Nat.reduceAdd]
    refine⟨_,cTextZ _ _ 4000 (parseZ_bt _) (bt_one) (by omega),?_⟩
    simp only[l35_52,htx,cops,csW,reduceCtorEq,Nat.reduceEqDiff]
    refine keep [2,3,4,10,93] ?_
    simp only[c35_57,csW,reduceCtorEq,Nat.reduceEqDiff,cw]
    refine keep [2,3,10] ?_
    simp only[c35_61,c35_60,l35_59,csW,Nat.reduceEqDiff,cw,cops,csM,Nat.reduceAdd]
    refine keep [2,3] ?_
    simp only[Ends,resD,resL,resV,csW,Nat.reduceEqDiff,csM,Nat.reduceAdd]
    rw[hF]
   ·rw[if_neg hb] at hF
    have hb1I:(1000:Int)<((body t).length:Int):=by omega
    rw[hnt]
    refine⟨_,cDigs t (by omega),?_⟩
    simp only[l35_31,cops,csW,reduceCtorEq,Nat.reduceEqDiff,hb1I]
    refine keep [0,2,3,4,5,7,68] ?_
    simp only[c35_36,csW,reduceCtorEq,Nat.reduceEqDiff,cw]
    simp only[c35_35,c35_34,l35_33,cw,csW,cops,csM,Nat.reduceAdd,Nat.reduceLeDiff,reduceCtorEq,Nat.reduceEqDiff]
    refine keep [2,3] ?_
    simp only[Ends,resD,resL,resV,csW,reduceCtorEq,Nat.reduceEqDiff,csM,Nat.reduceAdd]
    rw[hF]
end Go.Proofs.Ytdjbfgfbpimakaa.M
end

section
namespace Go.Proofs.Ytdjbfgfbpimakaa.M
open Go.RowKit
set_option linter.unusedSimpArgs false
set_option linter.unusedVariables false
theorem frD_pos {a b:Int} (h:b≠0):0<frD a b:=by
 have hg:=gcd_ne0 (a:=a) h
 have hd:(Int.gcd a b:Int)*(b / (Int.gcd a b:Int))=b:=Int.mul_ediv_cancel' (Int.gcd_dvd_right ..)
 have hne:b / (Int.gcd a b:Int)≠0:=by
  intro e
  rw[e,Int.mul_zero] at hd
  exact h hd.symm
 unfold frD
 split<;>omega
theorem fracR_ok (t:List UInt8):0<(fracR t).2.1∧Bt (fracR t).1 4000∧Bt (fracR t).2.1 4000:=by
 unfold fracR
 split
 ·split
  ·rename_i h2
   split
   ·rename_i h3
    split
    ·exact⟨frD_pos (tail_ne h2.1 h2.2 h3.2),frN_bt (parseZ_bt _),frD_bt (parseZ_bt _)⟩
    ·exact⟨Int.zero_lt_one,bt_zero _,bt_one⟩
   ·exact⟨Int.zero_lt_one,bt_zero _,bt_one⟩
  ·exact⟨Int.zero_lt_one,bt_zero _,bt_one⟩
 ·split
  ·split
   ·exact⟨Int.zero_lt_one,parseZ_bt _,bt_one⟩
   ·exact⟨Int.zero_lt_one,bt_zero _,bt_one⟩
  ·exact⟨Int.zero_lt_one,bt_zero _,bt_one⟩
end Go.Proofs.Ytdjbfgfbpimakaa.M
end

section
namespace Go.Proofs.Ytdjbfgfbpimakaa.M
open Go.RowKit
set_option linter.unusedVariables false
set_option linter.unusedSimpArgs false
theorem gcd_pos' {a b:Int} (h:b≠0):(0:Int)<Int.gcd a b:=by
 have:Int.gcd a b≠0:=fun e=>h (Int.gcd_eq_zero_iff.1 e).2
 omega
theorem div_neg_iff {a b:Int} (h:b≠0):b / (Int.gcd a b:Int)<0↔b<0:=by
 have hg:=gcd_pos' (a:=a) h
 constructor
 ·intro hh
  rcases Int.lt_or_le b 0 with h1 | h1
  ·exact h1
  ·have:=Int.ediv_nonneg h1 (Int.le_of_lt hg);omega
 ·intro hh;exact Int.ediv_neg_of_neg_of_pos hh hg
theorem frN_rat {a b:Int} (h:b≠0):frN a b=(Rat.divInt a b).num:=by
 have hg:=gcd_pos' (a:=a) h
 have hd:(Int.gcd a b:Int)∣a:=Int.gcd_dvd_left ..
 unfold frN
 rw[Rat.num_divInt,Int.gcd_comm b a]
 by_cases hb:b<0
 ·rw[if_pos ((div_neg_iff h).2 hb),Int.sign_eq_neg_one_of_neg hb,Int.neg_mul,Int.one_mul,Int.neg_ediv_of_dvd hd]
 ·rw[if_neg (fun e=>hb ((div_neg_iff h).1 e)),Int.sign_eq_one_of_pos (by omega),Int.one_mul]
theorem frD_rat {a b:Int} (h:b≠0):frD a b=((Rat.divInt a b).den:Int):=by
 have hg:=gcd_pos' (a:=a) h
 have hd:(Int.gcd a b:Int)∣b:=Int.gcd_dvd_right ..
 unfold frD
 rw[Rat.den_divInt,if_neg h,Int.gcd_comm b a]
 by_cases hb:b<0
 ·rw[if_pos ((div_neg_iff h).2 hb),←Int.neg_ediv_of_dvd hd,Int.natCast_ediv]
  congr 1;omega
 ·rw[if_neg (fun e=>hb ((div_neg_iff h).1 e)),Int.natCast_ediv]
  congr 1;omega
theorem add_rat (x y:Rat):Rat.divInt (x.num*y.den+y.num*x.den) ((x.den:Int)*y.den)=x+y:=by
 rw[Rat.add_def',←Rat.divInt_ofNat,Int.natCast_mul]
theorem sub_rat (x y:Rat):Rat.divInt (x.num*y.den + -y.num*x.den) ((x.den:Int)*y.den)=x-y:=by
 rw[Rat.sub_eq_add_neg,Rat.add_def',←Rat.divInt_ofNat,Int.natCast_mul,Rat.neg_num,Rat.neg_den]
theorem mul_rat (x y:Rat):Rat.divInt (x.num*y.num) ((x.den:Int)*y.den)=x*y:=by
 rw[Rat.mul_def',←Rat.divInt_ofNat,Int.natCast_mul]
theorem div_rat (x y:Rat):Rat.divInt (x.num*y.den) ((x.den:Int)*y.num)=x / y:=by
 rw[Rat.div_def,Rat.inv_def,←Rat.divInt_mul_divInt,Rat.num_divInt_den]
theorem num_ne {x:Rat} (h:x≠0):x.num≠0:=fun e=>h (Rat.num_eq_zero.1 e)
theorem den_pos' (x:Rat):(0:Int)<x.den:=by have:=x.den_pos;omega
theorem Bq.n {n:Nat} {x:Rat} (h:Bq n x):Bt x.num n:=h.1
theorem Bq.d {n:Nat} {x:Rat} (h:Bq n x):Bt (x.den:Int) n:=by have:=h.2;unfold Bt;simpa using this
theorem Bq.of {n:Nat} {x:Rat} (h1:Bt x.num n) (h2:Bt (x.den:Int) n):Bq n x:=⟨h1,by unfold Bt at h2;simpa using h2⟩
def qI (x:Rat):D:=encFI x.num x.den
def qZ (x:Rat):D:=encFZ x.num x.den
theorem qI_of {a b:Int} (h:b≠0):encFI (frN a b) (frD a b)=qI (Rat.divInt a b):=by rw[frN_rat h,frD_rat h];rfl
theorem qZ_of {a b:Int} (h:b≠0):encFZ (frN a b) (frD a b)=qZ (Rat.divInt a b):=by rw[frN_rat h,frD_rat h];rfl
theorem mul_ne {x y:Rat}:((x.den:Int)*y.den)≠0:=Int.ne_of_gt (Int.mul_pos (den_pos' x) (den_pos' y))
theorem muln_ne {x y:Rat} (h:y≠0):((x.den:Int)*y.num)≠0:=fun e=>by
 rcases Int.mul_eq_zero.1 e with h1 | h1
 ·have:=den_pos' x;omega
 ·exact num_ne h h1
def sgnQ (x:Rat):Int:=sgnZ x.num
theorem sgnQ_0 {x:Rat}:sgnQ x=0↔x=0:=by
 unfold sgnQ sgnZ
 rw[←Rat.num_eq_zero]
 (repeat' split)<;>omega
section
variable (x y:Rat) (n:Nat) (hx:Bq n x) (hy:Bq n y) (hn:n≤32768000000000)
include hx hy hn
theorem qSub:Con Try.prog AN 61 [qI x,qI y] (qI (x-y)):=by
 have h:=cSub x.num x.den y.num y.den n hx.n hx.d hy.n hy.d hn (den_pos' x) (den_pos' y)
 rw[qI_of mul_ne,sub_rat] at h;exact h
theorem qMul:Con Try.prog AN 27 [qI x,qI y] (qI (x*y)):=by
 have h:=cMul x.num x.den y.num y.den n hx.n hx.d hy.n hy.d hn (den_pos' x) (den_pos' y)
 rw[qI_of mul_ne,mul_rat] at h;exact h
theorem qQuo (h0:y≠0):Con Try.prog AN 50 [qI x,qI y] (.tup [qI (x / y),flt 0 0]):=by
 have h:=cQuo x.num x.den y.num y.den n hx.n hx.d hy.n hy.d hn (den_pos' x) (num_ne h0)
 rw[qI_of (muln_ne h0),div_rat] at h;exact h
theorem zAdd:Con Try.prog AN 84 [qZ x,qZ y] (qZ (x+y)):=by
 have h:=cAddZ x.num x.den y.num y.den n hx.n hx.d hy.n hy.d hn (den_pos' x) (den_pos' y)
 rw[qZ_of mul_ne,add_rat] at h;exact h
theorem zMul:Con Try.prog AN 53 [qZ x,qZ y] (qZ (x*y)):=by
 have h:=cMulZ x.num x.den y.num y.den n hx.n hx.d hy.n hy.d hn (den_pos' x) (den_pos' y)
 rw[qZ_of mul_ne,mul_rat] at h;exact h
theorem zQuo (h0:y≠0):Con Try.prog AN 16 [qZ x,qZ y] (.tup [qZ (x / y),flt 0 0]):=by
 have h:=cQuoZ x.num x.den y.num y.den n hx.n hx.d hy.n hy.d hn (den_pos' x) (num_ne h0)
 rw[qZ_of (muln_ne h0),div_rat] at h;exact h
end
section
variable (x:Rat) (n:Nat) (hx:Bq n x) (hn:n≤32768000000000)
include hx hn
theorem qNeg:Con Try.prog AN 40 [qI x] (qI (-x)):=cNeg x.num x.den n hx.n hx.d hn
theorem zNeg:Con Try.prog AN 19 [qZ x] (qZ (-x)):=cNegZ x.num x.den n hx.n hx.d hn
theorem qSign:Con Try.prog AN 15 [qI x] (.int .i64 (sgnQ x)):=cSign x.num x.den n hx.n hx.d hn
theorem zSign:Con Try.prog AN 36 [qZ x] (.int .i64 (sgnQ x)):=cSignZ x.num x.den n hx.n hx.d hn
theorem qText:Con Try.prog AN 10 [qI x] (.str (frText x.num x.den)):=cText x.num x.den n hx.n hx.d hn
theorem zText:Con Try.prog AN 11 [qZ x] (.str (frText x.num x.den)):=cTextZ x.num x.den n hx.n hx.d hn
end
theorem qWhole (z:Int) (n:Nat) (hz:Bt z n) (hn:n≤32768000000000):Con Try.prog AN 37 [encI z] (qI (z:Rat)):=cWhole z n hz hn
theorem gcd_fr {a b:Int} (h:b≠0):∃ x:Rat,frN a b=x.num∧frD a b=(x.den:Int):=⟨Rat.divInt a b,frN_rat h,frD_rat h⟩
theorem fracR_rat (t:List UInt8):∃ x:Rat,(fracR t).1=x.num∧(fracR t).2.1=(x.den:Int)∧Bq 4000 x:=by
 have key:∃ x:Rat,(fracR t).1=x.num∧(fracR t).2.1=(x.den:Int):=by
  unfold fracR
  split
  ·split
   ·rename_i h2
    split
    ·rename_i h3
     split
     ·exact gcd_fr (tail_ne h2.1 h2.2 h3.2)
     ·exact⟨0,rfl,rfl⟩
    ·exact⟨0,rfl,rfl⟩
   ·exact⟨0,rfl,rfl⟩
  ·split
   ·split
    ·exact⟨(parseZ t:Rat),rfl,rfl⟩
    ·exact⟨0,rfl,rfl⟩
   ·exact⟨0,rfl,rfl⟩
 obtain⟨x,h1,h2⟩:=key
 obtain⟨_,b1,b2⟩:=fracR_ok t
 exact⟨x,h1,h2,Bq.of (h1 ▸ b1) (h2 ▸ b2)⟩
noncomputable def qR (t:List UInt8):Rat:=(fracR_rat t).choose
def cR (t:List UInt8):Int:=(fracR t).2.2.1
def aR (t:List UInt8):Int:=(fracR t).2.2.2
theorem qR_bq (t:List UInt8):Bq 4000 (qR t):=(fracR_rat t).choose_spec.2.2
theorem qParse (t:List UInt8) (hs:t.length≤9223372036854775807):Con Try.prog AN 20 [.str t] (.tup [qI (qR t),flt (cR t) (aR t)]):=by
 have h:=cParse t hs
 have e:encFI (fracR t).1 (fracR t).2.1=qI (qR t):=congr (congrArg encFI (fracR_rat t).choose_spec.1) (fracR_rat t).choose_spec.2.1
 rw[e] at h
 exact h
theorem zParse (t:List UInt8) (hs:t.length≤9223372036854775807):Con Try.prog AN 35 [.str t] (.tup [qZ (qR t),flt (cR t) (aR t)]):=by
 have h:=cFParse t hs
 have e:encFZ (fracR t).1 (fracR t).2.1=qZ (qR t):=congr (congrArg encFZ (fracR_rat t).choose_spec.1) (fracR_rat t).choose_spec.2.1
 rw[e] at h
 exact h
theorem one_qI (x:Rat):(qI x).one=false:=rfl
theorem one_qZ (x:Rat):(qZ x).one=false:=rfl
theorem isAgg_qI (x:Rat):(qI x).isAgg=true:=rfl
theorem isAgg_qZ (x:Rat):(qZ x).isAgg=true:=rfl
theorem cells_qI (x:Rat):(qI x).cells=[hI x.num,lI x.num,hI ((x.den:Int)-1),lI ((x.den:Int)-1)]:=rfl
theorem cells_qZ (x:Rat):(qZ x).cells=[hZ x.num,lZ x.num,hZ (x.den:Int),lZ (x.den:Int)]:=rfl
theorem fold_qI (x:Rat):D.agg [hI x.num,lI x.num,hI ((x.den:Int)-1),lI ((x.den:Int)-1)]=qI x:=rfl
theorem fold_qZ (x:Rat):D.agg [hZ x.num,lZ x.num,hZ (x.den:Int),lZ (x.den:Int)]=qZ x:=rfl
theorem qI_0:D.agg [.bool false,.list 116 1 [],.bool false,.list 116 1 []]=qI 0:=by
 have e:digs 4294967296 0=[]:=by rw[digs];simp
 unfold qI encFI
 rw[show ((0:Rat).num).natAbs=0 from rfl,show (((0:Rat).den:Int)-1).natAbs=0 from rfl,e]
 rfl
end Go.Proofs.Ytdjbfgfbpimakaa.M
end
