/- Polynomials: New, and the reference's PRead. -/
import Derived.Test.YtdjbfgfbpimakaaK9
namespace Go.Proofs.Ytdjbfgfbpimakaa.M
open Go.RowKit
set_option linter.unusedSimpArgs false
set_option linter.unusedVariables false
set_option linter.defProp false
noncomputable def newQ (cs:List (List UInt8)):List Rat × Int × Int:=
 if 201<cs.length then ([],9,0) else
 if cs.findIdx (fun t=>decide (cR t≠0))<cs.length then ([],cR (cs.getD (cs.findIdx (fun t=>decide (cR t≠0))) []),cs.findIdx (fun t=>decide (cR t≠0))) else
 if 0<cs.length∧qR (cs.getD (cs.length-1) [])=0 then ([],3,(cs.length:Int)-1) else (tab cs.length fun j=>qR (cs.getD j []),0,0)
theorem newQ_long {cs:List (List UInt8)} (h:201<cs.length):newQ cs=([],9,0):=if_pos h
theorem newQ_bad {cs:List (List UInt8)} {i:Nat} (h:¬ 201<cs.length) (hi:i<cs.length) (h0:∀ j,j<i→cR (cs.getD j [])=0) (h1:cR (cs.getD i [])≠0):newQ cs=([],cR (cs.getD i []),(i:Int)):=by
 have e:cs.findIdx (fun t=>decide (cR t≠0))=i:=by
  rw[List.findIdx_eq hi]
  refine⟨by simpa[hi] using h1,fun j hj => ?_⟩
  have:=h0 j hj
  simpa[show j<cs.length by omega] using this
 unfold newQ
 rw[if_neg h,e,if_pos hi]
theorem findIdx_all {cs:List (List UInt8)} (h0:∀ j,j<cs.length→cR (cs.getD j [])=0):¬ cs.findIdx (fun t=>decide (cR t≠0))<cs.length:=by
 intro hlt
 have:=List.findIdx_getElem (w:=hlt)
 have h1:=h0 _ hlt
 rw[List.getD_eq_getElem?_getD,List.getElem?_eq_getElem hlt] at h1
 exact (of_decide_eq_true this) h1
theorem newQ_form {cs:List (List UInt8)} (h:¬ 201<cs.length) (h0:∀ j,j<cs.length→cR (cs.getD j [])=0) (h1:0<cs.length) (h2:qR (cs.getD (cs.length-1) [])=0):newQ cs=([],3,(cs.length:Int)-1):=by
 unfold newQ
 rw[if_neg h,if_neg (findIdx_all h0),if_pos ⟨h1,h2⟩]
theorem newQ_ok {cs:List (List UInt8)} (h:¬ 201<cs.length) (h0:∀ j,j<cs.length→cR (cs.getD j [])=0) (h2:¬ (0<cs.length∧qR (cs.getD (cs.length-1) [])=0)):newQ cs=(tab cs.length fun j=>qR (cs.getD j []),0,0):=by
 unfold newQ
 rw[if_neg h,if_neg (findIdx_all h0),if_neg h2]
theorem newQ_len (cs:List (List UInt8)):(newQ cs).1.length≤201:=by
 unfold newQ
 (repeat' split)<;>simp[tab_len];omega
theorem newQ_bl (cs:List (List UInt8)):Bl 4000 (newQ cs).1:=by
 have h0:Bl 4000 []:=fun i=>Bq.zero _ (by omega)
 unfold newQ
 (repeat' split)<;>first | exact h0 | exact Bl.tab (by omega) fun j _=>qR_bq _
theorem newQ_nf (cs:List (List UInt8)):Nf (newQ cs).1:=by
 unfold newQ
 (repeat' split)<;>first | exact nf_nil | skip
 rename_i h
 by_cases h0:cs.length=0
 ·rw[h0];exact nf_nil
 ·right
  rw[tab_len,cf_tab,if_pos (by omega)]
  exact fun e=>h ⟨by omega,e⟩
set_option maxHeartbeats 2000000 in
theorem new_con (T:Nat) (cs:List (List UInt8)) (hT:cs.length≤9223372036854775807) (hs:∀ t∈cs,t.length≤9223372036854775807):Con Try.prog AN 6 [LS T cs] (.tup [pI (newQ cs).1,flt (newQ cs).2.1 (newQ cs).2.2]):=by
 by_cases h201:201<cs.length
 ·have hI:(201:Int)<(cs.length:Int):=by omega
  rw[newQ_long h201]
  refine fn6.con rfl (by simp) ?_
  simp only[c6,c6_64,c6_1,l6_0,csP,init1,cw,csW,cops,reduceCtorEq,Nat.reduceEqDiff]
  refine keep [0,2,3] ?_
  simp only[c6_63,c6_9,c6_3,l6_2,csW,reduceCtorEq,Nat.reduceEqDiff,cw,cops,hI]
  refine keep [0,2,3,12] ?_
  simp only[c6_8,csW,reduceCtorEq,Nat.reduceEqDiff,cw]
  simp only[c6_7,c6_6,l6_4,csW,cw,cops,csP,reduceCtorEq,Nat.reduceEqDiff]
  refine⟨_,fault_con 9 0,?_⟩
  simp only[l6_5,csP,cops,csW,reduceCtorEq,Nat.reduceEqDiff,Nat.reduceAdd]
  refine keep [2,3] ?_
  simp only[Ends,resD,resL,resV,csW,reduceCtorEq,Nat.reduceEqDiff,csP,Nat.reduceAdd]
  rfl
 ·have hI:¬ (201:Int)<(cs.length:Int):=by omega
  refine fn6.con rfl (by simp) ?_
  simp only[c6,c6_64,c6_1,l6_0,csP,init1,cw,csW,cops,reduceCtorEq,Nat.reduceEqDiff]
  refine keep [0,2,3] ?_
  simp only[c6_63,c6_9,c6_3,l6_2,csW,reduceCtorEq,Nat.reduceEqDiff,cw,cops,hI]
  refine keep [0,2,3,12] ?_
  simp only[c6_8,csW,reduceCtorEq,Nat.reduceEqDiff,cw]
  refine keep [0,2,3] ?_
  simp only[c6_62,c6_11,l6_10,csW,reduceCtorEq,Nat.reduceEqDiff,cw,cops]
  refine keep [0,2,3,4] ?_
  simp only[c6_61,c6_43,c6_13,l6_12,csW,reduceCtorEq,Nat.reduceEqDiff,cw,cops]
  refine keep [2,3,4,15,16,17] ?_
  simp only[c6_42,csW,reduceCtorEq,Nat.reduceEqDiff,cw]
  refine loop_of (ι:=Nat) (fun i=>i≤cs.length∧∀ j,j<i→cR (cs.getD j [])=0) (fun i=>⟨look [(2,.ptr 2 0 0),(3,.ptr 3 0 0),(4,.slice 105 0 i),(15,.p (LS T cs)),(16,.p (J cs.length)),(17,.p (J i))],
   lookM [(2,⟨25,1,.box zPoly,false⟩),(3,⟨27,2,.box (.p (flt 0 0)),false⟩),(105,⟨39,4,.row ((tab i fun j=>qR (cs.getD j [])).map qI),false⟩)]⟩) (fun i=>cs.length-i) 0 ⟨by omega,by omega⟩ (Sub.nilG 4 105 39 4 (by rfl) (by rfl) (by decide) (by rfl) (by rfl)) ?_
  rintro i ⟨hi,h0⟩
  by_cases h:i<cs.length
  ·have hI:(i:Int)<(cs.length:Int):=by omega
   have hlen:(cs.getD i []).length≤9223372036854775807:=hs _ (by simp[h])
   simp only[c6_40,c6_15,l6_14,csP,cw,csW,cops,Nat.reduceEqDiff,hI]
   refine keep [2,3,4,15,16,17,18] ?_
   simp only[c6_39,c6_16,csW,Nat.reduceEqDiff,cw]
   refine keep [2,3,4,15,16,17] ?_
   simp only[c6_38,c6_35,c6_34,c6_18,l6_17,csW,Nat.reduceEqDiff,cw,cops,csP,hI,getD_s h]
   (repeat refine And.intro (by first | omega | (simp;omega)) ?_)
   refine keep [2,3,4,5,6,15,16,17] ?_
   simp only[c6_33,c6_21,l6_19,csW,Nat.reduceEqDiff,cw,cops]
   refine⟨_,qParse (cs.getD i []) hlen,?_⟩
   simp only[l6_20,csP,cops,csW,Nat.reduceEqDiff,Nat.reduceAdd]
   refine keep [2,3,4,5,7,8,15,16,17] ?_
   simp only[c6_32,c6_29,c6_23,l6_22,csW,Nat.reduceEqDiff,cw,cops,csP,Nat.reduceAdd,Nat.reduceLeDiff]
   refine keep [2,3,4,5,7,8,15,16,17,29] ?_
   simp only[c6_28,csW,Nat.reduceEqDiff,cw]
   refine⟨fun hc => ?_,fun hc => ?_⟩
   ·(try simp only[c6_27,c6_26,l6_24,cw,cops,csW,reduceIte,Nat.reduceEqDiff,reduceCtorEq,Nat.reduceAdd,Nat.reduceLT,Nat.reduceLeDiff,Nat.reduceSub,csP])
    refine⟨_,fault_con _ _,?_⟩
    simp only[l6_25,csP,cops,csW,Nat.reduceEqDiff,Nat.reduceAdd]
    refine keep [2,3] ?_
    simp only[Ends,resD,resL,resV,csW,Nat.reduceEqDiff,csP,Nat.reduceAdd]
    rw[newQ_bad h201 h h0 (by simpa using hc)]
    rfl
   ·have hz:cR (cs.getD i [])=0:=by simpa using hc
    refine keep [2,3,4,7,15,16,17] ?_
    simp only[c6_31,l6_30,csP,csW,Nat.reduceEqDiff,cw,cops,Nat.reduceLT,Nat.reduceAdd,Nat.reduceLeDiff]
    (repeat refine And.intro (by first | omega | (simp;omega)) ?_)
    refine keep [2,3,4,15,16,17] ?_
    simp only[c6_37,l6_36,csW,Nat.reduceEqDiff,cw,cops]
    (repeat refine And.intro (by first | omega | (simp;omega)) ?_)
    exact⟨i+1,⟨by omega,fun j hj=>by
     rcases Nat.lt_or_ge j i with h' | h'
     ·exact h0 j h'
     ·rw[show j=i by omega];exact hz⟩,by rw[←tab_succ];exact (Sub.toG [2,3,4,15,16,17] [7,8,37] (by rfl) (by rfl) (by rfl) (by rfl)),by omega⟩
  ·have hI:¬ (i:Int)<(cs.length:Int):=by omega
   have hiN:i=cs.length:=by omega
   subst hiN
   simp only[c6_40,c6_15,l6_14,csP,cw,csW,cops,Nat.reduceEqDiff,hI]
   refine keep [2,3,4,15,16,17,18] ?_
   simp only[c6_39,c6_16,csW,Nat.reduceEqDiff,cw]
   have htk:(tab cs.length fun j=>qR (cs.getD j [])).take cs.length=(tab cs.length fun j=>qR (cs.getD j [])):=List.take_of_length_le (by rw[tab_len];omega)
   obtain⟨l,hl⟩:∃ l,l=(tab cs.length fun j=>qR (cs.getD j [])):=⟨_,rfl⟩
   by_cases hp:0<cs.length
   ·have hpI:(0:Int)<(cs.length:Int):=by omega
    have hk:cs.length-1<(tab cs.length fun j=>qR (cs.getD j [])).length:=by rw[tab_len];omega
    have hm1:((cs.length:Int)-1).toNat=cs.length-1:=by omega
    have hcf:cf (tab cs.length fun j=>qR (cs.getD j [])) (cs.length-1)=qR (cs.getD (cs.length-1) []):=by rw[cf_tab,if_pos (by omega)]
    have hbl:Bl 4000 (tab cs.length fun j=>qR (cs.getD j [])):=Bl.tab (by omega) fun j _=>qR_bq _
    refine keepF 105 _ [2,3,4] (by rfl) ?_
    simp only[c6_60,c6_55,c6_45,l6_44,csW,Nat.reduceEqDiff,cw,cops]
    refine keep [2,3,4,9] ?_
    simp only[c6_54,c6_48,l6_46,csW,Nat.reduceEqDiff,cw,cops,csP,Nat.reduceLT,hpI,hm1,getD_q hk,hcf,Nat.reduceAdd]
    (repeat refine And.intro (by first | omega | (simp;omega)) ?_)
    refine⟨_,qSign _ 4000 (qR_bq _) (by omega),?_⟩
    simp only[l6_47,cops,csW,Nat.reduceEqDiff]
    refine keep [2,3,4,9,52] ?_
    simp only[c6_53,csW,Nat.reduceEqDiff,cw]
    refine⟨fun hc => ?_,fun hc => ?_⟩
    ·(try simp only[c6_52,c6_51,l6_49,cw,cops,csW,reduceIte,Nat.reduceEqDiff,reduceCtorEq,Nat.reduceAdd,Nat.reduceLT,Nat.reduceLeDiff,Nat.reduceSub,csP])
     (repeat refine And.intro (by first | omega | (simp;omega)) ?_)
     refine⟨_,fault_con 3 _,?_⟩
     simp only[l6_50,csP,cops,csW,Nat.reduceEqDiff,Nat.reduceAdd]
     refine keep [2,3] ?_
     simp only[Ends,resD,resL,resV,csW,Nat.reduceEqDiff,csP,Nat.reduceAdd]
     rw[newQ_form h201 h0 hp (sgnQ_0.1 (by simpa using hc))]
     rfl
    ·(try simp only[cw,cops,csW,reduceIte,Nat.reduceEqDiff,reduceCtorEq,Nat.reduceAdd,Nat.reduceLT,Nat.reduceLeDiff,Nat.reduceSub,csP,htk,Bool.true_or,Nat.le_refl])
     refine keep [2,3,4] ?_
     simp only[c6_59,c6_58,l6_56,csW,Nat.reduceEqDiff,cw,cops,Bool.true_or,csP,Nat.le_refl,htk]
     refine⟨_,made_con _ 4000 hbl (by decide) (by rw[tab_len];omega),?_⟩
     simp only[l6_57,cops,csW,csP,Nat.reduceEqDiff,Nat.reduceAdd]
     refine keep [2,3] ?_
     simp only[Ends,resD,resL,resV,csW,Nat.reduceEqDiff,csP,Nat.reduceAdd]
     rw[newQ_ok h201 h0 (fun h=>by rw[sgnQ_0.2 h.2] at hc;cases hc),trim_nf]
     right
     rw[tab_len,hcf]
     intro e
     rw[sgnQ_0.2 e] at hc
     cases hc
   ·have hpI:¬ (0:Int)<(cs.length:Int):=by omega
    have hc0:cs=[]:=List.eq_nil_of_length_eq_zero (by omega)
    refine keepF 105 _ [2,3,4] (by rfl) ?_
    simp only[c6_60,c6_55,c6_45,l6_44,csW,Nat.reduceEqDiff,cw,cops]
    refine keep [2,3,4,9] ?_
    simp only[c6_54,c6_48,l6_46,csW,Nat.reduceEqDiff,cw,cops,csP,Nat.reduceLT,hpI]
    simp only[l6_47,cops,csW,Nat.reduceEqDiff]
    refine keep [2,3,4,9,52] ?_
    simp only[c6_53,csW,Nat.reduceEqDiff,cw]
    refine keep [2,3,4] ?_
    simp only[c6_59,c6_58,l6_56,csW,Nat.reduceEqDiff,cw,cops,Bool.true_or,csP,Nat.le_refl,htk]
    refine⟨_,made_con _ 4000 (Bl.tab (by omega) fun j _=>qR_bq _) (by decide) (by rw[tab_len];omega),?_⟩
    simp only[l6_57,cops,csW,csP,Nat.reduceEqDiff,Nat.reduceAdd]
    refine keep [2,3] ?_
    simp only[Ends,resD,resL,resV,csW,Nat.reduceEqDiff,csP,Nat.reduceAdd]
    rw[newQ_ok h201 h0 (fun h=>by omega),trim_nf]
    left
    subst hc0;rfl
set_option maxHeartbeats 2000000 in
theorem pread_con (T:Nat) (cs:List (List UInt8)) (hT:cs.length≤9223372036854775807) (hs:∀ t∈cs,t.length≤9223372036854775807):Con Try.prog AN 7 [LS T cs] (.tup [LZ (newQ cs).1,flt (newQ cs).2.1 (newQ cs).2.2]):=by
 by_cases h201:201<cs.length
 ·have hI:(201:Int)<(cs.length:Int):=by omega
  rw[newQ_long h201]
  refine fn7.con rfl (by simp) ?_
  simp only[c7,c7_60,c7_1,l7_0,csP,init1,cw,csW,cops,reduceCtorEq,Nat.reduceEqDiff]
  refine keep [0,3] ?_
  simp only[c7_59,c7_9,c7_3,l7_2,csW,reduceCtorEq,Nat.reduceEqDiff,cw,cops,hI]
  refine keep [0,3,11] ?_
  simp only[c7_8,csW,reduceCtorEq,Nat.reduceEqDiff,cw]
  simp only[c7_7,c7_6,l7_4,csW,cw,cops,reduceCtorEq,Nat.reduceEqDiff]
  refine⟨_,rfault_con 9 0,?_⟩
  simp only[l7_5,csP,cops,csW,reduceCtorEq,Nat.reduceEqDiff,Nat.reduceAdd]
  refine keep [2,3] ?_
  simp only[Ends,resD,resL,resV,csW,reduceCtorEq,Nat.reduceEqDiff,csP,Nat.reduceAdd]
  rfl
 ·have hI:¬ (201:Int)<(cs.length:Int):=by omega
  refine fn7.con rfl (by simp) ?_
  simp only[c7,c7_60,c7_1,l7_0,csP,init1,cw,csW,cops,reduceCtorEq,Nat.reduceEqDiff]
  refine keep [0,3] ?_
  simp only[c7_59,c7_9,c7_3,l7_2,csW,reduceCtorEq,Nat.reduceEqDiff,cw,cops,hI]
  refine keep [0,3,11] ?_
  simp only[c7_8,csW,reduceCtorEq,Nat.reduceEqDiff,cw]
  refine keep [0,3] ?_
  simp only[c7_58,c7_11,l7_10,csW,reduceCtorEq,Nat.reduceEqDiff,cw,cops]
  refine keep [0,3,4] ?_
  simp only[c7_57,c7_40,c7_13,l7_12,csW,reduceCtorEq,Nat.reduceEqDiff,cw,cops]
  refine keep [0,3,4,5] ?_
  simp only[c7_39,csW,reduceCtorEq,Nat.reduceEqDiff,cw]
  refine loop_of (ι:=Nat) (fun i=>i≤cs.length∧∀ j,j<i→cR (cs.getD j [])=0) (fun i=>⟨look [(0,.p (LS T cs)),(3,.ptr 3 0 0),(4,.slice 105 0 i),(5,.p (J i))],
   lookM [(3,⟨27,2,.box (.p (flt 0 0)),false⟩),(105,⟨47,4,.row ((tab i fun j=>qR (cs.getD j [])).map qZ),false⟩)]⟩) (fun i=>cs.length-i) 0 ⟨by omega,by omega⟩ (Sub.nilG 4 105 47 4 (by rfl) (by rfl) (by decide) (by rfl) (by rfl)) ?_
  rintro i ⟨hi,h0⟩
  by_cases h:i<cs.length
  ·have hI:(i:Int)<(cs.length:Int):=by omega
   have hlen:(cs.getD i []).length≤9223372036854775807:=hs _ (by simp[h])
   simp only[c7_37,c7_17,c7_15,l7_14,csP,cw,csW,cops,reduceCtorEq,Nat.reduceEqDiff,hI]
   refine keep [0,3,4,5,16] ?_
   simp only[c7_16,csW,reduceCtorEq,Nat.reduceEqDiff,cw]
   refine keep [0,3,4,5] ?_
   simp only[c7_36,c7_33,c7_32,c7_20,l7_18,csW,reduceCtorEq,Nat.reduceEqDiff,cw,cops,csP,hI,getD_s h]
   (repeat refine And.intro (by first | omega | (simp;omega)) ?_)
   refine⟨_,zParse (cs.getD i []) hlen,?_⟩
   simp only[l7_19,csP,cops,csW,reduceCtorEq,Nat.reduceEqDiff,Nat.reduceAdd]
   refine keep [0,3,4,5,6,7] ?_
   simp only[c7_31,c7_28,c7_22,l7_21,csW,reduceCtorEq,Nat.reduceEqDiff,cw,cops,csP,Nat.reduceAdd,Nat.reduceLeDiff]
   refine keep [0,3,4,5,6,7,29] ?_
   simp only[c7_27,csW,reduceCtorEq,Nat.reduceEqDiff,cw]
   refine⟨fun hc => ?_,fun hc => ?_⟩
   ·(try simp only[c7_26,c7_25,l7_23,cw,cops,csW,reduceIte,Nat.reduceEqDiff,reduceCtorEq,Nat.reduceAdd,Nat.reduceLT,Nat.reduceLeDiff,Nat.reduceSub,csP])
    refine⟨_,rfault_con _ _,?_⟩
    simp only[l7_24,csP,cops,csW,reduceCtorEq,Nat.reduceEqDiff,Nat.reduceAdd]
    refine keep [2,3] ?_
    simp only[Ends,resD,resL,resV,csW,reduceCtorEq,Nat.reduceEqDiff,csP,Nat.reduceAdd]
    rw[newQ_bad h201 h h0 (by simpa using hc)]
    rfl
   ·have hz:cR (cs.getD i [])=0:=by simpa using hc
    refine keep [0,3,4,5,6] ?_
    simp only[c7_30,l7_29,csW,reduceCtorEq,Nat.reduceEqDiff,cw,cops,csP,Nat.reduceLT,Nat.reduceAdd,Nat.reduceLeDiff]
    (repeat refine And.intro (by first | omega | (simp;omega)) ?_)
    refine keep [0,3,4,5] ?_
    simp only[c7_35,l7_34,csW,reduceCtorEq,Nat.reduceEqDiff,cw,cops]
    (repeat refine And.intro (by first | omega | (simp;omega)) ?_)
    exact⟨i+1,⟨by omega,fun j hj=>by
     rcases Nat.lt_or_ge j i with h' | h'
     ·exact h0 j h'
     ·rw[show j=i by omega];exact hz⟩,by rw[←tab_succ];exact (Sub.toG [0,3,4,5] [6,7,36] (by rfl) (by rfl) (by rfl) (by rfl)),by omega⟩
  ·have hI:¬ (i:Int)<(cs.length:Int):=by omega
   have hiN:i=cs.length:=by omega
   subst hiN
   simp only[c7_37,c7_17,c7_15,l7_14,csP,cw,csW,cops,reduceCtorEq,Nat.reduceEqDiff,hI]
   refine keep [0,3,4,5,16] ?_
   simp only[c7_16,csW,reduceCtorEq,Nat.reduceEqDiff,cw]
   have htk:(tab cs.length fun j=>qR (cs.getD j [])).take cs.length=(tab cs.length fun j=>qR (cs.getD j [])):=List.take_of_length_le (by rw[tab_len];omega)
   by_cases hp:0<cs.length
   ·have hpI:(0:Int)<(cs.length:Int):=by omega
    have hk:cs.length-1<(tab cs.length fun j=>qR (cs.getD j [])).length:=by rw[tab_len];omega
    have hm1:((cs.length:Int)-1).toNat=cs.length-1:=by omega
    have hcf:cf (tab cs.length fun j=>qR (cs.getD j [])) (cs.length-1)=qR (cs.getD (cs.length-1) []):=by rw[cf_tab,if_pos (by omega)]
    refine keep [3,4] ?_
    simp only[c7_56,c7_52,c7_42,l7_41,csW,reduceCtorEq,Nat.reduceEqDiff,cw,cops]
    refine keep [3,4,8] ?_
    simp only[c7_51,c7_45,l7_43,csW,Nat.reduceEqDiff,cw,cops,csP,Nat.reduceLT,hpI,hm1,getD_z hk,hcf,Nat.reduceAdd]
    (repeat refine And.intro (by first | omega | (simp;omega)) ?_)
    refine⟨_,zSign _ 4000 (qR_bq _) (by omega),?_⟩
    simp only[l7_44,cops,csW,Nat.reduceEqDiff]
    refine keep [3,4,8,50] ?_
    simp only[c7_50,csW,Nat.reduceEqDiff,cw]
    refine⟨fun hc => ?_,fun hc => ?_⟩
    ·(try simp only[c7_49,c7_48,l7_46,cw,cops,csW,reduceIte,Nat.reduceEqDiff,reduceCtorEq,Nat.reduceAdd,Nat.reduceLT,Nat.reduceLeDiff,Nat.reduceSub,csP])
     (repeat refine And.intro (by first | omega | (simp;omega)) ?_)
     refine⟨_,rfault_con 3 _,?_⟩
     simp only[l7_47,csP,cops,csW,Nat.reduceEqDiff,Nat.reduceAdd]
     refine keep [2,3] ?_
     simp only[Ends,resD,resL,resV,csW,Nat.reduceEqDiff,csP,Nat.reduceAdd]
     rw[newQ_form h201 h0 hp (sgnQ_0.1 (by simpa using hc))]
     rfl
    ·(try simp only[cw,cops,csW,reduceIte,Nat.reduceEqDiff,reduceCtorEq,Nat.reduceAdd,Nat.reduceLT,Nat.reduceLeDiff,Nat.reduceSub,csP,htk,Bool.or_true,Nat.le_refl])
     refine keep [3,4] ?_
     simp only[c7_55,c7_54,l7_53,csW,Nat.reduceEqDiff,cw,cops,csP,Nat.reduceAdd,Nat.le_refl]
     refine keep [2,3] ?_
     simp only[Ends,resD,resL,resV,csW,Nat.reduceEqDiff,Bool.or_true,csP,Nat.le_refl,htk,Nat.reduceAdd]
     rw[newQ_ok h201 h0 (fun h=>by rw[sgnQ_0.2 h.2] at hc;cases hc)]
   ·have hpI:¬ (0:Int)<(cs.length:Int):=by omega
    refine keep [3,4] ?_
    simp only[c7_56,c7_52,c7_42,l7_41,csW,reduceCtorEq,Nat.reduceEqDiff,cw,cops]
    refine keep [3,4,8] ?_
    simp only[c7_51,c7_45,l7_43,csW,Nat.reduceEqDiff,cw,cops,csP,Nat.reduceLT,hpI]
    simp only[l7_44,cops,csW,Nat.reduceEqDiff]
    refine keep [3,4,8,50] ?_
    simp only[c7_50,csW,Nat.reduceEqDiff,cw]
    refine keep [3,4] ?_
    simp only[c7_55,c7_54,l7_53,csW,Nat.reduceEqDiff,cw,cops,csP,Nat.reduceAdd,Nat.le_refl]
    refine keep [2,3] ?_
    simp only[Ends,resD,resL,resV,csW,Nat.reduceEqDiff,Bool.or_true,csP,Nat.le_refl,htk,Nat.reduceAdd]
    rw[newQ_ok h201 h0 (fun h=>by omega)]
end Go.Proofs.Ytdjbfgfbpimakaa.M
