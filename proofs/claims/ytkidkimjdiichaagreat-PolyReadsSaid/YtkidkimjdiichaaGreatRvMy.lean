/- PolyReads returns true. -/
import Derived.Test.YtkidkimjdiichaaGreatPoKy
import Derived.Test.YtkidkimjdiichaaGreatRvEy
import Derived.Test.YtkidkimjdiichaaGreatRvRy
namespace Go.Proofs.YtkidkimjdiichaaGreat.M
open Go.RowKit
set_option linter.unusedSimpArgs false
set_option linter.unusedVariables false
set_option linter.defProp false
theorem init3 (a b c : D) : init [a,b,c] = ⟨look [(0,.p a),(1,.p b),(2,.p c)],lookM []⟩:=by
 unfold init;congr 1;funext t
 match t with
 | 0 | 1 | 2 => rfl
 | t + 3 => simp [look_cons,look_nil]
set_option maxHeartbeats 8000000 in
theorem reads_tail {l : List Rat} {K e s n : Nat} (hl : In e l K) (hpb : PrB l s n) (hn : 4000 ≤ n) (hbg : n ≤ big) :
  cw [9,25,27,52,60] (Con Tryz.prog AN) c4_72 (Ends (.bool true) [(6,none)]) ⟨look [(8,.ptr 8 0 0),(10,.p (LZ l)),(16,.ptr 16 0 0),(17,.ptr 17 0 0)],
   lookM [(8,⟨25,1,.box (.p (pI l)),false⟩),(16,⟨52,4,.box (.p (qI (kQ l))),false⟩),(17,⟨25,1,.box (.p (pI (primQ l))),false⟩)]⟩:=by
 have hlen:=hl.len
 have hsn:=hpb.sn
 have bl : Bl n l:=hl.bn hn
 have hpl : (primQ l).length ≤ l.length:=scl_len l _
 have hpr : Bl n (primQ l):=hpb.prim.mono (by omega)
 have hk : Bq n (kQ l):=hpb.k.mono (by omega)
 have hback:=prim_back hl.nf
 have cK : Con Tryz.prog AN 47 [pI (primQ l),qI (kQ l)] (pI l):=by
  have:=scale_con (primQ l) (kQ l) n hpr hk (fun i => (hpb.prim i |>.mul hpb.k).mono (by omega)) hbg (by omega)
  rwa [hback] at this
 have cS:=same_con l l hl.nf hl.nf n bl bl (fun i => by rw [show cf l i - cf l i = 0 by grind];exact Bq.zero n (by omega)) hbg (by omega) (by omega) (by omega)
 by_cases h0 : l = []
 ·subst h0
  have hs0 : sgnQ (kQ []) = 0:=sgnQ_0.2 kQ_nil
  simp only [c4_72,c4_71,l4_65,csW,cw,cops,Nat.reduceEqDiff,csP]
  refine ⟨_,pprim_con [] s n hpb hbg,?_⟩
  simp only [l4_66,cops,csW,Nat.reduceEqDiff]
  refine ⟨_,is_con (primQ []) n hpr hbg (by omega),?_⟩
  simp only [l4_67,cops,csW,csP,Nat.reduceLT,Nat.reduceEqDiff,Nat.reduceAdd]
  refine ⟨_,cK,?_⟩
  simp only [l4_68,cops,csW,Nat.reduceEqDiff,csP]
  refine ⟨_,cS,?_⟩
  simp only [l4_69,csW,cops,csP,Nat.reduceLT,Nat.reduceEqDiff,Int.lt_irrefl,Nat.reduceAdd]
  refine ⟨_,qSign (kQ []) n hk hbg,?_⟩
  simp only [l4_70,hs0,cops,csW,Nat.reduceEqDiff]
  refine keep [6] ?_
  simp only [Ends,resD,resL,resV,csW,Nat.reduceEqDiff]
 ·have hI : (0 : Int) < (l.length : Int):=by have:=List.length_pos_iff.2 h0;omega
  simp only [c4_72,c4_71,l4_65,csW,cw,cops,Nat.reduceEqDiff,csP]
  refine ⟨_,pprim_con l s n hpb hbg,?_⟩
  simp only [l4_66,cops,csW,Nat.reduceEqDiff]
  refine ⟨_,is_con (primQ l) n hpr hbg (by omega),?_⟩
  simp only [l4_67,cops,csW,csP,Nat.reduceLT,Nat.reduceEqDiff,Nat.reduceAdd]
  refine ⟨_,cK,?_⟩
  simp only [l4_68,cops,csW,Nat.reduceEqDiff,csP]
  refine ⟨_,cS,?_⟩
  simp only [l4_69,csW,cops,csP,Nat.reduceLT,Nat.reduceEqDiff,hI,Nat.reduceAdd]
  simp only [l4_70,cops,csW,Nat.reduceEqDiff]
  refine keep [6] ?_
  simp only [Ends,resD,resL,resV,csW,Nat.reduceEqDiff]
set_option maxHeartbeats 8000000 in
theorem reads_main (T : Nat) (cs : List (List UInt8)) (i : Int) (t : List UInt8) (hcs : cs.length * 16 ≤ 140737488355328) (hs : ∀ t ∈ cs,t.length ≤ 9223372036854775807) (ht : t.length ≤ 140737488355328) :
  Con Tryz.prog AN 4 [LS T cs,J i,.str t] (.bool true):=by
 obtain ⟨e,he⟩ : ∃ e : Nat,e = 808000:=⟨_,rfl⟩
 obtain ⟨m,hm⟩ : ∃ m : Nat,m = 4000:=⟨_,rfl⟩
 obtain ⟨s,hsm⟩ : ∃ s : Nat,s = 900000:=⟨_,rfl⟩
 obtain ⟨n,hn⟩ : ∃ n : Nat,n = 400000000:=⟨_,rfl⟩
 have hbg : n ≤ big:=by subst hn;decide
 obtain ⟨K,hl⟩:=newQ_in cs (e:=e) (by omega)
 have na:=new_con 9 cs (by omega) hs
 have pa:=pread_con T cs (by omega) hs
 generalize newQ cs = qa at hl na pa
 obtain ⟨l,c1,i1⟩:=qa
 replace na : Con Tryz.prog AN 13 [LS 9 cs] (.tup [pI l,flt c1 i1]):=na
 replace pa : Con Tryz.prog AN 14 [LS T cs] (.tup [LZ l,flt c1 i1]):=pa
 replace hl : In e l K:=hl
 have hlen:=hl.len
 have bl : Bl n l:=hl.bn (by omega)
 have bm : Bl m l:=by rw [hm];exact hl.bl
 have hx : Bq m (qR t):=by rw [hm];exact qR_bq t
 have hxn : Bq n (qR t):=hx.mono (by omega)
 have hxx : ∀ i,Bq n (cf l i * qR t):=fun i => ((bm i).mul hx).mono (by omega)
 have hsl:=scl_len l (qR t)
 have hev:=hl.ev hx (n:=n) (by omega) (by omega) (by omega)
 have hpb:=prB (s:=s) (n:=n) hl.nf bm hlen (by omega) (by omega) (by omega)
 have hpl : (primQ l).length ≤ l.length:=scl_len l _
 have hpr : Bl n (primQ l):=hpb.prim.mono (by omega)
 have hback:=prim_back hl.nf
 have hml:=mon_len l
 have hdl:=der_len l
 have hld : Bq n (ld l):=bl _
 have hci : Bq n (cfZ l i):=by unfold cfZ;split;exact bl _;exact Bq.zero n (by omega)
 have htl : l.length * t.length ≤ 201 * 140737488355328:=Nat.mul_le_mul hlen ht
 have ec : (l.length : Int) * (t.length : Int) = ((l.length * t.length : Nat) : Int):=(Int.natCast_mul _ _).symm
 have hmon : Bl n (monQ l):=(mon_bl bm).mono (by omega)
 have hder : Bl n (derQ l):=(der_bl bm (by omega)).mono (by omega)
 have hsc : Bl n (sclQ l (qR t)):=fun i => by rw [cf_scl];exact hxx i
 have hevd : Bq n (evQ l (qR t)):=hev.d 0
 refine fn4.con rfl (by simp) ?_
 simp only [c4,c4_82,c4_1,l4_0,init3,cw,csW,cops,reduceCtorEq,Nat.reduceEqDiff]
 refine keep [0,1,2] ?_
 simp only [c4_81,c4_3,l4_2,csW,reduceCtorEq,Nat.reduceEqDiff,cw,cops]
 (repeat refine And.intro (by first | omega | (simp;omega)) ?_)
 refine keepF 19 _ [0,1,2,7] (by rfl) ?_
 simp only [c4_80,c4_6,l4_4,csW,reduceCtorEq,Nat.reduceEqDiff,cw,cops,csP]
 refine ⟨_,na,?_⟩
 simp only [l4_5,csP,cops,csW,reduceCtorEq,Nat.reduceEqDiff,Nat.reduceAdd]
 refine keep [0,1,2,7,8,9] ?_
 simp only [c4_79,c4_9,l4_7,csW,reduceCtorEq,Nat.reduceEqDiff,cw,cops]
 refine ⟨_,pa,?_⟩
 simp only [l4_8,csP,cops,csW,reduceCtorEq,Nat.reduceEqDiff,Nat.reduceAdd]
 refine keep [0,1,2,7,8,9,10,11] ?_
 simp only [c4_78,c4_20,c4_15,l4_10,csW,reduceCtorEq,Nat.reduceEqDiff,cw,cops]
 refine ⟨_,begun_con,?_⟩
 simp only [l4_11,cops,csW,csP,Nat.reduceLT,reduceCtorEq,Nat.reduceEqDiff,Nat.reduceAdd,intsOf]
 refine ⟨_,sameTexts_con _ _ cs cs (by omega) (by omega),?_⟩
 simp only [l4_12,csW,cops,csP,reduceCtorEq,Nat.reduceEqDiff]
 refine ⟨_,is_con l n bl hbg (by omega),?_⟩
 simp only [l4_13,cops,csW,csP,reduceCtorEq,Nat.reduceEqDiff]
 refine ⟨_,degree_con l (by omega),?_⟩
 simp only [l4_14,cops,csW,reduceCtorEq,Nat.reduceEqDiff]
 (repeat refine And.intro (by first | omega | (simp;omega)) ?_)
 refine keep [1,2,8,10,56] ?_
 simp only [c4_19,csW,reduceCtorEq,Nat.reduceEqDiff,cw]
 refine keep [1,2,8,10] ?_
 simp only [c4_77,c4_41,c4_36,l4_21,csW,Nat.reduceEqDiff,cw,cops,csP]
 refine ⟨_,at_con l i,?_⟩
 simp only [l4_22,cops,csW,Nat.reduceEqDiff]
 refine ⟨_,qText (cfZ l i) n hci hbg,?_⟩
 simp only [l4_23,cops,csW,Nat.reduceEqDiff]
 refine ⟨_,pat_con l i,?_⟩
 simp only [l4_24,cops,csW,Nat.reduceEqDiff]
 refine ⟨_,zText (cfZ l i) n hci hbg,?_⟩
 simp only [l4_25,cops,csW,csP,Nat.reduceEqDiff]
 refine ⟨_,lead_con l (by omega),?_⟩
 simp only [l4_26,cops,csW,Nat.reduceEqDiff]
 refine ⟨_,qText (ld l) n hld hbg,?_⟩
 simp only [l4_27,cops,csW,Nat.reduceEqDiff]
 refine ⟨_,plead_con l (by omega),?_⟩
 simp only [l4_28,cops,csW,Nat.reduceEqDiff]
 refine ⟨_,zText (ld l) n hld hbg,?_⟩
 simp only [l4_29,cops,csW,csP,Nat.reduceEqDiff]
 refine ⟨_,monic_con l m n hl.nf bm (by omega) (by omega) hbg (by omega),?_⟩
 simp only [l4_30,cops,csW,Nat.reduceEqDiff]
 refine ⟨_,pmonic_con l m n hl.nf bm (by omega) (by omega) hbg (by omega),?_⟩
 simp only [l4_31,cops,csW,Nat.reduceEqDiff]
 refine ⟨_,is_con (monQ l) n hmon hbg (by omega),?_⟩
 simp only [l4_32,cops,csW,csP,Nat.reduceEqDiff]
 refine ⟨_,derive_con l m n bm (by omega) hbg (by omega),?_⟩
 simp only [l4_33,cops,csW,Nat.reduceEqDiff]
 refine ⟨_,pderive_con l m n bm (by omega) hbg (by omega),?_⟩
 simp only [l4_34,cops,csW,Nat.reduceEqDiff]
 refine ⟨_,is_con (derQ l) n hder hbg (by omega),?_⟩
 simp only [l4_35,cops,csW,Nat.reduceEqDiff]
 refine keep [2,8,10,90] ?_
 simp only [c4_40,csW,Nat.reduceEqDiff,cw]
 refine keep [2,8,10] ?_
 simp only [c4_76,c4_44,l4_42,csW,Nat.reduceEqDiff,cw,cops]
 refine ⟨_,qParse t (by omega),?_⟩
 simp only [l4_43,csP,cops,csW,Nat.reduceEqDiff,Nat.reduceAdd]
 refine keep [2,8,10,12] ?_
 simp only [c4_75,c4_47,l4_45,csW,Nat.reduceEqDiff,cw,cops]
 refine ⟨_,zParse t (by omega),?_⟩
 simp only [l4_46,csP,cops,csW,Nat.reduceEqDiff,Nat.reduceAdd]
 refine keep [2,8,10,12,14] ?_
 simp only [c4_74,c4_50,l4_48,csW,Nat.reduceEqDiff,cw,cops,csP]
 by_cases hq : l.length * t.length < 2000
 ·have hqI : ((l.length * t.length : Nat) : Int) < 2000:=by omega
  refine ⟨_,prim_con l s n hpb hbg,?_⟩
  simp only [l4_49,csP,cops,csW,Nat.reduceEqDiff,Nat.reduceAdd]
  refine keep [2,8,10,12,14,16,17] ?_
  simp only [c4_73,c4_64,c4_59,l4_51,csW,Nat.reduceEqDiff,cw,cops,csP,Nat.reduceLT,ec,hqI,Nat.reduceAdd]
  (repeat refine And.intro (by first | omega | (simp;omega)) ?_)
  refine ⟨_,eval_con l (qR t) n hev hbg,?_⟩
  simp only [l4_52,cops,csW,Nat.reduceEqDiff]
  refine ⟨_,qText _ n hevd hbg,?_⟩
  simp only [l4_53,cops,csW,Nat.reduceEqDiff,csP,Nat.reduceAdd]
  refine ⟨_,peval_con l (qR t) n hev hbg,?_⟩
  simp only [l4_54,cops,csW,Nat.reduceEqDiff]
  refine ⟨_,zText _ n hevd hbg,?_⟩
  simp only [l4_55,cops,csW,csP,Nat.reduceLT,Nat.reduceEqDiff,Nat.reduceAdd]
  refine ⟨_,scale_con l (qR t) n bl hxn hxx hbg (by omega),?_⟩
  simp only [l4_56,cops,csW,Nat.reduceEqDiff,csP,Nat.reduceAdd]
  refine ⟨_,pscale_con l (qR t) n bl hxn hxx hbg (by omega),?_⟩
  simp only [l4_57,cops,csW,Nat.reduceEqDiff]
  refine ⟨_,is_con (sclQ l (qR t)) n hsc hbg (by omega),?_⟩
  simp only [l4_58,cops,csW,Nat.reduceEqDiff]
  refine keep [8,10,16,17,132] ?_
  simp only [c4_63,csW,Nat.reduceEqDiff,cw]
  exact ⟨_,(Sub.toG [8,10,16,17] [9,11,12,13,14,15,19] (by rfl) (by rfl) (by rfl) (by rfl)),reads_tail hl hpb (by omega) hbg⟩
 ·have hqI : ¬ ((l.length * t.length : Nat) : Int) < 2000:=by omega
  refine ⟨_,prim_con l s n hpb hbg,?_⟩
  simp only [l4_49,csP,cops,csW,Nat.reduceEqDiff,Nat.reduceAdd]
  refine keep [2,8,10,12,14,16,17] ?_
  simp only [c4_73,c4_64,c4_59,l4_51,csW,Nat.reduceEqDiff,cw,cops,csP,Nat.reduceLT,ec,hqI,Nat.reduceAdd]
  (repeat refine And.intro (by first | omega | (simp;omega)) ?_)
  simp only [l4_52,cops,csW,Nat.reduceEqDiff]
  simp only [l4_53,cops,csW,Nat.reduceEqDiff,csP,Nat.reduceAdd]
  simp only [l4_54,cops,csW,Nat.reduceEqDiff]
  simp only [l4_55,cops,csW,csP,Nat.reduceLT,Nat.reduceEqDiff,Nat.reduceAdd]
  refine ⟨_,scale_con l (qR t) n bl hxn hxx hbg (by omega),?_⟩
  simp only [l4_56,cops,csW,Nat.reduceEqDiff,csP,Nat.reduceAdd]
  refine ⟨_,pscale_con l (qR t) n bl hxn hxx hbg (by omega),?_⟩
  simp only [l4_57,cops,csW,Nat.reduceEqDiff]
  refine ⟨_,is_con (sclQ l (qR t)) n hsc hbg (by omega),?_⟩
  simp only [l4_58,cops,csW,Nat.reduceEqDiff]
  refine keep [8,10,16,17,132] ?_
  simp only [c4_63,csW,Nat.reduceEqDiff,cw]
  exact ⟨_,(Sub.toG [8,10,16,17] [9,11,12,13,14,15,19] (by rfl) (by rfl) (by rfl) (by rfl)),reads_tail hl hpb (by omega) hbg⟩
end Go.Proofs.YtkidkimjdiichaaGreat.M
