/- PolyParts returns true. PolyParts returns true: from its beginning. -/
import Derived.Test.YtkidkimjdiichaaGreatPaDw
section
namespace Go.Proofs.YtkidkimjdiichaaGreat.M
open Go.RowKit
set_option linter.unusedSimpArgs false
set_option linter.unusedVariables false
set_option linter.defProp false
theorem text_len {t:List UInt8} (h:cR t=0):t.length≤2002:=by
 unfold cR at h
 have hb:∀ u:List UInt8,(body u).length≤1000→u.length≤1001:=fun u hu=>by
  rw[body_length] at hu
  split at hu<;>omega
 unfold fracR at h
 split at h
 ·rename_i g1
  split at h
  ·split at h
   ·rename_i g3
    have h1:=hb _ g3.1
    have h2:=g3.2
    rw[List.length_take] at h1
    rw[List.length_drop] at h2
    omega
   ·simp at h
  ·simp at h
 ·split at h
  ·split at h
   ·rename_i g3
    have:=hb _ g3
    omega
   ·simp at h
  ·simp at h
theorem tot_le {cs:List (List UInt8)} {B:Nat} (h:∀ t∈cs,t.length≤B):tot cs≤cs.length*B:=by
 induction cs with
 | nil=>simp[tot]
 | cons t l ih =>
  have h1:=ih fun u hu=>h u (by simp[hu])
  have h2:=h t (by simp)
  rw[tot,List.length_cons,Nat.succ_mul];omega
theorem newQ_tot {cs:List (List UInt8)} (h:(newQ cs).1≠[]):(newQ cs).1.length=cs.length∧tot cs≤cs.length*2002:=by
 unfold newQ at h ⊢
 split at h
 ·simp at h
 ·rename_i g1
  split at h
  ·simp at h
  ·rename_i g2
   split at h
   ·simp at h
   ·rename_i g3
    rw[if_neg g1,if_neg g2,if_neg g3]
    refine⟨tab_len _ _,tot_le fun t ht=>text_len ?_⟩
    refine Classical.byContradiction fun hc=>g2 ?_
    exact List.findIdx_lt_length_of_exists ⟨t,ht,by simpa using hc⟩
theorem copsC (G:FuncId→List D→D→Prop) (c:COp) (l:List COp) (K:St→Prop) (s:St):cops G (c::l) K s=gstep G c (cops G l K) s:=rfl
theorem copsN (G:FuncId→List D→D→Prop) (K:St→Prop) (s:St):cops G [] K s=K s:=rfl
set_option maxRecDepth 100000 in
set_option maxHeartbeats 8000000 in
theorem parts_tail {P:List Rat} {n:Nat} (h:P14 P n) {R:List (List Rat × Nat)} (hR:Pts P R) (h14:R.length≤14) :
  cw [25,27,52,60] (Con Tryz.prog AN) c5_93 (Ends (.bool true) [(2,none)]) ⟨look [(5,.p (LZ P)),(7,.ptr 7 0 0),(8,.p (.list 83 2 (R.map apart))),(9,.ptr 9 0 0)],
   lookM [(7,⟨52,4,.box (.p (qI (ld P))),false⟩),(9,⟨27,2,.box (.p (flt 0 0)),false⟩)]⟩:=by
 have hn:=h.nn
 have hl:=h.len
 have hlP:Bq n (ld P):=h.sz.ld.mono (by omega)
 obtain⟨e1,e2,d,e3,e4⟩:=end14 h hR h14
 skip
 simp only[c5_93,c5_38,l5_36,csW,csP,cw,cops,Nat.reduceEqDiff]
 refine⟨_,plead_con P (by omega),?_⟩
 simp only[l5_37,cops,csW,Nat.reduceEqDiff,csP,Nat.reduceAdd]
 refine keep [5,7,8,9,10] ?_
 simp only[c5_92,c5_41,l5_39,csW,Nat.reduceEqDiff,cw,cops]
 refine⟨_,fof_con 1 (by omega),?_⟩
 simp only[l5_40,rat_one,cops,csW,Nat.reduceEqDiff,csP,Nat.reduceAdd]
 refine keep [5,7,8,9,10,11] ?_
 simp only[c5_91,c5_81,c5_43,l5_42,csW,Nat.reduceEqDiff,cw,cops]
 refine keep [5,7,8,9,10,11,12] ?_
 simp only[c5_80,csW,Nat.reduceEqDiff,cw]
 refine loop_of (ι:=Nat) (fun i=>i≤R.length) (fun i=>⟨look [(5,.p (LZ P)),(7,.ptr 7 0 0),(8,.p (.list 83 2 (R.map apart))),(9,.ptr 9 0 0),(10,.p (LZ (allL (ld P) R i))),(11,.p (LZ (onceL R i))),(12,.p (J i))],
  lookM [(7,⟨52,4,.box (.p (qI (ld P))),false⟩),(9,⟨27,2,.box (.p (flt 0 0)),false⟩)]⟩) (fun i=>R.length-i) 0 (by omega) ((Sub.showG 10 61 _ (LZ [ld P]) rfl rfl).tr ((Sub.showG 11 63 _ (LZ [1]) rfl rfl).tr (Sub.toG [5,7,8,9,10,11,12] [3,4,6,14,61,63] (by rfl) (by rfl) (by rfl) (by rfl)))) ?_
 rintro i hi
 by_cases hlt:i<R.length
 ·have hI:(i:Int)<(R.length:Int):=by omega
  obtain⟨⟨y,N⟩,hp⟩:∃ p,R.getD i ([],0)=p:=⟨_,rfl⟩
  obtain⟨c1,c2,c3,c4,c5,c6,y2,N1,N13⟩:=round14 h hR hlt (by omega) hp
  have hm:(y,N)∈R:=by rw[←hp];exact mem_getD hlt
  have hNP:=(hR.ps _ hm).2.2.2.2.1
  simp only at hNP
  have hg:(R.map apart).getD i default = .agg [LS 9 (txts y),J N]:=by rw[getD_apart hlt,hp]
  have hN1:¬ (N:Int)<1:=by omega
  have hN2:¬ (P.length:Int)<(N:Int):=by omega
  have hy2:¬ (y.length:Int)<2:=by omega
  by_cases hi0:i=0
  ·have hz:¬ (0:Int)<(i:Int):=by omega
   simp only[c5_78,c5_47,c5_45,l5_44,csP,cw,csW,cops,Nat.reduceEqDiff,hI]
   refine keep [5,7,8,9,10,11,12,67] ?_
   simp only[c5_46,csW,Nat.reduceEqDiff,cw]
   refine keep [5,7,8,9,10,11,12] ?_
   simp only[c5_77,c5_74,c5_73,c5_50,l5_48,csW,Nat.reduceEqDiff,cw,cops,csP,hI,hg]
   (repeat refine And.intro (by first | omega | (simp;omega)) ?_)
   refine⟨_,c1,?_⟩
   simp only[l5_49,csP,cops,csW,Nat.reduceEqDiff,Nat.reduceAdd]
   refine keep [5,7,8,9,10,11,12,13,14] ?_
   simp only[c5_72,c5_63,c5_58,csW,Nat.reduceEqDiff,cw]
   (try rw[cops_app])
   unfold l5_51
   repeat (rw[copsC];(try simp only[cw,csW,reduceIte,Nat.reduceEqDiff,reduceCtorEq,Nat.reduceAdd,Nat.reduceLT,Nat.reduceLeDiff,Nat.reduceSub,csP,intsOf,Option.map_some,List.length_cons,List.length_nil,beq_self_eq_true,Bool.not_true,Bool.not_false,hy2,hg,decide_false]);(repeat refine And.intro (by first | omega | (simp;omega)) ?_))
   (try rw[copsN])
   simp only[l5_52,csW,cops,Nat.reduceEqDiff]
   refine⟨_,c2,?_⟩
   simp only[l5_53,cops,csW,Nat.reduceEqDiff]
   refine⟨_,c3,?_⟩
   (try rw[cops_app])
   unfold l5_54
   repeat (rw[copsC];(try simp only[cw,csW,reduceIte,Nat.reduceEqDiff,reduceCtorEq,Nat.reduceAdd,Nat.reduceLT,Nat.reduceLeDiff,Nat.reduceSub,csP,intsOf,Option.map_some,List.length_cons,List.length_nil,beq_self_eq_true,Bool.not_true,Bool.not_false,hg,hN1,hN2,hz,decide_false,List.length_map]);(repeat refine And.intro (by first | omega | (simp;omega)) ?_))
   (try rw[copsN])
   (try rw[cops_app])
   unfold l5_55
   repeat (rw[copsC];(try simp only[cw,csW,reduceIte,Nat.reduceEqDiff,reduceCtorEq,Nat.reduceAdd,Nat.reduceLT,Nat.reduceLeDiff,Nat.reduceSub,csP,intsOf,Option.map_some,List.length_cons,List.length_nil,beq_self_eq_true,Bool.not_true,Bool.not_false,hg,hN1,hN2,hz,decide_false,List.length_map]);(repeat refine And.intro (by first | omega | (simp;omega)) ?_))
   (try rw[copsN])
   (try rw[cops_app])
   unfold l5_56
   repeat (rw[copsC];(try simp only[cw,csW,reduceIte,Nat.reduceEqDiff,reduceCtorEq,Nat.reduceAdd,Nat.reduceLT,Nat.reduceLeDiff,Nat.reduceSub,csP,intsOf,Option.map_some,List.length_cons,List.length_nil,beq_self_eq_true,Bool.not_true,Bool.not_false,hg,hN1,hN2,hz,decide_false,List.length_map]);(repeat refine And.intro (by first | omega | (simp;omega)) ?_))
   (try rw[copsN])
   (try rw[cops_app])
   unfold l5_57
   repeat (rw[copsC];(try simp only[cw,csW,reduceIte,Nat.reduceEqDiff,reduceCtorEq,Nat.reduceAdd,Nat.reduceLT,Nat.reduceLeDiff,Nat.reduceSub,csP,intsOf,Option.map_some,List.length_cons,List.length_nil,beq_self_eq_true,Bool.not_true,Bool.not_false,hg,hN1,hN2,hz,decide_false,List.length_map]);(repeat refine And.intro (by first | omega | (simp;omega)) ?_))
   (try rw[copsN])
   refine keep [5,7,8,9,10,11,12,13,129] ?_
   simp only[c5_62,csW,Nat.reduceEqDiff,cw]
   refine keep [5,7,8,9,10,11,12,13] ?_
   simp only[c5_71,c5_67,l5_64,csW,Nat.reduceEqDiff,cw,cops,csP,Nat.reduceAdd,hg]
   (repeat refine And.intro (by first | omega | (simp;omega)) ?_)
   refine⟨_,c4,?_⟩
   simp only[l5_65,cops,csW,Nat.reduceEqDiff]
   refine⟨_,c5,?_⟩
   simp only[l5_66,cops,csW,Nat.reduceEqDiff]
   refine keep [5,7,8,9,10,11,12,13] ?_
   simp only[c5_70,l5_68,csW,Nat.reduceEqDiff,cw,cops]
   refine⟨_,c6,?_⟩
   simp only[l5_69,cops,csW,Nat.reduceEqDiff]
   refine keep [5,7,8,9,10,11,12] ?_
   simp only[c5_76,l5_75,csW,Nat.reduceEqDiff,cw,cops]
   (repeat refine And.intro (by first | omega | (simp;omega)) ?_)
   exact⟨i+1,by omega,(Sub.toG [5,7,8,9,10,11,12] [3,4,6,14,61,63] (by rfl) (by rfl) (by rfl) (by rfl)),by omega⟩
  ·have hz:(0:Int)<(i:Int):=by omega
   have hit:((i:Int)-1).toNat=i-1:=by omega
   obtain⟨⟨y',N'⟩,hp'⟩:∃ p,R.getD (i-1) ([],0)=p:=⟨_,rfl⟩
   have hg':(R.map apart).getD (i-1) default = .agg [LS 9 (txts y'),J N']:=by rw[getD_apart (by omega),hp']
   have hNN:¬ (N:Int)≤(N':Int):=by
    have h1:=List.pairwise_iff_getElem.1 hR.inc (i-1) i (by omega) hlt (by omega)
    have e1:R[i-1]=(y',N'):=by rw[←hp'];simp[show i-1<R.length by omega]
    have e2:R[i]=(y,N):=by rw[←hp];simp[hlt]
    rw[e1,e2] at h1
    simp only at h1
    omega
   simp only[c5_78,c5_47,c5_45,l5_44,csP,cw,csW,cops,Nat.reduceEqDiff,hI]
   refine keep [5,7,8,9,10,11,12,67] ?_
   simp only[c5_46,csW,Nat.reduceEqDiff,cw]
   refine keep [5,7,8,9,10,11,12] ?_
   simp only[c5_77,c5_74,c5_73,c5_50,l5_48,csW,Nat.reduceEqDiff,cw,cops,csP,hI,hg]
   (repeat refine And.intro (by first | omega | (simp;omega)) ?_)
   refine⟨_,c1,?_⟩
   simp only[l5_49,csP,cops,csW,Nat.reduceEqDiff,Nat.reduceAdd]
   refine keep [5,7,8,9,10,11,12,13,14] ?_
   simp only[c5_72,c5_63,c5_58,csW,Nat.reduceEqDiff,cw]
   (try rw[cops_app])
   unfold l5_51
   repeat (rw[copsC];(try simp only[cw,csW,reduceIte,Nat.reduceEqDiff,reduceCtorEq,Nat.reduceAdd,Nat.reduceLT,Nat.reduceLeDiff,Nat.reduceSub,csP,intsOf,Option.map_some,List.length_cons,List.length_nil,beq_self_eq_true,Bool.not_true,Bool.not_false,hy2,hg,decide_false]);(repeat refine And.intro (by first | omega | (simp;omega)) ?_))
   (try rw[copsN])
   simp only[l5_52,csW,cops,Nat.reduceEqDiff]
   refine⟨_,c2,?_⟩
   simp only[l5_53,cops,csW,Nat.reduceEqDiff]
   refine⟨_,c3,?_⟩
   (try rw[cops_app])
   unfold l5_54
   repeat (rw[copsC];(try simp only[cw,csW,reduceIte,Nat.reduceEqDiff,reduceCtorEq,Nat.reduceAdd,Nat.reduceLT,Nat.reduceLeDiff,Nat.reduceSub,csP,intsOf,Option.map_some,List.length_cons,List.length_nil,beq_self_eq_true,Bool.not_true,Bool.not_false,hg,hN1,hN2,hz,hit,hg',hNN,decide_false,decide_true,List.length_map]);(repeat refine And.intro (by first | omega | (simp;omega)) ?_))
   (try rw[copsN])
   (try rw[cops_app])
   unfold l5_55
   repeat (rw[copsC];(try simp only[cw,csW,reduceIte,Nat.reduceEqDiff,reduceCtorEq,Nat.reduceAdd,Nat.reduceLT,Nat.reduceLeDiff,Nat.reduceSub,csP,intsOf,Option.map_some,List.length_cons,List.length_nil,beq_self_eq_true,Bool.not_true,Bool.not_false,hg,hN1,hN2,hz,hit,hg',hNN,decide_false,decide_true,List.length_map]);(repeat refine And.intro (by first | omega | (simp;omega)) ?_))
   (try rw[copsN])
   (try rw[cops_app])
   unfold l5_56
   repeat (rw[copsC];(try simp only[cw,csW,reduceIte,Nat.reduceEqDiff,reduceCtorEq,Nat.reduceAdd,Nat.reduceLT,Nat.reduceLeDiff,Nat.reduceSub,csP,intsOf,Option.map_some,List.length_cons,List.length_nil,beq_self_eq_true,Bool.not_true,Bool.not_false,hg,hN1,hN2,hz,hit,hg',hNN,decide_false,decide_true,List.length_map]);(repeat refine And.intro (by first | omega | (simp;omega)) ?_))
   (try rw[copsN])
   (try rw[cops_app])
   unfold l5_57
   repeat (rw[copsC];(try simp only[cw,csW,reduceIte,Nat.reduceEqDiff,reduceCtorEq,Nat.reduceAdd,Nat.reduceLT,Nat.reduceLeDiff,Nat.reduceSub,csP,intsOf,Option.map_some,List.length_cons,List.length_nil,beq_self_eq_true,Bool.not_true,Bool.not_false,hg,hN1,hN2,hz,hit,hg',hNN,decide_false,decide_true,List.length_map]);(repeat refine And.intro (by first | omega | (simp;omega)) ?_))
   (try rw[copsN])
   refine keep [5,7,8,9,10,11,12,13,129] ?_
   simp only[c5_62,csW,Nat.reduceEqDiff,cw]
   refine keep [5,7,8,9,10,11,12,13] ?_
   simp only[c5_71,c5_67,l5_64,csW,Nat.reduceEqDiff,cw,cops,csP,Nat.reduceAdd,hg]
   (repeat refine And.intro (by first | omega | (simp;omega)) ?_)
   refine⟨_,c4,?_⟩
   simp only[l5_65,cops,csW,Nat.reduceEqDiff]
   refine⟨_,c5,?_⟩
   simp only[l5_66,cops,csW,Nat.reduceEqDiff]
   refine keep [5,7,8,9,10,11,12,13] ?_
   simp only[c5_70,l5_68,csW,Nat.reduceEqDiff,cw,cops]
   refine⟨_,c6,?_⟩
   simp only[l5_69,cops,csW,Nat.reduceEqDiff]
   refine keep [5,7,8,9,10,11,12] ?_
   simp only[c5_76,l5_75,csW,Nat.reduceEqDiff,cw,cops]
   (repeat refine And.intro (by first | omega | (simp;omega)) ?_)
   exact⟨i+1,by omega,(Sub.toG [5,7,8,9,10,11,12] [3,4,6,14,61,63] (by rfl) (by rfl) (by rfl) (by rfl)),by omega⟩
 ·have hI:¬ (i:Int)<(R.length:Int):=by omega
  obtain rfl:i=R.length:=by omega
  have hd2:(d.length:Int)<2:=by omega
  simp only[c5_78,c5_47,c5_45,l5_44,csP,cw,csW,cops,Nat.reduceEqDiff,hI]
  refine keep [5,7,8,9,10,11,12,67] ?_
  simp only[c5_46,csW,Nat.reduceEqDiff,cw]
  refine keep [5,7,9,10,11] ?_
  simp only[c5_90,c5_89,csW,Nat.reduceEqDiff,cw]
  (try rw[cops_app])
  unfold l5_82
  repeat (rw[copsC];(try simp only[cw,csW,reduceIte,Nat.reduceEqDiff,reduceCtorEq,Nat.reduceAdd,Nat.reduceLT,Nat.reduceLeDiff,Nat.reduceSub,csP,intsOf,Option.map_some,List.length_cons,List.length_nil,beq_self_eq_true,Bool.not_true,Bool.not_false,hI]);(repeat refine And.intro (by first | omega | (simp;omega)) ?_))
  simp only[cops,csW]
  refine⟨_,qText (ld P) n hlP h.bg,?_⟩
  simp only[l5_83,cops,csW,Nat.reduceEqDiff]
  refine⟨_,plead_con P (by omega),?_⟩
  simp only[l5_84,cops,csW,Nat.reduceEqDiff]
  refine⟨_,zText (ld P) n hlP h.bg,?_⟩
  (try rw[cops_app])
  unfold l5_85
  repeat (rw[copsC];(try simp only[cw,csW,reduceIte,Nat.reduceEqDiff,reduceCtorEq,Nat.reduceAdd,Nat.reduceLT,Nat.reduceLeDiff,Nat.reduceSub,csP,intsOf,Option.map_some,List.length_cons,List.length_nil,beq_self_eq_true,Bool.not_true,Bool.not_false]);(repeat refine And.intro (by first | omega | (simp;omega)) ?_))
  simp only[cops,csW]
  refine⟨_,e1,?_⟩
  simp only[l5_86,cops,csW,Nat.reduceEqDiff]
  refine⟨_,e2,?_⟩
  simp only[l5_87,cops,csW,Nat.reduceEqDiff]
  refine⟨_,e3,?_⟩
  simp only[l5_88,cops,csW,Nat.reduceEqDiff,hd2]
  refine keep [2] ?_
  simp only[Ends,resD,resL,resV,csW,Nat.reduceEqDiff]
end Go.Proofs.YtkidkimjdiichaaGreat.M
end

section
namespace Go.Proofs.YtkidkimjdiichaaGreat.M
open Go.RowKit
set_option linter.unusedSimpArgs false
set_option linter.unusedVariables false
set_option linter.defProp false
theorem pts_len {P:List Rat} (nP:Nf P) (hP0:P≠[]) {e:Nat} (hP:Sz e P) (hL:P.length≤201):(partsQ P).length≤P.length:=by
 obtain⟨k,r,b,c,a,h,hb⟩:=yun_end nP hP0 hP hL P.length 0 _ _ _ _ [] (Nat.le_refl _) (Ys.start nP hP0 hP hL (gcdQ_spec nP (der_nf P)))
 have h1:=h.ll
 have h2:=h.kr
 show (yun P.length 0 (quoQ P (gcdQ P (derQ P))) (quoQ (derQ P) (gcdQ P (derQ P))) []).length≤_
 omega
set_option maxHeartbeats 8000000 in
theorem parts_main (T:Nat) (a:List (List UInt8)) (ha:a.length≤9223372036854775807) (hsa:∀ t∈a,t.length≤9223372036854775807) :
  Con Tryz.prog AN 5 [LS T a] (.bool true):=by
 obtain⟨e,he⟩:∃ e:Nat,e=808000:=⟨_,rfl⟩
 obtain⟨n,hn⟩:∃ n:Nat,n=540000000000:=⟨_,rfl⟩
 have hbg:n≤big:=by subst hn;decide
 have hs:SP e n:=⟨by omega,by omega,hbg⟩
 obtain⟨K,hl⟩:=newQ_in a (e:=e) (by omega)
 have na:=new_con T a ha hsa
 have pa:=pread_con T a ha hsa
 have hsz:tot a≤600→Sz 2000 (newQ a).1:=fun h=>(newQ_sz (cs:=a) (k:=200) (by omega)).mono (by omega)
 have htot:=newQ_tot (cs:=a)
 generalize newQ a=qa at hl na pa hsz htot
 obtain⟨l,c1,i1⟩:=qa
 replace na:Con Tryz.prog AN 13 [LS T a] (.tup [pI l,flt c1 i1]):=na
 replace pa:Con Tryz.prog AN 14 [LS T a] (.tup [LZ l,flt c1 i1]):=pa
 replace hl:In e l K:=hl
 replace hsz:tot a≤600→Sz 2000 l:=hsz
 replace htot:l≠[]→l.length=a.length∧tot a≤a.length*2002:=htot
 have h1:=hl.len
 have sl:Sz e l:=⟨K,hl.k,hl.lb⟩
 refine fn5.con rfl (by simp) ?_
 simp only[c5,c5_100,c5_1,l5_0,init1,cw,csW,cops,reduceCtorEq]
 refine keep [0] ?_
 simp only[c5_99,c5_4,l5_2,csW,reduceCtorEq,cw,cops,Nat.reduceEqDiff]
 refine⟨_,na,?_⟩
 simp only[l5_3,csP,cops,csW,reduceCtorEq,Nat.reduceEqDiff,Nat.reduceAdd]
 refine keep [0,3] ?_
 simp only[c5_98,c5_7,l5_5,csW,reduceCtorEq,Nat.reduceEqDiff,cw,cops]
 refine⟨_,pa,?_⟩
 simp only[l5_6,csP,cops,csW,reduceCtorEq,Nat.reduceEqDiff,Nat.reduceAdd]
 refine keep [0,3,5] ?_
 simp only[c5_97,c5_10,l5_8,csW,reduceCtorEq,Nat.reduceEqDiff,cw,cops,csP]
 by_cases hl0:l=[]
 ·subst hl0
  have hI:((List.length ([]:List Rat):Nat):Int)=0:=rfl
  have h0:sgnQ 0=0:=sgnQ_0.2 rfl
  refine⟨_,parts0_con,?_⟩
  simp only[l5_9,csP,cops,csW,reduceCtorEq,Nat.reduceEqDiff,Nat.reduceAdd]
  refine keep [0,5,7,8,9] ?_
  simp only[c5_96,c5_18,c5_13,l5_11,csW,reduceCtorEq,Nat.reduceEqDiff,cw,cops]
  refine⟨_,begun_con,?_⟩
  simp only[l5_12,cops,csW,reduceCtorEq,Nat.reduceEqDiff]
  refine keep [0,5,7,8,9,32] ?_
  simp only[c5_17,csW,reduceCtorEq,Nat.reduceEqDiff,cw]
  refine keep [0,5,7,8,9] ?_
  simp only[c5_95,c5_27,c5_20,l5_19,csW,reduceCtorEq,Nat.reduceEqDiff,cw,cops]
  refine keep [0,5,7,8,9,35] ?_
  simp only[c5_26,csW,reduceCtorEq,Nat.reduceEqDiff,cw]
  simp only[c5_25,c5_24,l5_21,csW,cw,cops,reduceCtorEq,Nat.reduceEqDiff,csP,Nat.reduceAdd]
  refine⟨_,lfault_con 4 0,?_⟩
  simp only[l5_22,csP,cops,csW,Nat.reduceLT,reduceCtorEq,Nat.reduceEqDiff,intsOf,Nat.reduceAdd]
  refine⟨_,qSign 0 n (Bq.zero n (by omega)) hbg,?_⟩
  simp only[l5_23,h0,cops,csW,reduceCtorEq,Nat.reduceEqDiff]
  refine keep [2] ?_
  simp only[Ends,resD,resL,resV,csW,reduceCtorEq,Nat.reduceEqDiff]
 ·have hI:¬ (l.length:Int)=0:=by have:=List.length_pos_iff.2 hl0;omega
  obtain⟨t1,t2⟩:=htot hl0
  have hP:=parts_con l hl.nf hl0 sl h1 hs
  refine⟨_,hP,?_⟩
  simp only[l5_9,csP,cops,csW,reduceCtorEq,Nat.reduceEqDiff,Nat.reduceAdd]
  refine keep [0,5,7,8,9] ?_
  simp only[c5_96,c5_18,c5_13,l5_11,csW,reduceCtorEq,Nat.reduceEqDiff,cw,cops]
  refine⟨_,begun_con,?_⟩
  simp only[l5_12,cops,csW,reduceCtorEq,Nat.reduceEqDiff]
  refine keep [0,5,7,8,9,32] ?_
  simp only[c5_17,csW,reduceCtorEq,Nat.reduceEqDiff,cw]
  refine keep [0,5,7,8,9] ?_
  simp only[c5_95,c5_27,c5_20,l5_19,csW,reduceCtorEq,Nat.reduceEqDiff,cw,cops,hI]
  refine keep [0,5,7,8,9,35] ?_
  simp only[c5_26,csW,reduceCtorEq,Nat.reduceEqDiff,cw]
  by_cases k14:14<l.length
  ·have hJ:(14:Int)<(l.length:Int):=by omega
   refine keep [0,5,7,8,9] ?_
   simp only[c5_94,c5_35,c5_30,l5_28,csW,reduceCtorEq,Nat.reduceEqDiff,cw,cops,hJ]
   simp only[l5_29,cops,csW,reduceCtorEq,Nat.reduceEqDiff]
   refine keep [5,7,8,9,55] ?_
   simp only[c5_34,csW,reduceCtorEq,Nat.reduceEqDiff,cw]
   simp only[c5_33,c5_32,l5_31,cw,csW,cops,csP,Nat.reduceEqDiff,Nat.reduceAdd,Nat.reduceLeDiff]
   refine keep [2] ?_
   simp only[Ends,resD,resL,resV,csW,Nat.reduceEqDiff]
  ·have hJ:¬ (14:Int)<(l.length:Int):=by omega
   have ht:tot a≤14*2002:=Nat.le_trans t2 (Nat.mul_le_mul_right _ (by omega))
   have hlo:=long_con T a (by omega) ha
   refine keep [0,5,7,8,9] ?_
   simp only[c5_94,c5_35,c5_30,l5_28,csW,reduceCtorEq,Nat.reduceEqDiff,cw,cops,hJ]
   by_cases k600:600<tot a
   ·rw[decide_eq_true k600] at hlo
    refine⟨_,hlo,?_⟩
    simp only[l5_29,cops,csW,reduceCtorEq,Nat.reduceEqDiff]
    refine keep [5,7,8,9,55] ?_
    simp only[c5_34,csW,reduceCtorEq,Nat.reduceEqDiff,cw]
    simp only[c5_33,c5_32,l5_31,cw,csW,cops,csP,Nat.reduceEqDiff,Nat.reduceAdd,Nat.reduceLeDiff]
    refine keep [2] ?_
    simp only[Ends,resD,resL,resV,csW,Nat.reduceEqDiff]
   ·rw[decide_eq_false k600] at hlo
    have h14:P14 l n:=⟨hl.nf,hl0,hsz (by omega),by omega,by omega,hbg⟩
    have hR:=pts_of hl.nf hl0 sl h1
    have hRl:=pts_len hl.nf hl0 sl h1
    refine⟨_,hlo,?_⟩
    simp only[l5_29,cops,csW,reduceCtorEq,Nat.reduceEqDiff]
    refine keep [5,7,8,9,55] ?_
    simp only[c5_34,csW,reduceCtorEq,Nat.reduceEqDiff,cw]
    exact⟨_,(Sub.toG [5,7,8,9] [3,4,6,14,61,63] (by rfl) (by rfl) (by rfl) (by rfl)),parts_tail h14 hR (by omega)⟩
end Go.Proofs.YtkidkimjdiichaaGreat.M
end
