/- Polynomials modulo a prime: Factor, Irreducible walked. -/
import Derived.Test.YtlnhembcfhfpkaaK6
namespace Go.Proofs.Ytlnhembcfhfpkaa.M
open Go.RowKit Go.Proofs.Ytlnhembcfhfpkaa.Fx
open Nat (reduceEqDiff reduceAdd reduceLT reduceLeDiff reduceSub)
set_option linter.unusedSimpArgs false
set_option linter.unusedVariables false
variable {P:Pr}
theorem gp (F:Po P) (h:dg F≤65):Gp F.l P.p:=⟨P.h,h,F.rg,F.td⟩
theorem sD_app (o:List (List Int × Int)) (x:List Int) (n:Int):o.map sD++[D.agg [D.list 3 1 (x.map (D.int .i64)),D.int .i64 n]]=(o++[(x,n)]).map sD:=by rw[List.map_append];rfl
theorem getD_fD {o:List (Po P × Nat)} {i:Nat} (h:i<o.length):(o.map fD).getD i default=fD (o.getD i (0,0)):=by simp[h]
theorem getD_lD' {o:List (Po P)} {i:Nat} (h:i<o.length):(o.map Nw.lD).getD i default=Nw.lD (at_ o i):=Nw.getD_lD h
set_option linter.defProp false in
def csFa:=And.intro @Nw.get_L (And.intro @get_I csFx)
set_option maxRecDepth 20000 in
set_option maxHeartbeats 8000000 in
theorem factor_ok {T:Nat} (F:Po P) (h0:F≠0) (hl:dg F≤65):Con Try.prog [] 13 [LT T F.l,I P.p] (.tup [I (lc F),.list 36 2 ((facL F).map sD),flt 0 0]):=by
 have hp:=P.h.pos
 have hchk:=(gp F hl).chk
 have hlen:¬ (F.l.length:Int)=0:=by have:=dg_pos h0;unfold dg at this;omega
 have hS:SqOk (mon F) 1 (sqF F):=sqL_ok 65 (mon F) 1 (mon_mo h0) (by rw[mon_dg];exact hl)
 have hsqc:=squares_con 65 (mon F) 1 3 (mon_mo h0) (by rw[mon_dg];exact hl) (by omega) (by rw[mon_dg];omega) (by omega) (by rw[mon_dg];omega) (by omega)
 have htot:=facU_total h0 hl
 have hSl:(sqF F).length≤65*1001:=sqL_len 65 (mon F) 1 (mon_mo h0) (by rw[mon_dg];omega)
 change Con _ _ _ _ (.list 56 2 ((sqF F).map fD)) at hsqc
 have hU:(sqF F).flatMap (fun x=>(Nw.spF x.1).map fun g=>(g.l,(x.2:Int)))=facU F:=rfl
 have hck:=check_con (T:=T) F.l P.p
 rw[hchk] at hck
 generalize hSS:sqF F=S at *
 obtain⟨m,hm⟩:∃ m,S.length=m:=⟨_,rfl⟩
 refine fn13.con rfl (by simp) ?_
 (try simp only[init2,c13,c13_73,c13_1,l13_0,cw,cops,csW,csL,reduceIte,reduceEqDiff,reduceCtorEq,reduceAdd,reduceLT,reduceLeDiff,reduceSub,csFa])
 (repeat refine And.intro (by first|omega|(simp;omega)) ?_)
 refine keep [0,1,6] ?_
 (try simp only[c13_72,c13_12,c13_4,l13_2,cw,cops,csW,csL,reduceIte,reduceEqDiff,reduceCtorEq,reduceAdd,reduceLT,reduceLeDiff,reduceSub,csFa])
 (repeat refine And.intro (by first|omega|(simp;omega)) ?_)
 refine⟨_,cx (hck),?_⟩
 (try simp only[l13_3,cw,cops,csW,csL,reduceIte,reduceEqDiff,reduceCtorEq,reduceAdd,reduceLT,reduceLeDiff,reduceSub,csFa])
 (repeat refine And.intro (by first|omega|(simp;omega)) ?_)
 refine keep [0,1,6,7] ?_
 (try simp only[c13_11,c13_6,l13_5,cw,cops,csW,csL,reduceIte,reduceEqDiff,reduceCtorEq,reduceAdd,reduceLT,reduceLeDiff,reduceSub,csFa])
 (repeat refine And.intro (by first|omega|(simp;omega)) ?_)
 refine keep [0,1,6,7,18] ?_
 (try simp only[c13_10,cw,cops,csW,csL,reduceIte,reduceEqDiff,reduceCtorEq,reduceAdd,reduceLT,reduceLeDiff,reduceSub,csFa])
 (repeat refine And.intro (by first|omega|(simp;omega)) ?_)
 (try simp only[cw,cops,csW,csL,reduceIte,reduceEqDiff,reduceCtorEq,reduceAdd,reduceLT,reduceLeDiff,reduceSub,csFa,hlen])
 (repeat refine And.intro (by first|omega|(simp;omega)) ?_)
 refine keep [0,1,6] ?_
 (try simp only[c13_71,c13_20,c13_14,l13_13,cw,cops,csW,csL,reduceIte,reduceEqDiff,reduceCtorEq,reduceAdd,reduceLT,reduceLeDiff,reduceSub,csFa,hlen])
 (repeat refine And.intro (by first|omega|(simp;omega)) ?_)
 refine keep [0,1,6,22] ?_
 (try simp only[c13_19,cw,cops,csW,csL,reduceIte,reduceEqDiff,reduceCtorEq,reduceAdd,reduceLT,reduceLeDiff,reduceSub,csFa,hlen])
 (repeat refine And.intro (by first|omega|(simp;omega)) ?_)
 (try simp only[cw,cops,csW,csL,reduceIte,reduceEqDiff,reduceCtorEq,reduceAdd,reduceLT,reduceLeDiff,reduceSub,csFa])
 (repeat refine And.intro (by first|omega|(simp;omega)) ?_)
 refine keep [0,1,6] ?_
 (try simp only[c13_70,c13_22,l13_21,cw,cops,csW,csL,reduceIte,reduceEqDiff,reduceCtorEq,reduceAdd,reduceLT,reduceLeDiff,reduceSub,csFa])
 (repeat refine And.intro (by first|omega|(simp;omega)) ?_)
 refine keep [0,1,6,8] ?_
 (try simp only[c13_69,c13_62,c13_26,l13_23,cw,cops,csW,csL,reduceIte,reduceEqDiff,reduceCtorEq,reduceAdd,reduceLT,reduceLeDiff,reduceSub,csFa])
 (repeat refine And.intro (by first|omega|(simp;omega)) ?_)
 refine⟨_,cx (monX_con F (by omega)),?_⟩
 (try simp only[l13_24,cw,cops,csW,csL,reduceIte,reduceEqDiff,reduceCtorEq,reduceAdd,reduceLT,reduceLeDiff,reduceSub,csFa])
 (repeat refine And.intro (by first|omega|(simp;omega)) ?_)
 refine⟨_,cx (hsqc),?_⟩
 (try simp only[l13_25,cw,cops,csW,csL,reduceIte,reduceEqDiff,reduceCtorEq,reduceAdd,reduceLT,reduceLeDiff,reduceSub,csFa,List.length_map,hm])
 (repeat refine And.intro (by first|omega|(simp;omega)) ?_)
 refine keep [0,1,6,8,28,29,30] ?_
 (try simp only[c13_61,cw,cops,csW,csL,reduceIte,reduceEqDiff,reduceCtorEq,reduceAdd,reduceLT,reduceLeDiff,reduceSub,csFa,List.length_map,hm])
 refine loop_of (ι:=Nat × List (List Int × Int) × Nat) (fun s=>s.1≤m∧s.2.1.length=s.2.2∧s.2.1++(S.drop s.1).flatMap (fun x=>(Nw.spF x.1).map fun g=>(g.l,(x.2:Int)))=facU F) (fun s=>⟨look [(0,.p (LT T F.l)),(1,.p (I P.p)),(6,.ptr 6 0 0),(8,.slice 308 0 s.2.2),(28,.p (.list 56 2 (S.map fD))),(29,.p (I m)),(30,.p (I s.1))],lookM [(6,⟨24,2,.box (.p (.agg [I 0,I 0])),false⟩),(308,⟨36,2,.row (s.2.1.map sD),false⟩)]⟩) (fun s=>m-s.1) (0,[],0) ⟨by simp,rfl,by simp only[List.drop_zero,List.nil_append];exact hU⟩ ?_ ?_
 ·exact (Sub.toG [0,1,6,8,28,29,30] [7] (by rfl) (by rfl) rfl rfl).tr (Sub.nilG 8 308 36 2 (by rfl) (by rfl) (by decide) (by rfl) (by rfl))
 rintro⟨i,o,N⟩ ⟨hi,hoN,hR⟩
 simp only at hi hoN hR
 have hob:o.length≤10000000:=by
  have:=congrArg List.length hR
  rw[List.length_append] at this
  omega
 by_cases h:i<m
 ·have hI:(i:Int)<(m:Int):=by omega
  have hg:=getD_fD (o:=S) (i:=i) (by omega)
  obtain⟨x,hx⟩:∃ x,S.getD i (0,0)=x:=⟨_,rfl⟩
  have hxS:x∈S:=by rw[←hx];simp[show i<S.length by omega]
  rw[hx] at hg
  have hsq:=sq_sqf (z:=0) hS hxS
  have hdx:dg x.1≤65:=by
   have h4:dg x.1≤dg (mon F):=dg_dvd (dvd_of_val hsq.mo (mon_mo h0).ne fun q hq=>by
    by_cases hd:q∣x.1
    ·obtain⟨v1,v2,v3⟩:=hS.vl x hxS q hq hd
     omega
    ·rw[val_0 hd hq];omega) (mon_mo h0).ne
   rw[mon_dg] at h4;omega
  have hdrop:S.drop i=x::S.drop (i+1):=by
   rw[List.drop_eq_getElem_cons (by omega),←hx]
   simp[show i<S.length by omega]
  rw[hdrop,List.flatMap_cons] at hR
  have hsp:=Nw.split_con x.1 hsq hdx
  obtain⟨G,hG⟩:∃ G,Nw.spF x.1=G:=⟨_,rfl⟩
  obtain⟨r,hr⟩:∃ r,G.length=r:=⟨_,rfl⟩
  have hrb:r≤65:=by rw[←hr,←hG];exact Nat.le_trans (spF_len hsq) hdx
  rw[hG] at hsp hR
  obtain⟨Z,hZ⟩:∃ Z,(S.drop (i+1)).flatMap (fun x=>(Nw.spF x.1).map fun g=>(g.l,(x.2:Int)))=Z:=⟨_,rfl⟩
  rw[hZ] at hR
  obtain⟨xf,xn⟩:=x
  simp only at hsp hR hdx
  change (S.map fD).getD i default = .agg [L xf.l,I (xn:Int)] at hg
  (try simp only[c13_59,c13_28,l13_27,cw,cops,csW,csL,reduceIte,reduceEqDiff,reduceCtorEq,reduceAdd,reduceLT,reduceLeDiff,reduceSub,csFa,hI])
  (repeat refine And.intro (by first|omega|(simp;omega)) ?_)
  refine keep [0,1,6,8,28,29,30,31] ?_
  (try simp only[c13_58,c13_29,cw,cops,csW,csL,reduceIte,reduceEqDiff,reduceCtorEq,reduceAdd,reduceLT,reduceLeDiff,reduceSub,csFa,hI])
  (repeat refine And.intro (by first|omega|(simp;omega)) ?_)
  (try simp only[cw,cops,csW,csL,reduceIte,reduceEqDiff,reduceCtorEq,reduceAdd,reduceLT,reduceLeDiff,reduceSub,csFa,hI,hg,hm,List.length_map])
  (repeat refine And.intro (by first|omega|(simp;omega)) ?_)
  refine keep [0,1,6,8,28,29,30] ?_
  (try simp only[c13_57,c13_54,c13_53,c13_31,l13_30,cw,cops,csW,csL,reduceIte,reduceEqDiff,reduceCtorEq,reduceAdd,reduceLT,reduceLeDiff,reduceSub,csFa,hI,hg,hm,List.length_map])
  (repeat refine And.intro (by first|omega|(simp;omega)) ?_)
  refine keep [0,1,6,8,10,28,29,30] ?_
  (try simp only[c13_52,c13_34,l13_32,cw,cops,csW,csL,reduceIte,reduceEqDiff,reduceCtorEq,reduceAdd,reduceLT,reduceLeDiff,reduceSub,csFa,hI,hg,hm,List.length_map])
  (repeat refine And.intro (by first|omega|(simp;omega)) ?_)
  refine⟨_,cx (hsp),?_⟩
  (try simp only[l13_33,cw,cops,csW,csL,reduceIte,reduceEqDiff,reduceCtorEq,reduceAdd,reduceLT,reduceLeDiff,reduceSub,csFa,List.length_map,hr])
  (repeat refine And.intro (by first|omega|(simp;omega)) ?_)
  refine keep [0,1,6,8,10,28,29,30,37,38,39] ?_
  (try simp only[c13_51,cw,cops,csW,csL,reduceIte,reduceEqDiff,reduceCtorEq,reduceAdd,reduceLT,reduceLeDiff,reduceSub,csFa,List.length_map,hr])
  refine loop_of (ι:=Nat × List (List Int × Int) × Nat) (fun s=>s.1≤r∧s.2.1.length=s.2.2∧s.2.1++((G.drop s.1).map (fun g=>(g.l,(xn:Int)))++Z)=facU F) (fun s=>⟨look [(0,.p (LT T F.l)),(1,.p (I P.p)),(6,.ptr 6 0 0),(8,.slice 308 0 s.2.2),(10,.ptr 10 0 0),(28,.p (.list 56 2 (S.map fD))),(29,.p (I m)),(30,.p (I i)),(37,.p (.list 22 1 (G.map Nw.lD))),(38,.p (I r)),(39,.p (I s.1))],lookM [(6,⟨24,2,.box (.p (.agg [I 0,I 0])),false⟩),(308,⟨36,2,.row (s.2.1.map sD),false⟩),(10,⟨56,2,.box (.p (.agg [L xf.l,I xn])),false⟩)]⟩) (fun s=>r-s.1) (0,o,N) ⟨by simp only;omega,hoN,by simp only[List.drop_zero];exact hR⟩ (Sub.toG [0,1,6,8,10,28,29,30,37,38,39] [7,49] (by rfl) (by rfl) (by rfl) (by rfl)) ?_
  rintro⟨j,o1,N1⟩ ⟨hj,hoN1,hR1⟩
  simp only at hj hoN1 hR1
  have hob1:o1.length≤10000000:=by
   have:=congrArg List.length hR1
   rw[List.length_append] at this
   omega
  by_cases h2:j<r
  ·have hJ:(j:Int)<(r:Int):=by omega
   have hgG:=getD_lD' (o:=G) (i:=j) (by omega)
   obtain⟨y,hy⟩:∃ y,at_ G j=y:=⟨_,rfl⟩
   rw[hy] at hgG
   have hyG:y∈G:=mem_at.2 ⟨j,by omega,hy⟩
   have hyd:dg y≤65:=by
    have:=(split_ok hsq (kerB_ok hsq.d2)).ir y (by have:Nw.spF xf=G:=hG;unfold Nw.spF at this;rw[this];exact hyG)
    exact Nat.le_trans (dg_dvd this.2 hsq.mo.ne) hdx
   have hdG:G.drop j=y::G.drop (j+1):=by
    rw[List.drop_eq_getElem_cons (by omega),←hy]
    simp[at_,show j<G.length by omega]
   rw[hdG,List.map_cons,List.cons_append] at hR1
   have happ:=sD_app o1 y.l (xn:Int)
   (try simp only[c13_49,c13_36,l13_35,cw,cops,csW,csL,reduceIte,reduceEqDiff,reduceCtorEq,reduceAdd,reduceLT,reduceLeDiff,reduceSub,csFa,hJ])
   (repeat refine And.intro (by first|omega|(simp;omega)) ?_)
   refine keep [0,1,6,8,10,28,29,30,37,38,39,40] ?_
   (try simp only[c13_48,c13_37,cw,cops,csW,csL,reduceIte,reduceEqDiff,reduceCtorEq,reduceAdd,reduceLT,reduceLeDiff,reduceSub,csFa,hJ])
   (repeat refine And.intro (by first|omega|(simp;omega)) ?_)
   (try simp only[cw,cops,csW,csL,reduceIte,reduceEqDiff,reduceCtorEq,reduceAdd,reduceLT,reduceLeDiff,reduceSub,csFa,hJ,hgG,hr,List.length_map])
   (repeat refine And.intro (by first|omega|(simp;omega)) ?_)
   refine keep [0,1,6,8,10,28,29,30,37,38,39] ?_
   (try simp only[c13_47,c13_44,c13_43,c13_39,l13_38,cw,cops,csW,csL,reduceIte,reduceEqDiff,reduceCtorEq,reduceAdd,reduceLT,reduceLeDiff,reduceSub,csFa,hJ,hgG,hr,List.length_map])
   (repeat refine And.intro (by first|omega|(simp;omega)) ?_)
   refine keep [0,1,6,8,10,12,28,29,30,37,38,39] ?_
   (try simp only[c13_42,l13_40,cw,cops,csW,csL,reduceIte,reduceEqDiff,reduceCtorEq,reduceAdd,reduceLT,reduceLeDiff,reduceSub,csFa,hJ,hgG,hr,List.length_map])
   (repeat refine And.intro (by first|omega|(simp;omega)) ?_)
   refine⟨_,cx (clone_con y.l (by unfold dg at hyd;omega)),?_⟩
   (try simp only[l13_41,cw,cops,csW,csL,reduceIte,reduceEqDiff,reduceCtorEq,reduceAdd,reduceLT,reduceLeDiff,reduceSub,csFa,happ,hoN1,List.length_map])
   (repeat refine And.intro (by first|omega|(simp;omega)) ?_)
   refine keep [0,1,6,8,10,28,29,30,37,38,39] ?_
   (try simp only[c13_46,l13_45,cw,cops,csW,csL,reduceIte,reduceEqDiff,reduceCtorEq,reduceAdd,reduceLT,reduceLeDiff,reduceSub,csFa,happ,hoN1,List.length_map])
   (repeat refine And.intro (by first|omega|(simp;omega)) ?_)
   exact⟨(j+1,o1++[(y.l,(xn:Int))],N1+1),⟨by simp only;omega,by simp[hoN1],by simp only[List.append_assoc,List.cons_append,List.nil_append];exact hR1⟩,(Sub.toG [0,1,6,8,10,28,29,30,37,38,39] [7,49] (by rfl) (by rfl) (by rfl) (by rfl)),by simp only;omega⟩
  ·have hJ:¬ (j:Int)<(r:Int):=by omega
   have hd0:G.drop j=[]:=List.drop_of_length_le (by omega)
   rw[hd0,List.map_nil,List.nil_append,←hZ] at hR1
   (try simp only[c13_49,c13_36,l13_35,cw,cops,csW,csL,reduceIte,reduceEqDiff,reduceCtorEq,reduceAdd,reduceLT,reduceLeDiff,reduceSub,csFa,hJ])
   (repeat refine And.intro (by first|omega|(simp;omega)) ?_)
   refine keep [0,1,6,8,10,28,29,30,37,38,39,40] ?_
   (try simp only[c13_48,c13_37,cw,cops,csW,csL,reduceIte,reduceEqDiff,reduceCtorEq,reduceAdd,reduceLT,reduceLeDiff,reduceSub,csFa,hJ])
   (repeat refine And.intro (by first|omega|(simp;omega)) ?_)
   (try simp only[cw,cops,csW,csL,reduceIte,reduceEqDiff,reduceCtorEq,reduceAdd,reduceLT,reduceLeDiff,reduceSub,csFa,hJ])
   (repeat refine And.intro (by first|omega|(simp;omega)) ?_)
   refine keep [0,1,6,8,28,29,30] ?_
   (try simp only[c13_56,l13_55,cw,cops,csW,csL,reduceIte,reduceEqDiff,reduceCtorEq,reduceAdd,reduceLT,reduceLeDiff,reduceSub,csFa,hJ])
   (repeat refine And.intro (by first|omega|(simp;omega)) ?_)
   exact⟨(i+1,o1,N1),⟨by simp only;omega,hoN1,hR1⟩,(Sub.toG [0,1,6,8,28,29,30] [7,10,49] (by rfl) (by rfl) (by rfl) (by rfl)),by simp only;omega⟩
 ·have hI:¬ (i:Int)<(m:Int):=by omega
  have hd0:S.drop i=[]:=List.drop_of_length_le (by omega)
  rw[hd0,List.flatMap_nil,List.append_nil] at hR
  subst hR
  have hNl:(facU F).length=N:=hoN
  have hG1:(F.l.length:Int)-1=((F.l.length-1:Nat):Int):=by have:=dg_pos h0;unfold dg at this;omega
  have hG2:((F.l.length-1:Nat):Int)<(F.l.length:Int):=by have:=dg_pos h0;unfold dg at this;omega
  have hlc:F.l.getD (F.l.length-1) 0=lc F:=rfl
  have hll:=(facL_perm F).length_eq
  have hlL:F.l.length≤66:=by unfold dg at hl;omega
  (try simp only[c13_59,c13_28,l13_27,cw,cops,csW,csL,reduceIte,reduceEqDiff,reduceCtorEq,reduceAdd,reduceLT,reduceLeDiff,reduceSub,csFa,hI])
  (repeat refine And.intro (by first|omega|(simp;omega)) ?_)
  refine keep [0,1,6,8,28,29,30,31] ?_
  (try simp only[c13_58,c13_29,cw,cops,csW,csL,reduceIte,reduceEqDiff,reduceCtorEq,reduceAdd,reduceLT,reduceLeDiff,reduceSub,csFa,hI])
  (repeat refine And.intro (by first|omega|(simp;omega)) ?_)
  (try simp only[cw,cops,csW,csL,reduceIte,reduceEqDiff,reduceCtorEq,reduceAdd,reduceLT,reduceLeDiff,reduceSub,csFa,hI,hNl,List.length_map])
  (repeat refine And.intro (by first|omega|(simp;omega)) ?_)
  refine keep [0,6,8] ?_
  (try simp only[c13_68,c13_64,l13_63,cw,cops,csW,csL,reduceIte,reduceEqDiff,reduceCtorEq,reduceAdd,reduceLT,reduceLeDiff,reduceSub,csFa,hI,hNl,List.length_map])
  (repeat refine And.intro (by first|omega|(simp;omega)) ?_)
  refine⟨_,_,sortX h0 hl,?_⟩
  (try simp only[cw,cops,csW,csL,reduceIte,reduceEqDiff,reduceCtorEq,reduceAdd,reduceLT,reduceLeDiff,reduceSub,csFa,hG1,hG2,hlc,hll,hNl,List.length_map])
  (repeat refine And.intro (by first|omega|(simp;omega)) ?_)
  refine keep [0,6,8] ?_
  (try simp only[c13_67,c13_66,l13_65,cw,cops,csW,csL,reduceIte,reduceEqDiff,reduceCtorEq,reduceAdd,reduceLT,reduceLeDiff,reduceSub,csFa,hG1,hG2,hlc,hll,hNl,List.length_map])
  (repeat refine And.intro (by first|omega|(simp;omega)) ?_)
  refine keep [4,5,6] ?_
  (try simp only[cw,cops,csW,csL,reduceIte,reduceEqDiff,reduceCtorEq,reduceAdd,reduceLT,reduceLeDiff,reduceSub,csFa,Ends,resD,resL,resV,hG1,hG2,hlc,hll,hNl,List.length_map])
  (repeat refine And.intro (by first|omega|(simp;omega)) ?_)
  have hNN:N≤(facL F).length:=by omega
  have htk:((facL F).map sD).take N=(facL F).map sD:=List.take_of_length_le (by rw[List.length_map];omega)
  simp only[hNN,htk,Bool.or_true,and_self,and_true,if_true]
  first | rfl | skip
end Go.Proofs.Ytlnhembcfhfpkaa.M
