/- Polynomials modulo a prime: Roots walked. -/
import Derived.Test.YtlnhembcfhfpkaaK6
import Derived.Test.YtlnhembcfhfpkaaFyIx
import Derived.Test.YtlnhembcfhfpkaaFyVx
namespace Go.Proofs.Ytlnhembcfhfpkaa.M.Nz
open Go.RowKit Go.Proofs.Ytlnhembcfhfpkaa.Fx
open Nat (reduceEqDiff reduceAdd reduceLT reduceLeDiff reduceSub)
set_option maxRecDepth 100000
def l23_0:List COp:=[
 ⟨some 4,.mov (.k (.nils 3 1)),none⟩,
 ⟨some 5,.alloc 24 2 (.p (.agg [(.int .i64 0),(.int .i64 0)])),none⟩]
def c23_1:CC:=.ops [] (l23_0)
def l23_2:List COp:=[
 ⟨some 13,.mov (.t 0),none⟩,
 ⟨some 14,.mov (.t 1),none⟩,
 ⟨some 15,.call 13 [(.t 13),(.t 14)],none⟩]
def l23_3:List COp:=[
 ⟨some 12,.mov (.t 15),none⟩,
 ⟨some 16,.extract (.t 12) 0,none⟩,
 ⟨some 17,.extract (.t 12) 1,none⟩,
 ⟨some 18,.extract (.t 12) 2,none⟩,
 ⟨some 8,.alloc 24 2 (.p (.agg [(.int .i64 0),(.int .i64 0)])),none⟩,
 ⟨some 6,.mov (.t 16),none⟩,
 ⟨some 7,.mov (.t 17),none⟩,
 ⟨none,.store 2 (.t 8) (.t 18),none⟩]
def c23_4:CC:=.ops [] (l23_2++(l23_3))
def l23_5:List COp:=[
 ⟨some 19,.fieldAddr 0 1 false (.t 8),none⟩,
 ⟨some 20,.load false 1 (.t 19),none⟩,
 ⟨some 21,.bin false .neq (.t 20) (.k (.p (.int .i64 0))),none⟩]
def c23_6:CC:=.ops [] (l23_5)
def l23_7:List COp:=[
 ⟨some 22,.load true 2 (.t 8),none⟩,
 ⟨some 4,.mov (.k (.nils 3 1)),none⟩,
 ⟨none,.store 2 (.t 5) (.t 22),none⟩]
def c23_8:CC:=.ops [] (l23_7)
def c23_9:CC:=.seq c23_8 .ret
def c23_10:CC:=.cond (.t 21) c23_9 .skip
def c23_11:CC:=.seq c23_6 c23_10
def l23_12:List COp:=[
 ⟨some 9,.mov (.k (.nils 3 1)),none⟩]
def c23_13:CC:=.ops [] (l23_12)
def l23_14:List COp:=[
 ⟨some 23,.mov (.t 7),none⟩,
 ⟨some 24,.len (.t 23),none⟩,
 ⟨some 25,.mov (.k (.p (.int .i64 0))),none⟩]
def c23_15:CC:=.ops [] (l23_14)
def l23_16:List COp:=[
 ⟨some 26,.bin false .lss (.t 25) (.t 24),none⟩]
def c23_17:CC:=.ops [] (l23_16)
def c23_18:CC:=.cond (.t 26) .skip (.exit 0)
def l23_19:List COp:=[
 ⟨some 27,.indexAddr 2 (.t 23) (.t 25),none⟩,
 ⟨some 28,.load true 2 (.t 27),none⟩,
 ⟨some 11,.alloc 36 2 (.p (.agg [(.list 3 1 []),(.int .i64 0)])),none⟩,
 ⟨none,.store 2 (.t 11) (.t 28),none⟩]
def c23_20:CC:=.ops [] (l23_19)
def l23_21:List COp:=[
 ⟨some 29,.fieldAddr 0 1 false (.t 11),none⟩,
 ⟨some 30,.load false 1 (.t 29),none⟩,
 ⟨some 31,.len (.t 30),none⟩,
 ⟨some 32,.bin false .eql (.t 31) (.k (.p (.int .i64 2))),none⟩]
def c23_22:CC:=.ops [] (l23_21)
def l23_23:List COp:=[
 ⟨some 33,.mov (.t 9),none⟩,
 ⟨some 34,.mov (.t 1),none⟩,
 ⟨some 35,.fieldAddr 0 1 false (.t 11),none⟩,
 ⟨some 36,.load false 1 (.t 35),none⟩,
 ⟨some 37,.indexAddr 1 (.t 36) (.k (.p (.int .i64 0))),none⟩,
 ⟨some 38,.load false 1 (.t 37),none⟩,
 ⟨some 39,.bin false .sub (.t 34) (.t 38),none⟩,
 ⟨some 40,.mov (.t 1),none⟩,
 ⟨some 41,.bin false .rem (.t 39) (.t 40),none⟩,
 ⟨some 42,.buildSlice 3 1 (.int .i64 0) 1 [(0,(.t 41))],none⟩,
 ⟨some 43,.append 3 1 8 (.t 33) (.t 42),none⟩,
 ⟨some 9,.mov (.t 43),none⟩]
def c23_24:CC:=.ops [] (l23_23)
def c23_25:CC:=.cond (.t 32) c23_24 .skip
def c23_26:CC:=.seq c23_22 c23_25
def c23_27:CC:=.seq c23_20 c23_26
def c23_28:CC:=.block 1 c23_27
def l23_29:List COp:=[
 ⟨some 44,.bin false .add (.t 25) (.k (.p (.int .i64 1))),none⟩,
 ⟨some 25,.mov (.t 44),none⟩]
def c23_30:CC:=.ops [] (l23_29)
def c23_31:CC:=.seq c23_28 c23_30
def c23_32:CC:=.seq c23_18 c23_31
def c23_33:CC:=.seq c23_17 c23_32
def c23_34:CC:=.loop c23_33
def c23_35:CC:=.block 0 c23_34
def c23_36:CC:=.seq c23_15 c23_35
def l23_37:List COp:=[
 ⟨some 45,.mov (.t 9),none⟩,
 ⟨some 46,.callL 49 0 [(.t 45)],none⟩]
def c23_38:CC:=.ops [] (l23_37)
def l23_39:List COp:=[
 ⟨some 48,.load true 2 (.t 8),none⟩,
 ⟨some 47,.mov (.t 9),none⟩,
 ⟨some 4,.mov (.t 47),none⟩,
 ⟨none,.store 2 (.t 5) (.t 48),none⟩]
def c23_40:CC:=.ops [] (l23_39)
def c23_41:CC:=.seq c23_40 .ret
def c23_42:CC:=.seq c23_38 c23_41
def c23_43:CC:=.seq c23_36 c23_42
def c23_44:CC:=.seq c23_13 c23_43
def c23_45:CC:=.seq c23_11 c23_44
def c23_46:CC:=.seq c23_4 c23_45
def c23_47:CC:=.seq c23_1 c23_46
def c23:CC:=c23_47
theorem fn23:FnOk Try.prog 23 [4000392,24,36,3] c23 [(4,none),(5,some (true,2))] 49:=
 ⟨Try.f23,[⟨3,[0,1,2],[0,0,3],[]⟩,⟨12,[1,0,2,3],[0,0,1,7],[]⟩],Try.func23,by kernel_rfl,by kernel_rfl,by kernel_rfl,by kernel_rfl,by kernel_rfl⟩
set_option linter.unusedSimpArgs false
set_option linter.unusedVariables false
variable {P:Pr}
def rtU (p:Int) (l:FL):List Int:=(l.filter fun s=>decide (s.1.length=2)).map fun s=>(p-s.1.getD 0 0) % p
theorem rtU_cons (p:Int) (s:List Int × Int) (l:FL):rtU p (s::l)=if s.1.length=2 then (p-s.1.getD 0 0) % p::rtU p l else rtU p l:=by
 unfold rtU
 by_cases h:s.1.length=2
 ·rw[if_pos h,List.filter_cons_of_pos (by simpa using h)];rfl
 ·rw[if_neg h,List.filter_cons_of_neg (by simpa using h)]
theorem rtU_len (p:Int) (l:FL):(rtU p l).length≤l.length:=by
 unfold rtU
 rw[List.length_map]
 exact List.length_filter_le _ _
set_option maxRecDepth 20000 in
set_option maxHeartbeats 4000000 in
theorem roots_bad {T:Nat} (f:List Int) (p a c x:Int) (l:FL) (hf:Con Try.prog [] 13 [LT T f,I p] (.tup [I a,.list 36 2 (l.map sD),flt c x])) (h:¬ c=0):Con Try.prog [] 23 [LT T f,I p] (.tup [L [],flt c x]):=by
 refine fn23.con rfl (by simp) ?_
 (try simp only[init2,c23,c23_47,c23_1,l23_0,cw,cops,csW,csL,reduceIte,reduceEqDiff,reduceCtorEq,reduceAdd,reduceLT,reduceLeDiff,reduceSub,csFa])
 (repeat refine And.intro (by first|omega|(simp;omega)) ?_)
 refine keep [0,1,5] ?_
 (try simp only[c23_46,c23_4,l23_2,cw,cops,csW,csL,reduceIte,reduceEqDiff,reduceCtorEq,reduceAdd,reduceLT,reduceLeDiff,reduceSub,csFa])
 (repeat refine And.intro (by first|omega|(simp;omega)) ?_)
 refine⟨_,cx (hf),?_⟩
 (try simp only[l23_3,cw,cops,csW,csL,reduceIte,reduceEqDiff,reduceCtorEq,reduceAdd,reduceLT,reduceLeDiff,reduceSub,csFa,h])
 (repeat refine And.intro (by first|omega|(simp;omega)) ?_)
 refine keep [1,5,7,8] ?_
 (try simp only[c23_45,c23_11,c23_6,l23_5,cw,cops,csW,csL,reduceIte,reduceEqDiff,reduceCtorEq,reduceAdd,reduceLT,reduceLeDiff,reduceSub,csFa,h])
 (repeat refine And.intro (by first|omega|(simp;omega)) ?_)
 refine keep [1,5,7,8,21] ?_
 (try simp only[c23_10,cw,cops,csW,csL,reduceIte,reduceEqDiff,reduceCtorEq,reduceAdd,reduceLT,reduceLeDiff,reduceSub,csFa,h])
 (repeat refine And.intro (by first|omega|(simp;omega)) ?_)
 (try simp only[c23_9,c23_8,l23_7,cw,cops,csW,csL,reduceIte,reduceEqDiff,reduceCtorEq,reduceAdd,reduceLT,reduceLeDiff,reduceSub,csFa,h])
 (repeat refine And.intro (by first|omega|(simp;omega)) ?_)
 refine keep [4,5] ?_
 (try simp only[cw,cops,csW,csL,reduceIte,reduceEqDiff,reduceCtorEq,reduceAdd,reduceLT,reduceLeDiff,reduceSub,csFa,Ends,resD,resL,resV,h])
 (repeat refine And.intro (by first|omega|(simp;omega)) ?_)
 rfl
set_option maxRecDepth 20000 in
set_option maxHeartbeats 4000000 in
theorem roots_ok {T:Nat} (F:Po P) (h0:F≠0) (hl:dg F≤65):Con Try.prog [] 23 [LT T F.l,I P.p] (.tup [L (srtI (rtU P.p (facL F))),flt 0 0]):=by
 have hp:=P.h.pos
 have hf:=factor_ok (T:=T) F h0 hl
 have hS:=facL_sm h0 hl
 have hrg:∀ i,0≤(((facL F).getD i ([],0)).1).getD 0 0∧(((facL F).getD i ([],0)).1).getD 0 0<P.p:=fun i=>by
  by_cases h:i<(facL F).length
  ·obtain⟨g,h1,h2,h3,h4⟩:=(facL_mem h0 hl ((facL F).getD i ([],0))).1 (by simp[h])
   rw[h1];exact g.rg 0
  ·have:(facL F).getD i ([],0)=([],0):=by simp[show (facL F).length≤i by omega]
   rw[this];simp;omega
 generalize facL F=A at *
 obtain⟨m,hm⟩:∃ m,A.length=m:=⟨_,rfl⟩
 have hAl:=hS.len
 have hRl:=rtU_len P.p A
 refine fn23.con rfl (by simp) ?_
 (try simp only[init2,c23,c23_47,c23_1,l23_0,cw,cops,csW,csL,reduceIte,reduceEqDiff,reduceCtorEq,reduceAdd,reduceLT,reduceLeDiff,reduceSub,csFa])
 (repeat refine And.intro (by first|omega|(simp;omega)) ?_)
 refine keep [0,1,5] ?_
 (try simp only[c23_46,c23_4,l23_2,cw,cops,csW,csL,reduceIte,reduceEqDiff,reduceCtorEq,reduceAdd,reduceLT,reduceLeDiff,reduceSub,csFa])
 (repeat refine And.intro (by first|omega|(simp;omega)) ?_)
 refine⟨_,cx (hf),?_⟩
 (try simp only[l23_3,cw,cops,csW,csL,reduceIte,reduceEqDiff,reduceCtorEq,reduceAdd,reduceLT,reduceLeDiff,reduceSub,csFa])
 (repeat refine And.intro (by first|omega|(simp;omega)) ?_)
 refine keep [1,5,7,8] ?_
 (try simp only[c23_45,c23_11,c23_6,l23_5,cw,cops,csW,csL,reduceIte,reduceEqDiff,reduceCtorEq,reduceAdd,reduceLT,reduceLeDiff,reduceSub,csFa])
 (repeat refine And.intro (by first|omega|(simp;omega)) ?_)
 refine keep [1,5,7,8,21] ?_
 (try simp only[c23_10,cw,cops,csW,csL,reduceIte,reduceEqDiff,reduceCtorEq,reduceAdd,reduceLT,reduceLeDiff,reduceSub,csFa])
 (repeat refine And.intro (by first|omega|(simp;omega)) ?_)
 (try simp only[cw,cops,csW,csL,reduceIte,reduceEqDiff,reduceCtorEq,reduceAdd,reduceLT,reduceLeDiff,reduceSub,csFa,hm,List.length_map])
 (repeat refine And.intro (by first|omega|(simp;omega)) ?_)
 refine keep [1,5,7,8] ?_
 (try simp only[c23_44,c23_13,l23_12,cw,cops,csW,csL,reduceIte,reduceEqDiff,reduceCtorEq,reduceAdd,reduceLT,reduceLeDiff,reduceSub,csFa,hm,List.length_map])
 (repeat refine And.intro (by first|omega|(simp;omega)) ?_)
 refine keep [1,5,7,8,9] ?_
 (try simp only[c23_43,c23_36,c23_15,l23_14,cw,cops,csW,csL,reduceIte,reduceEqDiff,reduceCtorEq,reduceAdd,reduceLT,reduceLeDiff,reduceSub,csFa,hm,List.length_map])
 (repeat refine And.intro (by first|omega|(simp;omega)) ?_)
 refine keep [1,5,8,9,23,24,25] ?_
 (try simp only[c23_35,cw,cops,csW,csL,reduceIte,reduceEqDiff,reduceCtorEq,reduceAdd,reduceLT,reduceLeDiff,reduceSub,csFa,hm,List.length_map])
 refine loop_of (ι:=Nat × List Int × Nat) (fun s=>s.1≤m∧s.2.1.length=s.2.2∧s.2.1++rtU P.p (A.drop s.1)=rtU P.p A) (fun s=>⟨look [(1,.p (I P.p)),(5,.ptr 5 0 0),(8,.ptr 8 0 0),(9,.slice 309 0 s.2.2),(23,.p (.list 36 2 (A.map sD))),(24,.p (I m)),(25,.p (I s.1))],lookM [(5,⟨24,2,.box (.p (.agg [I 0,I 0])),false⟩),(8,⟨24,2,.box (.p (.agg [I 0,I 0])),false⟩),(309,⟨3,1,.row (s.2.1.map (D.int .i64)),false⟩)]⟩) (fun s=>m-s.1) (0,[],0) ⟨by simp,rfl,rfl⟩ ?_ ?_
 ·exact (Sub.nilG 9 309 3 1 (by rfl) (by rfl) (by decide) (by rfl) (by rfl))
 rintro⟨i,o,N⟩ ⟨hi,hoN,hR⟩
 simp only at hi hoN hR
 have hob:o.length≤10000000:=by
  have:=congrArg List.length hR
  rw[List.length_append] at this
  omega
 by_cases h:i<m
 ·have hI:(i:Int)<(m:Int):=by omega
  have hg:=getD_sD (A:=A) (i:=i) (by omega)
  have hel:=hS.el i
  have hrr:=hrg i
  have hdr:A.drop i=A.getD i ([],0)::A.drop (i+1):=by
   rw[List.drop_eq_getElem_cons (by omega)];simp[show i<A.length by omega]
  obtain⟨y,n,hy⟩:∃ y n,A.getD i ([],0)=(y,n):=⟨_,_,rfl⟩
  rw[hy] at hg hel hrr hdr
  simp only at hg hel hrr
  rw[hdr,rtU_cons] at hR
  simp only at hR
  by_cases hy2:y.length=2
  ·rw[if_pos hy2] at hR
   have hyI:(y.length:Int)=2:=by omega
   have htm:(P.p-y.getD 0 0).tmod P.p=(P.p-y.getD 0 0) % P.p:=tm (by omega) _
   have hap:o.map (D.int .i64)++[D.int .i64 ((P.p-y.getD 0 0) % P.p)]=(o++[(P.p-y.getD 0 0) % P.p]).map (D.int .i64):=by rw[List.map_append];rfl
   (try simp only[c23_33,c23_17,l23_16,cw,cops,csW,csL,reduceIte,reduceEqDiff,reduceCtorEq,reduceAdd,reduceLT,reduceLeDiff,reduceSub,csFa,hI])
   (repeat refine And.intro (by first|omega|(simp;omega)) ?_)
   refine keep [1,5,8,9,23,24,25,26] ?_
   (try simp only[c23_32,c23_18,cw,cops,csW,csL,reduceIte,reduceEqDiff,reduceCtorEq,reduceAdd,reduceLT,reduceLeDiff,reduceSub,csFa,hI])
   (repeat refine And.intro (by first|omega|(simp;omega)) ?_)
   (try simp only[cw,cops,csW,csL,reduceIte,reduceEqDiff,reduceCtorEq,reduceAdd,reduceLT,reduceLeDiff,reduceSub,csFa,hI,hg,hm,List.length_map,hyI])
   (repeat refine And.intro (by first|omega|(simp;omega)) ?_)
   refine keep [1,5,8,9,23,24,25] ?_
   (try simp only[c23_31,c23_28,c23_27,c23_20,l23_19,cw,cops,csW,csL,reduceIte,reduceEqDiff,reduceCtorEq,reduceAdd,reduceLT,reduceLeDiff,reduceSub,csFa,hI,hg,hm,List.length_map,hyI])
   (repeat refine And.intro (by first|omega|(simp;omega)) ?_)
   refine keep [1,5,8,9,11,23,24,25] ?_
   (try simp only[c23_26,c23_22,l23_21,cw,cops,csW,csL,reduceIte,reduceEqDiff,reduceCtorEq,reduceAdd,reduceLT,reduceLeDiff,reduceSub,csFa,hI,hg,hm,List.length_map,hyI])
   (repeat refine And.intro (by first|omega|(simp;omega)) ?_)
   refine keep [1,5,8,9,11,23,24,25,32] ?_
   (try simp only[c23_25,cw,cops,csW,csL,reduceIte,reduceEqDiff,reduceCtorEq,reduceAdd,reduceLT,reduceLeDiff,reduceSub,csFa,hI,hg,hm,List.length_map,hyI])
   (repeat refine And.intro (by first|omega|(simp;omega)) ?_)
   (try simp only[c23_24,l23_23,cw,cops,csW,csL,reduceIte,reduceEqDiff,reduceCtorEq,reduceAdd,reduceLT,reduceLeDiff,reduceSub,csFa,hyI,htm,List.length_map,hoN,hap])
   (repeat refine And.intro (by first|omega|(simp;omega)) ?_)
   refine keep [1,5,8,9,23,24,25] ?_
   (try simp only[c23_30,l23_29,cw,cops,csW,csL,reduceIte,reduceEqDiff,reduceCtorEq,reduceAdd,reduceLT,reduceLeDiff,reduceSub,csFa,hyI,htm,List.length_map,hoN,hap])
   (repeat refine And.intro (by first|omega|(simp;omega)) ?_)
   exact⟨(i+1,o++[(P.p-y.getD 0 0) % P.p],N+1),⟨by simp only;omega,by simp[hoN],by simp only[List.append_assoc,List.cons_append,List.nil_append];exact hR⟩,(Sub.toG [1,5,8,9,23,24,25] [11,42] (by rfl) (by rfl) (by rfl) (by rfl)),by first | omega | (simp only;omega)⟩
  ·rw[if_neg hy2] at hR
   have hyI:¬ (y.length:Int)=2:=by omega
   (try simp only[c23_33,c23_17,l23_16,cw,cops,csW,csL,reduceIte,reduceEqDiff,reduceCtorEq,reduceAdd,reduceLT,reduceLeDiff,reduceSub,csFa,hI])
   (repeat refine And.intro (by first|omega|(simp;omega)) ?_)
   refine keep [1,5,8,9,23,24,25,26] ?_
   (try simp only[c23_32,c23_18,cw,cops,csW,csL,reduceIte,reduceEqDiff,reduceCtorEq,reduceAdd,reduceLT,reduceLeDiff,reduceSub,csFa,hI])
   (repeat refine And.intro (by first|omega|(simp;omega)) ?_)
   (try simp only[cw,cops,csW,csL,reduceIte,reduceEqDiff,reduceCtorEq,reduceAdd,reduceLT,reduceLeDiff,reduceSub,csFa,hI,hg,hm,List.length_map,hyI])
   (repeat refine And.intro (by first|omega|(simp;omega)) ?_)
   refine keep [1,5,8,9,23,24,25] ?_
   (try simp only[c23_31,c23_28,c23_27,c23_20,l23_19,cw,cops,csW,csL,reduceIte,reduceEqDiff,reduceCtorEq,reduceAdd,reduceLT,reduceLeDiff,reduceSub,csFa,hI,hg,hm,List.length_map,hyI])
   (repeat refine And.intro (by first|omega|(simp;omega)) ?_)
   refine keep [1,5,8,9,11,23,24,25] ?_
   (try simp only[c23_26,c23_22,l23_21,cw,cops,csW,csL,reduceIte,reduceEqDiff,reduceCtorEq,reduceAdd,reduceLT,reduceLeDiff,reduceSub,csFa,hI,hg,hm,List.length_map,hyI])
   (repeat refine And.intro (by first|omega|(simp;omega)) ?_)
   refine keep [1,5,8,9,11,23,24,25,32] ?_
   (try simp only[c23_25,cw,cops,csW,csL,reduceIte,reduceEqDiff,reduceCtorEq,reduceAdd,reduceLT,reduceLeDiff,reduceSub,csFa,hI,hg,hm,List.length_map,hyI])
   (repeat refine And.intro (by first|omega|(simp;omega)) ?_)
   (try simp only[cw,cops,csW,csL,reduceIte,reduceEqDiff,reduceCtorEq,reduceAdd,reduceLT,reduceLeDiff,reduceSub,csFa,hyI])
   (repeat refine And.intro (by first|omega|(simp;omega)) ?_)
   refine keep [1,5,8,9,23,24,25] ?_
   (try simp only[c23_30,l23_29,cw,cops,csW,csL,reduceIte,reduceEqDiff,reduceCtorEq,reduceAdd,reduceLT,reduceLeDiff,reduceSub,csFa,hyI])
   (repeat refine And.intro (by first|omega|(simp;omega)) ?_)
   exact⟨(i+1,o,N),⟨by simp only;omega,hoN,hR⟩,(Sub.toG [1,5,8,9,23,24,25] [11,42] (by rfl) (by rfl) (by rfl) (by rfl)),by first | omega | (simp only;omega)⟩
 ·have hI:¬ (i:Int)<(m:Int):=by omega
  rw[List.drop_of_length_le (by omega:A.length≤i)] at hR
  have hR2:o=rtU P.p A:=by
   rw[←hR];exact (List.append_nil o).symm
  subst hR2
  have hsl:=srtI_len (rtU P.p A)
  (try simp only[c23_33,c23_17,l23_16,cw,cops,csW,csL,reduceIte,reduceEqDiff,reduceCtorEq,reduceAdd,reduceLT,reduceLeDiff,reduceSub,csFa,hI])
  (repeat refine And.intro (by first|omega|(simp;omega)) ?_)
  refine keep [1,5,8,9,23,24,25,26] ?_
  (try simp only[c23_32,c23_18,cw,cops,csW,csL,reduceIte,reduceEqDiff,reduceCtorEq,reduceAdd,reduceLT,reduceLeDiff,reduceSub,csFa,hI])
  (repeat refine And.intro (by first|omega|(simp;omega)) ?_)
  (try simp only[cw,cops,csW,csL,reduceIte,reduceEqDiff,reduceCtorEq,reduceAdd,reduceLT,reduceLeDiff,reduceSub,csFa,hI,hoN,List.length_map])
  (repeat refine And.intro (by first|omega|(simp;omega)) ?_)
  refine keep [5,8,9] ?_
  (try simp only[c23_42,c23_38,l23_37,cw,cops,csW,csL,reduceIte,reduceEqDiff,reduceCtorEq,reduceAdd,reduceLT,reduceLeDiff,reduceSub,csFa,hI,hoN,List.length_map])
  (repeat refine And.intro (by first|omega|(simp;omega)) ?_)
  refine⟨_,_,sortIX (rtU P.p A) (by omega),?_⟩
  (try simp only[cw,cops,csW,csL,reduceIte,reduceEqDiff,reduceCtorEq,reduceAdd,reduceLT,reduceLeDiff,reduceSub,csFa,hoN,hsl,List.length_map])
  (repeat refine And.intro (by first|omega|(simp;omega)) ?_)
  refine keep [5,8,9] ?_
  (try simp only[c23_41,c23_40,l23_39,cw,cops,csW,csL,reduceIte,reduceEqDiff,reduceCtorEq,reduceAdd,reduceLT,reduceLeDiff,reduceSub,csFa,hoN,hsl,List.length_map])
  (repeat refine And.intro (by first|omega|(simp;omega)) ?_)
  refine keep [4,5] ?_
  (try simp only[cw,cops,csW,csL,reduceIte,reduceEqDiff,reduceCtorEq,reduceAdd,reduceLT,reduceLeDiff,reduceSub,csFa,Ends,resD,resL,resV,hoN,hsl,List.length_map])
  (repeat refine And.intro (by first|omega|(simp;omega)) ?_)
  have hNN:N≤(srtI (rtU P.p A)).length:=by omega
  have htk:(srtI (rtU P.p A)).take N=srtI (rtU P.p A):=List.take_of_length_le (by omega)
  simp only[hNN,htk,Bool.or_true,and_self,and_true,if_true]
  first | rfl | skip
end Go.Proofs.Ytlnhembcfhfpkaa.M.Nz
