/- Polynomials modulo a prime: the split walked. -/
import Derived.Test.YtlnhembcfhfpkaaFySx
namespace Go.Proofs.Ytlnhembcfhfpkaa.M.Nw
open Go.RowKit Go.Proofs.Ytlnhembcfhfpkaa.Fx
open Nat (reduceEqDiff reduceAdd reduceLT reduceLeDiff reduceSub)
set_option linter.unusedSimpArgs false
set_option linter.unusedVariables false
variable {P:Pr}
abbrev lD (x:Po P):D:=.list 3 1 (x.l.map (D.int .i64))
theorem getD_lD {o:List (Po P)} {i:Nat} (h:i<o.length):(o.map lD).getD i default=lD (at_ o i):=by simp[at_,h]
theorem get_L (T sz:Nat) (l:List D):AV.get (.p (.list T sz l)) 0 1 1 false=some (.p (.list T sz l)):=by
 unfold AV.get
 rw[if_pos ⟨rfl,rfl,rfl⟩]
theorem lD_upd {o:List (Po P)} {i:Nat} {q g:Po P}:(o.map lD).set i (D.list 3 1 (q.l.map (D.int .i64)))++[D.list 3 1 (g.l.map (D.int .i64))]=(o.set i q++[g]).map lD:=by
 rw[List.map_append,←List.map_set];rfl
theorem LLm (o:List (Po P)):LL (o.map fun b=>b.l) = .list 22 1 (o.map lD):=by
 unfold LL
 rw[List.map_map];rfl
theorem cn_l_0:(cn 0:Po P).l=[]:=l_0
theorem cn_l {s:Nat} (h:s<pn P) (h0:s≠0):(cn (s:Int):Po P).l=[(s:Int)]:=by
 have hp:=pn_p P
 refine td_ext (cn (s:Int):Po P).td (td_of_last fun _=>by simp;omega) fun i => ?_
 show co (cn (s:Int)) i=_
 rw[co_cn]
 rcases i with _ | i
 ·rw[if_pos rfl,em_self (by omega)];rfl
 ·simp
noncomputable def spF (f:Po P):List (Po P):=spB (kerB f).length (kerB f) [f]
theorem copsC (G:FuncId→List D→D→Prop) (c:COp) (l:List COp) (K:St→Prop) (s:St):cops G (c::l) K s=gstep G c (cops G l K) s:=rfl
theorem copsN (G:FuncId→List D→D→Prop) (K:St→Prop) (s:St):cops G [] K s=K s:=rfl
set_option linter.defProp false in
def csSp:=And.intro @get_L (And.intro @one_D (And.intro @csT @csF))
set_option maxRecDepth 20000 in
set_option maxHeartbeats 8000000 in
theorem split_con (f:Po P) (hf:Sqf f) (hb:dg f≤65):Con Try.prog [] 37 [L f.l,I P.p] (.list 22 1 ((spF f).map lD)):=by
 have hp:=P.h.pos
 have hpn:=pn_p P
 have hker:=kerB_ok (f:=f) hf.d2
 obtain⟨B,hB⟩:∃ B,kerB f=B:=⟨_,rfl⟩
 rw[hB] at hker
 obtain⟨m,hm⟩:∃ m,B.length=m:=⟨_,rfl⟩
 have hm1:1≤m:=by rw[←hm];exact hker.pos hf
 have hmb:m≤65:=by
  have:(kerB f).length≤dg f-1:=by unfold kerB;simp
  rw[hB] at this;omega
 have hR0:spF f=spB m B [f]:=by unfold spF;rw[hB,hm]
 have hkc:=kernel_con (T:=3) f hf.d2 hb
 rw[LLm,hB] at hkc
 refine fn37.con rfl (by simp) ?_
 (try simp only[init2,c37,c37_76,c37_1,l37_0,cw,cops,csW,csL,reduceIte,reduceEqDiff,reduceCtorEq,reduceAdd,reduceLT,reduceLeDiff,reduceSub,csSp])
 (repeat refine And.intro (by first|omega|(simp;omega)) ?_)
 refine keep [0,1] ?_
 (try simp only[c37_75,c37_4,l37_2,cw,cops,csW,csL,reduceIte,reduceEqDiff,reduceCtorEq,reduceAdd,reduceLT,reduceLeDiff,reduceSub,csSp])
 (repeat refine And.intro (by first|omega|(simp;omega)) ?_)
 refine⟨_,cx (hkc),?_⟩
 (try simp only[l37_3,cw,cops,csW,csL,reduceIte,reduceEqDiff,reduceCtorEq,reduceAdd,reduceLT,reduceLeDiff,reduceSub,csSp,List.length_map,hm])
 (repeat refine And.intro (by first|omega|(simp;omega)) ?_)
 refine keep [0,1,5] ?_
 (try simp only[c37_74,c37_6,l37_5,cw,cops,csW,csL,reduceIte,reduceEqDiff,reduceCtorEq,reduceAdd,reduceLT,reduceLeDiff,reduceSub,csSp,List.length_map,hm])
 (repeat refine And.intro (by first|omega|(simp;omega)) ?_)
 refine keep [1,5,6] ?_
 (try simp only[c37_73,c37_69,c37_8,l37_7,cw,cops,csW,csL,reduceIte,reduceEqDiff,reduceCtorEq,reduceAdd,reduceLT,reduceLeDiff,reduceSub,csSp,List.length_map,hm])
 (repeat refine And.intro (by first|omega|(simp;omega)) ?_)
 refine keep [1,5,6,19,20,21] ?_
 (try simp only[c37_68,cw,cops,csW,csL,reduceIte,reduceEqDiff,reduceCtorEq,reduceAdd,reduceLT,reduceLeDiff,reduceSub,csSp,List.length_map,hm])
 refine loop_of (ι:=Nat × List (Po P) × Nat) (fun s=>s.1≤m∧SI f s.2.1∧s.2.1.length=s.2.2∧s.2.2≤m∧spB m (B.drop s.1) s.2.1=spF f) (fun s=>⟨look [(1,.p (I P.p)),(5,.p (.list 22 1 (B.map lD))),(6,.slice 18 0 s.2.2),(19,.p (.list 22 1 (B.map lD))),(20,.p (I m)),(21,.p (I s.1))],lookM [(18,⟨22,1,.row (s.2.1.map lD),false⟩)]⟩) (fun s=>m-s.1) (0,[f],1) ⟨by simp only;omega,SI.start hf,rfl,hm1,by rw[hR0];rfl⟩ (Sub.toG [1,5,6,19,20,21] [64,101] (by rfl) (by rfl) (by rfl) (by rfl)) ?_
 rintro⟨j,o,N⟩ ⟨hj,hSI,hoN,hNm,hR⟩
 simp only at hj hSI hoN hNm hR
 by_cases h:j<m
 ·have hI:(j:Int)<(m:Int):=by omega
  have hgB:=getD_lD (o:=B) (i:=j) (by omega)
  obtain⟨v,hv⟩:∃ v,at_ B j=v:=⟨_,rfl⟩
  have hvB:v∈B:=mem_at.2 ⟨j,by omega,hv⟩
  have hvd:=hker.dgb v hvB
  have hdrop:B.drop j=v::B.drop (j+1):=by
   rw[List.drop_eq_getElem_cons (by omega),←hv]
   simp[at_,show j<B.length by omega]
  rw[hdrop] at hR
  have hR':spB m (B.drop (j+1)) (spM m v m 0 o)=spF f:=hR
  rw[hv] at hgB
  (try simp only[c37_66,c37_10,l37_9,cw,cops,csW,csL,reduceIte,reduceEqDiff,reduceCtorEq,reduceAdd,reduceLT,reduceLeDiff,reduceSub,csSp,hI,hm,List.length_map])
  (repeat refine And.intro (by first|omega|(simp;omega)) ?_)
  refine keep [1,5,6,19,20,21,22] ?_
  (try simp only[c37_65,c37_11,cw,cops,csW,csL,reduceIte,reduceEqDiff,reduceCtorEq,reduceAdd,reduceLT,reduceLeDiff,reduceSub,csSp,hI,hm,List.length_map])
  (repeat refine And.intro (by first|omega|(simp;omega)) ?_)
  (try simp only[cw,cops,csW,csL,reduceIte,reduceEqDiff,reduceCtorEq,reduceAdd,reduceLT,reduceLeDiff,reduceSub,csSp,hI,hgB,hm,List.length_map])
  (repeat refine And.intro (by first|omega|(simp;omega)) ?_)
  refine keep [1,5,6,19,20,21] ?_
  (try simp only[c37_64,c37_61,c37_60,c37_13,l37_12,cw,cops,csW,csL,reduceIte,reduceEqDiff,reduceCtorEq,reduceAdd,reduceLT,reduceLeDiff,reduceSub,csSp,hI,hgB,hm,List.length_map])
  (repeat refine And.intro (by first|omega|(simp;omega)) ?_)
  refine keep [1,5,6,8,19,20,21] ?_
  (try simp only[c37_59,c37_15,l37_14,cw,cops,csW,csL,reduceIte,reduceEqDiff,reduceCtorEq,reduceAdd,reduceLT,reduceLeDiff,reduceSub,csSp,hI,hgB,hm,List.length_map])
  (repeat refine And.intro (by first|omega|(simp;omega)) ?_)
  refine keep [1,5,6,8,9,19,20,21] ?_
  (try simp only[c37_58,cw,cops,csW,csL,reduceIte,reduceEqDiff,reduceCtorEq,reduceAdd,reduceLT,reduceLeDiff,reduceSub,csSp,hI,hgB,hm,List.length_map])
  refine loop_of (ι:=Nat × List (Po P) × Nat) (fun s=>s.1≤m∧SI f s.2.1∧s.2.1.length=s.2.2∧s.2.2≤m∧spM m v (m-s.1) s.1 s.2.1=spM m v m 0 o) (fun s=>⟨look [(1,.p (I P.p)),(5,.p (.list 22 1 (B.map lD))),(6,.slice 18 0 s.2.2),(8,.p (L v.l)),(9,.p (I s.1)),(19,.p (.list 22 1 (B.map lD))),(20,.p (I m)),(21,.p (I j))],lookM [(18,⟨22,1,.row (s.2.1.map lD),false⟩)]⟩) (fun s=>m-s.1) (0,o,N) ⟨by simp only;omega,hSI,hoN,hNm,rfl⟩ (Sub.toG [1,5,6,8,9,19,20,21] [64,101] (by rfl) (by rfl) (by rfl) (by rfl)) ?_
  rintro⟨i,o1,N1⟩ ⟨hi,hS1,hoN1,hNm1,hR1⟩
  simp only at hi hS1 hoN1 hNm1 hR1
  by_cases hc:i<N1∧N1<m
  ·have h1I:(i:Int)<(N1:Int):=by omega
   have h2I:(N1:Int)<(m:Int):=by omega
   obtain⟨e,he⟩:∃ e,m-i=e+1:=⟨m-i-1,by omega⟩
   rw[he,spM,if_pos ⟨by omega,by omega⟩] at hR1
   (try simp only[c37_56,c37_19,c37_17,cw,cops,csW,csL,reduceIte,reduceEqDiff,reduceCtorEq,reduceAdd,reduceLT,reduceLeDiff,reduceSub,csSp,h1I,h2I,hm,List.length_map])
   (repeat refine And.intro (by first|omega|(simp;omega)) ?_)
   (try rw[cops_app])
   unfold l37_16
   repeat (rw[copsC];(try simp only[cw,csW,csL,reduceIte,reduceEqDiff,reduceCtorEq,reduceAdd,reduceLT,reduceLeDiff,reduceSub,csSp,h1I,h2I,hm,List.length_map]);(repeat refine And.intro (by first|omega|(simp;omega)) ?_))
   (try rw[copsN])
   (try simp only[cw,cops,csW,csL,reduceIte,reduceEqDiff,reduceCtorEq,reduceAdd,reduceLT,reduceLeDiff,reduceSub,csSp,h1I,h2I,hm,List.length_map])
   (repeat refine And.intro (by first|omega|(simp;omega)) ?_)
   refine keep [1,5,6,8,9,19,20,21,35] ?_
   (try simp only[c37_18,cw,cops,csW,csL,reduceIte,reduceEqDiff,reduceCtorEq,reduceAdd,reduceLT,reduceLeDiff,reduceSub,csSp,h1I,h2I,hm,List.length_map])
   (repeat refine And.intro (by first|omega|(simp;omega)) ?_)
   (try simp only[cw,cops,csW,csL,reduceIte,reduceEqDiff,reduceCtorEq,reduceAdd,reduceLT,reduceLeDiff,reduceSub,csSp,h1I,h2I])
   (repeat refine And.intro (by first|omega|(simp;omega)) ?_)
   refine keep [1,5,6,8,9,19,20,21] ?_
   (try simp only[c37_55,c37_52,c37_51,c37_21,l37_20,cw,cops,csW,csL,reduceIte,reduceEqDiff,reduceCtorEq,reduceAdd,reduceLT,reduceLeDiff,reduceSub,csSp,h1I,h2I])
   (repeat refine And.intro (by first|omega|(simp;omega)) ?_)
   refine keep [1,5,6,8,9,10,19,20,21] ?_
   (try simp only[c37_50,cw,cops,csW,csL,reduceIte,reduceEqDiff,reduceCtorEq,reduceAdd,reduceLT,reduceLeDiff,reduceSub,csSp,h1I,h2I])
   refine loop_of (ι:=Nat × List (Po P) × Nat) (fun s=>s.1≤pn P∧SI f s.2.1∧s.2.1.length=s.2.2∧s.2.2≤m∧i<s.2.2∧spI m v i (pn P-s.1) s.1 s.2.1=spI m v i (pn P) 0 o1) (fun s=>⟨look [(1,.p (I P.p)),(5,.p (.list 22 1 (B.map lD))),(6,.slice 18 0 s.2.2),(8,.p (L v.l)),(9,.p (I i)),(10,.p (I s.1)),(19,.p (.list 22 1 (B.map lD))),(20,.p (I m)),(21,.p (I j))],lookM [(18,⟨22,1,.row (s.2.1.map lD),false⟩)]⟩) (fun s=>pn P-s.1) (0,o1,N1) ⟨by simp only;omega,hS1,hoN1,hNm1,hc.1,rfl⟩ (Sub.toG [1,5,6,8,9,10,19,20,21] [64,101] (by rfl) (by rfl) (by rfl) (by rfl)) ?_
   rintro⟨s,o2,N2⟩ ⟨hs,hS2,hoN2,hNm2,hi2,hR2⟩
   simp only at hs hS2 hoN2 hNm2 hi2 hR2
   have hgo:=getD_lD (o:=o2) (i:=i) (by omega)
   obtain⟨x,hx⟩:∃ x,at_ o2 i=x:=⟨_,rfl⟩
   have hxm:=hS2.mo i (by omega)
   have hxf:=hS2.dv i (by omega)
   rw[hx] at hgo hxm hxf
   have hxd:dg x≤65:=Nat.le_trans (dg_dvd hxf hf.mo.ne) hb
   have hiI:(i:Int)<(N2:Int):=by omega
   have hend:¬ (s<pn P∧o2.length<m∧2<dg x)→spI m v i (pn P) 0 o1=o2:=fun hn=>by
    rw[←hR2]
    cases hq:pn P-s with
    | zero=>rfl
    | succ q=>rw[spI,if_neg (by rw[hx];exact hn)]
   by_cases hs1:s<pn P
   ·have hsI:(s:Int)<P.p:=by omega
    by_cases hs2:N2<m
    ·have hs2I:(N2:Int)<(m:Int):=by omega
     by_cases hs3:2<dg x
     ·have hs3I:(2:Int)<(x.l.length:Int):=by unfold dg at hs3;omega
      obtain⟨q,hq⟩:∃ q,pn P-s=q+1:=⟨pn P-s-1,by omega⟩
      have hq2:pn P-(s+1)=q:=by omega
      rw[hq,spI,if_pos ⟨hs1,by omega,by rw[hx];exact hs3⟩] at hR2
      simp only[hx] at hR2
      have hvs:=dg_sub_le v (cn s)
      have hcs:=dg_cn_le (P:=P) s
      have hgm:=gc_mo (f:=x) (g:=v-cn s) (.inl hxm.ne)
      have hgx:=gc_dl x (v-cn s)
      have hgl:=dg_dvd hgx hxm.ne
      obtain⟨k,hk⟩:∃ k,min s 1=k:=⟨_,rfl⟩
      have hkI:(if (1:Int)<(s:Int) then (1:Int) else (s:Int))=(k:Int):=by split<;>omega
      have hk1:(k:Int)≤1:=by omega
      have hk1N:(k≤1)=True:=eq_true (by omega)
      have htk:([D.int .i64 (s:Int)]:List D).take k=((cn (s:Int):Po P).l).map (D.int .i64):=by
       by_cases h0:s=0
       ·subst h0
        have:k=0:=by omega
        rw[this]
        show []=((cn 0:Po P).l).map (D.int .i64)
        rw[cn_l_0];rfl
       ·have:k=1:=by omega
        rw[this,cn_l hs1 h0];rfl
      (try simp only[c37_48,c37_25,c37_23,cw,cops,csW,csL,reduceIte,reduceEqDiff,reduceCtorEq,reduceAdd,reduceLT,reduceLeDiff,reduceSub,csSp,hsI,hs2I,hs3I,hoN2,hm,hgo,hiI,List.length_map])
      (repeat refine And.intro (by first|omega|(simp;omega)) ?_)
      (try rw[cops_app])
      unfold l37_22
      repeat (rw[copsC];(try simp only[cw,csW,csL,reduceIte,reduceEqDiff,reduceCtorEq,reduceAdd,reduceLT,reduceLeDiff,reduceSub,csSp,hsI,hs2I,hs3I,hoN2,hm,hgo,hiI,List.length_map]);(repeat refine And.intro (by first|omega|(simp;omega)) ?_))
      (try rw[copsN])
      (try simp only[cw,cops,csW,csL,reduceIte,reduceEqDiff,reduceCtorEq,reduceAdd,reduceLT,reduceLeDiff,reduceSub,csSp,hsI,hs2I,hs3I,hoN2,hm,hgo,hiI,List.length_map])
      (repeat refine And.intro (by first|omega|(simp;omega)) ?_)
      refine keep [1,5,6,8,9,10,19,20,21,55] ?_
      (try simp only[c37_24,cw,cops,csW,csL,reduceIte,reduceEqDiff,reduceCtorEq,reduceAdd,reduceLT,reduceLeDiff,reduceSub,csSp,hsI,hs2I,hs3I,hoN2,hm,hgo,hiI,List.length_map])
      (repeat refine And.intro (by first|omega|(simp;omega)) ?_)
      (try simp only[cw,cops,csW,csL,reduceIte,reduceEqDiff,reduceCtorEq,reduceAdd,reduceLT,reduceLeDiff,reduceSub,csSp,hgo,hiI,List.length_map,hoN2,hkI,hk1,hk1N,htk,Bool.true_or])
      (repeat refine And.intro (by first|omega|(simp;omega)) ?_)
      refine keep [1,5,6,8,9,10,19,20,21] ?_
      (try simp only[c37_47,c37_44,c37_43,c37_29,l37_26,cw,cops,csW,csL,reduceIte,reduceEqDiff,reduceCtorEq,reduceAdd,reduceLT,reduceLeDiff,reduceSub,csSp,hgo,hiI,List.length_map,hoN2,hkI,hk1,hk1N,htk,Bool.true_or])
      (repeat refine And.intro (by first|omega|(simp;omega)) ?_)
      refine⟨_,cx (sub_con v (cn (s:Int)) (by omega) (by omega)),?_⟩
      (try simp only[l37_27,cw,cops,csW,csL,reduceIte,reduceEqDiff,reduceCtorEq,reduceAdd,reduceLT,reduceLeDiff,reduceSub,csSp])
      (repeat refine And.intro (by first|omega|(simp;omega)) ?_)
      by_cases hsp1:1<dg (gc x (v-cn s))
      ·have hsp1I:(1:Int)<((gc x (v-cn (s:Int))).l.length:Int):=by unfold dg at hsp1;omega
       by_cases hsp2:dg (gc x (v-cn s))<dg x
       ·have hsp2I:((gc x (v-cn (s:Int))).l.length:Int)<(x.l.length:Int):=by unfold dg at hsp2;omega
        rw[if_pos ⟨hsp1,hsp2⟩] at hR2
        have hS3:=hS2.step hf (g:=gc x (v-cn s)) (i:=i) (by omega) hgm (by rw[hx];exact hgx) hsp1 (by rw[hx];exact hsp2)
        rw[hx] at hS3
        have hupd:=lD_upd (o:=o2) (i:=i) (q:=qo x (gc x (v-cn s))) (g:=gc x (v-cn s))
        have hql:=qo_dg hxm hgm hgx
        have hsl:(o2.set i (qo x (gc x (v-cn s)))++[gc x (v-cn s)]).length=N2+1:=by rw[len_upd];omega
        refine⟨_,cx (gcX_con x (v-cn (s:Int)) (by omega) (by omega)),?_⟩
        (try simp only[l37_28,cw,cops,csW,csL,reduceIte,reduceEqDiff,reduceCtorEq,reduceAdd,reduceLT,reduceLeDiff,reduceSub,csSp,hgo,hiI,List.length_map,hoN2,hsp1I,hsp2I])
        (repeat refine And.intro (by first|omega|(simp;omega)) ?_)
        refine keep [1,5,6,8,9,10,11,19,20,21] ?_
        (try simp only[c37_42,c37_31,cw,cops,csW,csL,reduceIte,reduceEqDiff,reduceCtorEq,reduceAdd,reduceLT,reduceLeDiff,reduceSub,csSp,hgo,hiI,List.length_map,hoN2,hsp1I,hsp2I])
        (repeat refine And.intro (by first|omega|(simp;omega)) ?_)
        (try rw[cops_app])
        unfold l37_30
        repeat (rw[copsC];(try simp only[cw,csW,csL,reduceIte,reduceEqDiff,reduceCtorEq,reduceAdd,reduceLT,reduceLeDiff,reduceSub,csSp,hgo,hiI,List.length_map,hoN2,hsp1I,hsp2I]);(repeat refine And.intro (by first|omega|(simp;omega)) ?_))
        (try rw[copsN])
        (try simp only[cw,cops,csW,csL,reduceIte,reduceEqDiff,reduceCtorEq,reduceAdd,reduceLT,reduceLeDiff,reduceSub,csSp,hgo,hiI,List.length_map,hoN2,hsp1I,hsp2I])
        (repeat refine And.intro (by first|omega|(simp;omega)) ?_)
        refine keep [1,5,6,8,9,10,11,19,20,21,84] ?_
        (try simp only[c37_41,cw,cops,csW,csL,reduceIte,reduceEqDiff,reduceCtorEq,reduceAdd,reduceLT,reduceLeDiff,reduceSub,csSp,hgo,hiI,List.length_map,hoN2,hsp1I,hsp2I])
        (repeat refine And.intro (by first|omega|(simp;omega)) ?_)
        (try simp only[c37_40,c37_34,l37_32,cw,cops,csW,csL,reduceIte,reduceEqDiff,reduceCtorEq,reduceAdd,reduceLT,reduceLeDiff,reduceSub,csSp,hgo,hiI,List.length_map,hoN2])
        (repeat refine And.intro (by first|omega|(simp;omega)) ?_)
        refine⟨_,cx (divX_con x (by omega) (by omega) hgm.ne),?_⟩
        (try simp only[l37_33,cw,cops,csW,csL,reduceIte,reduceEqDiff,reduceCtorEq,reduceAdd,reduceLT,reduceLeDiff,reduceSub,csSp,hiI,List.length_map,List.length_set,hoN2,hupd])
        (repeat refine And.intro (by first|omega|(simp;omega)) ?_)
        refine keep [1,5,6,8,9,10,11,12,19,20,21] ?_
        (try simp only[c37_39,c37_36,l37_35,cw,cops,csW,csL,reduceIte,reduceEqDiff,reduceCtorEq,reduceAdd,reduceLT,reduceLeDiff,reduceSub,csSp,hiI,List.length_map,List.length_set,hoN2,hupd])
        (repeat refine And.intro (by first|omega|(simp;omega)) ?_)
        refine keep [1,5,6,8,9,10,11,19,20,21] ?_
        (try simp only[c37_38,l37_37,cw,cops,csW,csL,reduceIte,reduceEqDiff,reduceCtorEq,reduceAdd,reduceLT,reduceLeDiff,reduceSub,csSp,hiI,List.length_map,List.length_set,hoN2,hupd])
        (repeat refine And.intro (by first|omega|(simp;omega)) ?_)
        refine keep [1,5,6,8,9,10,19,20,21] ?_
        (try simp only[c37_46,l37_45,cw,cops,csW,csL,reduceIte,reduceEqDiff,reduceCtorEq,reduceAdd,reduceLT,reduceLeDiff,reduceSub,csSp,hiI,List.length_map,List.length_set,hoN2,hupd])
        (repeat refine And.intro (by first|omega|(simp;omega)) ?_)
        exact⟨(s+1,_,N2+1),⟨by simp only;omega,hS3,hsl,by simp only;omega,by simp only;omega,by simp only;rw[hq2];exact hR2⟩,(Sub.toG [1,5,6,8,9,10,19,20,21] [64,101] (by rfl) (by rfl) (by rfl) (by rfl)),by simp only;omega⟩
       ·have hsp2I:¬ ((gc x (v-cn (s:Int))).l.length:Int)<(x.l.length:Int):=by unfold dg at hsp2;omega
        rw[if_neg (fun hh=>hsp2 hh.2)] at hR2
        refine⟨_,cx (gcX_con x (v-cn (s:Int)) (by omega) (by omega)),?_⟩
        (try simp only[l37_28,cw,cops,csW,csL,reduceIte,reduceEqDiff,reduceCtorEq,reduceAdd,reduceLT,reduceLeDiff,reduceSub,csSp,hgo,hiI,List.length_map,hoN2,hsp1I,hsp2I])
        (repeat refine And.intro (by first|omega|(simp;omega)) ?_)
        refine keep [1,5,6,8,9,10,11,19,20,21] ?_
        (try simp only[c37_42,c37_31,cw,cops,csW,csL,reduceIte,reduceEqDiff,reduceCtorEq,reduceAdd,reduceLT,reduceLeDiff,reduceSub,csSp,hgo,hiI,List.length_map,hoN2,hsp1I,hsp2I])
        (repeat refine And.intro (by first|omega|(simp;omega)) ?_)
        (try rw[cops_app])
        unfold l37_30
        repeat (rw[copsC];(try simp only[cw,csW,csL,reduceIte,reduceEqDiff,reduceCtorEq,reduceAdd,reduceLT,reduceLeDiff,reduceSub,csSp,hgo,hiI,List.length_map,hoN2,hsp1I,hsp2I]);(repeat refine And.intro (by first|omega|(simp;omega)) ?_))
        (try rw[copsN])
        (try simp only[cw,cops,csW,csL,reduceIte,reduceEqDiff,reduceCtorEq,reduceAdd,reduceLT,reduceLeDiff,reduceSub,csSp,hgo,hiI,List.length_map,hoN2,hsp1I,hsp2I])
        (repeat refine And.intro (by first|omega|(simp;omega)) ?_)
        refine keep [1,5,6,8,9,10,11,19,20,21,84] ?_
        (try simp only[c37_41,cw,cops,csW,csL,reduceIte,reduceEqDiff,reduceCtorEq,reduceAdd,reduceLT,reduceLeDiff,reduceSub,csSp,hgo,hiI,List.length_map,hoN2,hsp1I,hsp2I])
        (repeat refine And.intro (by first|omega|(simp;omega)) ?_)
        (try simp only[cw,cops,csW,csL,reduceIte,reduceEqDiff,reduceCtorEq,reduceAdd,reduceLT,reduceLeDiff,reduceSub,csSp])
        (repeat refine And.intro (by first|omega|(simp;omega)) ?_)
        refine keep [1,5,6,8,9,10,19,20,21] ?_
        (try simp only[c37_46,l37_45,cw,cops,csW,csL,reduceIte,reduceEqDiff,reduceCtorEq,reduceAdd,reduceLT,reduceLeDiff,reduceSub,csSp])
        (repeat refine And.intro (by first|omega|(simp;omega)) ?_)
        exact⟨(s+1,o2,N2),⟨by simp only;omega,hS2,hoN2,hNm2,hi2,by simp only;rw[hq2];exact hR2⟩,(Sub.toG [1,5,6,8,9,10,19,20,21] [64,101] (by rfl) (by rfl) (by rfl) (by rfl)),by simp only;omega⟩
      ·have hsp1I:¬ (1:Int)<((gc x (v-cn (s:Int))).l.length:Int):=by unfold dg at hsp1;omega
       rw[if_neg (fun hh=>hsp1 hh.1)] at hR2
       refine⟨_,cx (gcX_con x (v-cn (s:Int)) (by omega) (by omega)),?_⟩
       (try simp only[l37_28,cw,cops,csW,csL,reduceIte,reduceEqDiff,reduceCtorEq,reduceAdd,reduceLT,reduceLeDiff,reduceSub,csSp,hgo,hiI,List.length_map,hoN2,hsp1I])
       (repeat refine And.intro (by first|omega|(simp;omega)) ?_)
       refine keep [1,5,6,8,9,10,11,19,20,21] ?_
       (try simp only[c37_42,c37_31,cw,cops,csW,csL,reduceIte,reduceEqDiff,reduceCtorEq,reduceAdd,reduceLT,reduceLeDiff,reduceSub,csSp,hgo,hiI,List.length_map,hoN2,hsp1I])
       (repeat refine And.intro (by first|omega|(simp;omega)) ?_)
       (try rw[cops_app])
       unfold l37_30
       repeat (rw[copsC];(try simp only[cw,csW,csL,reduceIte,reduceEqDiff,reduceCtorEq,reduceAdd,reduceLT,reduceLeDiff,reduceSub,csSp,hgo,hiI,List.length_map,hoN2,hsp1I]);(repeat refine And.intro (by first|omega|(simp;omega)) ?_))
       (try rw[copsN])
       (try simp only[cw,cops,csW,csL,reduceIte,reduceEqDiff,reduceCtorEq,reduceAdd,reduceLT,reduceLeDiff,reduceSub,csSp,hgo,hiI,List.length_map,hoN2,hsp1I])
       (repeat refine And.intro (by first|omega|(simp;omega)) ?_)
       refine keep [1,5,6,8,9,10,11,19,20,21,84] ?_
       (try simp only[c37_41,cw,cops,csW,csL,reduceIte,reduceEqDiff,reduceCtorEq,reduceAdd,reduceLT,reduceLeDiff,reduceSub,csSp,hgo,hiI,List.length_map,hoN2,hsp1I])
       (repeat refine And.intro (by first|omega|(simp;omega)) ?_)
       (try simp only[cw,cops,csW,csL,reduceIte,reduceEqDiff,reduceCtorEq,reduceAdd,reduceLT,reduceLeDiff,reduceSub,csSp])
       (repeat refine And.intro (by first|omega|(simp;omega)) ?_)
       refine keep [1,5,6,8,9,10,19,20,21] ?_
       (try simp only[c37_46,l37_45,cw,cops,csW,csL,reduceIte,reduceEqDiff,reduceCtorEq,reduceAdd,reduceLT,reduceLeDiff,reduceSub,csSp])
       (repeat refine And.intro (by first|omega|(simp;omega)) ?_)
       exact⟨(s+1,o2,N2),⟨by simp only;omega,hS2,hoN2,hNm2,hi2,by simp only;rw[hq2];exact hR2⟩,(Sub.toG [1,5,6,8,9,10,19,20,21] [64,101] (by rfl) (by rfl) (by rfl) (by rfl)),by simp only;omega⟩
     ·have hs3I:¬ (2:Int)<(x.l.length:Int):=by unfold dg at hs3;omega
      have he2:=hend (fun hh=>hs3 hh.2.2)
      (try simp only[c37_48,c37_25,c37_23,cw,cops,csW,csL,reduceIte,reduceEqDiff,reduceCtorEq,reduceAdd,reduceLT,reduceLeDiff,reduceSub,csSp,hsI,hs2I,hs3I,hoN2,hm,hgo,hiI,List.length_map])
      (repeat refine And.intro (by first|omega|(simp;omega)) ?_)
      (try rw[cops_app])
      unfold l37_22
      repeat (rw[copsC];(try simp only[cw,csW,csL,reduceIte,reduceEqDiff,reduceCtorEq,reduceAdd,reduceLT,reduceLeDiff,reduceSub,csSp,hsI,hs2I,hs3I,hoN2,hm,hgo,hiI,List.length_map]);(repeat refine And.intro (by first|omega|(simp;omega)) ?_))
      (try rw[copsN])
      (try simp only[cw,cops,csW,csL,reduceIte,reduceEqDiff,reduceCtorEq,reduceAdd,reduceLT,reduceLeDiff,reduceSub,csSp,hsI,hs2I,hs3I,hoN2,hm,hgo,hiI,List.length_map])
      (repeat refine And.intro (by first|omega|(simp;omega)) ?_)
      refine keep [1,5,6,8,9,10,19,20,21,55] ?_
      (try simp only[c37_24,cw,cops,csW,csL,reduceIte,reduceEqDiff,reduceCtorEq,reduceAdd,reduceLT,reduceLeDiff,reduceSub,csSp,hsI,hs2I,hs3I,hoN2,hm,hgo,hiI,List.length_map])
      (repeat refine And.intro (by first|omega|(simp;omega)) ?_)
      (try simp only[cw,cops,csW,csL,reduceIte,reduceEqDiff,reduceCtorEq,reduceAdd,reduceLT,reduceLeDiff,reduceSub,csSp])
      (repeat refine And.intro (by first|omega|(simp;omega)) ?_)
      refine keep [1,5,6,8,9,19,20,21] ?_
      (try simp only[c37_54,l37_53,cw,cops,csW,csL,reduceIte,reduceEqDiff,reduceCtorEq,reduceAdd,reduceLT,reduceLeDiff,reduceSub,csSp])
      (repeat refine And.intro (by first|omega|(simp;omega)) ?_)
      exact⟨(i+1,o2,N2),⟨by simp only;omega,hS2,hoN2,hNm2,by simp only;rw[show m-(i+1)=e by omega,←he2];exact hR1⟩,(Sub.toG [1,5,6,8,9,19,20,21] [64,101] (by rfl) (by rfl) (by rfl) (by rfl)),by simp only;omega⟩
    ·have hs2I:¬ (N2:Int)<(m:Int):=by omega
     have he2:=hend (fun hh=>hs2 (by omega))
     (try simp only[c37_48,c37_25,c37_23,cw,cops,csW,csL,reduceIte,reduceEqDiff,reduceCtorEq,reduceAdd,reduceLT,reduceLeDiff,reduceSub,csSp,hsI,hs2I,hoN2,hm,hgo,hiI,List.length_map])
     (repeat refine And.intro (by first|omega|(simp;omega)) ?_)
     (try rw[cops_app])
     unfold l37_22
     repeat (rw[copsC];(try simp only[cw,csW,csL,reduceIte,reduceEqDiff,reduceCtorEq,reduceAdd,reduceLT,reduceLeDiff,reduceSub,csSp,hsI,hs2I,hoN2,hm,hgo,hiI,List.length_map]);(repeat refine And.intro (by first|omega|(simp;omega)) ?_))
     (try rw[copsN])
     (try simp only[cw,cops,csW,csL,reduceIte,reduceEqDiff,reduceCtorEq,reduceAdd,reduceLT,reduceLeDiff,reduceSub,csSp,hsI,hs2I,hoN2,hm,hgo,hiI,List.length_map])
     (repeat refine And.intro (by first|omega|(simp;omega)) ?_)
     refine keep [1,5,6,8,9,10,19,20,21,55] ?_
     (try simp only[c37_24,cw,cops,csW,csL,reduceIte,reduceEqDiff,reduceCtorEq,reduceAdd,reduceLT,reduceLeDiff,reduceSub,csSp,hsI,hs2I,hoN2,hm,hgo,hiI,List.length_map])
     (repeat refine And.intro (by first|omega|(simp;omega)) ?_)
     (try simp only[cw,cops,csW,csL,reduceIte,reduceEqDiff,reduceCtorEq,reduceAdd,reduceLT,reduceLeDiff,reduceSub,csSp])
     (repeat refine And.intro (by first|omega|(simp;omega)) ?_)
     refine keep [1,5,6,8,9,19,20,21] ?_
     (try simp only[c37_54,l37_53,cw,cops,csW,csL,reduceIte,reduceEqDiff,reduceCtorEq,reduceAdd,reduceLT,reduceLeDiff,reduceSub,csSp])
     (repeat refine And.intro (by first|omega|(simp;omega)) ?_)
     exact⟨(i+1,o2,N2),⟨by simp only;omega,hS2,hoN2,hNm2,by simp only;rw[show m-(i+1)=e by omega,←he2];exact hR1⟩,(Sub.toG [1,5,6,8,9,19,20,21] [64,101] (by rfl) (by rfl) (by rfl) (by rfl)),by simp only;omega⟩
   ·have hsI:¬ (s:Int)<P.p:=by omega
    have he2:=hend (fun hh=>hs1 hh.1)
    (try simp only[c37_48,c37_25,c37_23,cw,cops,csW,csL,reduceIte,reduceEqDiff,reduceCtorEq,reduceAdd,reduceLT,reduceLeDiff,reduceSub,csSp,hsI,hoN2,hm,hgo,hiI,List.length_map])
    (repeat refine And.intro (by first|omega|(simp;omega)) ?_)
    (try rw[cops_app])
    unfold l37_22
    repeat (rw[copsC];(try simp only[cw,csW,csL,reduceIte,reduceEqDiff,reduceCtorEq,reduceAdd,reduceLT,reduceLeDiff,reduceSub,csSp,hsI,hoN2,hm,hgo,hiI,List.length_map]);(repeat refine And.intro (by first|omega|(simp;omega)) ?_))
    (try rw[copsN])
    (try simp only[cw,cops,csW,csL,reduceIte,reduceEqDiff,reduceCtorEq,reduceAdd,reduceLT,reduceLeDiff,reduceSub,csSp,hsI,hoN2,hm,hgo,hiI,List.length_map])
    (repeat refine And.intro (by first|omega|(simp;omega)) ?_)
    refine keep [1,5,6,8,9,10,19,20,21,55] ?_
    (try simp only[c37_24,cw,cops,csW,csL,reduceIte,reduceEqDiff,reduceCtorEq,reduceAdd,reduceLT,reduceLeDiff,reduceSub,csSp,hsI,hoN2,hm,hgo,hiI,List.length_map])
    (repeat refine And.intro (by first|omega|(simp;omega)) ?_)
    (try simp only[cw,cops,csW,csL,reduceIte,reduceEqDiff,reduceCtorEq,reduceAdd,reduceLT,reduceLeDiff,reduceSub,csSp])
    (repeat refine And.intro (by first|omega|(simp;omega)) ?_)
    refine keep [1,5,6,8,9,19,20,21] ?_
    (try simp only[c37_54,l37_53,cw,cops,csW,csL,reduceIte,reduceEqDiff,reduceCtorEq,reduceAdd,reduceLT,reduceLeDiff,reduceSub,csSp])
    (repeat refine And.intro (by first|omega|(simp;omega)) ?_)
    exact⟨(i+1,o2,N2),⟨by simp only;omega,hS2,hoN2,hNm2,by simp only;rw[show m-(i+1)=e by omega,←he2];exact hR1⟩,(Sub.toG [1,5,6,8,9,19,20,21] [64,101] (by rfl) (by rfl) (by rfl) (by rfl)),by simp only;omega⟩
  ·have hend1:spM m v m 0 o=o1:=by
    rw[←hR1]
    cases hq:m-i with
    | zero=>rfl
    | succ q=>rw[spM,if_neg (by rw[hoN1];exact hc)]
   rw[hend1] at hR'
   by_cases h1:i<N1
   ·have h1I:(i:Int)<(N1:Int):=by omega
    have h2I:¬ (N1:Int)<(m:Int):=by omega
    (try simp only[c37_56,c37_19,c37_17,cw,cops,csW,csL,reduceIte,reduceEqDiff,reduceCtorEq,reduceAdd,reduceLT,reduceLeDiff,reduceSub,csSp,h1I,h2I,hm,List.length_map])
    (repeat refine And.intro (by first|omega|(simp;omega)) ?_)
    (try rw[cops_app])
    unfold l37_16
    repeat (rw[copsC];(try simp only[cw,csW,csL,reduceIte,reduceEqDiff,reduceCtorEq,reduceAdd,reduceLT,reduceLeDiff,reduceSub,csSp,h1I,h2I,hm,List.length_map]);(repeat refine And.intro (by first|omega|(simp;omega)) ?_))
    (try rw[copsN])
    (try simp only[cw,cops,csW,csL,reduceIte,reduceEqDiff,reduceCtorEq,reduceAdd,reduceLT,reduceLeDiff,reduceSub,csSp,h1I,h2I,hm,List.length_map])
    (repeat refine And.intro (by first|omega|(simp;omega)) ?_)
    refine keep [1,5,6,8,9,19,20,21,35] ?_
    (try simp only[c37_18,cw,cops,csW,csL,reduceIte,reduceEqDiff,reduceCtorEq,reduceAdd,reduceLT,reduceLeDiff,reduceSub,csSp,h1I,h2I,hm,List.length_map])
    (repeat refine And.intro (by first|omega|(simp;omega)) ?_)
    (try simp only[cw,cops,csW,csL,reduceIte,reduceEqDiff,reduceCtorEq,reduceAdd,reduceLT,reduceLeDiff,reduceSub,csSp])
    (repeat refine And.intro (by first|omega|(simp;omega)) ?_)
    refine keep [1,5,6,19,20,21] ?_
    (try simp only[c37_63,l37_62,cw,cops,csW,csL,reduceIte,reduceEqDiff,reduceCtorEq,reduceAdd,reduceLT,reduceLeDiff,reduceSub,csSp])
    (repeat refine And.intro (by first|omega|(simp;omega)) ?_)
    exact⟨(j+1,o1,N1),⟨by simp only;omega,hS1,hoN1,hNm1,hR'⟩,(Sub.toG [1,5,6,19,20,21] [64,101] (by rfl) (by rfl) (by rfl) (by rfl)),by simp only;omega⟩
   ·have h1I:¬ (i:Int)<(N1:Int):=by omega
    (try simp only[c37_56,c37_19,c37_17,cw,cops,csW,csL,reduceIte,reduceEqDiff,reduceCtorEq,reduceAdd,reduceLT,reduceLeDiff,reduceSub,csSp,h1I,hm,List.length_map])
    (repeat refine And.intro (by first|omega|(simp;omega)) ?_)
    (try rw[cops_app])
    unfold l37_16
    repeat (rw[copsC];(try simp only[cw,csW,csL,reduceIte,reduceEqDiff,reduceCtorEq,reduceAdd,reduceLT,reduceLeDiff,reduceSub,csSp,h1I,hm,List.length_map]);(repeat refine And.intro (by first|omega|(simp;omega)) ?_))
    (try rw[copsN])
    (try simp only[cw,cops,csW,csL,reduceIte,reduceEqDiff,reduceCtorEq,reduceAdd,reduceLT,reduceLeDiff,reduceSub,csSp,h1I,hm,List.length_map])
    (repeat refine And.intro (by first|omega|(simp;omega)) ?_)
    refine keep [1,5,6,8,9,19,20,21,35] ?_
    (try simp only[c37_18,cw,cops,csW,csL,reduceIte,reduceEqDiff,reduceCtorEq,reduceAdd,reduceLT,reduceLeDiff,reduceSub,csSp,h1I,hm,List.length_map])
    (repeat refine And.intro (by first|omega|(simp;omega)) ?_)
    (try simp only[cw,cops,csW,csL,reduceIte,reduceEqDiff,reduceCtorEq,reduceAdd,reduceLT,reduceLeDiff,reduceSub,csSp])
    (repeat refine And.intro (by first|omega|(simp;omega)) ?_)
    refine keep [1,5,6,19,20,21] ?_
    (try simp only[c37_63,l37_62,cw,cops,csW,csL,reduceIte,reduceEqDiff,reduceCtorEq,reduceAdd,reduceLT,reduceLeDiff,reduceSub,csSp])
    (repeat refine And.intro (by first|omega|(simp;omega)) ?_)
    exact⟨(j+1,o1,N1),⟨by simp only;omega,hS1,hoN1,hNm1,hR'⟩,(Sub.toG [1,5,6,19,20,21] [64,101] (by rfl) (by rfl) (by rfl) (by rfl)),by simp only;omega⟩
 ·have hI:¬ (j:Int)<(m:Int):=by omega
  have hd0:B.drop j=[]:=List.drop_of_length_le (by omega)
  rw[hd0] at hR
  have hRe:o=spF f:=hR
  have htk:(o.map lD).take N=o.map lD:=List.take_of_length_le (by simp[hoN])
  have hNo:(N≤o.length)=True:=eq_true (by omega)
  (try simp only[c37_66,c37_10,l37_9,cw,cops,csW,csL,reduceIte,reduceEqDiff,reduceCtorEq,reduceAdd,reduceLT,reduceLeDiff,reduceSub,csSp,hI,hm,List.length_map])
  (repeat refine And.intro (by first|omega|(simp;omega)) ?_)
  refine keep [1,5,6,19,20,21,22] ?_
  (try simp only[c37_65,c37_11,cw,cops,csW,csL,reduceIte,reduceEqDiff,reduceCtorEq,reduceAdd,reduceLT,reduceLeDiff,reduceSub,csSp,hI,hm,List.length_map])
  (repeat refine And.intro (by first|omega|(simp;omega)) ?_)
  (try simp only[cw,cops,csW,csL,reduceIte,reduceEqDiff,reduceCtorEq,reduceAdd,reduceLT,reduceLeDiff,reduceSub,csSp,hI,htk,hNo,List.length_map,Bool.true_or])
  (repeat refine And.intro (by first|omega|(simp;omega)) ?_)
  refine keepF 18 _ [6] (by rfl) ?_
  (try simp only[c37_72,c37_71,l37_70,cw,cops,csW,csL,reduceIte,reduceEqDiff,reduceCtorEq,reduceAdd,reduceLT,reduceLeDiff,reduceSub,csSp,hI,htk,hNo,List.length_map,Bool.true_or])
  (repeat refine And.intro (by first|omega|(simp;omega)) ?_)
  refine keep [4] ?_
  (try simp only[cw,cops,csW,csL,reduceIte,reduceEqDiff,reduceCtorEq,reduceAdd,reduceLT,reduceLeDiff,reduceSub,csSp,Ends,resD,resL,resV,hI,htk,hNo,List.length_map,Bool.true_or])
  (repeat refine And.intro (by first|omega|(simp;omega)) ?_)
  rw[hRe]
end Go.Proofs.Ytlnhembcfhfpkaa.M.Nw
