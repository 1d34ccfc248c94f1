/- Polynomials modulo a prime: the kernel's columns walked. -/
import Derived.Test.YtlnhembcfhfpkaaFyEx
namespace Go.Proofs.Ytlnhembcfhfpkaa.M
open Go.RowKit Go.Proofs.Ytlnhembcfhfpkaa.Fx
open Nat (reduceEqDiff reduceAdd reduceLT reduceLeDiff reduceSub)
set_option linter.unusedSimpArgs false
set_option linter.unusedVariables false
variable {P:Pr}
theorem kerB_l {f:Po P} {n:Nat} (hn:dg f=n+1) (h:MI P n (kS f n n).1):(List.range (n-(kS f n n).2)).map (fun i=>trim (((kS f n n).1.getD ((kS f n n).2+i) []).drop n))=(kerB f).map fun b=>b.l:=by
 unfold kerB
 rw[hn,Nat.add_sub_cancel,List.map_map]
 refine List.map_congr_left fun i _ => ?_
 show trim _=trim ((((kS f n n).1.getD ((kS f n n).2+i) []).drop n).map (· % P.p))
 refine trim_ext fun c => ?_
 rw[getD_map0 (by simp),getD_drop,em_self (h.rg _ _)]
set_option maxRecDepth 20000 in
set_option maxHeartbeats 4000000 in
theorem ker_cols (f:Po P) (n:Nat) (hn:dg f=n+1) (h1:1≤n) (hb:n≤1000) :
  cw kOT (ConX Try.prog []) c56_182 (Ends (LL ((kerB f).map fun b=>b.l)) [(4,none)]) ⟨look [(1,.p (I P.p)),(5,.p (I n)),(6,.arr 25 0 n)],lookX 3 0 (kM f n n) [(25,⟨22,n,.box (.agg (rowsA 3 n n (2*n))),false⟩)]⟩:=by
 have hf:f≠0:=ne_0 (by omega)
 have hp:=P.h.pos
 skip
 (try simp only[c56_182,c56_63,l56_62,cw,cops,csW,csL,reduceIte,reduceEqDiff,reduceCtorEq,reduceAdd,reduceLT,reduceLeDiff,reduceSub,lx_lo,lu_lo,lf_X,get_I,forget_rows,csT])
 (repeat refine And.intro (by first|omega|(simp;omega)) ?_)
 refine keep [1,5,6,11] ?_
 (try simp only[c56_181,c56_152,c56_65,l56_64,cw,cops,csW,csL,reduceIte,reduceEqDiff,reduceCtorEq,reduceAdd,reduceLT,reduceLeDiff,reduceSub,lx_lo,lu_lo,lf_X,get_I,forget_rows,csT])
 (repeat refine And.intro (by first|omega|(simp;omega)) ?_)
 refine keep [1,5,6,11,94,95] ?_
 (try simp only[c56_151,cw,cops,csW,csL,reduceIte,reduceEqDiff,reduceCtorEq,reduceAdd,reduceLT,reduceLeDiff,reduceSub,lx_lo,lu_lo,lf_X,get_I,forget_rows,csT])
 refine loop_of (ι:=Nat) (fun j=>j≤n) (fun j=>⟨look [(1,.p (I P.p)),(5,.p (I n)),(6,.arr 25 0 n),(11,.p (I (kS f n j).2)),(94,.p (I n)),(95,.p (I j))],lookX 3 0 (kS f n j).1 [(25,⟨22,n,.box (.agg (rowsA 3 n n (2*n))),false⟩)]⟩) (fun j=>n-j) 0 (by omega) (Sub.toXG 0 [1,5,6,11,94,95] [26,31,217,218] (by rfl) (by rw[closedM_rows (by rfl)];rfl) (by rfl) (by rfl)) ?_
 intro j hj
 have hK:=kS_ki hn h1 j hj
 have hMl:=hK.mi.len
 have htj:=hK.kn.tj
 have hnext:kS f n (j+1)=kC P.p n j (kS f n j):=rfl
 by_cases h:j<n
 ·have hI:(j:Int)<(n:Int):=by omega
  obtain⟨q1,q2,q3,q4⟩:=fkG_ok (kS f n j).1 j n (n-(kS f n j).2) (kS f n j).2 (by omega)
  unfold kC at hnext
  generalize hS:kS f n j=s at *
  obtain⟨M,top⟩:=s
  simp only at hK hMl htj hnext q1 q2 q3 q4
  (try simp only[c56_149,c56_67,l56_66,cw,cops,csW,csL,reduceIte,reduceEqDiff,reduceCtorEq,reduceAdd,reduceLT,reduceLeDiff,reduceSub,lx_lo,lu_lo,lf_X,get_I,forget_rows,csT,hI])
  (repeat refine And.intro (by first|omega|(simp;omega)) ?_)
  refine keep [1,5,6,11,94,95,96] ?_
  (try simp only[c56_148,c56_68,cw,cops,csW,csL,reduceIte,reduceEqDiff,reduceCtorEq,reduceAdd,reduceLT,reduceLeDiff,reduceSub,lx_lo,lu_lo,lf_X,get_I,forget_rows,csT,hI])
  (repeat refine And.intro (by first|omega|(simp;omega)) ?_)
  (try simp only[cw,cops,csW,csL,reduceIte,reduceEqDiff,reduceCtorEq,reduceAdd,reduceLT,reduceLeDiff,reduceSub,lx_lo,lu_lo,lf_X,get_I,forget_rows,csT,hI])
  (repeat refine And.intro (by first|omega|(simp;omega)) ?_)
  refine keep [1,5,6,11,94,95] ?_
  (try simp only[c56_147,c56_144,c56_143,c56_70,l56_69,cw,cops,csW,csL,reduceIte,reduceEqDiff,reduceCtorEq,reduceAdd,reduceLT,reduceLeDiff,reduceSub,lx_lo,lu_lo,lf_X,get_I,forget_rows,csT,hI])
  (repeat refine And.intro (by first|omega|(simp;omega)) ?_)
  refine keep [1,5,6,11,12,94,95] ?_
  (try simp only[c56_142,c56_72,l56_71,cw,cops,csW,csL,reduceIte,reduceEqDiff,reduceCtorEq,reduceAdd,reduceLT,reduceLeDiff,reduceSub,lx_lo,lu_lo,lf_X,get_I,forget_rows,csT,hI])
  (repeat refine And.intro (by first|omega|(simp;omega)) ?_)
  refine keep [1,5,6,11,12,13,94,95] ?_
  (try simp only[c56_141,c56_82,cw,cops,csW,csL,reduceIte,reduceEqDiff,reduceCtorEq,reduceAdd,reduceLT,reduceLeDiff,reduceSub,lx_lo,lu_lo,lf_X,get_I,forget_rows,csT,hI])
  refine loop_of (ι:=Nat) (fun k=>top≤k∧k≤n∧fkG M j n (n-k) k=fkG M j n (n-top) top) (fun k=>⟨look [(1,.p (I P.p)),(5,.p (I n)),(6,.arr 25 0 n),(11,.p (I top)),(12,.p (I j)),(13,.p (I k)),(94,.p (I n)),(95,.p (I j))],lookX 3 0 M [(25,⟨22,n,.box (.agg (rowsA 3 n n (2*n))),false⟩)]⟩) (fun k=>n-k) top ⟨by omega,by omega,rfl⟩ (Sub.toXG 0 [1,5,6,11,12,13,94,95] [26,31,217,218] (by rfl) (by rw[closedM_rows (by rfl)];rfl) (by rfl) (by rfl)) ?_
  rintro k ⟨hk1,hk2,hk3⟩
  by_cases hkn:k<n
  ·have hkI:(k:Int)<(n:Int):=by omega
   have hbg:=box_get (T:=3) (W:=2*n) hkn hkn
   have hlx:∀ l,lookX 3 0 M l (1000000+k)=some ⟨3,1,.row ((M.getD k []).map (D.int .i64)),false⟩:=fun l=>lx_hi (by omega)
   have hr:=hK.mi.row k hkn
   have hjr:(j:Int)<((2*n:Nat):Int):=by omega
   have hsub:n-k=(n-(k+1))+1:=by omega
   have hkne:¬ (k:Int)=(n:Int):=by omega
   by_cases hz:(M.getD k []).getD j 0=0
   ·rw[hsub,fkG,if_pos ⟨hkn,hz⟩] at hk3
    (try simp only[c56_80,c56_76,c56_74,l56_73,cw,cops,csW,csL,reduceIte,reduceEqDiff,reduceCtorEq,reduceAdd,reduceLT,reduceLeDiff,reduceSub,lx_lo,lu_lo,lf_X,get_I,forget_rows,csT,hkI,hbg,hlx,hr,hjr,hz])
    (repeat refine And.intro (by first|omega|(simp;omega)) ?_)
    refine keep [1,5,6,11,12,13,94,95,111] ?_
    (try simp only[c56_75,cw,cops,csW,csL,reduceIte,reduceEqDiff,reduceCtorEq,reduceAdd,reduceLT,reduceLeDiff,reduceSub,lx_lo,lu_lo,lf_X,get_I,forget_rows,csT,hkI,hbg,hlx,hr,hjr,hz])
    (repeat refine And.intro (by first|omega|(simp;omega)) ?_)
    (try simp only[cw,cops,csW,csL,reduceIte,reduceEqDiff,reduceCtorEq,reduceAdd,reduceLT,reduceLeDiff,reduceSub,lx_lo,lu_lo,lf_X,get_I,forget_rows,csT])
    (repeat refine And.intro (by first|omega|(simp;omega)) ?_)
    refine keep [1,5,6,11,12,13,94,95] ?_
    (try simp only[c56_79,c56_78,l56_77,cw,cops,csW,csL,reduceIte,reduceEqDiff,reduceCtorEq,reduceAdd,reduceLT,reduceLeDiff,reduceSub,lx_lo,lu_lo,lf_X,get_I,forget_rows,csT])
    (repeat refine And.intro (by first|omega|(simp;omega)) ?_)
    exact⟨k+1,⟨by omega,by omega,hk3⟩,(Sub.toXG 0 [1,5,6,11,12,13,94,95] [26,31,217,218] (by rfl) (by rw[closedM_rows (by rfl)];rfl) (by rfl) (by rfl)),by omega⟩
   ·rw[hsub,fkG,if_neg (fun hh=>hz hh.2)] at hk3
    (try simp only[c56_80,c56_76,c56_74,l56_73,cw,cops,csW,csL,reduceIte,reduceEqDiff,reduceCtorEq,reduceAdd,reduceLT,reduceLeDiff,reduceSub,lx_lo,lu_lo,lf_X,get_I,forget_rows,csT,hkI,hbg,hlx,hr,hjr,hz])
    (repeat refine And.intro (by first|omega|(simp;omega)) ?_)
    refine keep [1,5,6,11,12,13,94,95,111] ?_
    (try simp only[c56_75,cw,cops,csW,csL,reduceIte,reduceEqDiff,reduceCtorEq,reduceAdd,reduceLT,reduceLeDiff,reduceSub,lx_lo,lu_lo,lf_X,get_I,forget_rows,csT,hkI,hbg,hlx,hr,hjr,hz])
    (repeat refine And.intro (by first|omega|(simp;omega)) ?_)
    (try simp only[cw,cops,csW,csL,reduceIte,reduceEqDiff,reduceCtorEq,reduceAdd,reduceLT,reduceLeDiff,reduceSub,lx_lo,lu_lo,lf_X,get_I,forget_rows,csT,hkne])
    (repeat refine And.intro (by first|omega|(simp;omega)) ?_)
    refine keep [1,5,6,11,12,13,94,95] ?_
    (try simp only[c56_140,c56_86,c56_84,l56_83,cw,cops,csW,csL,reduceIte,reduceEqDiff,reduceCtorEq,reduceAdd,reduceLT,reduceLeDiff,reduceSub,lx_lo,lu_lo,lf_X,get_I,forget_rows,csT,hkne])
    (repeat refine And.intro (by first|omega|(simp;omega)) ?_)
    refine keep [1,5,6,11,12,13,94,95,116] ?_
    (try simp only[c56_85,cw,cops,csW,csL,reduceIte,reduceEqDiff,reduceCtorEq,reduceAdd,reduceLT,reduceLeDiff,reduceSub,lx_lo,lu_lo,lf_X,get_I,forget_rows,csT,hkne])
    (repeat refine And.intro (by first|omega|(simp;omega)) ?_)
    have hfk:fkG M j n (n-top) top=k:=hk3.symm
    rw[if_neg (by rw[hfk];omega),hfk] at hnext
    have h2n:2≤n:=by
     apply Classical.byContradiction
     intro hlt
     have hn1:n=1:=by omega
     refine hz ?_
     rw[hK.lf k hkn j (by omega)]
     have hd:=hK.kn.dgr k hkn
     have hc:=eq_cn (f:=rR P M n k) (by omega)
     have:phi f (rR P M n k)=0:=by
      rw[hc]
      unfold phi
      rw[frob_cn,sub_self,rm_zero hf]
     rw[this,co_0]
    have h1n:(1=n)=False:=eq_false (by omega)
    have htn:top<n:=by omega
    have htI:(top:Int)<(n:Int):=by omega
    have hbt:=box_get (T:=3) (W:=2*n) htn htn
    have hle1:(k+1≤n)=True:=eq_true (by omega)
    have hle2:(top+1≤n)=True:=eq_true (by omega)
    have hput1:=box_putL (l:=rowsA 3 n n (2*n)) (i:=k) (k:=1000000+top) (o:=0) (W:=2*n) (by rw[rowsA_len];exact hkn)
    have hput2:=box_putL (l:=(rowsA 3 n n (2*n)).set k (.slice (1000000+top) 0 (2*n))) (i:=top) (k:=1000000+k) (o:=0) (W:=2*n) (by rw[List.length_set,rowsA_len];exact htn)
    have hs25:sw1 (1000000+k) (1000000+top) 25=25:=sw1_ne (by omega) (by omega)
    have hK2:=hK.swap hkn hk1
    have hK3:KI f n (kS f n (j+1)).1 (kS f n (j+1)).2 (j+1):=kS_ki hn h1 (j+1) (by omega)
    obtain⟨W,hW⟩:∃ W,swM M k top=W:=⟨_,rfl⟩
    have hsub2:=sub_swap (OT:=kOT) (T:=3) (T2:=22) (M:=M) (n:=n) (W:=2*n) (R:=[(1,.p (I P.p)),(5,.p (I n)),(6,.arr 25 0 n),(11,.p (I top)),(12,.p (I j)),(94,.p (I n)),(95,.p (I j))]) hMl hkn htn (by simp only[rnR,AV.ren,hs25])
    rw[hW] at hK2 hnext hsub2
    have hWl:=hK2.mi.len
    have hWt:=hK2.mi.row top htn
    have hlwt:∀ l,lookX 3 0 W l (1000000+top)=some ⟨3,1,.row ((W.getD top []).map (D.int .i64)),false⟩:=fun l=>lx_hi (by omega)
    have hWa:=hK2.mi.rg top j
    have hpv:(W.getD top []).getD j 0=(M.getD k []).getD j 0:=by
     rw[←hW,swM_getD (by omega) (by omega)]
     by_cases e:top=k
     ·rw[if_pos e,e]
     ·rw[if_neg e,if_pos rfl]
    have hWp:0<(W.getD top []).getD j 0:=by rw[hpv];have:=hK.mi.rg k j;omega
    have hinv:=invP_ok P.h.1 hWp hWa.2
    obtain⟨u,hu⟩:∃ u,invP ((W.getD top []).getD j 0) P.p=u:=⟨_,rfl⟩
    rw[hu] at hinv hnext
    have hu0:=hinv.1
    have hu1:=hinv.2.1
    (try simp only[cw,cops,csW,csL,reduceIte,reduceEqDiff,reduceCtorEq,reduceAdd,reduceLT,reduceLeDiff,reduceSub,lx_lo,lu_lo,lf_X,get_I,forget_rows,csT,hbg,hbt,h1n,and_false,hle1,hle2,hput1,hput2,hlwt,hWt,hjr])
    (repeat refine And.intro (by first|omega|(simp;omega)) ?_)
    refine keep [1,5,6,11,12,13,94,95] ?_
    (try simp only[c56_139,c56_88,l56_87,cw,cops,csW,csL,reduceIte,reduceEqDiff,reduceCtorEq,reduceAdd,reduceLT,reduceLeDiff,reduceSub,lx_lo,lu_lo,lf_X,get_I,forget_rows,csT,hbg,hbt,h1n,and_false,hle1,hle2,hput1,hput2,hlwt,hWt,hjr])
    (repeat refine And.intro (by first|omega|(simp;omega)) ?_)
    refine⟨_,(Sub.to [1,5,6,11,12,94,95] (by rfl)).tr hsub2,?_⟩
    (try simp only[c56_138,c56_91,l56_89,cw,cops,csW,csL,reduceIte,reduceEqDiff,reduceCtorEq,reduceAdd,reduceLT,reduceLeDiff,reduceSub,lx_lo,lu_lo,lf_X,get_I,forget_rows,csT,hbg,hbt,h1n,and_false,hle1,hle2,hput1,hput2,hlwt,hWt,hjr])
    (repeat refine And.intro (by first|omega|(simp;omega)) ?_)
    refine⟨_,cx (inverse_con _ P.p u hWp hWa.2 hp.2 (prime_gcd P.h.1 hWp hWa.2) hinv),?_⟩
    (try simp only[l56_90,cw,cops,csW,csL,reduceIte,reduceEqDiff,reduceCtorEq,reduceAdd,reduceLT,reduceLeDiff,reduceSub,lx_lo,lu_lo,lf_X,get_I,forget_rows,csT])
    (repeat refine And.intro (by first|omega|(simp;omega)) ?_)
    refine⟨_,(Sub.toXG 0 [1,5,6,11,12,14,94,95] [26,31,217,218] (by rfl) (by rw[closedM_rows (by rfl)];rfl) (by rfl) (by rfl)).tr (Sub.rf _),?_⟩
    simp only[c56_137,cw]
    refine ker_elim n top j W u hK2.mi htn h hb ⟨hu0,hu1⟩ _ fun t ht=>⟨_,ht,?_⟩
    (try simp only[c56_136,l56_135,cw,cops,csW,csL,reduceIte,reduceEqDiff,reduceCtorEq,reduceAdd,reduceLT,reduceLeDiff,reduceSub,lx_lo,lu_lo,lf_X,get_I,forget_rows,csT])
    (repeat refine And.intro (by first|omega|(simp;omega)) ?_)
    refine keep [1,5,6,11,94,95] ?_
    (try simp only[c56_146,l56_145,cw,cops,csW,csL,reduceIte,reduceEqDiff,reduceCtorEq,reduceAdd,reduceLT,reduceLeDiff,reduceSub,lx_lo,lu_lo,lf_X,get_I,forget_rows,csT])
    (repeat refine And.intro (by first|omega|(simp;omega)) ?_)
    refine⟨j+1,by omega,?_,by omega⟩
    rw[hnext]
    exact (Sub.toXG 0 [1,5,6,11,94,95] [26,31,217,218] (by rfl) (by rw[closedM_rows (by rfl)];rfl) (by rfl) (by rfl))
  ·have hke:k=n:=by omega
   have hkI:¬ (k:Int)<(n:Int):=by omega
   have hkeq:(k:Int)=(n:Int):=by omega
   have hfk:fkG M j n (n-top) top=n:=by rw[←hk3,hke,Nat.sub_self];rfl
   rw[if_pos hfk] at hnext
   (try simp only[c56_80,c56_76,c56_74,l56_73,cw,cops,csW,csL,reduceIte,reduceEqDiff,reduceCtorEq,reduceAdd,reduceLT,reduceLeDiff,reduceSub,lx_lo,lu_lo,lf_X,get_I,forget_rows,csT,hkI])
   (repeat refine And.intro (by first|omega|(simp;omega)) ?_)
   refine keep [1,5,6,11,12,13,94,95,111] ?_
   (try simp only[c56_75,cw,cops,csW,csL,reduceIte,reduceEqDiff,reduceCtorEq,reduceAdd,reduceLT,reduceLeDiff,reduceSub,lx_lo,lu_lo,lf_X,get_I,forget_rows,csT,hkI])
   (repeat refine And.intro (by first|omega|(simp;omega)) ?_)
   (try simp only[cw,cops,csW,csL,reduceIte,reduceEqDiff,reduceCtorEq,reduceAdd,reduceLT,reduceLeDiff,reduceSub,lx_lo,lu_lo,lf_X,get_I,forget_rows,csT,hkeq])
   (repeat refine And.intro (by first|omega|(simp;omega)) ?_)
   refine keep [1,5,6,11,12,13,94,95] ?_
   (try simp only[c56_140,c56_86,c56_84,l56_83,cw,cops,csW,csL,reduceIte,reduceEqDiff,reduceCtorEq,reduceAdd,reduceLT,reduceLeDiff,reduceSub,lx_lo,lu_lo,lf_X,get_I,forget_rows,csT,hkeq])
   (repeat refine And.intro (by first|omega|(simp;omega)) ?_)
   refine keep [1,5,6,11,12,13,94,95,116] ?_
   (try simp only[c56_85,cw,cops,csW,csL,reduceIte,reduceEqDiff,reduceCtorEq,reduceAdd,reduceLT,reduceLeDiff,reduceSub,lx_lo,lu_lo,lf_X,get_I,forget_rows,csT,hkeq])
   (repeat refine And.intro (by first|omega|(simp;omega)) ?_)
   (try simp only[cw,cops,csW,csL,reduceIte,reduceEqDiff,reduceCtorEq,reduceAdd,reduceLT,reduceLeDiff,reduceSub,lx_lo,lu_lo,lf_X,get_I,forget_rows,csT])
   (repeat refine And.intro (by first|omega|(simp;omega)) ?_)
   refine keep [1,5,6,11,94,95] ?_
   (try simp only[c56_146,l56_145,cw,cops,csW,csL,reduceIte,reduceEqDiff,reduceCtorEq,reduceAdd,reduceLT,reduceLeDiff,reduceSub,lx_lo,lu_lo,lf_X,get_I,forget_rows,csT])
   (repeat refine And.intro (by first|omega|(simp;omega)) ?_)
   refine⟨j+1,by omega,?_,by omega⟩
   rw[hnext]
   exact (Sub.toXG 0 [1,5,6,11,94,95] [26,31,217,218] (by rfl) (by rw[closedM_rows (by rfl)];rfl) (by rfl) (by rfl))
 ·have hI:¬ (j:Int)<(n:Int):=by omega
  have hjn:j=n:=by omega
  subst hjn
  have hl:=kerB_l hn hK.mi
  rw[←hl]
  (try simp only[c56_149,c56_67,l56_66,cw,cops,csW,csL,reduceIte,reduceEqDiff,reduceCtorEq,reduceAdd,reduceLT,reduceLeDiff,reduceSub,lx_lo,lu_lo,lf_X,get_I,forget_rows,csT,hI])
  (repeat refine And.intro (by first|omega|(simp;omega)) ?_)
  refine keep [1,5,6,11,94,95,96] ?_
  (try simp only[c56_148,c56_68,cw,cops,csW,csL,reduceIte,reduceEqDiff,reduceCtorEq,reduceAdd,reduceLT,reduceLeDiff,reduceSub,lx_lo,lu_lo,lf_X,get_I,forget_rows,csT,hI])
  (repeat refine And.intro (by first|omega|(simp;omega)) ?_)
  (try simp only[cw,cops,csW,csL,reduceIte,reduceEqDiff,reduceCtorEq,reduceAdd,reduceLT,reduceLeDiff,reduceSub,lx_lo,lu_lo,lf_X,get_I,forget_rows,csT,hI])
  (repeat refine And.intro (by first|omega|(simp;omega)) ?_)
  exact⟨_,(Sub.toXG 0 [5,6,11] [26,31,217,218] (by rfl) (by rw[closedM_rows (by rfl)];rfl) (by rfl) (by rfl)).tr (Sub.freezeN hMl),ker_tail _ j _ hMl hK.mi.row (by omega) htj (I 0)⟩
end Go.Proofs.Ytlnhembcfhfpkaa.M
