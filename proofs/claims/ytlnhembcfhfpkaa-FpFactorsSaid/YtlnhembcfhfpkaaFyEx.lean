/- Polynomials modulo a prime: the kernel's rows brought to steps, walked. -/
import Derived.Test.YtlnhembcfhfpkaaFyDx
namespace Go.Proofs.Ytlnhembcfhfpkaa.M
open Go.RowKit Go.Proofs.Ytlnhembcfhfpkaa.Fx
open Nat (reduceEqDiff reduceAdd reduceLT reduceLeDiff reduceSub)
set_option linter.unusedSimpArgs false
set_option linter.unusedVariables false
variable {P:Pr}
theorem Sub.freezeN {OT:List TypeId} {T:TypeId} {M:List (List Int)} {l:List (Nat × AObj)} {r:Nat→AV} {n:Nat} (h:M.length=n):Sub OT ⟨r,lookX T 0 M l⟩ ⟨r,lookX T n M l⟩:=by
 subst h;exact Sub.freezeX
theorem renL_rows {T:TypeId} {n W k t:Nat} (hk:k<n) (ht:t<n):renL (sw1 (1000000+k) (1000000+t)) (((rowsA T n n W).set k (.slice (1000000+t) 0 W)).set t (.slice (1000000+k) 0 W))=rowsA T n n W:=by
 rw[renL_eq]
 apply List.ext_getElem?
 intro i
 rw[List.getElem?_map,List.getElem?_set,List.getElem?_set,List.length_set,rowsA_len]
 by_cases hi:i<n
 ·rw[rowsA_get hi,if_pos hi]
  by_cases h1:t=i
  ·rw[if_pos h1,if_pos ht]
   subst h1
   simp only[Option.map_some,AV.ren]
   rw[sw1_l]
  ·rw[if_neg h1]
   by_cases h2:k=i
   ·rw[if_pos h2,if_pos hk]
    subst h2
    simp only[Option.map_some,AV.ren]
    rw[sw1_r]
   ·rw[if_neg h2]
    simp only[Option.map_some,AV.ren]
    rw[sw1_ne (by omega) (by omega)]
 ·rw[if_neg (show ¬ t=i by omega),if_neg (show ¬ k=i by omega),List.getElem?_eq_none (l:=rowsA T n n W) (by rw[rowsA_len];omega)];rfl
theorem sub_swap {OT:List TypeId} {T T2:TypeId} {M:List (List Int)} {R:List (Nat × AV)} {n W k t:Nat} (hM:M.length=n) (hk:k<n) (ht:t<n) (hR:rnR (sw1 (1000000+k) (1000000+t)) R=R) :
  Sub OT ⟨look R,lookX T 0 M [(25,⟨T2,n,.box (.agg (((rowsA T n n W).set k (.slice (1000000+t) 0 W)).set t (.slice (1000000+k) 0 W))),false⟩)]⟩ ⟨look R,lookX T 0 (swM M k t) [(25,⟨T2,n,.box (.agg (rowsA T n n W)),false⟩)]⟩:=by
 have h:=Sub.swapX (OT:=OT) (T:=T) (M:=M) (R:=R) (l:=[(25,⟨T2,n,.box (.agg (((rowsA T n n W).set k (.slice (1000000+t) 0 W)).set t (.slice (1000000+k) 0 W))),false⟩)]) k t (by omega) (by omega)
 rw[hR] at h
 have e:renO (sw1 (1000000+k) (1000000+t)) [(25,(⟨T2,n,.box (.agg (((rowsA T n n W).set k (.slice (1000000+t) 0 W)).set t (.slice (1000000+k) 0 W))),false⟩:AObj))]=[(25,⟨T2,n,.box (.agg (rowsA T n n W)),false⟩)]:=by
  simp only[renO,AObj.ren,AV.ren,renL_rows hk ht]
 rw[e] at h
 exact h
theorem getD_set_same {M:List (List Int)} {i:Nat} {r:List Int} (h:i<M.length):(M.set i r).getD i []=r:=by simp[h]
theorem getD_set_ne {M:List (List Int)} {i j:Nat} {r:List Int} (h:i≠j):(M.set i r).getD j []=M.getD j []:=by
 simp only[List.getD_eq_getElem?_getD,List.getElem?_set,if_neg h]
set_option maxRecDepth 20000 in
set_option maxHeartbeats 4000000 in
theorem ker_elim (n top j:Nat) (W:List (List Int)) (u:Int) (hW:MI P n W) (ht:top<n) (hj:j<n) (hb:n≤1000) (hu:0≤u∧u<P.p) (Q:AExit→St→Prop)
  (hQ:∀ t,Sub kOT t ⟨look [(1,.p (I P.p)),(5,.p (I n)),(6,.arr 25 0 n),(11,.p (I top)),(94,.p (I n)),(95,.p (I j))],lookX 3 0 (elM W top j u P.p n) [(25,⟨22,n,.box (.agg (rowsA 3 n n (2*n))),false⟩)]⟩→Q .normal t) :
  cw kOT (ConX Try.prog []) c56_134 Q ⟨look [(1,.p (I P.p)),(5,.p (I n)),(6,.arr 25 0 n),(11,.p (I top)),(12,.p (I j)),(14,.p (I u)),(94,.p (I n)),(95,.p (I j))],lookX 3 0 W [(25,⟨22,n,.box (.agg (rowsA 3 n n (2*n))),false⟩)]⟩:=by
 have hp:=P.h.pos
 have hWl:=hW.len
 skip
 (try simp only[c56_134,c56_93,l56_92,cw,cops,csW,csL,reduceIte,reduceEqDiff,reduceCtorEq,reduceAdd,reduceLT,reduceLeDiff,reduceSub,lx_lo,lu_lo,lf_X,get_I,forget_rows,csT])
 (repeat refine And.intro (by first|omega|(simp;omega)) ?_)
 refine keep [1,5,6,11,12,14,94,95,141,142] ?_
 (try simp only[c56_133,cw,cops,csW,csL,reduceIte,reduceEqDiff,reduceCtorEq,reduceAdd,reduceLT,reduceLeDiff,reduceSub,lx_lo,lu_lo,lf_X,get_I,forget_rows,csT])
 refine loop_of (ι:=Nat) (fun i=>i≤n) (fun i=>⟨look [(1,.p (I P.p)),(5,.p (I n)),(6,.arr 25 0 n),(11,.p (I top)),(12,.p (I j)),(14,.p (I u)),(94,.p (I n)),(95,.p (I j)),(141,.p (I n)),(142,.p (I i))],lookX 3 0 (elM W top j u P.p i) [(25,⟨22,n,.box (.agg (rowsA 3 n n (2*n))),false⟩)]⟩) (fun i=>n-i) 0 (by omega) (by rw[elM_0];exact (Sub.toXG 0 [1,5,6,11,12,14,94,95,141,142] [26,31,217,218] (by rfl) (by rw[closedM_rows (by rfl)];rfl) (by rfl) (by rfl))) ?_
 intro i hi
 by_cases h:i<n
 ·have hI:(i:Int)<(n:Int):=by omega
  have hbi:=box_get (T:=3) (W:=2*n) h h
  have hbt:=box_get (T:=3) (W:=2*n) ht ht
  have hEl:=elM_len W top j u P.p i
  have hEi:(elM W top j u P.p i).getD i []=W.getD i []:=by rw[elM_getD (by omega),if_neg (by omega)]
  have hEt:(elM W top j u P.p i).getD top []=W.getD top []:=by rw[elM_getD (by omega),if_neg (by omega)]
  have hlx:∀ l,lookX 3 0 (elM W top j u P.p i) l (1000000+i)=some ⟨3,1,.row ((W.getD i []).map (D.int .i64)),false⟩:=fun l=>by rw[lx_hi (by omega),hEi]
  have hr:=hW.row i h
  have hrt:=hW.row top ht
  have hjr:(j:Int)<((2*n:Nat):Int):=by omega
  have hv:=hW.rg i j
  have hm:0≤(W.getD i []).getD j 0*u∧(W.getD i []).getD j 0*u≤1073741824*1073741824:=⟨Int.mul_nonneg hv.1 hu.1,Int.mul_le_mul (by omega) (by omega) hu.1 (by omega)⟩
  have hk:((W.getD i []).getD j 0*u).tmod P.p=kk W j u P.p i:=by rw[tm hm.1];rfl
  have hkr:0≤kk W j u P.p i∧kk W j u P.p i<P.p:=md hp.1
  by_cases ht2:top<i
  ·have htI:(top:Int)<(i:Int):=by omega
   by_cases hk0:kk W j u P.p i=0
   ·have hskip:=elM_skip (M:=W) (top:=top) (j:=j) (u:=u) (p:=P.p) (i:=i) (fun hh=>hh.2 hk0)
    (try simp only[c56_131,c56_95,l56_94,cw,cops,csW,csL,reduceIte,reduceEqDiff,reduceCtorEq,reduceAdd,reduceLT,reduceLeDiff,reduceSub,lx_lo,lu_lo,lf_X,get_I,forget_rows,csT,hI])
    (repeat refine And.intro (by first|omega|(simp;omega)) ?_)
    refine keep [1,5,6,11,12,14,94,95,141,142,143] ?_
    (try simp only[c56_130,c56_96,cw,cops,csW,csL,reduceIte,reduceEqDiff,reduceCtorEq,reduceAdd,reduceLT,reduceLeDiff,reduceSub,lx_lo,lu_lo,lf_X,get_I,forget_rows,csT,hI])
    (repeat refine And.intro (by first|omega|(simp;omega)) ?_)
    (try simp only[cw,cops,csW,csL,reduceIte,reduceEqDiff,reduceCtorEq,reduceAdd,reduceLT,reduceLeDiff,reduceSub,lx_lo,lu_lo,lf_X,get_I,forget_rows,csT,hI,hbi,hlx,hr,hjr,hk,htI,hk0])
    (repeat refine And.intro (by first|omega|(simp;omega)) ?_)
    refine keep [1,5,6,11,12,14,94,95,141,142] ?_
    (try simp only[c56_129,c56_126,c56_125,c56_98,l56_97,cw,cops,csW,csL,reduceIte,reduceEqDiff,reduceCtorEq,reduceAdd,reduceLT,reduceLeDiff,reduceSub,lx_lo,lu_lo,lf_X,get_I,forget_rows,csT,hI,hbi,hlx,hr,hjr,hk,htI,hk0])
    (repeat refine And.intro (by first|omega|(simp;omega)) ?_)
    refine keep [1,5,6,11,12,14,15,94,95,141,142] ?_
    (try simp only[c56_124,c56_100,l56_99,cw,cops,csW,csL,reduceIte,reduceEqDiff,reduceCtorEq,reduceAdd,reduceLT,reduceLeDiff,reduceSub,lx_lo,lu_lo,lf_X,get_I,forget_rows,csT,hI,hbi,hlx,hr,hjr,hk,htI,hk0])
    (repeat refine And.intro (by first|omega|(simp;omega)) ?_)
    refine keep [1,5,6,11,12,14,15,16,94,95,141,142] ?_
    (try simp only[c56_123,c56_102,l56_101,cw,cops,csW,csL,reduceIte,reduceEqDiff,reduceCtorEq,reduceAdd,reduceLT,reduceLeDiff,reduceSub,lx_lo,lu_lo,lf_X,get_I,forget_rows,csT,hI,hbi,hlx,hr,hjr,hk,htI,hk0])
    (repeat refine And.intro (by first|omega|(simp;omega)) ?_)
    refine keep [1,5,6,11,12,14,15,16,94,95,141,142,162] ?_
    (try simp only[c56_122,cw,cops,csW,csL,reduceIte,reduceEqDiff,reduceCtorEq,reduceAdd,reduceLT,reduceLeDiff,reduceSub,lx_lo,lu_lo,lf_X,get_I,forget_rows,csT,hI,hbi,hlx,hr,hjr,hk,htI,hk0])
    (repeat refine And.intro (by first|omega|(simp;omega)) ?_)
    (try simp only[cw,cops,csW,csL,reduceIte,reduceEqDiff,reduceCtorEq,reduceAdd,reduceLT,reduceLeDiff,reduceSub,lx_lo,lu_lo,lf_X,get_I,forget_rows,csT])
    (repeat refine And.intro (by first|omega|(simp;omega)) ?_)
    refine keep [1,5,6,11,12,14,94,95,141,142] ?_
    (try simp only[c56_128,l56_127,cw,cops,csW,csL,reduceIte,reduceEqDiff,reduceCtorEq,reduceAdd,reduceLT,reduceLeDiff,reduceSub,lx_lo,lu_lo,lf_X,get_I,forget_rows,csT])
    (repeat refine And.intro (by first|omega|(simp;omega)) ?_)
    refine⟨i+1,by omega,?_,by omega⟩
    rw[←hskip]
    exact (Sub.toXG 0 [1,5,6,11,12,14,94,95,141,142] [26,31,217,218] (by rfl) (by rw[closedM_rows (by rfl)];rfl) (by rfl) (by rfl))
   ·have hset:=elM_set (M:=W) (top:=top) (j:=j) (u:=u) (p:=P.p) (i:=i) (by omega) ⟨ht2,hk0⟩
    (try simp only[c56_131,c56_95,l56_94,cw,cops,csW,csL,reduceIte,reduceEqDiff,reduceCtorEq,reduceAdd,reduceLT,reduceLeDiff,reduceSub,lx_lo,lu_lo,lf_X,get_I,forget_rows,csT,hI])
    (repeat refine And.intro (by first|omega|(simp;omega)) ?_)
    refine keep [1,5,6,11,12,14,94,95,141,142,143] ?_
    (try simp only[c56_130,c56_96,cw,cops,csW,csL,reduceIte,reduceEqDiff,reduceCtorEq,reduceAdd,reduceLT,reduceLeDiff,reduceSub,lx_lo,lu_lo,lf_X,get_I,forget_rows,csT,hI])
    (repeat refine And.intro (by first|omega|(simp;omega)) ?_)
    (try simp only[cw,cops,csW,csL,reduceIte,reduceEqDiff,reduceCtorEq,reduceAdd,reduceLT,reduceLeDiff,reduceSub,lx_lo,lu_lo,lf_X,get_I,forget_rows,csT,hI,hbi,hlx,hr,hjr,hk,htI,hk0])
    (repeat refine And.intro (by first|omega|(simp;omega)) ?_)
    refine keep [1,5,6,11,12,14,94,95,141,142] ?_
    (try simp only[c56_129,c56_126,c56_125,c56_98,l56_97,cw,cops,csW,csL,reduceIte,reduceEqDiff,reduceCtorEq,reduceAdd,reduceLT,reduceLeDiff,reduceSub,lx_lo,lu_lo,lf_X,get_I,forget_rows,csT,hI,hbi,hlx,hr,hjr,hk,htI,hk0])
    (repeat refine And.intro (by first|omega|(simp;omega)) ?_)
    refine keep [1,5,6,11,12,14,15,94,95,141,142] ?_
    (try simp only[c56_124,c56_100,l56_99,cw,cops,csW,csL,reduceIte,reduceEqDiff,reduceCtorEq,reduceAdd,reduceLT,reduceLeDiff,reduceSub,lx_lo,lu_lo,lf_X,get_I,forget_rows,csT,hI,hbi,hlx,hr,hjr,hk,htI,hk0])
    (repeat refine And.intro (by first|omega|(simp;omega)) ?_)
    refine keep [1,5,6,11,12,14,15,16,94,95,141,142] ?_
    (try simp only[c56_123,c56_102,l56_101,cw,cops,csW,csL,reduceIte,reduceEqDiff,reduceCtorEq,reduceAdd,reduceLT,reduceLeDiff,reduceSub,lx_lo,lu_lo,lf_X,get_I,forget_rows,csT,hI,hbi,hlx,hr,hjr,hk,htI,hk0])
    (repeat refine And.intro (by first|omega|(simp;omega)) ?_)
    refine keep [1,5,6,11,12,14,15,16,94,95,141,142,162] ?_
    (try simp only[c56_122,cw,cops,csW,csL,reduceIte,reduceEqDiff,reduceCtorEq,reduceAdd,reduceLT,reduceLeDiff,reduceSub,lx_lo,lu_lo,lf_X,get_I,forget_rows,csT,hI,hbi,hlx,hr,hjr,hk,htI,hk0])
    (repeat refine And.intro (by first|omega|(simp;omega)) ?_)
    (try simp only[c56_121,c56_104,l56_103,cw,cops,csW,csL,reduceIte,reduceEqDiff,reduceCtorEq,reduceAdd,reduceLT,reduceLeDiff,reduceSub,lx_lo,lu_lo,lf_X,get_I,forget_rows,csT,hbi])
    (repeat refine And.intro (by first|omega|(simp;omega)) ?_)
    refine keep [1,5,6,11,12,14,15,16,94,95,141,142,167,168] ?_
    (try simp only[c56_120,cw,cops,csW,csL,reduceIte,reduceEqDiff,reduceCtorEq,reduceAdd,reduceLT,reduceLeDiff,reduceSub,lx_lo,lu_lo,lf_X,get_I,forget_rows,csT,hbi])
    refine loop_of (ι:=Nat) (fun c=>c≤2*n) (fun c=>⟨look [(1,.p (I P.p)),(5,.p (I n)),(6,.arr 25 0 n),(11,.p (I top)),(12,.p (I j)),(14,.p (I u)),(15,.p (I i)),(16,.p (I (kk W j u P.p i))),(94,.p (I n)),(95,.p (I j)),(141,.p (I n)),(142,.p (I i)),(167,.p (I ((2*n:Nat):Int))),(168,.p (I c))],lookX 3 0 ((elM W top j u P.p i).set i (rowC (W.getD i []) (W.getD top []) (kk W j u P.p i) P.p c)) [(25,⟨22,n,.box (.agg (rowsA 3 n n (2*n))),false⟩)]⟩) (fun c=>2*n-c) 0 (by omega) ?_ ?_
    ·have:(elM W top j u P.p i).set i (rowC (W.getD i []) (W.getD top []) (kk W j u P.p i) P.p 0)=elM W top j u P.p i:=by
      rw[rowC_0,←hEi,List.getD_eq_getElem?_getD,List.getElem?_eq_getElem (by omega),Option.getD_some,List.set_getElem_self]
     rw[this]
     exact (Sub.toXG 0 [1,5,6,11,12,14,15,16,94,95,141,142,167,168] [26,31,217,218] (by rfl) (by rw[closedM_rows (by rfl)];rfl) (by rfl) (by rfl))
    intro c hc
    by_cases hc2:c<2*n
    ·have hcI:(c:Int)<((2*n:Nat):Int):=by omega
     have hSl:((elM W top j u P.p i).set i (rowC (W.getD i []) (W.getD top []) (kk W j u P.p i) P.p c)).length=n:=by rw[List.length_set];omega
     have hl1:∀ l,lookX 3 0 ((elM W top j u P.p i).set i (rowC (W.getD i []) (W.getD top []) (kk W j u P.p i) P.p c)) l (1000000+i)=some ⟨3,1,.row ((rowC (W.getD i []) (W.getD top []) (kk W j u P.p i) P.p c).map (D.int .i64)),false⟩:=fun l=>by rw[lx_hi (by omega),getD_set_same (by omega)]
     have hl2:∀ l,lookX 3 0 ((elM W top j u P.p i).set i (rowC (W.getD i []) (W.getD top []) (kk W j u P.p i) P.p c)) l (1000000+top)=some ⟨3,1,.row ((W.getD top []).map (D.int .i64)),false⟩:=fun l=>by rw[lx_hi (by omega),getD_set_ne (by omega),hEt]
     have hup:∀ (r:List Int) l,upd (lookX 3 0 ((elM W top j u P.p i).set i (rowC (W.getD i []) (W.getD top []) (kk W j u P.p i) P.p c)) l) (1000000+i) (some ⟨3,1,.row (r.map (D.int .i64)),false⟩)=lookX 3 0 ((elM W top j u P.p i).set i r) l:=fun r l=>by rw[lu_hi (by omega),List.set_set]
     have hrl:=rowC_len (W.getD i []) (W.getD top []) (kk W j u P.p i) P.p c
     have hrc:(rowC (W.getD i []) (W.getD top []) (kk W j u P.p i) P.p c).getD c 0=(W.getD i []).getD c 0:=by rw[rowC_getD,if_pos (by omega),if_neg (by omega)]
     have hv1:=hW.rg i c
     have hv2:=hW.rg top c
     have hm2:0≤(P.p-kk W j u P.p i)*(W.getD top []).getD c 0∧(P.p-kk W j u P.p i)*(W.getD top []).getD c 0≤1073741824*1073741824:=⟨Int.mul_nonneg (by omega) hv2.1,Int.mul_le_mul (by omega) (by omega) hv2.1 (by omega)⟩
     have hcs:=rowC_set (t:=W.getD top []) (k:=kk W j u P.p i) (p:=P.p) (c:=c) (r:=W.getD i []) (by omega)
     have htm:((W.getD i []).getD c 0+(P.p-kk W j u P.p i)*(W.getD top []).getD c 0).tmod P.p=((W.getD i []).getD c 0+(P.p-kk W j u P.p i)*(W.getD top []).getD c 0) % P.p:=tm (by omega) _
     (try simp only[c56_118,c56_106,l56_105,cw,cops,csW,csL,reduceIte,reduceEqDiff,reduceCtorEq,reduceAdd,reduceLT,reduceLeDiff,reduceSub,lx_lo,lu_lo,lf_X,get_I,forget_rows,csT,hcI])
     (repeat refine And.intro (by first|omega|(simp;omega)) ?_)
     refine keep [1,5,6,11,12,14,15,16,94,95,141,142,167,168,169] ?_
     (try simp only[c56_117,c56_107,cw,cops,csW,csL,reduceIte,reduceEqDiff,reduceCtorEq,reduceAdd,reduceLT,reduceLeDiff,reduceSub,lx_lo,lu_lo,lf_X,get_I,forget_rows,csT,hcI])
     (repeat refine And.intro (by first|omega|(simp;omega)) ?_)
     (try simp only[cw,cops,csW,csL,reduceIte,reduceEqDiff,reduceCtorEq,reduceAdd,reduceLT,reduceLeDiff,reduceSub,lx_lo,lu_lo,lf_X,get_I,forget_rows,csT,hcI,hbi,hbt,hl1,hl2,hrl,hr,hrt,hrc,htm,hcs,hup])
     (repeat refine And.intro (by first|omega|(simp;omega)) ?_)
     refine keep [1,5,6,11,12,14,15,16,94,95,141,142,167,168] ?_
     (try simp only[c56_116,c56_113,c56_112,c56_109,l56_108,cw,cops,csW,csL,reduceIte,reduceEqDiff,reduceCtorEq,reduceAdd,reduceLT,reduceLeDiff,reduceSub,lx_lo,lu_lo,lf_X,get_I,forget_rows,csT,hcI,hbi,hbt,hl1,hl2,hrl,hr,hrt,hrc,htm,hcs,hup])
     (repeat refine And.intro (by first|omega|(simp;omega)) ?_)
     refine keep [1,5,6,11,12,14,15,16,17,94,95,141,142,167,168] ?_
     (try simp only[c56_111,l56_110,cw,cops,csW,csL,reduceIte,reduceEqDiff,reduceCtorEq,reduceAdd,reduceLT,reduceLeDiff,reduceSub,lx_lo,lu_lo,lf_X,get_I,forget_rows,csT,hcI,hbi,hbt,hl1,hl2,hrl,hr,hrt,hrc,htm,hcs,hup])
     (repeat refine And.intro (by first|omega|(simp;omega)) ?_)
     refine keep [1,5,6,11,12,14,15,16,94,95,141,142,167,168] ?_
     (try simp only[c56_115,l56_114,cw,cops,csW,csL,reduceIte,reduceEqDiff,reduceCtorEq,reduceAdd,reduceLT,reduceLeDiff,reduceSub,lx_lo,lu_lo,lf_X,get_I,forget_rows,csT,hcI,hbi,hbt,hl1,hl2,hrl,hr,hrt,hrc,htm,hcs,hup])
     (repeat refine And.intro (by first|omega|(simp;omega)) ?_)
     exact⟨c+1,by omega,(Sub.toXG 0 [1,5,6,11,12,14,15,16,94,95,141,142,167,168] [26,31,217,218] (by rfl) (by rw[closedM_rows (by rfl)];rfl) (by rfl) (by rfl)),by omega⟩
    ·have hcI:¬ (c:Int)<((2*n:Nat):Int):=by omega
     have hce:c=(W.getD i []).length:=by omega
     (try simp only[c56_118,c56_106,l56_105,cw,cops,csW,csL,reduceIte,reduceEqDiff,reduceCtorEq,reduceAdd,reduceLT,reduceLeDiff,reduceSub,lx_lo,lu_lo,lf_X,get_I,forget_rows,csT,hcI])
     (repeat refine And.intro (by first|omega|(simp;omega)) ?_)
     refine keep [1,5,6,11,12,14,15,16,94,95,141,142,167,168,169] ?_
     (try simp only[c56_117,c56_107,cw,cops,csW,csL,reduceIte,reduceEqDiff,reduceCtorEq,reduceAdd,reduceLT,reduceLeDiff,reduceSub,lx_lo,lu_lo,lf_X,get_I,forget_rows,csT,hcI])
     (repeat refine And.intro (by first|omega|(simp;omega)) ?_)
     (try simp only[cw,cops,csW,csL,reduceIte,reduceEqDiff,reduceCtorEq,reduceAdd,reduceLT,reduceLeDiff,reduceSub,lx_lo,lu_lo,lf_X,get_I,forget_rows,csT,hcI])
     (repeat refine And.intro (by first|omega|(simp;omega)) ?_)
     refine keep [1,5,6,11,12,14,94,95,141,142] ?_
     (try simp only[c56_128,l56_127,cw,cops,csW,csL,reduceIte,reduceEqDiff,reduceCtorEq,reduceAdd,reduceLT,reduceLeDiff,reduceSub,lx_lo,lu_lo,lf_X,get_I,forget_rows,csT,hcI])
     (repeat refine And.intro (by first|omega|(simp;omega)) ?_)
     refine⟨i+1,by omega,?_,by omega⟩
     rw[hce,hset]
     exact (Sub.toXG 0 [1,5,6,11,12,14,94,95,141,142] [26,31,217,218] (by rfl) (by rw[closedM_rows (by rfl)];rfl) (by rfl) (by rfl))
  ·have htI:¬ (top:Int)<(i:Int):=by omega
   have hskip:=elM_skip (M:=W) (top:=top) (j:=j) (u:=u) (p:=P.p) (i:=i) (fun hh=>ht2 hh.1)
   (try simp only[c56_131,c56_95,l56_94,cw,cops,csW,csL,reduceIte,reduceEqDiff,reduceCtorEq,reduceAdd,reduceLT,reduceLeDiff,reduceSub,lx_lo,lu_lo,lf_X,get_I,forget_rows,csT,hI])
   (repeat refine And.intro (by first|omega|(simp;omega)) ?_)
   refine keep [1,5,6,11,12,14,94,95,141,142,143] ?_
   (try simp only[c56_130,c56_96,cw,cops,csW,csL,reduceIte,reduceEqDiff,reduceCtorEq,reduceAdd,reduceLT,reduceLeDiff,reduceSub,lx_lo,lu_lo,lf_X,get_I,forget_rows,csT,hI])
   (repeat refine And.intro (by first|omega|(simp;omega)) ?_)
   (try simp only[cw,cops,csW,csL,reduceIte,reduceEqDiff,reduceCtorEq,reduceAdd,reduceLT,reduceLeDiff,reduceSub,lx_lo,lu_lo,lf_X,get_I,forget_rows,csT,hI,hbi,hlx,hr,hjr,hk,htI])
   (repeat refine And.intro (by first|omega|(simp;omega)) ?_)
   refine keep [1,5,6,11,12,14,94,95,141,142] ?_
   (try simp only[c56_129,c56_126,c56_125,c56_98,l56_97,cw,cops,csW,csL,reduceIte,reduceEqDiff,reduceCtorEq,reduceAdd,reduceLT,reduceLeDiff,reduceSub,lx_lo,lu_lo,lf_X,get_I,forget_rows,csT,hI,hbi,hlx,hr,hjr,hk,htI])
   (repeat refine And.intro (by first|omega|(simp;omega)) ?_)
   refine keep [1,5,6,11,12,14,15,94,95,141,142] ?_
   (try simp only[c56_124,c56_100,l56_99,cw,cops,csW,csL,reduceIte,reduceEqDiff,reduceCtorEq,reduceAdd,reduceLT,reduceLeDiff,reduceSub,lx_lo,lu_lo,lf_X,get_I,forget_rows,csT,hI,hbi,hlx,hr,hjr,hk,htI])
   (repeat refine And.intro (by first|omega|(simp;omega)) ?_)
   refine keep [1,5,6,11,12,14,15,16,94,95,141,142] ?_
   (try simp only[c56_123,c56_102,l56_101,cw,cops,csW,csL,reduceIte,reduceEqDiff,reduceCtorEq,reduceAdd,reduceLT,reduceLeDiff,reduceSub,lx_lo,lu_lo,lf_X,get_I,forget_rows,csT,hI,hbi,hlx,hr,hjr,hk,htI])
   (repeat refine And.intro (by first|omega|(simp;omega)) ?_)
   refine keep [1,5,6,11,12,14,15,16,94,95,141,142,162] ?_
   (try simp only[c56_122,cw,cops,csW,csL,reduceIte,reduceEqDiff,reduceCtorEq,reduceAdd,reduceLT,reduceLeDiff,reduceSub,lx_lo,lu_lo,lf_X,get_I,forget_rows,csT,hI,hbi,hlx,hr,hjr,hk,htI])
   (repeat refine And.intro (by first|omega|(simp;omega)) ?_)
   (try simp only[cw,cops,csW,csL,reduceIte,reduceEqDiff,reduceCtorEq,reduceAdd,reduceLT,reduceLeDiff,reduceSub,lx_lo,lu_lo,lf_X,get_I,forget_rows,csT])
   (repeat refine And.intro (by first|omega|(simp;omega)) ?_)
   refine keep [1,5,6,11,12,14,94,95,141,142] ?_
   (try simp only[c56_128,l56_127,cw,cops,csW,csL,reduceIte,reduceEqDiff,reduceCtorEq,reduceAdd,reduceLT,reduceLeDiff,reduceSub,lx_lo,lu_lo,lf_X,get_I,forget_rows,csT])
   (repeat refine And.intro (by first|omega|(simp;omega)) ?_)
   refine⟨i+1,by omega,?_,by omega⟩
   rw[←hskip]
   exact (Sub.toXG 0 [1,5,6,11,12,14,94,95,141,142] [26,31,217,218] (by rfl) (by rw[closedM_rows (by rfl)];rfl) (by rfl) (by rfl))
 ·have hI:¬ (i:Int)<(n:Int):=by omega
  have hin:i=n:=by omega
  subst hin
  (try simp only[c56_131,c56_95,l56_94,cw,cops,csW,csL,reduceIte,reduceEqDiff,reduceCtorEq,reduceAdd,reduceLT,reduceLeDiff,reduceSub,lx_lo,lu_lo,lf_X,get_I,forget_rows,csT,hI])
  (repeat refine And.intro (by first|omega|(simp;omega)) ?_)
  refine keep [1,5,6,11,12,14,94,95,141,142,143] ?_
  (try simp only[c56_130,c56_96,cw,cops,csW,csL,reduceIte,reduceEqDiff,reduceCtorEq,reduceAdd,reduceLT,reduceLeDiff,reduceSub,lx_lo,lu_lo,lf_X,get_I,forget_rows,csT,hI])
  (repeat refine And.intro (by first|omega|(simp;omega)) ?_)
  (try simp only[cw,cops,csW,csL,reduceIte,reduceEqDiff,reduceCtorEq,reduceAdd,reduceLT,reduceLeDiff,reduceSub,lx_lo,lu_lo,lf_X,get_I,forget_rows,csT,hI])
  (repeat refine And.intro (by first|omega|(simp;omega)) ?_)
  exact hQ _ (Sub.toXG 0 [1,5,6,11,94,95] [] (by rfl) (by rw[closedM_rows (by rfl)];rfl) (by rfl) (by rfl))
end Go.Proofs.Ytlnhembcfhfpkaa.M
