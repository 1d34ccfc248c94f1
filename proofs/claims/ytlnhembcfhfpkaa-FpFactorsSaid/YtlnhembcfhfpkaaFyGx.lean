/- Polynomials modulo a prime: the kernel walked. -/
import Derived.Test.YtlnhembcfhfpkaaFyFx
namespace Go.Proofs.Ytlnhembcfhfpkaa.M
open Go.RowKit Go.Proofs.Ytlnhembcfhfpkaa.Fx
open Nat (reduceEqDiff reduceAdd reduceLT reduceLeDiff reduceSub)
set_option linter.unusedSimpArgs false
set_option linter.unusedVariables false
variable {P:Pr}
theorem X_l:(X:Po P).l=[0,1]:=td_ext (X:Po P).td (by simp[Td,trim]) fun i=>by
 show co (mk [0,1]) i=_
 rw[co_mk]
 have:=P.p2
 rcases i with _ | _ | i
 ·simp
 ·simp only[List.getD_cons_succ,List.getD_cons_zero];exact em_self (by omega)
 ·simp
theorem powX_con {T T':Nat} (f m:Po P) (n:Nat) (hf:dg f≤65) (hm:dg m≤65) (h0:m≠0) (hn:n≤9223372036854775807):Con Try.prog [] 44 [LT T f.l,I n,LT T' m.l,I P.p] (L (rm (pw f n) m).l):=by
 rw[←powP_ok h0]
 exact power_con f.l m.l n P.p P.h (plx f hf) (plx m hm) (l_ne h0) hn
theorem powXp_con {T T':Nat} (m:Po P) (hm:dg m≤65) (h0:m≠0):Con Try.prog [] 44 [LT T [0,1],I P.p,LT T' m.l,I P.p] (L (hK m 1).l):=by
 have h:=powX_con (T:=T) (T':=T') (X:Po P) m (pn P) (by unfold dg;rw[X_l];simp) hm h0 (by have:=pn_p P;have:=P.h.pos;omega)
 rw[X_l,pn_p] at h
 unfold hK
 rw[Nat.mul_one]
 exact h
theorem rowsA_0 (T n W:Nat):(List.replicate n (D.list T 1 [])).map AV.p=rowsA T n 0 W:=by
 apply List.ext_getElem<;>simp[rowsA]
theorem sub_enter {a0 a1 a5 a7 a33 a34:D} {n:Nat} {l:List Int} (h1:1≤n):Sub kOT ⟨look [(0,.p a0),(1,.p a1),(5,.p a5),(6,.slice 25 0 n),(7,.p a7),(8,.slice 31 0 1),(33,.p a33),(34,.p a34)],lookM [(25,⟨22,1,.row (List.replicate n (.list 3 1 [])),false⟩),(31,⟨3,1,.row [.int .i64 1],false⟩)]⟩
  ⟨look [(0,.p a0),(1,.p a1),(5,.p a5),(6,.arr 25 0 n),(7,.p a7),(8,.p (L [1])),(33,.p a33),(34,.p a34)],lookX 3 0 [] [(25,⟨22,n,.box (.agg (rowsA 3 n 0 (2*n))),false⟩)]⟩:=by
 refine (Sub.showG 8 31 ⟨3,1,.row [.int .i64 1],false⟩ (L [1]) (by rfl) (by rfl)).tr ?_
 refine (Sub.toG [0,1,5,6,7,8,33,34] [31] (by rfl) (by rfl) rfl rfl).tr ?_
 have h:=Sub.bx (OT:=kOT) (R:=[(0,.p a0),(1,.p a1),(5,.p a5),(6,.slice 25 0 n),(7,.p a7),(8,.p (L [1])),(33,.p a33),(34,.p a34)]) (M:=[(25,⟨22,1,.row (List.replicate n (.list 3 1 [])),false⟩)]) 25 (T:=22) (l:=List.replicate n (.list 3 1 [])) (by decide) (by rfl) (by intro e;have:=congrArg List.length e;simp at this;omega) (by rw[List.all_eq_true];intro x hx;rw[List.eq_of_mem_replicate hx];rfl) (by rfl) (by rfl)
 rw[List.length_replicate,rowsA_0 _ n (2*n)] at h
 rw[←lx_nil]
 exact h
theorem renL_push {T:TypeId} {n W i:Nat} (hi:i<n):renL (sw1 41 (1000000+i)) ((rowsA T n i W).set i (.slice 41 0 W))=rowsA T n (i+1) W:=by
 rw[renL_eq]
 apply List.ext_getElem?
 intro k
 rw[List.getElem?_map,List.getElem?_set,rowsA_len]
 by_cases hk:k<n
 ·rw[rowsA_get hk,rowsA_get hk]
  by_cases h1:i=k
  ·rw[if_pos h1,if_pos hi]
   subst h1
   rw[if_pos (by omega)]
   simp only[Option.map_some,AV.ren]
   rw[sw1_l]
  ·rw[if_neg h1]
   by_cases h2:k<i
   ·rw[if_pos h2,if_pos (by omega)]
    simp only[Option.map_some,AV.ren]
    rw[sw1_ne (by omega) (by omega)]
   ·rw[if_neg h2,if_neg (by omega)]
    simp only[Option.map_some,AV.ren]
 ·rw[if_neg (show ¬ i=k by omega),List.getElem?_eq_none (l:=rowsA T n i W) (by rw[rowsA_len];omega),List.getElem?_eq_none (l:=rowsA T n (i+1) W) (by rw[rowsA_len];omega)];rfl
theorem sub_push {OT:List TypeId} {T T2:TypeId} {M:List (List Int)} {R:List (Nat × AV)} {n W i:Nat} {r:List Int} (hM:M.length=i) (hi:i<n) (hR:rnR (sw1 41 (1000000+i)) R=R) :
  Sub OT ⟨look R,lookX T 0 M [(25,⟨T2,n,.box (.agg ((rowsA T n i W).set i (.slice 41 0 W))),false⟩),(41,⟨T,1,.row (r.map (D.int .i64)),false⟩)]⟩ ⟨look R,lookX T 0 (M++[r]) [(25,⟨T2,n,.box (.agg (rowsA T n (i+1) W)),false⟩)]⟩:=by
 have h:=Sub.pushX (OT:=OT) (T:=T) (M:=M) (R:=R) (l:=[(25,⟨T2,n,.box (.agg ((rowsA T n i W).set i (.slice 41 0 W))),false⟩),(41,⟨T,1,.row (r.map (D.int .i64)),false⟩)]) 41 (r:=r) (by decide) (by rfl) (fun j hj=>by
  rw[lookM_cons,if_neg (by omega),lookM_cons,if_neg (by omega),lookM_nil])
 rw[hM,hR] at h
 have e:renO (sw1 41 (1000000+i)) (delL [41] [(25,(⟨T2,n,.box (.agg ((rowsA T n i W).set i (.slice 41 0 W))),false⟩:AObj)),(41,⟨T,1,.row (r.map (D.int .i64)),false⟩)])=[(25,⟨T2,n,.box (.agg (rowsA T n (i+1) W)),false⟩)]:=by
  have:delL [41] [(25,(⟨T2,n,.box (.agg ((rowsA T n i W).set i (.slice 41 0 W))),false⟩:AObj)),(41,⟨T,1,.row (r.map (D.int .i64)),false⟩)]=[(25,⟨T2,n,.box (.agg ((rowsA T n i W).set i (.slice 41 0 W))),false⟩)]:=rfl
  rw[this]
  simp only[renO,AObj.ren,AV.ren,renL_push hi]
 rw[e] at h
 exact h
theorem sub_push1 {OT:List TypeId} {T T2:TypeId} {M:List (List Int)} {R:List (Nat × AV)} {W:Nat} {r:List Int} (hM:M.length=0) (hR:rnR (sw1 41 (1000000+0)) R=R) :
  Sub OT ⟨look R,lookX T 0 M [(25,⟨T2,1,.box (.slice 41 0 W),false⟩),(41,⟨T,1,.row (r.map (D.int .i64)),false⟩)]⟩ ⟨look R,lookX T 0 (M++[r]) [(25,⟨T2,1,.box (.agg (rowsA T 1 1 W)),false⟩)]⟩:=by
 have h1:=Sub.recell (OT:=OT) (r:=look R) (m:=lookX T 0 M [(25,⟨T2,1,.box (.slice 41 0 W),false⟩),(41,⟨T,1,.row (r.map (D.int .i64)),false⟩)]) (i:=25) (T:=T2) (sz:=1) (v:=.slice 41 0 W) (u:=.agg ((rowsA T 1 0 W).set 0 (.slice 41 0 W))) (f:=false) (by decide) (by rw[lx_lo (by decide)];rfl) rfl
 rw[lu_lo (by decide)] at h1
 exact h1.tr (sub_push (n:=1) (i:=0) hM (by decide) hR)
theorem box_get1 {T:TypeId} {n W i:Nat} (h:i<n):(AV.agg (rowsA T n (i+1) W)).get i 1 n false=some (.slice (1000000+i) 0 W):=box_get (by omega) h
noncomputable def rwH (h:Po P) (n j:Nat):List Int:=tabI (2*n) fun c=>if c<j then co h c else 0
theorem rwH_len (h:Po P) (n j:Nat):(rwH h n j).length=2*n:=tabI_len _ _
theorem rwH_getD {h:Po P} {n j c:Nat}:(rwH h n j).getD c 0=if c<2*n then (if c<j then co h c else 0) else 0:=tabI_getD _ _ _
theorem rwH_0 (h:Po P) (n:Nat):List.replicate (2*n) (0:Int)=rwH h n 0:=by
 apply List.ext_getElem<;>simp[rwH,tabI]
theorem rwH_set {h:Po P} {n j:Nat} (hj:j<n):(rwH h n j).set j (co h j)=rwH h n (j+1):=by
 apply List.ext_getElem
 ·simp[rwH,tabI]
 ·intro c a1 a2
  rw[List.getElem_set]
  simp only[rwH,tabI,List.getElem_map,List.getElem_range]
  by_cases e:j=c
  ·subst e;rw[if_pos rfl,if_pos (by omega)]
  ·rw[if_neg e]
   by_cases e2:c<j
   ·rw[if_pos e2,if_pos (by omega)]
   ·rw[if_neg e2,if_neg (by omega)]
theorem kRow_eq {f:Po P} {n i:Nat} (hf:dg f=n+1) (hi:i<n):((rwH (hK f i) n n).set i (co (hK f i-pw X i) i)).set (n+i) 1=kRow f n i:=by
 have hf0:f≠0:=ne_0 (by omega)
 have hd:=hK_dg hf0 i
 apply List.ext_getElem
 ·simp[rwH,kRow,tabI]
 ·intro c a1 a2
  rw[List.getElem_set,List.getElem_set]
  simp only[rwH,kRow,tabI,List.getElem_map,List.getElem_range]
  by_cases e1:n+i=c
  ·rw[if_pos e1,if_neg (by omega),if_pos e1.symm]
  ·rw[if_neg e1]
   by_cases e2:i=c
   ·subst e2;rw[if_pos rfl,if_pos hi]
   ·rw[if_neg e2]
    by_cases e3:c<n
    ·rw[if_pos e3,if_pos e3]
     show co (hK f i) c=co (hK f i + -pw X i) c
     rw[co_add,co_neg,co_Xp,if_neg (fun e=>e2 e.symm)]
     simp only[Int.neg_zero,Int.zero_emod,Int.add_zero]
     exact (co_mod _ _).symm
    ·rw[if_neg e3,if_neg e3,if_neg (fun e=>e1 e.symm)]
theorem kM_s (f:Po P) (n i:Nat):kM f n i++[kRow f n i]=kM f n (i+1):=by unfold kM;rw[List.range_succ,List.map_append];rfl
theorem kM_len (f:Po P) (n i:Nat):(kM f n i).length=i:=by simp[kM]
theorem app_set {M:List (List Int)} {r r':List Int} {i:Nat} (h:M.length=i):(M++[r]).set i r'=M++[r']:=by
 subst h;simp
theorem app_getD {M:List (List Int)} {r:List Int} {i:Nat} (h:M.length=i):(M++[r]).getD i []=r:=by
 subst h;simp
set_option maxRecDepth 20000 in
set_option maxHeartbeats 8000000 in
theorem kernel_con {T:Nat} (f:Po P) (h2:2≤dg f) (hb:dg f≤65):Con Try.prog [] 56 [LT T f.l,I P.p] (LL ((kerB f).map fun b=>b.l)):=by
 obtain⟨n,hn⟩:∃ n,dg f=n+1:=⟨dg f-1,by omega⟩
 have hf:f≠0:=ne_0 (by omega)
 have hp:=P.h.pos
 have hp2:=P.p2
 have hnI:(f.l.length:Int)-1=(n:Int):=by unfold dg at hn;omega
 have hn2I:(2:Int)*(n:Int)=((2*n:Nat):Int):=by omega
 refine fn56.con rfl (by simp) ?_
 (try simp only[init2,c56,c56_188,c56_1,l56_0,cw,cops,csW,csL,reduceIte,reduceEqDiff,reduceCtorEq,reduceAdd,reduceLT,reduceLeDiff,reduceSub,lx_lo,lu_lo,lf_X,get_I,forget_rows,csT,hnI])
 (repeat refine And.intro (by first|omega|(simp;omega)) ?_)
 refine keep [0,1] ?_
 (try simp only[c56_187,c56_3,l56_2,cw,cops,csW,csL,reduceIte,reduceEqDiff,reduceCtorEq,reduceAdd,reduceLT,reduceLeDiff,reduceSub,lx_lo,lu_lo,lf_X,get_I,forget_rows,csT,hnI])
 (repeat refine And.intro (by first|omega|(simp;omega)) ?_)
 refine keep [0,1,5] ?_
 (try simp only[c56_186,c56_5,l56_4,cw,cops,csW,csL,reduceIte,reduceEqDiff,reduceCtorEq,reduceAdd,reduceLT,reduceLeDiff,reduceSub,lx_lo,lu_lo,lf_X,get_I,forget_rows,csT,hnI])
 (repeat refine And.intro (by first|omega|(simp;omega)) ?_)
 refine keep [0,1,5,6] ?_
 (try simp only[c56_185,c56_8,l56_6,cw,cops,csW,csL,reduceIte,reduceEqDiff,reduceCtorEq,reduceAdd,reduceLT,reduceLeDiff,reduceSub,lx_lo,lu_lo,lf_X,get_I,forget_rows,csT,hnI])
 (repeat refine And.intro (by first|omega|(simp;omega)) ?_)
 refine⟨_,cx (powXp_con f hb hf),?_⟩
 (try simp only[l56_7,cw,cops,csW,csL,reduceIte,reduceEqDiff,reduceCtorEq,reduceAdd,reduceLT,reduceLeDiff,reduceSub,lx_lo,lu_lo,lf_X,get_I,forget_rows,csT])
 (repeat refine And.intro (by first|omega|(simp;omega)) ?_)
 refine keep [0,1,5,6,7] ?_
 (try simp only[c56_184,c56_10,l56_9,cw,cops,csW,csL,reduceIte,reduceEqDiff,reduceCtorEq,reduceAdd,reduceLT,reduceLeDiff,reduceSub,lx_lo,lu_lo,lf_X,get_I,forget_rows,csT])
 (repeat refine And.intro (by first|omega|(simp;omega)) ?_)
 refine keep [0,1,5,6,7,8] ?_
 (try simp only[c56_183,c56_61,c56_12,l56_11,cw,cops,csW,csL,reduceIte,reduceEqDiff,reduceCtorEq,reduceAdd,reduceLT,reduceLeDiff,reduceSub,lx_lo,lu_lo,lf_X,get_I,forget_rows,csT])
 (repeat refine And.intro (by first|omega|(simp;omega)) ?_)
 refine keep [0,1,5,6,7,8,33,34] ?_
 (try simp only[c56_60,cw,cops,csW,csL,reduceIte,reduceEqDiff,reduceCtorEq,reduceAdd,reduceLT,reduceLeDiff,reduceSub,lx_lo,lu_lo,lf_X,get_I,forget_rows,csT])
 refine loop_of (ι:=Nat) (fun i=>i≤n) (fun i=>⟨look [(0,.p (LT T f.l)),(1,.p (I P.p)),(5,.p (I n)),(6,.arr 25 0 n),(7,.p (L (hK f 1).l)),(8,.p (L (hK f i).l)),(33,.p (I n)),(34,.p (I i))],lookX 3 0 (kM f n i) [(25,⟨22,n,.box (.agg (rowsA 3 n i (2*n))),false⟩)]⟩) (fun i=>n-i) 0 (by omega) ?_ ?_
 ·rw[hK_0 h2,one_l]
  exact (Sub.toG [0,1,5,6,7,8,33,34] [26] (by rfl) (by rfl) (by rfl) (by rfl)).tr (sub_enter (l:=[]) (by omega))
 intro i hi
 have hkl:=kM_len f n i
 by_cases h:i<n
 ·have hI:(i:Int)<(n:Int):=by omega
  have hdh:=hK_dg hf i
  have hd1:=hK_dg hf 1
  have hle1:(i+1≤n)=True:=eq_true (by omega)
  have hput1:=box_putL (l:=rowsA 3 n i (2*n)) (i:=i) (k:=41) (o:=0) (W:=2*n) (by rw[rowsA_len];exact h)
  have hs25:sw1 41 (1000000+i) 25=25:=sw1_ne (by omega) (by omega)
  have hsub:Sub kOT ⟨look [(0,.p (LT T f.l)),(1,.p (I P.p)),(5,.p (I n)),(6,.arr 25 0 n),(7,.p (L (hK f 1).l)),(8,.p (L (hK f i).l)),(9,.p (I i)),(33,.p (I n)),(34,.p (I i))],lookX 3 0 (kM f n i) [(25,⟨22,n,.box (if i=0∧1=n then .slice 41 0 (2*n) else .agg ((rowsA 3 n i (2*n)).set i (.slice 41 0 (2*n)))),false⟩),(41,⟨3,1,.row ((List.replicate (2*n) 0).map (D.int .i64)),false⟩)]⟩
    ⟨look [(0,.p (LT T f.l)),(1,.p (I P.p)),(5,.p (I n)),(6,.arr 25 0 n),(7,.p (L (hK f 1).l)),(8,.p (L (hK f i).l)),(9,.p (I i)),(33,.p (I n)),(34,.p (I i))],lookX 3 0 (kM f n i++[rwH (hK f i) n 0]) [(25,⟨22,n,.box (.agg (rowsA 3 n (i+1) (2*n))),false⟩)]⟩:=by
   rw[←rwH_0]
   by_cases e:i=0∧1=n
   ·rw[if_pos e]
    obtain⟨rfl,rfl⟩:=e
    exact sub_push1 hkl (by simp only[rnR,AV.ren,hs25])
   ·rw[if_neg e]
    exact sub_push hkl h (by simp only[rnR,AV.ren,hs25])
  have hif:∀ (r:Nat→AV) (M:List (List Int)) (x x':AV) (y:Nat × AObj),(if i=0∧1=n then some (true,AV.und,(⟨r,lookX 3 0 M [(25,⟨22,n,.box x,false⟩),y]⟩:St)) else some (true,AV.und,⟨r,lookX 3 0 M [(25,⟨22,n,.box x',false⟩),y]⟩))=some (true,AV.und,⟨r,lookX 3 0 M [(25,⟨22,n,.box (if i=0∧1=n then x else x'),false⟩),y]⟩):=by intros;split<;>rfl
  (try simp only[c56_58,c56_14,l56_13,cw,cops,csW,csL,reduceIte,reduceEqDiff,reduceCtorEq,reduceAdd,reduceLT,reduceLeDiff,reduceSub,lx_lo,lu_lo,lf_X,get_I,forget_rows,csT,hI])
  (repeat refine And.intro (by first|omega|(simp;omega)) ?_)
  refine keep [0,1,5,6,7,8,33,34,35] ?_
  (try simp only[c56_57,c56_15,cw,cops,csW,csL,reduceIte,reduceEqDiff,reduceCtorEq,reduceAdd,reduceLT,reduceLeDiff,reduceSub,lx_lo,lu_lo,lf_X,get_I,forget_rows,csT,hI])
  (repeat refine And.intro (by first|omega|(simp;omega)) ?_)
  (try simp only[cw,cops,csW,csL,reduceIte,reduceEqDiff,reduceCtorEq,reduceAdd,reduceLT,reduceLeDiff,reduceSub,lx_lo,lu_lo,lf_X,get_I,forget_rows,csT,hI,hn2I,hle1,hput1,hif])
  (repeat refine And.intro (by first|omega|(simp;omega)) ?_)
  refine keep [0,1,5,6,7,8,33,34] ?_
  (try simp only[c56_56,c56_53,c56_52,c56_17,l56_16,cw,cops,csW,csL,reduceIte,reduceEqDiff,reduceCtorEq,reduceAdd,reduceLT,reduceLeDiff,reduceSub,lx_lo,lu_lo,lf_X,get_I,forget_rows,csT,hI,hn2I,hle1,hput1,hif])
  (repeat refine And.intro (by first|omega|(simp;omega)) ?_)
  refine keep [0,1,5,6,7,8,9,33,34] ?_
  (try simp only[c56_51,c56_19,l56_18,cw,cops,csW,csL,reduceIte,reduceEqDiff,reduceCtorEq,reduceAdd,reduceLT,reduceLeDiff,reduceSub,lx_lo,lu_lo,lf_X,get_I,forget_rows,csT,hI,hn2I,hle1,hput1,hif])
  (repeat refine And.intro (by first|omega|(simp;omega)) ?_)
  refine⟨_,(Sub.to [0,1,5,6,7,8,9,33,34] (by rfl)).tr hsub,?_⟩
  (try simp only[c56_50,c56_39,c56_21,l56_20,cw,cops,csW,csL,reduceIte,reduceEqDiff,reduceCtorEq,reduceAdd,reduceLT,reduceLeDiff,reduceSub,lx_lo,lu_lo,lf_X,get_I,forget_rows,csT,hI,hn2I,hle1,hput1,hif])
  (repeat refine And.intro (by first|omega|(simp;omega)) ?_)
  refine keep [0,1,5,6,7,8,9,33,34,43,44] ?_
  (try simp only[c56_38,cw,cops,csW,csL,reduceIte,reduceEqDiff,reduceCtorEq,reduceAdd,reduceLT,reduceLeDiff,reduceSub,lx_lo,lu_lo,lf_X,get_I,forget_rows,csT,hI,hn2I,hle1,hput1,hif])
  have hMl:∀ r,(kM f n i++[r]).length=i+1:=fun r=>by rw[List.length_append,hkl];rfl
  have hbi:=box_get1 (T:=3) (W:=2*n) h
  have hlx:∀ r l,lookX 3 0 (kM f n i++[r]) l (1000000+i)=some ⟨3,1,.row (r.map (D.int .i64)),false⟩:=fun r l=>by rw[lx_hi (by rw[hMl];omega),app_getD hkl]
  have hup:∀ (r r':List Int) l,upd (lookX 3 0 (kM f n i++[r]) l) (1000000+i) (some ⟨3,1,.row (r'.map (D.int .i64)),false⟩)=lookX 3 0 (kM f n i++[r']) l:=fun r r' l=>by rw[lu_hi (by rw[hMl];omega),app_set hkl]
  refine loop_of (ι:=Nat) (fun j=>j≤n) (fun j=>⟨look [(0,.p (LT T f.l)),(1,.p (I P.p)),(5,.p (I n)),(6,.arr 25 0 n),(7,.p (L (hK f 1).l)),(8,.p (L (hK f i).l)),(9,.p (I i)),(33,.p (I n)),(34,.p (I i)),(43,.p (I n)),(44,.p (I j))],lookX 3 0 (kM f n i++[rwH (hK f i) n j]) [(25,⟨22,n,.box (.agg (rowsA 3 n (i+1) (2*n))),false⟩)]⟩) (fun j=>n-j) 0 (by omega) (Sub.toXG 0 [0,1,5,6,7,8,9,33,34,43,44] [26,217,218] (by rfl) (by rw[closedM_rows (by rfl)];rfl) (by rfl) (by rfl)) ?_
  intro j hj
  by_cases hjn:j<n
  ·have hjI:(j:Int)<(n:Int):=by omega
   have hj2:(j:Int)<((2*n:Nat):Int):=by omega
   have hrl:=rwH_len (hK f i) n j
   have hset:=rwH_set (h:=hK f i) hjn
   (try simp only[c56_36,c56_23,l56_22,cw,cops,csW,csL,reduceIte,reduceEqDiff,reduceCtorEq,reduceAdd,reduceLT,reduceLeDiff,reduceSub,lx_lo,lu_lo,lf_X,get_I,forget_rows,csT,hjI])
   (repeat refine And.intro (by first|omega|(simp;omega)) ?_)
   refine keep [0,1,5,6,7,8,9,33,34,43,44,45] ?_
   (try simp only[c56_35,c56_24,cw,cops,csW,csL,reduceIte,reduceEqDiff,reduceCtorEq,reduceAdd,reduceLT,reduceLeDiff,reduceSub,lx_lo,lu_lo,lf_X,get_I,forget_rows,csT,hjI])
   (repeat refine And.intro (by first|omega|(simp;omega)) ?_)
   (try simp only[cw,cops,csW,csL,reduceIte,reduceEqDiff,reduceCtorEq,reduceAdd,reduceLT,reduceLeDiff,reduceSub,lx_lo,lu_lo,lf_X,get_I,forget_rows,csT,hjI,hbi])
   (repeat refine And.intro (by first|omega|(simp;omega)) ?_)
   refine keep [0,1,5,6,7,8,9,33,34,43,44] ?_
   (try simp only[c56_34,c56_31,c56_30,c56_26,l56_25,cw,cops,csW,csL,reduceIte,reduceEqDiff,reduceCtorEq,reduceAdd,reduceLT,reduceLeDiff,reduceSub,lx_lo,lu_lo,lf_X,get_I,forget_rows,csT,hjI,hbi])
   (repeat refine And.intro (by first|omega|(simp;omega)) ?_)
   refine keep [0,1,5,6,7,8,9,10,33,34,43,44] ?_
   (try simp only[c56_29,l56_27,cw,cops,csW,csL,reduceIte,reduceEqDiff,reduceCtorEq,reduceAdd,reduceLT,reduceLeDiff,reduceSub,lx_lo,lu_lo,lf_X,get_I,forget_rows,csT,hjI,hbi])
   (repeat refine And.intro (by first|omega|(simp;omega)) ?_)
   refine⟨_,cx (at_con (hK f i).l j),?_⟩
   (try simp only[l56_28,cw,cops,csW,csL,reduceIte,reduceEqDiff,reduceCtorEq,reduceAdd,reduceLT,reduceLeDiff,reduceSub,lx_lo,lu_lo,lf_X,get_I,forget_rows,csT,hlx,hrl,hj2,show (hK f i).l.getD j 0=co (hK f i) j from rfl,hset,hup])
   (repeat refine And.intro (by first|omega|(simp;omega)) ?_)
   refine keep [0,1,5,6,7,8,9,33,34,43,44] ?_
   (try simp only[c56_33,l56_32,cw,cops,csW,csL,reduceIte,reduceEqDiff,reduceCtorEq,reduceAdd,reduceLT,reduceLeDiff,reduceSub,lx_lo,lu_lo,lf_X,get_I,forget_rows,csT,hlx,hrl,hj2,show (hK f i).l.getD j 0=co (hK f i) j from rfl,hset,hup])
   (repeat refine And.intro (by first|omega|(simp;omega)) ?_)
   exact⟨j+1,by omega,(Sub.toXG 0 [0,1,5,6,7,8,9,33,34,43,44] [26,217,218] (by rfl) (by rw[closedM_rows (by rfl)];rfl) (by rfl) (by rfl)),by omega⟩
  ·have hjI:¬ (j:Int)<(n:Int):=by omega
   have hjn2:j=n:=by omega
   subst hjn2
   have hi2:(i:Int)<((2*j:Nat):Int):=by omega
   have hrl:=rwH_len (hK f i) j j
   have hri:(rwH (hK f i) j j).getD i 0=co (hK f i) i:=by rw[rwH_getD,if_pos (by omega),if_pos h]
   have hrg:=co_rg (hK f i) i
   have htm:(co (hK f i) i+P.p-1).tmod P.p=co (hK f i-pw X i) i:=by
    rw[tm (by omega)]
    show _=co (hK f i + -pw X i) i
    rw[co_add,co_neg,co_Xp,if_pos rfl,Int.add_emod_emod,show co (hK f i) i+P.p-1=co (hK f i) i + -1+P.p by omega,Int.add_emod_right]
   have hrow:=kRow_eq hn h
   have hs1:((rwH (hK f i) j j).set i (co (hK f i-pw X i) i)).length=2*j:=by rw[List.length_set];exact hrl
   have hni:(j:Int)+(i:Int)<((2*j:Nat):Int):=by omega
   have hniN:((j:Int)+(i:Int)).toNat=j+i:=by omega
   (try simp only[c56_36,c56_23,l56_22,cw,cops,csW,csL,reduceIte,reduceEqDiff,reduceCtorEq,reduceAdd,reduceLT,reduceLeDiff,reduceSub,lx_lo,lu_lo,lf_X,get_I,forget_rows,csT,hjI])
   (repeat refine And.intro (by first|omega|(simp;omega)) ?_)
   refine keep [0,1,5,6,7,8,9,33,34,43,44,45] ?_
   (try simp only[c56_35,c56_24,cw,cops,csW,csL,reduceIte,reduceEqDiff,reduceCtorEq,reduceAdd,reduceLT,reduceLeDiff,reduceSub,lx_lo,lu_lo,lf_X,get_I,forget_rows,csT,hjI])
   (repeat refine And.intro (by first|omega|(simp;omega)) ?_)
   (try simp only[cw,cops,csW,csL,reduceIte,reduceEqDiff,reduceCtorEq,reduceAdd,reduceLT,reduceLeDiff,reduceSub,lx_lo,lu_lo,lf_X,get_I,forget_rows,csT,hjI,hbi,hlx,hrl,hi2,hri,htm,hup,hs1,hni,hniN,hrow])
   (repeat refine And.intro (by first|omega|(simp;omega)) ?_)
   refine keep [0,1,5,6,7,8,9,33,34] ?_
   (try simp only[c56_49,c56_41,l56_40,cw,cops,csW,csL,reduceIte,reduceEqDiff,reduceCtorEq,reduceAdd,reduceLT,reduceLeDiff,reduceSub,lx_lo,lu_lo,lf_X,get_I,forget_rows,csT,hjI,hbi,hlx,hrl,hi2,hri,htm,hup,hs1,hni,hniN,hrow])
   (repeat refine And.intro (by first|omega|(simp;omega)) ?_)
   refine keep [0,1,5,6,7,8,9,33,34] ?_
   (try simp only[c56_48,c56_43,l56_42,cw,cops,csW,csL,reduceIte,reduceEqDiff,reduceCtorEq,reduceAdd,reduceLT,reduceLeDiff,reduceSub,lx_lo,lu_lo,lf_X,get_I,forget_rows,csT,hjI,hbi,hlx,hrl,hi2,hri,htm,hup,hs1,hni,hniN,hrow])
   (repeat refine And.intro (by first|omega|(simp;omega)) ?_)
   refine keep [0,1,5,6,7,8,33,34] ?_
   (try simp only[c56_47,l56_44,cw,cops,csW,csL,reduceIte,reduceEqDiff,reduceCtorEq,reduceAdd,reduceLT,reduceLeDiff,reduceSub,lx_lo,lu_lo,lf_X,get_I,forget_rows,csT,hjI,hbi,hlx,hrl,hi2,hri,htm,hup,hs1,hni,hniN,hrow])
   (repeat refine And.intro (by first|omega|(simp;omega)) ?_)
   refine⟨_,cx (mulX_con (hK f i) (hK f 1) (by omega) (by omega)),?_⟩
   (try simp only[l56_45,cw,cops,csW,csL,reduceIte,reduceEqDiff,reduceCtorEq,reduceAdd,reduceLT,reduceLeDiff,reduceSub,lx_lo,lu_lo,lf_X,get_I,forget_rows,csT])
   (repeat refine And.intro (by first|omega|(simp;omega)) ?_)
   refine⟨_,cx (divX_con (hK f i*hK f 1) (by by_cases h0:hK f i*hK f 1=0;rw[h0,dg_0];omega;have:=dg_mul (mul_ne_l h0) (mul_ne_r h0);omega) (by omega) hf),?_⟩
   (try simp only[l56_46,cw,cops,csW,csL,reduceIte,reduceEqDiff,reduceCtorEq,reduceAdd,reduceLT,reduceLeDiff,reduceSub,lx_lo,lu_lo,lf_X,get_I,forget_rows,csT])
   (repeat refine And.intro (by first|omega|(simp;omega)) ?_)
   refine keep [0,1,5,6,7,8,33,34] ?_
   (try simp only[c56_55,l56_54,cw,cops,csW,csL,reduceIte,reduceEqDiff,reduceCtorEq,reduceAdd,reduceLT,reduceLeDiff,reduceSub,lx_lo,lu_lo,lf_X,get_I,forget_rows,csT])
   (repeat refine And.intro (by first|omega|(simp;omega)) ?_)
   refine⟨i+1,by omega,?_,by omega⟩
   simp only[←hK_s hf i,←kM_s]
   exact (Sub.toXG 0 [0,1,5,6,7,8,33,34] [26,217,218] (by rfl) (by rw[closedM_rows (by rfl)];rfl) (by rfl) (by rfl))
 ·have hI:¬ (i:Int)<(n:Int):=by omega
  have hin:i=n:=by omega
  subst hin
  (try simp only[c56_58,c56_14,l56_13,cw,cops,csW,csL,reduceIte,reduceEqDiff,reduceCtorEq,reduceAdd,reduceLT,reduceLeDiff,reduceSub,lx_lo,lu_lo,lf_X,get_I,forget_rows,csT,hI])
  (repeat refine And.intro (by first|omega|(simp;omega)) ?_)
  refine keep [0,1,5,6,7,8,33,34,35] ?_
  (try simp only[c56_57,c56_15,cw,cops,csW,csL,reduceIte,reduceEqDiff,reduceCtorEq,reduceAdd,reduceLT,reduceLeDiff,reduceSub,lx_lo,lu_lo,lf_X,get_I,forget_rows,csT,hI])
  (repeat refine And.intro (by first|omega|(simp;omega)) ?_)
  (try simp only[cw,cops,csW,csL,reduceIte,reduceEqDiff,reduceCtorEq,reduceAdd,reduceLT,reduceLeDiff,reduceSub,lx_lo,lu_lo,lf_X,get_I,forget_rows,csT,hI])
  (repeat refine And.intro (by first|omega|(simp;omega)) ?_)
  exact⟨_,(Sub.toXG 0 [1,5,6] [26,31,217,218] (by rfl) (by rw[closedM_rows (by rfl)];rfl) (by rfl) (by rfl)).tr (Sub.rf _),ker_cols f i hn (by omega) (by omega)⟩
end Go.Proofs.Ytlnhembcfhfpkaa.M
