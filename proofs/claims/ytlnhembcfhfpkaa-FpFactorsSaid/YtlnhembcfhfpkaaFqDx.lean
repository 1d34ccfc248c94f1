/- Polynomials modulo a prime: Clone, quotient and remainder, the monic multiple walked. -/
import Derived.Test.YtlnhembcfhfpkaaFqCx
namespace Go.Proofs.Ytlnhembcfhfpkaa.M
open Go.RowKit
open Nat (reduceEqDiff reduceAdd reduceLT reduceLeDiff reduceSub)
set_option linter.unusedSimpArgs false
set_option linter.unusedVariables false
set_option maxRecDepth 20000 in
theorem clone_new {T:Nat} (l:List Int) (h:l.length≤1000000):ConNew Try.prog [] 38 [LT T l] 3 1 (l.map (D.int .i64)):=by
 refine fn38.conN rfl (by simp) ?_
 (try simp only[init1,c38,c38_13,c38_1,l38_0,cw,cops,csW,csL,reduceIte,reduceEqDiff,reduceCtorEq,reduceAdd,reduceLT,reduceLeDiff,reduceSub])
 (repeat refine And.intro (by first|omega|(simp;omega)) ?_)
 refine keep [0] ?_
 (try simp only[c38_12,c38_8,c38_3,l38_2,cw,cops,csW,csL,reduceIte,reduceEqDiff,reduceCtorEq,reduceAdd,reduceLT,reduceLeDiff,reduceSub])
 (repeat refine And.intro (by first|omega|(simp;omega)) ?_)
 intro b hb
 refine keep [0,4] ?_
 (try simp only[c38_7,cw,cops,csW,csL,reduceIte,reduceEqDiff,reduceCtorEq,reduceAdd,reduceLT,reduceLeDiff,reduceSub])
 (repeat refine And.intro (by first|omega|(simp;omega)) ?_)
 refine⟨fun hc => ?_,fun hc => ?_⟩
 ·(try simp only[c38_6,c38_5,l38_4,cw,cops,csW,csL,reduceIte,reduceEqDiff,reduceCtorEq,reduceAdd,reduceLT,reduceLeDiff,reduceSub])
  (repeat refine And.intro (by first|omega|(simp;omega)) ?_)
  refine keep [2] ?_
  (try simp only[cw,cops,csW,csL,reduceIte,reduceEqDiff,reduceCtorEq,reduceAdd,reduceLT,reduceLeDiff,reduceSub,Ends,resD,resL,resV])
  (repeat refine And.intro (by first|omega|(simp;omega)) ?_)
  have hl:l=[]:=by
   rcases l with _ | ⟨x,l⟩
   ·rfl
   ·have:=hb (by simp)
    subst this
    simp at hc
  subst hl
  exact .nil rfl rfl
 ·(try simp only[cw,cops,csW,csL,reduceIte,reduceEqDiff,reduceCtorEq,reduceAdd,reduceLT,reduceLeDiff,reduceSub,csA])
  (repeat refine And.intro (by first|omega|(simp;omega)) ?_)
  refine keep [0] ?_
  (try simp only[c38_11,c38_10,l38_9,cw,cops,csW,csL,reduceIte,reduceEqDiff,reduceCtorEq,reduceAdd,reduceLT,reduceLeDiff,reduceSub,csA])
  (repeat refine And.intro (by first|omega|(simp;omega)) ?_)
  refine keep [2] ?_
  (try simp only[cw,cops,csW,csL,reduceIte,reduceEqDiff,reduceCtorEq,reduceAdd,reduceLT,reduceLeDiff,reduceSub,Ends,resD,resL,resV,csA])
  (repeat refine And.intro (by first|omega|(simp;omega)) ?_)
  exact .row (i:=5) (by rfl) (by simp[resV,look]) (by simp[lookM])
set_option maxRecDepth 20000 in
set_option maxHeartbeats 1000000 in
theorem div_con {T T':Nat} (f g:List Int) (p u:Int) (hp:0<p∧p≤1073741824) (hf:Rg p f) (hg:Rg p g) (hlf:f.length≤1000) (hlg:g.length≤1000) (hg0:0<g.length) (hl0:0<g.getD (g.length-1) 0)
  (hgcd:Nat.gcd (g.getD (g.length-1) 0).toNat p.toNat=1) (hu:IsInv (g.getD (g.length-1) 0) p u):Con Try.prog [] 45 [LT T f,LT T' g,I p] (.tup [L (quoP f g p u),L (remP f g p u)]):=by
 by_cases hlt:f.length<g.length
 ·have hI:(f.length:Int)<(g.length:Int):=by omega
  have hq:quoP f g p u=[]:=by unfold quoP;rw[if_pos hlt]
  have hr:remP f g p u=f:=by unfold remP;rw[if_pos hlt]
  refine fn45.con rfl (by simp) ?_
  (try simp only[init3,c45,c45_66,c45_1,l45_0,cw,cops,csW,csL,reduceIte,reduceEqDiff,reduceCtorEq,reduceAdd,reduceLT,reduceLeDiff,reduceSub,hI])
  (repeat refine And.intro (by first|omega|(simp;omega)) ?_)
  refine keep [0,1,2] ?_
  (try simp only[c45_65,c45_4,l45_2,cw,cops,csW,csL,reduceIte,reduceEqDiff,reduceCtorEq,reduceAdd,reduceLT,reduceLeDiff,reduceSub,hI])
  (repeat refine And.intro (by first|omega|(simp;omega)) ?_)
  refine⟨_,_,(clone_new f (by omega)).x,?_⟩
  (try simp only[l45_3,cw,cops,csW,csL,reduceIte,reduceEqDiff,reduceCtorEq,reduceAdd,reduceLT,reduceLeDiff,reduceSub,hI])
  (repeat refine And.intro (by first|omega|(simp;omega)) ?_)
  refine keep [0,1,2,8] ?_
  (try simp only[c45_64,c45_11,c45_6,l45_5,cw,cops,csW,csL,reduceIte,reduceEqDiff,reduceCtorEq,reduceAdd,reduceLT,reduceLeDiff,reduceSub,hI])
  (repeat refine And.intro (by first|omega|(simp;omega)) ?_)
  refine keep [0,1,2,8,21] ?_
  (try simp only[c45_10,cw,cops,csW,csL,reduceIte,reduceEqDiff,reduceCtorEq,reduceAdd,reduceLT,reduceLeDiff,reduceSub,hI])
  (repeat refine And.intro (by first|omega|(simp;omega)) ?_)
  (try simp only[c45_9,c45_8,l45_7,cw,cops,csW,csL,reduceIte,reduceEqDiff,reduceCtorEq,reduceAdd,reduceLT,reduceLeDiff,reduceSub])
  (repeat refine And.intro (by first|omega|(simp;omega)) ?_)
  refine keep [6,7] ?_
  (try simp only[cw,cops,csW,csL,reduceIte,reduceEqDiff,reduceCtorEq,reduceAdd,reduceLT,reduceLeDiff,reduceSub,Ends,resD,resL,resV])
  (repeat refine And.intro (by first|omega|(simp;omega)) ?_)
  rw[hq,hr];rfl
 have hI:¬ (f.length:Int)<(g.length:Int):=by omega
 obtain⟨N,hN⟩:∃ N:Nat,N+g.length=f.length+1:=⟨f.length+1-g.length,by omega⟩
 have hNI:(f.length:Int)-(g.length:Int)+1=(N:Int):=by omega
 have hG:(g.length:Int)-1=((g.length-1:Nat):Int):=by omega
 have hGl:((g.length-1:Nat):Int)<(g.length:Int):=by omega
 refine fn45.con rfl (by simp) ?_
 (try simp only[init3,c45,c45_66,c45_1,l45_0,cw,cops,csW,csL,reduceIte,reduceEqDiff,reduceCtorEq,reduceAdd,reduceLT,reduceLeDiff,reduceSub,hI])
 (repeat refine And.intro (by first|omega|(simp;omega)) ?_)
 refine keep [0,1,2] ?_
 (try simp only[c45_65,c45_4,l45_2,cw,cops,csW,csL,reduceIte,reduceEqDiff,reduceCtorEq,reduceAdd,reduceLT,reduceLeDiff,reduceSub,hI])
 (repeat refine And.intro (by first|omega|(simp;omega)) ?_)
 refine⟨_,_,(clone_new f (by omega)).x,?_⟩
 (try simp only[l45_3,cw,cops,csW,csL,reduceIte,reduceEqDiff,reduceCtorEq,reduceAdd,reduceLT,reduceLeDiff,reduceSub,hI])
 (repeat refine And.intro (by first|omega|(simp;omega)) ?_)
 refine keep [0,1,2,8] ?_
 (try simp only[c45_64,c45_11,c45_6,l45_5,cw,cops,csW,csL,reduceIte,reduceEqDiff,reduceCtorEq,reduceAdd,reduceLT,reduceLeDiff,reduceSub,hI])
 (repeat refine And.intro (by first|omega|(simp;omega)) ?_)
 refine keep [0,1,2,8,21] ?_
 (try simp only[c45_10,cw,cops,csW,csL,reduceIte,reduceEqDiff,reduceCtorEq,reduceAdd,reduceLT,reduceLeDiff,reduceSub,hI])
 (repeat refine And.intro (by first|omega|(simp;omega)) ?_)
 (try simp only[cw,cops,csW,csL,reduceIte,reduceEqDiff,reduceCtorEq,reduceAdd,reduceLT,reduceLeDiff,reduceSub,hNI,hG,hGl])
 (repeat refine And.intro (by first|omega|(simp;omega)) ?_)
 refine keep [0,1,2,8] ?_
 (try simp only[c45_63,c45_13,l45_12,cw,cops,csW,csL,reduceIte,reduceEqDiff,reduceCtorEq,reduceAdd,reduceLT,reduceLeDiff,reduceSub,hNI,hG,hGl])
 (repeat refine And.intro (by first|omega|(simp;omega)) ?_)
 refine keep [1,2,8,9] ?_
 (try simp only[c45_62,c45_16,l45_14,cw,cops,csW,csL,reduceIte,reduceEqDiff,reduceCtorEq,reduceAdd,reduceLT,reduceLeDiff,reduceSub,hNI,hG,hGl])
 (repeat refine And.intro (by first|omega|(simp;omega)) ?_)
 refine⟨_,cx (inverse_con _ p u hl0 (hg _).2 hp.2 hgcd hu),?_⟩
 (try simp only[l45_15,cw,cops,csW,csL,reduceIte,reduceEqDiff,reduceCtorEq,reduceAdd,reduceLT,reduceLeDiff,reduceSub])
 (repeat refine And.intro (by first|omega|(simp;omega)) ?_)
 refine keep [1,2,8,9,10] ?_
 (try simp only[c45_61,c45_55,c45_18,l45_17,cw,cops,csW,csL,reduceIte,reduceEqDiff,reduceCtorEq,reduceAdd,reduceLT,reduceLeDiff,reduceSub])
 (repeat refine And.intro (by first|omega|(simp;omega)) ?_)
 refine keep [1,2,8,9,10,11] ?_
 (try simp only[c45_54,cw,cops,csW,csL,reduceIte,reduceEqDiff,reduceCtorEq,reduceAdd,reduceLT,reduceLeDiff,reduceSub])
 refine loop_of (ι:=Nat) (fun c=>c≤N) (fun c=>⟨look [(1,.p (LT T' g)),(2,.p (I p)),(8,.slice 16 0 f.length),(9,.slice 29 0 N),(10,.p (I u)),(11,.p (I ((N:Int)-1-(c:Int))))],
  lookM [(16,⟨3,1,.row ((dv f g p u N c).map (D.int .i64)),false⟩),(29,⟨3,1,.row ((dq f g p u N c).map (D.int .i64)),false⟩)]⟩) (fun c=>N-c) 0 (by omega) (by rw[dq_0];simp only[Int.natCast_zero,Int.sub_zero];exact Sub.rf _) ?_
 intro c hc
 by_cases h:c<N
 ·obtain⟨e,he⟩:∃ e:Nat,e+1+c=N:=⟨N-1-c,by omega⟩
  have heI:(N:Int)-1-(c:Int)=(e:Int):=by omega
  have he0:0≤(e:Int):=by omega
  have hee:N-1-c=e:=by omega
  have hidx:(e:Int)+(g.length:Int)-1=((e+(g.length-1):Nat):Int):=by omega
  have hi2:((e+(g.length-1):Nat):Int)<(f.length:Int):=by omega
  have hi3:(e:Int)<(N:Int):=by omega
  have hu0:=hu.1
  have hu1:=hu.2.1
  have hR:=dv_rg (u:=u) (g:=g) hp.1 hf N c
  have hv:=hR (e+(g.length-1))
  have hvm:0≤(dv f g p u N c).getD (e+(g.length-1)) 0*u∧(dv f g p u N c).getD (e+(g.length-1)) 0*u≤1073741824*1073741824:=⟨Int.mul_nonneg hv.1 hu0,Int.mul_le_mul (by omega) (by omega) hu0 (by omega)⟩
  have hk:((dv f g p u N c).getD (e+(g.length-1)) 0*u).tmod p=kd (dv f g p u N c) g p u e:=by rw[tm hvm.1];rfl
  have hkr:=kd_rg (r:=dv f g p u N c) (g:=g) (u:=u) hp.1 e
  have hset:=dq_set (f:=f) (g:=g) (p:=p) (u:=u) h
  rw[hee] at hset
  (try simp only[c45_52,c45_22,c45_20,l45_19,cw,cops,csW,csL,reduceIte,reduceEqDiff,reduceCtorEq,reduceAdd,reduceLT,reduceLeDiff,reduceSub,heI,he0,hidx,hi2,dv_len,hk])
  (repeat refine And.intro (by first|omega|(simp;omega)) ?_)
  refine keep [1,2,8,9,10,11,42] ?_
  (try simp only[c45_21,cw,cops,csW,csL,reduceIte,reduceEqDiff,reduceCtorEq,reduceAdd,reduceLT,reduceLeDiff,reduceSub,heI,he0,hidx,hi2,dv_len,hk])
  (repeat refine And.intro (by first|omega|(simp;omega)) ?_)
  (try simp only[cw,cops,csW,csL,reduceIte,reduceEqDiff,reduceCtorEq,reduceAdd,reduceLT,reduceLeDiff,reduceSub,heI,he0,hidx,hi2,dv_len,hk,AV.get,hset,hi3,dq_len])
  (repeat refine And.intro (by first|omega|(simp;omega)) ?_)
  refine keep [1,2,8,9,10,11] ?_
  (try simp only[c45_51,c45_48,c45_47,c45_24,l45_23,cw,cops,csW,csL,reduceIte,reduceEqDiff,reduceCtorEq,reduceAdd,reduceLT,reduceLeDiff,reduceSub,heI,he0,hidx,hi2,dv_len,hk,AV.get,hset,hi3,dq_len])
  (repeat refine And.intro (by first|omega|(simp;omega)) ?_)
  refine keep [1,2,8,9,10,11,12] ?_
  (try simp only[c45_46,c45_26,l45_25,cw,cops,csW,csL,reduceIte,reduceEqDiff,reduceCtorEq,reduceAdd,reduceLT,reduceLeDiff,reduceSub,heI,he0,hidx,hi2,dv_len,hk,AV.get,hset,hi3,dq_len])
  (repeat refine And.intro (by first|omega|(simp;omega)) ?_)
  refine keep [1,2,8,9,10,11,12] ?_
  (try simp only[c45_45,c45_28,l45_27,cw,cops,csW,csL,reduceIte,reduceEqDiff,reduceCtorEq,reduceAdd,reduceLT,reduceLeDiff,reduceSub,heI,he0,hidx,hi2,dv_len,hk,AV.get,hset,hi3,dq_len])
  (repeat refine And.intro (by first|omega|(simp;omega)) ?_)
  refine keep [1,2,8,9,10,11,12,61,62,63] ?_
  (try simp only[c45_44,cw,cops,csW,csL,reduceIte,reduceEqDiff,reduceCtorEq,reduceAdd,reduceLT,reduceLeDiff,reduceSub,heI,he0,hidx,hi2,dv_len,hk,AV.get,hset,hi3,dq_len])
  refine loop_of (ι:=Nat) (fun j=>j≤g.length) (fun j=>⟨look [(1,.p (LT T' g)),(2,.p (I p)),(8,.slice 16 0 f.length),(9,.slice 29 0 N),(10,.p (I u)),(11,.p (I (e:Int))),(12,.p (I (kd (dv f g p u N c) g p u e))),(61,.p (LT T' g)),(62,.p (I g.length)),(63,.p (I j))],
   lookM [(16,⟨3,1,.row ((rw_ (dv f g p u N c) g p (kd (dv f g p u N c) g p u e) e j).map (D.int .i64)),false⟩),(29,⟨3,1,.row ((dq f g p u N (c+1)).map (D.int .i64)),false⟩)]⟩) (fun j=>g.length-j) 0 (by omega) (by rw[rw_0];exact Sub.rf _) ?_
  intro j hj
  by_cases h2:j<g.length
  ·have hj':(j:Int)<(g.length:Int):=by omega
   have hij:(e:Int)+(j:Int)<(f.length:Int):=by omega
   have hijn:((e:Int)+(j:Int)).toNat=e+j:=by omega
   have hgj:=hg j
   have hw:=rw_rg (g:=g) (k:=kd (dv f g p u N c) g p u e) hp.1 hR e j (e+j)
   have hset2:=rw_set (i:=e) (j:=j) hR hg hkr (by rw[dv_len];omega)
   have hm:0≤(p-kd (dv f g p u N c) g p u e)*g.getD j 0∧(p-kd (dv f g p u N c) g p u e)*g.getD j 0≤1073741824*1073741824:=⟨Int.mul_nonneg (by omega) hgj.1,Int.mul_le_mul (by omega) (by omega) hgj.1 (by omega)⟩
   generalize kd (dv f g p u N c) g p u e=k at *
   (try simp only[c45_42,c45_30,l45_29,cw,cops,csW,csL,reduceIte,reduceEqDiff,reduceCtorEq,reduceAdd,reduceLT,reduceLeDiff,reduceSub,hj'])
   (repeat refine And.intro (by first|omega|(simp;omega)) ?_)
   refine keep [1,2,8,9,10,11,12,61,62,63,64] ?_
   (try simp only[c45_41,c45_31,cw,cops,csW,csL,reduceIte,reduceEqDiff,reduceCtorEq,reduceAdd,reduceLT,reduceLeDiff,reduceSub,hj'])
   (repeat refine And.intro (by first|omega|(simp;omega)) ?_)
   (try simp only[cw,cops,csW,csL,reduceIte,reduceEqDiff,reduceCtorEq,reduceAdd,reduceLT,reduceLeDiff,reduceSub,hj',hij,hijn,rw_len,dv_len,hset2,AV.get])
   (repeat refine And.intro (by first|omega|(simp;omega)) ?_)
   refine keep [1,2,8,9,10,11,12,61,62,63] ?_
   (try simp only[c45_40,c45_37,c45_36,c45_33,l45_32,cw,cops,csW,csL,reduceIte,reduceEqDiff,reduceCtorEq,reduceAdd,reduceLT,reduceLeDiff,reduceSub,hj',hij,hijn,rw_len,dv_len,hset2,AV.get])
   (repeat refine And.intro (by first|omega|(simp;omega)) ?_)
   refine keep [1,2,8,9,10,11,12,13,14,61,62,63] ?_
   (try simp only[c45_35,l45_34,cw,cops,csW,csL,reduceIte,reduceEqDiff,reduceCtorEq,reduceAdd,reduceLT,reduceLeDiff,reduceSub,hj',hij,hijn,rw_len,dv_len,hset2,AV.get])
   (repeat refine And.intro (by first|omega|(simp;omega)) ?_)
   refine keep [1,2,8,9,10,11,12,61,62,63] ?_
   (try simp only[c45_39,l45_38,cw,cops,csW,csL,reduceIte,reduceEqDiff,reduceCtorEq,reduceAdd,reduceLT,reduceLeDiff,reduceSub,hj',hij,hijn,rw_len,dv_len,hset2,AV.get])
   (repeat refine And.intro (by first|omega|(simp;omega)) ?_)
   exact⟨j+1,by omega,(Sub.toG [1,2,8,9,10,11,12,61,62,63] [] (by rfl) (by rfl) (by rfl) (by rfl)),by omega⟩
  ·have hj':¬ (j:Int)<(g.length:Int):=by omega
   have hjg:j=g.length:=by omega
   have hend:(e:Int)-1=(N:Int)-1-((c:Int)+1):=by omega
   (try simp only[c45_42,c45_30,l45_29,cw,cops,csW,csL,reduceIte,reduceEqDiff,reduceCtorEq,reduceAdd,reduceLT,reduceLeDiff,reduceSub,hj'])
   (repeat refine And.intro (by first|omega|(simp;omega)) ?_)
   refine keep [1,2,8,9,10,11,12,61,62,63,64] ?_
   (try simp only[c45_41,c45_31,cw,cops,csW,csL,reduceIte,reduceEqDiff,reduceCtorEq,reduceAdd,reduceLT,reduceLeDiff,reduceSub,hj'])
   (repeat refine And.intro (by first|omega|(simp;omega)) ?_)
   (try simp only[cw,cops,csW,csL,reduceIte,reduceEqDiff,reduceCtorEq,reduceAdd,reduceLT,reduceLeDiff,reduceSub,hj',hend])
   (repeat refine And.intro (by first|omega|(simp;omega)) ?_)
   refine keep [1,2,8,9,10,11] ?_
   (try simp only[c45_50,l45_49,cw,cops,csW,csL,reduceIte,reduceEqDiff,reduceCtorEq,reduceAdd,reduceLT,reduceLeDiff,reduceSub,hj',hend])
   (repeat refine And.intro (by first|omega|(simp;omega)) ?_)
   refine⟨c+1,by omega,?_,by omega⟩
   have hdv:rw_ (dv f g p u N c) g p (kd (dv f g p u N c) g p u e) e j=dv f g p u N (c+1):=by
    simp only[dv,red,hee,hjg]
   rw[hdv]
   exact (Sub.toG [1,2,8,9,10,11] [] (by rfl) (by rfl) (by rfl) (by rfl))
 ·have hcN:c=N:=by omega
  have hneg:¬ 0≤(N:Int)-1-(c:Int):=by omega
  (try simp only[c45_52,c45_22,c45_20,l45_19,cw,cops,csW,csL,reduceIte,reduceEqDiff,reduceCtorEq,reduceAdd,reduceLT,reduceLeDiff,reduceSub,hneg])
  (repeat refine And.intro (by first|omega|(simp;omega)) ?_)
  refine keep [1,2,8,9,10,11,42] ?_
  (try simp only[c45_21,cw,cops,csW,csL,reduceIte,reduceEqDiff,reduceCtorEq,reduceAdd,reduceLT,reduceLeDiff,reduceSub,hneg])
  (repeat refine And.intro (by first|omega|(simp;omega)) ?_)
  have htk:(dq f g p u N c).take N=dq f g p u N c:=List.take_of_length_le (by rw[dq_len];omega)
  have htk2:(dv f g p u N c).take f.length=dv f g p u N c:=List.take_of_length_le (by rw[dv_len];omega)
  (try simp only[cw,cops,csW,csL,reduceIte,reduceEqDiff,reduceCtorEq,reduceAdd,reduceLT,reduceLeDiff,reduceSub,hneg,dv_len,dq_len,Bool.true_or,Nat.le_refl,htk,htk2])
  (repeat refine And.intro (by first|omega|(simp;omega)) ?_)
  refine keepF2 16 _ 29 _ [8,9] (by rfl) (by rfl) ?_
  (try simp only[c45_60,c45_59,l45_56,cw,cops,csW,csL,reduceIte,reduceEqDiff,reduceCtorEq,reduceAdd,reduceLT,reduceLeDiff,reduceSub,hneg,dv_len,dq_len,Bool.true_or,Nat.le_refl,htk,htk2])
  (repeat refine And.intro (by first|omega|(simp;omega)) ?_)
  refine⟨_,cx (made_con (dq f g p u N c) (by rw[dq_len];omega)),?_⟩
  (try simp only[l45_57,cw,cops,csW,csL,reduceIte,reduceEqDiff,reduceCtorEq,reduceAdd,reduceLT,reduceLeDiff,reduceSub,dv_len,Bool.true_or,Nat.le_refl,htk2])
  (repeat refine And.intro (by first|omega|(simp;omega)) ?_)
  refine⟨_,cx (made_con (dv f g p u N c) (by rw[dv_len];omega)),?_⟩
  (try simp only[l45_58,cw,cops,csW,csL,reduceIte,reduceEqDiff,reduceCtorEq,reduceAdd,reduceLT,reduceLeDiff,reduceSub])
  (repeat refine And.intro (by first|omega|(simp;omega)) ?_)
  refine keep [6,7] ?_
  (try simp only[cw,cops,csW,csL,reduceIte,reduceEqDiff,reduceCtorEq,reduceAdd,reduceLT,reduceLeDiff,reduceSub,Ends,resD,resL,resV])
  (repeat refine And.intro (by first|omega|(simp;omega)) ?_)
  have hNN:f.length-g.length+1=N:=by omega
  have hq:quoP f g p u=trim (dq f g p u N c):=by unfold quoP;rw[if_neg hlt,hNN,hcN]
  have hr:remP f g p u=trim (dv f g p u N c):=by unfold remP;rw[if_neg hlt,hNN,hcN]
  rw[hq,hr]
end Go.Proofs.Ytlnhembcfhfpkaa.M
