/- Polynomials modulo a prime: the reference's rest by a monic polynomial, its multiple that is monic, powers and divisors walked. -/
import Derived.Test.YtlnhembcfhfpkaaFqSx
namespace Go.Proofs.Ytlnhembcfhfpkaa.M
open Go.RowKit
open Nat (reduceEqDiff reduceAdd reduceLT reduceLeDiff reduceSub)
set_option linter.unusedSimpArgs false
set_option linter.unusedVariables false
set_option linter.defProp false
def ny (f g:List Int) (p:Int) (d i:Nat):List Int:=(List.range f.length).map fun t=>if d≤t∧t-d<i then (f.getD t 0-f.getD (f.length-1) 0*g.getD (t-d) 0) % p else f.getD t 0
theorem ny_len (f g:List Int) (p:Int) (d i:Nat):(ny f g p d i).length=f.length:=by simp[ny]
theorem ny_0 (f g:List Int) (p:Int) (d:Nat):ny f g p d 0=f:=by
 apply List.ext_getElem
 ·simp[ny]
 ·intro t h1 h2;simp[ny,h2]
theorem ny_getD {f g:List Int} {p:Int} {d i t:Nat}:(ny f g p d i).getD t 0=if t<f.length then (if d≤t∧t-d<i then (f.getD t 0-f.getD (f.length-1) 0*g.getD (t-d) 0) % p else f.getD t 0) else 0:=getD_range_map _ _ _
theorem ny_set {f g:List Int} {p:Int} {d i:Nat} (h:d+i<f.length):(ny f g p d i).set (d+i) (((ny f g p d i).getD (d+i) 0-f.getD (f.length-1) 0*g.getD i 0) % p)=ny f g p d (i+1):=by
 have h0:(ny f g p d i).getD (d+i) 0=f.getD (d+i) 0:=by rw[ny_getD,if_pos h,if_neg (by omega)]
 rw[h0]
 apply List.ext_getElem
 ·simp[ny]
 ·intro t h1 h2
  rw[List.getElem_set]
  simp only[ny,List.getElem_map,List.getElem_range]
  by_cases e:d+i=t
  ·subst e
   rw[if_pos rfl,if_pos (by omega),Nat.add_sub_cancel_left]
  ·rw[if_neg e]
   by_cases h3:d≤t∧t-d<i
   ·rw[if_pos h3,if_pos (by omega)]
   ·rw[if_neg h3,if_neg (by omega)]
theorem ny_rg {f g:List Int} {p:Int} (hp:0<p) (hf:Rg p f) (d i:Nat):Rg p (ny f g p d i):=fun t=>by
 rw[ny_getD]
 split
 ·split
  ·exact md hp
  ·exact hf t
 ·omega
def rsP (p:Int):Nat→List Int→List Int→List Int
 | 0,f,_=>f
 | n+1,f,g=>if f.length<g.length then f else rsP p n (trim (ny f g p (f.length-g.length) g.length)) g
structure Mn (p:Int) (g:List Int):Prop where
 rg:Rg p g
 pos:0<g.length
 last:g.getD (g.length-1) 0=1
theorem ny_short {f g:List Int} {p:Int} (hp:0<p) (hg:Mn p g) (hl:g.length≤f.length):(trim (ny f g p (f.length-g.length) g.length)).length<f.length:=by
 have h0:=hg.pos
 refine Nat.lt_of_le_of_lt (trim_len_of (n:=f.length-1) fun i hi => ?_) (by omega)
 rw[ny_getD]
 split
 ·have:i=f.length-1:=by omega
  subst this
  rw[if_pos (by omega),show f.length-1-(f.length-g.length)=g.length-1 by omega,hg.last,Int.mul_one,Int.sub_self,Int.zero_emod]
 ·rfl
theorem ny_red {f g:List Int} {p u:Int} (hp:0<p) (hg0:0<g.length) (hl:g.length≤f.length) (t:Nat):(ny f (scP g u p) p (f.length-g.length) g.length).getD t 0=(red f g p u (f.length-g.length)).getD t 0:=by
 unfold red
 rw[ny_getD,rw_getD]
 split
 case isFalse=>rfl
 split
 case isFalse=>rfl
 rw[scP_getD]
 unfold kd
 rw[show f.length-g.length+(g.length-1)=f.length-1 by omega]
 generalize f.getD (f.length-1) 0=x
 generalize g.getD (t-(f.length-g.length)) 0=y
 generalize f.getD t 0=z
 have h1:(z-x*(y*u % p)) % p=(z-x*(y*u)) % p:=by
  rw[Int.sub_emod,Int.mul_emod,Int.emod_emod,←Int.mul_emod,←Int.sub_emod]
 have h2:(z+(p-x*u % p)*y) % p=(z+(p-x*u)*y) % p:=by
  rw[Int.add_emod,Int.mul_emod,Int.sub_emod,Int.emod_emod,←Int.sub_emod,←Int.mul_emod,←Int.add_emod]
 rw[h1,h2,show z+(p-x*u)*y=z-x*(y*u)+y*p by grind,Int.add_mul_emod_self_right]
theorem red_trim {x g:List Int} {p u:Int} (i:Nat) (hp:0<p) (h:(trim x).length=i+g.length) (hg0:0<g.length) (t:Nat):(red (trim x) g p u i).getD t 0=(red x g p u i).getD t 0:=by
 have hlen:=trim_len x
 unfold red
 rw[rw_getD,rw_getD]
 unfold kd
 simp only[trim_getD]
 by_cases h1:t<(trim x).length
 ·have h2:t<x.length:=by omega
  simp only[h1,h2,if_true]
 ·rw[if_neg h1]
  have h0:x.getD t 0=0:=by rw[←trim_getD];exact getD_big (by omega)
  split
  ·rw[if_neg (by omega),h0]
  ·rfl
theorem red_none {x g:List Int} {p u:Int} {i:Nat} (hp:0<p) (hx:Rg p x) (h:x.getD (i+(g.length-1)) 0=0) (t:Nat):(red x g p u i).getD t 0=x.getD t 0:=by
 unfold red
 rw[rw_getD]
 have hk:kd x g p u i=0:=by unfold kd;rw[h,Int.zero_mul,Int.zero_emod]
 rw[hk,Int.sub_zero]
 split
 ·split
  ·rw[Int.mul_comm,Int.add_mul_emod_self_right,em_self (hx t)]
  ·rfl
 ·exact (getD_big (by omega)).symm
theorem rsP_short {p:Int} {f g:List Int} (n:Nat) (h:f.length<g.length):rsP p n f g=f:=by
 cases n with
 | zero=>rfl
 | succ n=>rw[rsP,if_pos h]
theorem rs_dv {f g:List Int} {p u:Int} {N:Nat} (hp:0<p) (hg0:0<g.length) (hu:Lead g p u) (hf:Rg p f) (hN:f.length<N+g.length):∀ (m c n:Nat),c+m=N→(trim (dv f g p u N c)).length≤n →
  rsP p n (trim (dv f g p u N c)) (scP g u p)=trim (dv f g p u N N)
 | 0,c,n,hc,hn=>by
  obtain rfl:c=N:=by omega
  refine rsP_short n ?_
  rw[scP_len]
  exact Nat.lt_of_le_of_lt (trim_len_of (n:=g.length-1) fun i hi=>dv_zero hp hg0 hu hf hN (Nat.le_refl _) (by omega)) (by omega)
 | m+1,c,n,hc,hn=>by
  have hle:(trim (dv f g p u N c)).length≤N-1-c+g.length:=by
   refine trim_len_of fun i hi=>dv_zero hp hg0 hu hf hN (by omega) (by omega)
  have hrg:=dv_rg (g:=g) (u:=u) hp hf N c
  by_cases hz:(dv f g p u N c).getD (N-1-c+(g.length-1)) 0=0
  ·have he:trim (dv f g p u N c)=trim (dv f g p u N (c+1)):=trim_ext fun t=>by
    simp only[dv]
    exact (red_none hp hrg hz t).symm
   rw[he]
   exact rs_dv hp hg0 hu hf hN m (c+1) n (by omega) (by rw[←he];exact hn)
  ·have hlen:(trim (dv f g p u N c)).length=N-1-c+g.length:=by
    refine Nat.le_antisymm hle ?_
    rcases Nat.lt_or_ge (trim (dv f g p u N c)).length (N-1-c+g.length) with h | h
    ·rw[←trim_getD,getD_big (by omega)] at hz
     exact absurd rfl hz
    ·exact h
   obtain⟨n,rfl⟩:∃ k,n=k+1:=⟨n-1,by omega⟩
   rw[rsP,if_neg (by rw[scP_len];omega),scP_len]
   have he:trim (ny (trim (dv f g p u N c)) (scP g u p) p ((trim (dv f g p u N c)).length-g.length) g.length)=trim (dv f g p u N (c+1)):=trim_ext fun t=>by
    rw[ny_red hp hg0 (by omega),show (trim (dv f g p u N c)).length-g.length=N-1-c by omega]
    simp only[dv]
    exact red_trim _ hp (by omega) hg0 t
   rw[he]
   refine rs_dv hp hg0 hu hf hN m (c+1) n (by omega) ?_
   have:=trim_len_of (l:=dv f g p u N (c+1)) (n:=N-1-c+g.length-1) fun i hi=>dv_zero hp hg0 hu hf hN (by omega) (by omega)
   omega
theorem rsP_rem {f g:List Int} {p:Int} {n m k:Nat} (hP:IsP p) (hf:Pl p n f) (hg:Pl p m g) (hg0:g≠[]) (hk:f.length≤k):rsP p k f (monP g p)=rem f g p:=by
 have hl:=List.length_pos_iff.2 hg0
 unfold rem monP
 by_cases h:f.length<g.length
 ·rw[rsP_short k (by rw[scP_len];exact h)]
  unfold remP
  rw[if_pos h]
 ·have hd:=hf.td
  unfold Td at hd
  have:=rs_dv (f:=f) (g:=g) (u:=lu g p) (N:=f.length-g.length+1) hP.pos.1 hl (lu_lead hP.1 hg0 hg.td hg.rg) hf.rg (by omega) (f.length-g.length+1) 0 k (by omega) (by simp only[dv];rw[hd];exact hk)
  change rsP p k (trim f) _=_ at this
  rw[hd] at this
  rw[this]
  unfold remP
  rw[if_neg h]
set_option maxRecDepth 20000 in
set_option maxHeartbeats 1000000 in
theorem mrest_con {T T':Nat} (f g:List Int) (p:Int) (hp:0<p∧p≤1073741824) (hf:Rg p f) (hg:Mn p g) (hlf:f.length≤1000) (hlg:g.length≤1000):Con Try.prog [] 32 [LT T f,LT T' g,I p] (LT (if f.length<g.length then T else 3) (rsP p f.length f g)):=by
 have hg0:=hg.pos
 refine fn32.con rfl (by simp) ?_
 (try simp only[init3,c32,c32_44,c32_1,l32_0,cw,cops,csW,csL,reduceIte,reduceEqDiff,reduceCtorEq,reduceAdd,reduceLT,reduceLeDiff,reduceSub,csT])
 (repeat refine And.intro (by first|omega|(simp;omega)) ?_)
 refine keep [0,1,2] ?_
 (try simp only[c32_43,c32_39,cw,cops,csW,csL,reduceIte,reduceEqDiff,reduceCtorEq,reduceAdd,reduceLT,reduceLeDiff,reduceSub,csT])
 refine loop_of (ι:=List Int × Nat × Nat) (fun s=>Rg p s.1∧s.1.length≤1000∧s.1.length≤s.2.1∧rsP p s.2.1 s.1 g=rsP p f.length f g∧(if s.1.length<g.length then s.2.2 else 3)=(if f.length<g.length then T else 3)) (fun s=>⟨look [(0,.p (LT s.2.2 s.1)),(1,.p (LT T' g)),(2,.p (I p))],lookM []⟩) (fun s=>s.1.length) (f,f.length,T) ⟨hf,hlf,Nat.le_refl _,rfl,rfl⟩ (Sub.rf _) ?_
 rintro⟨a,n,Ta⟩ ⟨ha,hla,hn,he,hT⟩
 simp only at ha hla hn he hT
 by_cases h:a.length<g.length
 ·have hI:¬ (g.length:Int)≤(a.length:Int):=by omega
  (try simp only[c32_37,c32_5,c32_3,l32_2,cw,cops,csW,csL,reduceIte,reduceEqDiff,reduceCtorEq,reduceAdd,reduceLT,reduceLeDiff,reduceSub,csT,hI])
  (repeat refine And.intro (by first|omega|(simp;omega)) ?_)
  refine keep [0,1,2,15] ?_
  (try simp only[c32_4,cw,cops,csW,csL,reduceIte,reduceEqDiff,reduceCtorEq,reduceAdd,reduceLT,reduceLeDiff,reduceSub,csT,hI])
  (repeat refine And.intro (by first|omega|(simp;omega)) ?_)
  (try simp only[cw,cops,csW,csL,reduceIte,reduceEqDiff,reduceCtorEq,reduceAdd,reduceLT,reduceLeDiff,reduceSub,csT])
  (repeat refine And.intro (by first|omega|(simp;omega)) ?_)
  refine keep [0] ?_
  (try simp only[c32_42,c32_41,l32_40,cw,cops,csW,csL,reduceIte,reduceEqDiff,reduceCtorEq,reduceAdd,reduceLT,reduceLeDiff,reduceSub,csT])
  (repeat refine And.intro (by first|omega|(simp;omega)) ?_)
  refine keep [6] ?_
  (try simp only[cw,cops,csW,csL,reduceIte,reduceEqDiff,reduceCtorEq,reduceAdd,reduceLT,reduceLeDiff,reduceSub,csT,Ends,resD,resL,resV])
  (repeat refine And.intro (by first|omega|(simp;omega)) ?_)
  rw[if_pos h] at hT
  rw[←he,rsP_short n h,hT]
 ·have hI:(g.length:Int)≤(a.length:Int):=by omega
  have hG:(a.length:Int)-1=((a.length-1:Nat):Int):=by omega
  have hGl:((a.length-1:Nat):Int)<(a.length:Int):=by omega
  obtain⟨d,hd⟩:∃ d,d=a.length-g.length:=⟨_,rfl⟩
  have hdI:(a.length:Int)-(g.length:Int)=(d:Int):=by omega
  obtain⟨m,rfl⟩:∃ m,n=m+1:=⟨n-1,by omega⟩
  rw[rsP,if_neg h,←hd] at he
  have hsh:=ny_short (f:=a) hp.1 hg (by omega)
  rw[←hd] at hsh
  (try simp only[c32_37,c32_5,c32_3,l32_2,cw,cops,csW,csL,reduceIte,reduceEqDiff,reduceCtorEq,reduceAdd,reduceLT,reduceLeDiff,reduceSub,csT,hI])
  (repeat refine And.intro (by first|omega|(simp;omega)) ?_)
  refine keep [0,1,2,15] ?_
  (try simp only[c32_4,cw,cops,csW,csL,reduceIte,reduceEqDiff,reduceCtorEq,reduceAdd,reduceLT,reduceLeDiff,reduceSub,csT,hI])
  (repeat refine And.intro (by first|omega|(simp;omega)) ?_)
  (try simp only[cw,cops,csW,csL,reduceIte,reduceEqDiff,reduceCtorEq,reduceAdd,reduceLT,reduceLeDiff,reduceSub,csT,hG,hGl])
  (repeat refine And.intro (by first|omega|(simp;omega)) ?_)
  refine keep [0,1,2] ?_
  (try simp only[c32_36,c32_35,c32_7,l32_6,cw,cops,csW,csL,reduceIte,reduceEqDiff,reduceCtorEq,reduceAdd,reduceLT,reduceLeDiff,reduceSub,csT,hG,hGl])
  (repeat refine And.intro (by first|omega|(simp;omega)) ?_)
  refine keep [0,1,2,7] ?_
  (try simp only[c32_34,c32_9,l32_8,cw,cops,csW,csL,reduceIte,reduceEqDiff,reduceCtorEq,reduceAdd,reduceLT,reduceLeDiff,reduceSub,csT,hG,hGl])
  (repeat refine And.intro (by first|omega|(simp;omega)) ?_)
  refine keep [0,1,2,7,8] ?_
  (try simp only[c32_33,c32_29,c32_11,l32_10,cw,cops,csW,csL,reduceIte,reduceEqDiff,reduceCtorEq,reduceAdd,reduceLT,reduceLeDiff,reduceSub,csT,hG,hGl])
  (repeat refine And.intro (by first|omega|(simp;omega)) ?_)
  refine keep [0,1,2,7,8,9] ?_
  (try simp only[c32_28,cw,cops,csW,csL,reduceIte,reduceEqDiff,reduceCtorEq,reduceAdd,reduceLT,reduceLeDiff,reduceSub,csT,hG,hGl])
  refine loop_of (ι:=Nat) (fun i=>i≤g.length) (fun i=>⟨look [(0,.p (LT Ta a)),(1,.p (LT T' g)),(2,.p (I p)),(7,.p (I (a.getD (a.length-1) 0))),(8,.slice 23 0 a.length),(9,.p (I i))],lookM [(23,⟨3,1,.row ((ny a g p d i).map (D.int .i64)),false⟩)]⟩) (fun i=>g.length-i) 0 (by omega) (by rw[ny_0];exact Sub.rf _) ?_
  intro i hi
  by_cases h2:i<g.length
  ·have hI2:(i:Int)<(g.length:Int):=by omega
   have hdi:(d:Int)+(i:Int)<(a.length:Int):=by omega
   have hdin:((d:Int)+(i:Int)).toNat=d+i:=by omega
   have hgi:=hg.rg i
   have hal:=ha (a.length-1)
   have hy:=ny_rg (g:=g) hp.1 ha d i (d+i)
   have hm:0≤a.getD (a.length-1) 0*g.getD i 0∧a.getD (a.length-1) 0*g.getD i 0≤1073741824*1073741824:=⟨Int.mul_nonneg hal.1 hgi.1,Int.mul_le_mul (by omega) (by omega) hgi.1 (by omega)⟩
   have hset:=ny_set (g:=g) (p:=p) (d:=d) (i:=i) (f:=a) (by omega)
   (try simp only[c32_26,c32_15,c32_13,l32_12,cw,cops,csW,csL,reduceIte,reduceEqDiff,reduceCtorEq,reduceAdd,reduceLT,reduceLeDiff,reduceSub,csT,hI2])
   (repeat refine And.intro (by first|omega|(simp;omega)) ?_)
   refine keep [0,1,2,7,8,9,27] ?_
   (try simp only[c32_14,cw,cops,csW,csL,reduceIte,reduceEqDiff,reduceCtorEq,reduceAdd,reduceLT,reduceLeDiff,reduceSub,csT,hI2])
   (repeat refine And.intro (by first|omega|(simp;omega)) ?_)
   (try simp only[cw,cops,csW,csL,reduceIte,reduceEqDiff,reduceCtorEq,reduceAdd,reduceLT,reduceLeDiff,reduceSub,csT,hI2,hdI,hdi,hdin,ny_len,AV.get])
   (repeat refine And.intro (by first|omega|(simp;omega)) ?_)
   refine keep [0,1,2,7,8,9] ?_
   (try simp only[c32_25,c32_22,c32_21,c32_17,l32_16,cw,cops,csW,csL,reduceIte,reduceEqDiff,reduceCtorEq,reduceAdd,reduceLT,reduceLeDiff,reduceSub,csT,hI2,hdI,hdi,hdin,ny_len,AV.get])
   (repeat refine And.intro (by first|omega|(simp;omega)) ?_)
   refine keep [0,1,2,7,8,9,10] ?_
   (try simp only[c32_20,l32_18,cw,cops,csW,csL,reduceIte,reduceEqDiff,reduceCtorEq,reduceAdd,reduceLT,reduceLeDiff,reduceSub,csT,hI2,hdI,hdi,hdin,ny_len,AV.get])
   (repeat refine And.intro (by first|omega|(simp;omega)) ?_)
   refine⟨_,cx (mod_con _ p hp),?_⟩
   (try simp only[l32_19,cw,cops,csW,csL,reduceIte,reduceEqDiff,reduceCtorEq,reduceAdd,reduceLT,reduceLeDiff,reduceSub,csT,hdi,hdin,ny_len,hset])
   (repeat refine And.intro (by first|omega|(simp;omega)) ?_)
   refine keep [0,1,2,7,8,9] ?_
   (try simp only[c32_24,l32_23,cw,cops,csW,csL,reduceIte,reduceEqDiff,reduceCtorEq,reduceAdd,reduceLT,reduceLeDiff,reduceSub,csT,hdi,hdin,ny_len,hset])
   (repeat refine And.intro (by first|omega|(simp;omega)) ?_)
   exact⟨i+1,by omega,(Sub.toG [0,1,2,7,8,9] [] (by rfl) (by rfl) (by rfl) (by rfl)),by omega⟩
  ·have hI2:¬ (i:Int)<(g.length:Int):=by omega
   have hig:i=g.length:=by omega
   (try simp only[c32_26,c32_15,c32_13,l32_12,cw,cops,csW,csL,reduceIte,reduceEqDiff,reduceCtorEq,reduceAdd,reduceLT,reduceLeDiff,reduceSub,csT,hI2])
   (repeat refine And.intro (by first|omega|(simp;omega)) ?_)
   refine keep [0,1,2,7,8,9,27] ?_
   (try simp only[c32_14,cw,cops,csW,csL,reduceIte,reduceEqDiff,reduceCtorEq,reduceAdd,reduceLT,reduceLeDiff,reduceSub,csT,hI2])
   (repeat refine And.intro (by first|omega|(simp;omega)) ?_)
   have htk:(ny a g p d i).take a.length=ny a g p d i:=List.take_of_length_le (by rw[ny_len];omega)
   (try simp only[cw,cops,csW,csL,reduceIte,reduceEqDiff,reduceCtorEq,reduceAdd,reduceLT,reduceLeDiff,reduceSub,csT,hI2,ny_len,Bool.true_or,Nat.le_refl,htk])
   (repeat refine And.intro (by first|omega|(simp;omega)) ?_)
   refine keepF 23 _ [1,2,8] (by rfl) ?_
   (try simp only[c32_32,l32_30,cw,cops,csW,csL,reduceIte,reduceEqDiff,reduceCtorEq,reduceAdd,reduceLT,reduceLeDiff,reduceSub,csT,hI2,ny_len,Bool.true_or,Nat.le_refl,htk])
   (repeat refine And.intro (by first|omega|(simp;omega)) ?_)
   refine⟨_,cx (mmade_con (ny a g p d i) (by rw[ny_len];omega)),?_⟩
   (try simp only[l32_31,cw,cops,csW,csL,reduceIte,reduceEqDiff,reduceCtorEq,reduceAdd,reduceLT,reduceLeDiff,reduceSub,csT])
   (repeat refine And.intro (by first|omega|(simp;omega)) ?_)
   rw[if_neg h] at hT
   refine⟨(trim (ny a g p d i),m,3),⟨(ny_rg hp.1 ha d i).trim,?_,?_,?_,by rw[←hT];simp only[ite_self]⟩,(Sub.toG [0,1,2] [23] (by rfl) (by rfl) (by rfl) (by rfl)),?_⟩
   ·rw[hig];simp only;omega
   ·rw[hig];simp only;omega
   ·rw[hig];exact he
   ·rw[hig];exact hsh
end Go.Proofs.Ytlnhembcfhfpkaa.M
