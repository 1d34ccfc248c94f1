/- Polynomials modulo a prime: greatest common divisors and powers walked, and what is exported. -/
import Derived.Test.YtlnhembcfhfpkaaFqEx
namespace Go.Proofs.Ytlnhembcfhfpkaa.M
open Go.RowKit
open Nat (reduceEqDiff reduceAdd reduceLT reduceLeDiff reduceSub)
set_option linter.unusedSimpArgs false
set_option linter.unusedVariables false
structure Pl (p:Int) (n:Nat) (f:List Int):Prop where
 rg:Rg p f
 td:Td f
 len:f.length≤n
theorem Pl.mono {p:Int} {n m:Nat} {f:List Int} (h:Pl p n f) (hm:n≤m):Pl p m f:=⟨h.rg,h.td,Nat.le_trans h.len hm⟩
theorem Gp.pl {f:List Int} {p:Int} (h:Gp f p):Pl p 65 f:=⟨h.rg,h.td,h.len⟩
theorem IsP.pos {p:Int} (h:IsP p):0<p∧p≤1073741824:=⟨by have:=h.1.1;omega,h.2⟩
noncomputable def rem (f g:List Int) (p:Int):List Int:=remP f g p (lu g p)
noncomputable def quo (f g:List Int) (p:Int):List Int:=quoP f g p (lu g p)
theorem Pl.last {p:Int} {n:Nat} {g:List Int} (h:Pl p n g) (hg:g≠[]):0<g.getD (g.length-1) 0:=by
 have:=(h.rg (g.length-1)).1
 have:=td_last h.td hg
 omega
theorem rem_pl {p:Int} {n m:Nat} {f g:List Int} (hP:IsP p) (hf:Pl p n f) (hg:Pl p m g) (hg0:g≠[]):Pl p m (rem f g p)∧(rem f g p).length<g.length:=by
 have h1:(rem f g p).length<g.length:=remP_len hP.pos.1 (List.length_pos_iff.2 hg0) (lu_lead hP.1 hg0 hg.td hg.rg) hf.rg
 exact⟨⟨remP_rg hP.pos.1 hf.rg,remP_td hf.td,by have:=hg.len;omega⟩,h1⟩
theorem mul_pl {p:Int} {n m k:Nat} {f g:List Int} (hP:IsP p) (hf:Pl p n f) (hg:Pl p m g) (hk:n+m≤k):Pl p k (mulP f g p):=
 ⟨mulP_rg hP.pos.1 f g,mulP_td f g p,Nat.le_trans mulP_len (by have:=hf.len;have:=hg.len;omega)⟩
theorem pl_one {p:Int} (hP:IsP p):Pl p 1 [1]:=⟨fun i=>by
  have:=hP.1.1
  rcases i with _ | i
  ·simp;omega
  ·simp;omega,by simp[Td,trim],by simp⟩
theorem divs_con {T T':Nat} {f g:List Int} {p:Int} (hP:IsP p) (hf:Pl p 1000 f) (hg:Pl p 1000 g) (hg0:g≠[]):Con Try.prog [] 45 [LT T f,LT T' g,I p] (.tup [L (quo f g p),L (rem f g p)]):=
 div_con f g p (lu g p) hP.pos hf.rg hg.rg hf.len hg.len (List.length_pos_iff.2 hg0) (hg.last hg0) (prime_gcd hP.1 (hg.last hg0) (hg.rg _).2) (lu_ok hP.1 hg0 hg.td hg.rg)
def mo (f:List Int) (u p:Int) (i:Nat):List Int:=(List.range f.length).map fun j=>if j<i then (f.getD j 0*u) % p else 0
theorem mo_len (f:List Int) (u p:Int) (i:Nat):(mo f u p i).length=f.length:=by simp[mo]
theorem mo_0 (f:List Int) (u p:Int):mo f u p 0=List.replicate f.length 0:=by apply List.ext_getElem<;>simp[mo]
theorem mo_set {f:List Int} {u p:Int} {i:Nat} (h:i<f.length):(mo f u p i).set i ((f.getD i 0*u) % p)=mo f u p (i+1):=by
 apply List.ext_getElem
 ·simp[mo]
 ·intro j h1 h2
  rw[List.getElem_set]
  simp only[mo,List.getElem_map,List.getElem_range]
  by_cases e:i=j
  ·subst e;rw[if_pos rfl,if_pos (by omega)]
  ·rw[if_neg e]
   by_cases hj:j<i
   ·rw[if_pos hj,if_pos (by omega)]
   ·rw[if_neg hj,if_neg (by omega)]
theorem mo_end (f:List Int) (u p:Int):mo f u p f.length=scP f u p:=by
 apply List.ext_getElem
 ·simp[mo,scP]
 ·intro j h1 h2
  have h3:j<f.length:=by simpa[scP] using h2
  simp[mo,scP,h3]
set_option maxRecDepth 20000 in
set_option maxHeartbeats 1000000 in
theorem monic_con {T:Nat} (f:List Int) (p:Int) (hP:IsP p) (hf:Pl p 1000 f):Con Try.prog [] 36 [LT T f,I p] (L (monP f p)):=by
 have hp:=hP.pos
 by_cases h0:f=[]
 ·subst h0
  have hI:(([]:List Int).length:Int)=0:=rfl
  refine fn36.con rfl (by simp) ?_
  (try simp only[init2,c36,c36_37,c36_1,l36_0,cw,cops,csW,csL,reduceIte,reduceEqDiff,reduceCtorEq,reduceAdd,reduceLT,reduceLeDiff,reduceSub,csF,hI])
  (repeat refine And.intro (by first|omega|(simp;omega)) ?_)
  refine keep [0,1] ?_
  (try simp only[c36_36,c36_8,c36_3,l36_2,cw,cops,csW,csL,reduceIte,reduceEqDiff,reduceCtorEq,reduceAdd,reduceLT,reduceLeDiff,reduceSub,csF,hI])
  (repeat refine And.intro (by first|omega|(simp;omega)) ?_)
  refine keep [0,1,11] ?_
  (try simp only[c36_7,cw,cops,csW,csL,reduceIte,reduceEqDiff,reduceCtorEq,reduceAdd,reduceLT,reduceLeDiff,reduceSub,csF,hI])
  (repeat refine And.intro (by first|omega|(simp;omega)) ?_)
  (try simp only[c36_6,c36_5,l36_4,cw,cops,csW,csL,reduceIte,reduceEqDiff,reduceCtorEq,reduceAdd,reduceLT,reduceLeDiff,reduceSub,csF])
  (repeat refine And.intro (by first|omega|(simp;omega)) ?_)
  refine keep [4] ?_
  (try simp only[cw,cops,csW,csL,reduceIte,reduceEqDiff,reduceCtorEq,reduceAdd,reduceLT,reduceLeDiff,reduceSub,csF,Ends,resD,resL,resV])
  (repeat refine And.intro (by first|omega|(simp;omega)) ?_)
  rfl
 have hl0:0<f.length:=List.length_pos_iff.2 h0
 have hll:=hf.len
 have hI:¬ (f.length:Int)=0:=by omega
 have hG:(f.length:Int)-1=((f.length-1:Nat):Int):=by omega
 have hGl:((f.length-1:Nat):Int)<(f.length:Int):=by omega
 have hu:=lu_ok hP.1 h0 hf.td hf.rg
 have hu0:=hu.1
 have hu1:=hu.2.1
 refine fn36.con rfl (by simp) ?_
 (try simp only[init2,c36,c36_37,c36_1,l36_0,cw,cops,csW,csL,reduceIte,reduceEqDiff,reduceCtorEq,reduceAdd,reduceLT,reduceLeDiff,reduceSub,csF,hI])
 (repeat refine And.intro (by first|omega|(simp;omega)) ?_)
 refine keep [0,1] ?_
 (try simp only[c36_36,c36_8,c36_3,l36_2,cw,cops,csW,csL,reduceIte,reduceEqDiff,reduceCtorEq,reduceAdd,reduceLT,reduceLeDiff,reduceSub,csF,hI])
 (repeat refine And.intro (by first|omega|(simp;omega)) ?_)
 refine keep [0,1,11] ?_
 (try simp only[c36_7,cw,cops,csW,csL,reduceIte,reduceEqDiff,reduceCtorEq,reduceAdd,reduceLT,reduceLeDiff,reduceSub,csF,hI])
 (repeat refine And.intro (by first|omega|(simp;omega)) ?_)
 (try simp only[cw,cops,csW,csL,reduceIte,reduceEqDiff,reduceCtorEq,reduceAdd,reduceLT,reduceLeDiff,reduceSub,csF,hG,hGl])
 (repeat refine And.intro (by first|omega|(simp;omega)) ?_)
 refine keep [0,1] ?_
 (try simp only[c36_35,c36_11,l36_9,cw,cops,csW,csL,reduceIte,reduceEqDiff,reduceCtorEq,reduceAdd,reduceLT,reduceLeDiff,reduceSub,csF,hG,hGl])
 (repeat refine And.intro (by first|omega|(simp;omega)) ?_)
 refine⟨_,cx (inverse_con _ p _ (hf.last h0) (hf.rg _).2 hp.2 (prime_gcd hP.1 (hf.last h0) (hf.rg _).2) hu),?_⟩
 (try simp only[l36_10,cw,cops,csW,csL,reduceIte,reduceEqDiff,reduceCtorEq,reduceAdd,reduceLT,reduceLeDiff,reduceSub,csF])
 (repeat refine And.intro (by first|omega|(simp;omega)) ?_)
 refine keep [0,1,5,6] ?_
 (try simp only[c36_34,c36_30,c36_13,l36_12,cw,cops,csW,csL,reduceIte,reduceEqDiff,reduceCtorEq,reduceAdd,reduceLT,reduceLeDiff,reduceSub,csF])
 (repeat refine And.intro (by first|omega|(simp;omega)) ?_)
 refine keep [1,5,6,23,24,25] ?_
 (try simp only[c36_29,cw,cops,csW,csL,reduceIte,reduceEqDiff,reduceCtorEq,reduceAdd,reduceLT,reduceLeDiff,reduceSub,csF])
 refine loop_of (ι:=Nat) (fun i=>i≤f.length) (fun i=>⟨look [(1,.p (I p)),(5,.p (I (lu f p))),(6,.slice 22 0 f.length),(23,.p (LT T f)),(24,.p (I f.length)),(25,.p (I i))],lookM [(22,⟨3,1,.row ((mo f (lu f p) p i).map (D.int .i64)),false⟩)]⟩) (fun i=>f.length-i) 0 (by omega) (by rw[mo_0];exact Sub.rf _) ?_
 intro i hi
 by_cases h:i<f.length
 ·have hi':(i:Int)<(f.length:Int):=by omega
  have hfi:=hf.rg i
  have hm:0≤f.getD i 0*lu f p∧f.getD i 0*lu f p≤1073741824*1073741824:=⟨Int.mul_nonneg hfi.1 hu0,Int.mul_le_mul (by omega) (by omega) hu0 (by omega)⟩
  have hset:=mo_set (u:=lu f p) (p:=p) h
  rw[←tm hm.1] at hset
  (try simp only[c36_27,c36_15,l36_14,cw,cops,csW,csL,reduceIte,reduceEqDiff,reduceCtorEq,reduceAdd,reduceLT,reduceLeDiff,reduceSub,csF,hi'])
  (repeat refine And.intro (by first|omega|(simp;omega)) ?_)
  refine keep [1,5,6,23,24,25,26] ?_
  (try simp only[c36_26,c36_16,cw,cops,csW,csL,reduceIte,reduceEqDiff,reduceCtorEq,reduceAdd,reduceLT,reduceLeDiff,reduceSub,csF,hi'])
  (repeat refine And.intro (by first|omega|(simp;omega)) ?_)
  (try simp only[cw,cops,csW,csL,reduceIte,reduceEqDiff,reduceCtorEq,reduceAdd,reduceLT,reduceLeDiff,reduceSub,csF,hi',mo_len,hset])
  (repeat refine And.intro (by first|omega|(simp;omega)) ?_)
  refine keep [1,5,6,23,24,25] ?_
  (try simp only[c36_25,c36_22,c36_21,c36_18,l36_17,cw,cops,csW,csL,reduceIte,reduceEqDiff,reduceCtorEq,reduceAdd,reduceLT,reduceLeDiff,reduceSub,csF,hi',mo_len,hset])
  (repeat refine And.intro (by first|omega|(simp;omega)) ?_)
  refine keep [1,5,6,7,8,23,24,25] ?_
  (try simp only[c36_20,l36_19,cw,cops,csW,csL,reduceIte,reduceEqDiff,reduceCtorEq,reduceAdd,reduceLT,reduceLeDiff,reduceSub,csF,hi',mo_len,hset])
  (repeat refine And.intro (by first|omega|(simp;omega)) ?_)
  refine keep [1,5,6,23,24,25] ?_
  (try simp only[c36_24,l36_23,cw,cops,csW,csL,reduceIte,reduceEqDiff,reduceCtorEq,reduceAdd,reduceLT,reduceLeDiff,reduceSub,csF,hi',mo_len,hset])
  (repeat refine And.intro (by first|omega|(simp;omega)) ?_)
  exact⟨i+1,by omega,(Sub.toG [1,5,6,23,24,25] [] (by rfl) (by rfl) (by rfl) (by rfl)),by omega⟩
 ·have hi':¬ (i:Int)<(f.length:Int):=by omega
  have hif:i=f.length:=by omega
  subst hif
  (try simp only[c36_27,c36_15,l36_14,cw,cops,csW,csL,reduceIte,reduceEqDiff,reduceCtorEq,reduceAdd,reduceLT,reduceLeDiff,reduceSub,csF,hi'])
  (repeat refine And.intro (by first|omega|(simp;omega)) ?_)
  refine keep [1,5,6,23,24,25,26] ?_
  (try simp only[c36_26,c36_16,cw,cops,csW,csL,reduceIte,reduceEqDiff,reduceCtorEq,reduceAdd,reduceLT,reduceLeDiff,reduceSub,csF,hi'])
  (repeat refine And.intro (by first|omega|(simp;omega)) ?_)
  have htk:(mo f (lu f p) p f.length).take f.length=mo f (lu f p) p f.length:=List.take_of_length_le (by rw[mo_len];omega)
  (try simp only[cw,cops,csW,csL,reduceIte,reduceEqDiff,reduceCtorEq,reduceAdd,reduceLT,reduceLeDiff,reduceSub,csF,hi',mo_len,Bool.or_true,Nat.le_refl,htk])
  (repeat refine And.intro (by first|omega|(simp;omega)) ?_)
  refine keep [6] ?_
  (try simp only[c36_33,c36_32,l36_31,cw,cops,csW,csL,reduceIte,reduceEqDiff,reduceCtorEq,reduceAdd,reduceLT,reduceLeDiff,reduceSub,csF,hi',mo_len,Bool.or_true,Nat.le_refl,htk])
  (repeat refine And.intro (by first|omega|(simp;omega)) ?_)
  refine keep [4] ?_
  (try simp only[cw,cops,csW,csL,reduceIte,reduceEqDiff,reduceCtorEq,reduceAdd,reduceLT,reduceLeDiff,reduceSub,csF,Ends,resD,resL,resV,hi',mo_len,Bool.or_true,Nat.le_refl,htk])
  (repeat refine And.intro (by first|omega|(simp;omega)) ?_)
  rw[mo_end];rfl
noncomputable def gcdP (p:Int):Nat→List Int→List Int→List Int
 | 0,f,_=>monP f p
 | n+1,f,g=>if g=[] then monP f p else gcdP p n g (rem f g p)
set_option maxRecDepth 20000 in
set_option maxHeartbeats 1000000 in
theorem gcd_con {T T':Nat} (f g:List Int) (p:Int) (hP:IsP p) (hf:Pl p 1000 f) (hg:Pl p 1000 g):Con Try.prog [] 29 [LT T f,LT T' g,I p] (L (gcdP p g.length f g)):=by
 refine fn29.con rfl (by simp) ?_
 (try simp only[init3,c29,c29_21,c29_1,l29_0,cw,cops,csW,csL,reduceIte,reduceEqDiff,reduceCtorEq,reduceAdd,reduceLT,reduceLeDiff,reduceSub,csF])
 (repeat refine And.intro (by first|omega|(simp;omega)) ?_)
 refine keep [0,1,2] ?_
 (try simp only[c29_20,c29_15,cw,cops,csW,csL,reduceIte,reduceEqDiff,reduceCtorEq,reduceAdd,reduceLT,reduceLeDiff,reduceSub,csF])
 refine loop_of (ι:=List Int × List Int × Nat × Nat × Nat) (fun s=>Pl p 1000 s.1∧Pl p 1000 s.2.1∧s.2.1.length≤s.2.2.1∧gcdP p s.2.2.1 s.1 s.2.1=gcdP p g.length f g) (fun s=>⟨look [(0,.p (LT s.2.2.2.1 s.1)),(1,.p (LT s.2.2.2.2 s.2.1)),(2,.p (I p))],lookM []⟩) (fun s=>s.2.1.length) (f,g,g.length,T,T') ⟨hf,hg,Nat.le_refl _,rfl⟩ (Sub.rf _) ?_
 rintro⟨a,b,n,Ta,Tb⟩ ⟨ha,hb,hn,he⟩
 simp only at ha hb hn he
 by_cases h0:b=[]
 ·have hI:¬ (0:Int)<(b.length:Int):=by simp[h0]
  (try simp only[c29_13,c29_5,c29_3,l29_2,cw,cops,csW,csL,reduceIte,reduceEqDiff,reduceCtorEq,reduceAdd,reduceLT,reduceLeDiff,reduceSub,csF,hI])
  (repeat refine And.intro (by first|omega|(simp;omega)) ?_)
  refine keep [0,1,2,11] ?_
  (try simp only[c29_4,cw,cops,csW,csL,reduceIte,reduceEqDiff,reduceCtorEq,reduceAdd,reduceLT,reduceLeDiff,reduceSub,csF,hI])
  (repeat refine And.intro (by first|omega|(simp;omega)) ?_)
  (try simp only[cw,cops,csW,csL,reduceIte,reduceEqDiff,reduceCtorEq,reduceAdd,reduceLT,reduceLeDiff,reduceSub,csF])
  (repeat refine And.intro (by first|omega|(simp;omega)) ?_)
  refine keep [0,2] ?_
  (try simp only[c29_19,c29_18,l29_16,cw,cops,csW,csL,reduceIte,reduceEqDiff,reduceCtorEq,reduceAdd,reduceLT,reduceLeDiff,reduceSub,csF])
  (repeat refine And.intro (by first|omega|(simp;omega)) ?_)
  refine⟨_,cx (monic_con a p hP ha),?_⟩
  (try simp only[l29_17,cw,cops,csW,csL,reduceIte,reduceEqDiff,reduceCtorEq,reduceAdd,reduceLT,reduceLeDiff,reduceSub,csF])
  (repeat refine And.intro (by first|omega|(simp;omega)) ?_)
  refine keep [6] ?_
  (try simp only[cw,cops,csW,csL,reduceIte,reduceEqDiff,reduceCtorEq,reduceAdd,reduceLT,reduceLeDiff,reduceSub,csF,Ends,resD,resL,resV])
  (repeat refine And.intro (by first|omega|(simp;omega)) ?_)
  rw[←he]
  cases n with
  | zero=>rfl
  | succ n=>rw[gcdP,if_pos h0]
 ·have hl0:0<b.length:=List.length_pos_iff.2 h0
  have hI:(0:Int)<(b.length:Int):=by omega
  have hr:=rem_pl hP ha hb h0
  (try simp only[c29_13,c29_5,c29_3,l29_2,cw,cops,csW,csL,reduceIte,reduceEqDiff,reduceCtorEq,reduceAdd,reduceLT,reduceLeDiff,reduceSub,csF,hI])
  (repeat refine And.intro (by first|omega|(simp;omega)) ?_)
  refine keep [0,1,2,11] ?_
  (try simp only[c29_4,cw,cops,csW,csL,reduceIte,reduceEqDiff,reduceCtorEq,reduceAdd,reduceLT,reduceLeDiff,reduceSub,csF,hI])
  (repeat refine And.intro (by first|omega|(simp;omega)) ?_)
  (try simp only[cw,cops,csW,csL,reduceIte,reduceEqDiff,reduceCtorEq,reduceAdd,reduceLT,reduceLeDiff,reduceSub,csF])
  (repeat refine And.intro (by first|omega|(simp;omega)) ?_)
  refine keep [0,1,2] ?_
  (try simp only[c29_12,c29_11,c29_8,l29_6,cw,cops,csW,csL,reduceIte,reduceEqDiff,reduceCtorEq,reduceAdd,reduceLT,reduceLeDiff,reduceSub,csF])
  (repeat refine And.intro (by first|omega|(simp;omega)) ?_)
  refine⟨_,cx (divs_con hP ha hb h0),?_⟩
  (try simp only[l29_7,cw,cops,csW,csL,reduceIte,reduceEqDiff,reduceCtorEq,reduceAdd,reduceLT,reduceLeDiff,reduceSub,csF])
  (repeat refine And.intro (by first|omega|(simp;omega)) ?_)
  refine keep [1,2,8] ?_
  (try simp only[c29_10,l29_9,cw,cops,csW,csL,reduceIte,reduceEqDiff,reduceCtorEq,reduceAdd,reduceLT,reduceLeDiff,reduceSub,csF])
  (repeat refine And.intro (by first|omega|(simp;omega)) ?_)
  refine⟨(b,rem a b p,n-1,Tb,3),⟨hb,hr.1,by simp only;omega,?_⟩,(Sub.toG [0,1,2] [] (by rfl) (by rfl) (by rfl) (by rfl)),by simp only;omega⟩
  rw[←he]
  obtain⟨m,rfl⟩:∃ m,n=m+1:=⟨n-1,by omega⟩
  simp only[Nat.add_sub_cancel]
  rw[gcdP,if_neg h0]
noncomputable def powL (m:List Int) (p:Int) (out f:List Int) (n:Nat):List Int:=
 if h:n=0 then out else powL m p (if n % 2=1 then rem (mulP out f p) m p else out) (rem (mulP f f p) m p) (n / 2)
 termination_by n
 decreasing_by omega
theorem powL_0 (m:List Int) (p:Int) (out f:List Int):powL m p out f 0=out:=by rw[powL,dif_pos rfl]
theorem powL_s {m:List Int} {p:Int} {out f:List Int} {n:Nat} (h:n≠0):powL m p out f n=powL m p (if n % 2=1 then rem (mulP out f p) m p else out) (rem (mulP f f p) m p) (n / 2):=by rw[powL,dif_neg h]
noncomputable def powP (f:List Int) (n:Nat) (m:List Int) (p:Int):List Int:=powL m p (rem [1] m p) (rem f m p) n
set_option maxRecDepth 20000 in
set_option maxHeartbeats 2000000 in
theorem power_con {T T':Nat} (f m:List Int) (n:Nat) (p:Int) (hP:IsP p) (hf:Pl p 65 f) (hm:Pl p 65 m) (hm0:m≠[]) (hn:n≤9223372036854775807):Con Try.prog [] 44 [LT T f,I n,LT T' m,I p] (L (powP f n m p)):=by
 have h1:=(rem_pl hP (pl_one hP) hm hm0).1
 have h2:=(rem_pl hP hf hm hm0).1
 refine fn44.con rfl (by simp) ?_
 (try simp only[init4,c44,c44_38,c44_1,l44_0,cw,cops,csW,csL,reduceIte,reduceEqDiff,reduceCtorEq,reduceAdd,reduceLT,reduceLeDiff,reduceSub,csF])
 (repeat refine And.intro (by first|omega|(simp;omega)) ?_)
 refine keep [0,1,2,3] ?_
 (try simp only[c44_37,c44_4,l44_2,cw,cops,csW,csL,reduceIte,reduceEqDiff,reduceCtorEq,reduceAdd,reduceLT,reduceLeDiff,reduceSub,csF])
 (repeat refine And.intro (by first|omega|(simp;omega)) ?_)
 refine⟨_,cx (divs_con (f:=[1]) hP ((pl_one hP).mono (by omega)) (hm.mono (by omega)) hm0),?_⟩
 (try simp only[l44_3,cw,cops,csW,csL,reduceIte,reduceEqDiff,reduceCtorEq,reduceAdd,reduceLT,reduceLeDiff,reduceSub,csF])
 (repeat refine And.intro (by first|omega|(simp;omega)) ?_)
 refine keep [0,1,2,3,10] ?_
 (try simp only[c44_36,c44_7,l44_5,cw,cops,csW,csL,reduceIte,reduceEqDiff,reduceCtorEq,reduceAdd,reduceLT,reduceLeDiff,reduceSub,csF])
 (repeat refine And.intro (by first|omega|(simp;omega)) ?_)
 refine⟨_,cx (divs_con hP (hf.mono (by omega)) (hm.mono (by omega)) hm0),?_⟩
 (try simp only[l44_6,cw,cops,csW,csL,reduceIte,reduceEqDiff,reduceCtorEq,reduceAdd,reduceLT,reduceLeDiff,reduceSub,csF])
 (repeat refine And.intro (by first|omega|(simp;omega)) ?_)
 refine keep [0,1,2,3,10] ?_
 (try simp only[c44_35,c44_31,cw,cops,csW,csL,reduceIte,reduceEqDiff,reduceCtorEq,reduceAdd,reduceLT,reduceLeDiff,reduceSub,csF])
 refine loop_of (ι:=List Int × List Int × Nat) (fun s=>Pl p 65 s.1∧Pl p 65 s.2.1∧s.2.2≤n∧powL m p s.1 s.2.1 s.2.2=powP f n m p) (fun s=>⟨look [(0,.p (L s.2.1)),(1,.p (I s.2.2)),(2,.p (LT T' m)),(3,.p (I p)),(10,.p (L s.1))],lookM []⟩) (fun s=>s.2.2) (rem [1] m p,rem f m p,n) ⟨h1,h2,Nat.le_refl _,rfl⟩ (Sub.toG [0,1,2,3,10] [12] (by rfl) (by rfl) (by rfl) (by rfl)) ?_
 rintro⟨a,b,k⟩ ⟨ha,hb,hk,he⟩
 simp only at ha hb hk he
 by_cases h0:k=0
 ·have hI:¬ (0:Int)<(k:Int):=by omega
  (try simp only[c44_29,c44_11,c44_9,l44_8,cw,cops,csW,csL,reduceIte,reduceEqDiff,reduceCtorEq,reduceAdd,reduceLT,reduceLeDiff,reduceSub,csF,hI])
  (repeat refine And.intro (by first|omega|(simp;omega)) ?_)
  refine keep [0,1,2,3,10,26] ?_
  (try simp only[c44_10,cw,cops,csW,csL,reduceIte,reduceEqDiff,reduceCtorEq,reduceAdd,reduceLT,reduceLeDiff,reduceSub,csF,hI])
  (repeat refine And.intro (by first|omega|(simp;omega)) ?_)
  (try simp only[cw,cops,csW,csL,reduceIte,reduceEqDiff,reduceCtorEq,reduceAdd,reduceLT,reduceLeDiff,reduceSub,csF])
  (repeat refine And.intro (by first|omega|(simp;omega)) ?_)
  refine keep [10] ?_
  (try simp only[c44_34,c44_33,l44_32,cw,cops,csW,csL,reduceIte,reduceEqDiff,reduceCtorEq,reduceAdd,reduceLT,reduceLeDiff,reduceSub,csF])
  (repeat refine And.intro (by first|omega|(simp;omega)) ?_)
  refine keep [8] ?_
  (try simp only[cw,cops,csW,csL,reduceIte,reduceEqDiff,reduceCtorEq,reduceAdd,reduceLT,reduceLeDiff,reduceSub,csF,Ends,resD,resL,resV])
  (repeat refine And.intro (by first|omega|(simp;omega)) ?_)
  rw[←he,h0,powL_0]
 ·have hI:(0:Int)<(k:Int):=by omega
  have hb1:bitB .i64 (k:Int) 1=true:=by simp[bitB,inK];omega
  have hb2:bitN .and k (Int.toNat 1)=k % 2:=Nat.and_one_is_mod k
  have hsh:(k:Int) / 2^(Int.toNat 1)=((k / 2:Nat):Int):=by simp
  have hm1:=mul_pl hP ha hb (k:=1000) (by omega)
  have hm2:=mul_pl hP hb hb (k:=1000) (by omega)
  have hr1:=(rem_pl hP hm1 hm hm0).1
  have hr2:=(rem_pl hP hm2 hm hm0).1
  have hhalf:k / 2<k:=by omega
  rw[powL_s h0] at he
  by_cases hodd:k % 2=1
  ·have hoI:((k % 2:Nat):Int)=1:=by omega
   rw[if_pos hodd] at he
   (try simp only[c44_29,c44_11,c44_9,l44_8,cw,cops,csW,csL,reduceIte,reduceEqDiff,reduceCtorEq,reduceAdd,reduceLT,reduceLeDiff,reduceSub,csF,hI])
   (repeat refine And.intro (by first|omega|(simp;omega)) ?_)
   refine keep [0,1,2,3,10,26] ?_
   (try simp only[c44_10,cw,cops,csW,csL,reduceIte,reduceEqDiff,reduceCtorEq,reduceAdd,reduceLT,reduceLeDiff,reduceSub,csF,hI])
   (repeat refine And.intro (by first|omega|(simp;omega)) ?_)
   (try simp only[cw,cops,csW,csL,reduceIte,reduceEqDiff,reduceCtorEq,reduceAdd,reduceLT,reduceLeDiff,reduceSub,csF,hb1,hb2,hoI])
   (repeat refine And.intro (by first|omega|(simp;omega)) ?_)
   refine keep [0,1,2,3,10] ?_
   (try simp only[c44_28,c44_25,c44_24,c44_19,c44_13,l44_12,cw,cops,csW,csL,reduceIte,reduceEqDiff,reduceCtorEq,reduceAdd,reduceLT,reduceLeDiff,reduceSub,csF,hb1,hb2,hoI])
   (repeat refine And.intro (by first|omega|(simp;omega)) ?_)
   refine keep [0,1,2,3,10,31] ?_
   (try simp only[c44_18,cw,cops,csW,csL,reduceIte,reduceEqDiff,reduceCtorEq,reduceAdd,reduceLT,reduceLeDiff,reduceSub,csF,hb1,hb2,hoI])
   (repeat refine And.intro (by first|omega|(simp;omega)) ?_)
   (try simp only[c44_17,l44_14,cw,cops,csW,csL,reduceIte,reduceEqDiff,reduceCtorEq,reduceAdd,reduceLT,reduceLeDiff,reduceSub,csF])
   (repeat refine And.intro (by first|omega|(simp;omega)) ?_)
   refine⟨_,cx (mul_con a b p hP.pos ha.rg hb.rg (by have:=ha.len;omega) (by have:=hb.len;omega)),?_⟩
   (try simp only[l44_15,cw,cops,csW,csL,reduceIte,reduceEqDiff,reduceCtorEq,reduceAdd,reduceLT,reduceLeDiff,reduceSub,csF])
   (repeat refine And.intro (by first|omega|(simp;omega)) ?_)
   refine⟨_,cx (divs_con hP hm1 (hm.mono (by omega)) hm0),?_⟩
   (try simp only[l44_16,cw,cops,csW,csL,reduceIte,reduceEqDiff,reduceCtorEq,reduceAdd,reduceLT,reduceLeDiff,reduceSub,csF])
   (repeat refine And.intro (by first|omega|(simp;omega)) ?_)
   refine keep [0,1,2,3,10] ?_
   (try simp only[c44_23,l44_20,cw,cops,csW,csL,reduceIte,reduceEqDiff,reduceCtorEq,reduceAdd,reduceLT,reduceLeDiff,reduceSub,csF])
   (repeat refine And.intro (by first|omega|(simp;omega)) ?_)
   refine⟨_,cx (mul_con b b p hP.pos hb.rg hb.rg (by have:=hb.len;omega) (by have:=hb.len;omega)),?_⟩
   (try simp only[l44_21,cw,cops,csW,csL,reduceIte,reduceEqDiff,reduceCtorEq,reduceAdd,reduceLT,reduceLeDiff,reduceSub,csF])
   (repeat refine And.intro (by first|omega|(simp;omega)) ?_)
   refine⟨_,cx (divs_con hP hm2 (hm.mono (by omega)) hm0),?_⟩
   (try simp only[l44_22,cw,cops,csW,csL,reduceIte,reduceEqDiff,reduceCtorEq,reduceAdd,reduceLT,reduceLeDiff,reduceSub,csF,hsh,IntKind.bits])
   (repeat refine And.intro (by first|omega|(simp;omega)) ?_)
   refine keep [0,1,2,3,10] ?_
   (try simp only[c44_27,l44_26,cw,cops,csW,csL,reduceIte,reduceEqDiff,reduceCtorEq,reduceAdd,reduceLT,reduceLeDiff,reduceSub,csF,hsh,IntKind.bits])
   (repeat refine And.intro (by first|omega|(simp;omega)) ?_)
   exact⟨(_,_,k / 2),⟨hr1,hr2,by simp only;omega,he⟩,(Sub.toG [0,1,2,3,10] [12] (by rfl) (by rfl) (by rfl) (by rfl)),hhalf⟩
  ·have hoI:¬ ((k % 2:Nat):Int)=1:=by omega
   rw[if_neg hodd] at he
   (try simp only[c44_29,c44_11,c44_9,l44_8,cw,cops,csW,csL,reduceIte,reduceEqDiff,reduceCtorEq,reduceAdd,reduceLT,reduceLeDiff,reduceSub,csF,hI])
   (repeat refine And.intro (by first|omega|(simp;omega)) ?_)
   refine keep [0,1,2,3,10,26] ?_
   (try simp only[c44_10,cw,cops,csW,csL,reduceIte,reduceEqDiff,reduceCtorEq,reduceAdd,reduceLT,reduceLeDiff,reduceSub,csF,hI])
   (repeat refine And.intro (by first|omega|(simp;omega)) ?_)
   (try simp only[cw,cops,csW,csL,reduceIte,reduceEqDiff,reduceCtorEq,reduceAdd,reduceLT,reduceLeDiff,reduceSub,csF,hb1,hb2,hoI])
   (repeat refine And.intro (by first|omega|(simp;omega)) ?_)
   refine keep [0,1,2,3,10] ?_
   (try simp only[c44_28,c44_25,c44_24,c44_19,c44_13,l44_12,cw,cops,csW,csL,reduceIte,reduceEqDiff,reduceCtorEq,reduceAdd,reduceLT,reduceLeDiff,reduceSub,csF,hb1,hb2,hoI])
   (repeat refine And.intro (by first|omega|(simp;omega)) ?_)
   refine keep [0,1,2,3,10,31] ?_
   (try simp only[c44_18,cw,cops,csW,csL,reduceIte,reduceEqDiff,reduceCtorEq,reduceAdd,reduceLT,reduceLeDiff,reduceSub,csF,hb1,hb2,hoI])
   (repeat refine And.intro (by first|omega|(simp;omega)) ?_)
   (try simp only[cw,cops,csW,csL,reduceIte,reduceEqDiff,reduceCtorEq,reduceAdd,reduceLT,reduceLeDiff,reduceSub,csF])
   (repeat refine And.intro (by first|omega|(simp;omega)) ?_)
   refine keep [0,1,2,3,10] ?_
   (try simp only[c44_23,l44_20,cw,cops,csW,csL,reduceIte,reduceEqDiff,reduceCtorEq,reduceAdd,reduceLT,reduceLeDiff,reduceSub,csF])
   (repeat refine And.intro (by first|omega|(simp;omega)) ?_)
   refine⟨_,cx (mul_con b b p hP.pos hb.rg hb.rg (by have:=hb.len;omega) (by have:=hb.len;omega)),?_⟩
   (try simp only[l44_21,cw,cops,csW,csL,reduceIte,reduceEqDiff,reduceCtorEq,reduceAdd,reduceLT,reduceLeDiff,reduceSub,csF])
   (repeat refine And.intro (by first|omega|(simp;omega)) ?_)
   refine⟨_,cx (divs_con hP hm2 (hm.mono (by omega)) hm0),?_⟩
   (try simp only[l44_22,cw,cops,csW,csL,reduceIte,reduceEqDiff,reduceCtorEq,reduceAdd,reduceLT,reduceLeDiff,reduceSub,csF,hsh,IntKind.bits])
   (repeat refine And.intro (by first|omega|(simp;omega)) ?_)
   refine keep [0,1,2,3,10] ?_
   (try simp only[c44_27,l44_26,cw,cops,csW,csL,reduceIte,reduceEqDiff,reduceCtorEq,reduceAdd,reduceLT,reduceLeDiff,reduceSub,csF,hsh,IntKind.bits])
   (repeat refine And.intro (by first|omega|(simp;omega)) ?_)
   exact⟨(_,_,k / 2),⟨ha,hr2,by simp only;omega,he⟩,(Sub.toG [0,1,2,3,10] [12] (by rfl) (by rfl) (by rfl) (by rfl)),hhalf⟩
end Go.Proofs.Ytlnhembcfhfpkaa.M
