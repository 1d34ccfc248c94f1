/- Polynomials modulo a prime: order; parts without squares walked. -/
import Derived.Test.YtlnhembcfhfpkaaFyAx
namespace Go.Proofs.Ytlnhembcfhfpkaa.M
open Go.RowKit Go.Proofs.Ytlnhembcfhfpkaa.Fx
open Nat (reduceEqDiff reduceAdd reduceLT reduceLeDiff reduceSub)
set_option linter.unusedSimpArgs false
set_option linter.unusedVariables false
variable {P:Pr}
theorem plx (f:Po P) {n:Nat} (h:dg f≤n):Pl P.p n f.l:=⟨f.rg,f.td,h⟩
theorem gcX_con {T T':Nat} (f g:Po P) (hf:dg f≤1000) (hg:dg g≤1000):Con Try.prog [] 29 [LT T f.l,LT T' g.l,I P.p] (L (gc f g).l):=by
 rw[gc_l];exact gcd_con f.l g.l P.p P.h (plx f hf) (plx g hg)
theorem divX_con {T T':Nat} (f:Po P) {g:Po P} (hf:dg f≤1000) (hg:dg g≤1000) (h0:g≠0):Con Try.prog [] 45 [LT T f.l,LT T' g.l,I P.p] (.tup [L (qo f g).l,L (rm f g).l]):=divs_con P.h (plx f hf) (plx g hg) (l_ne h0)
theorem mulX_con {T T':Nat} (f g:Po P) (hf:dg f≤1000) (hg:dg g≤1000):Con Try.prog [] 42 [LT T f.l,LT T' g.l,I P.p] (L (f*g).l):=by
 rw[mul_l];exact mul_con f.l g.l P.p P.h.pos f.rg g.rg hf hg
theorem monX_con {T:Nat} (f:Po P) (hf:dg f≤1000):Con Try.prog [] 36 [LT T f.l,I P.p] (L (mon f).l):=by
 rw[mon_l];exact monic_con f.l P.p P.h (plx f hf)
def ordA (f g:List Int):Nat→Int
 | 0=>0
 | i+1=>if cmpI (f.getD i 0) (g.getD i 0)=0 then ordA f g i else cmpI (f.getD i 0) (g.getD i 0)
def ordL (f g:List Int):Int:=if cmpI f.length g.length=0 then ordA f g f.length else cmpI f.length g.length
theorem cmpI_0 {a b:Int}:cmpI a b=0↔a=b:=by unfold cmpI;split<;>(try split)<;>omega
def fD (x:Po P × Nat):D:=.agg [L x.1.l,I x.2]
theorem one_D (z x:D):(List.replicate 1 z).set 0 x=[x]:=rfl
theorem fD_app (o:List (Po P × Nat)) (z:Po P) (n:Nat) {m:Int} (h:m=(n:Int)):o.map fD++[D.agg [D.list 3 1 (z.l.map (D.int .i64)),D.int .i64 m]]=(o++[(z,n)]).map fD:=by
 rw[h,List.map_append];rfl
theorem fD_app2 (o o':List (Po P × Nat)):o.map fD++o'.map fD=(o++o').map fD:=List.map_append.symm
set_option linter.defProp false in
def csFx:=And.intro @one_D (And.intro @csT @csF)
theorem jw_n_le {f w c:Po P} {n:Nat} (h:Jw f w c n) (hf:f≠0) (hw:1<dg w):n+1≤dg f:=by
 obtain⟨q,hq,hd⟩:=irr_of (f:=w) hw
 have h1:=(dvd_iff hq h.wm.ne).1 hd
 have h2:=val_lt hq hf
 by_cases hp:val q f % pn P=0
 ·rw[h.w0 q hq hp] at h1;omega
 ·rw[h.w1 q hq hp] at h1
  split at h1<;>omega
theorem sqW_len (t:Nat):∀ (k:Nat) (w c:Po P) (n:Nat),(sqW k w c n t).1.length≤k
 | 0,w,c,n=>by rw[sqW];simp
 | k+1,w,c,n=>by
  rw[sqW]
  split
  ·simp
  ·have:=sqW_len t k (gc w c) (qo c (gc w c)) (n+1)
   simp only[List.length_append]
   split
   ·simp;omega
   ·simp;omega
set_option maxRecDepth 20000 in
theorem sqL_len:∀ (k:Nat) (f:Po P) (t:Nat),Mo f→dg f≤1000→(sqL k f t).length≤k*1001
 | 0,f,t,_,_=>by rw[sqL];simp
 | k+1,f,t,hm,hl=>by
  rw[sqL]
  split
  ·simp
  ·rename_i h2
   split
   ·rename_i hd
    have hd:=dg_eq_0.1 hd
    have h3:=rt_lt hm hd (by omega)
    have:=sqL_len k (rt f) (t*pn P) (rt_mo hm hd) (by omega)
    omega
   ·rename_i hd
    have hd:der f≠0:=fun e=>hd (dg_eq_0.2 e)
    have hJ:=Jw.start hm hd
    have hok:=sqW_ok f t _ _ _ 1 (Nat.le_refl _) (Nat.le_refl _) hJ
    have hc:=gc_mo (f:=f) (g:=der f) (.inl hm.ne)
    have hwl:=qo_dg hm hc (gc_dl f (der f))
    have h1:=sqW_len t (dg (qo f (gc f (der f)))+dg (gc f (der f))) (qo f (gc f (der f))) (gc f (der f)) 1
    simp only
    generalize sqW (dg (qo f (gc f (der f)))+dg (gc f (der f))) (qo f (gc f (der f))) (gc f (der f)) 1 t=R at *
    simp only[List.length_append]
    split
    ·rename_i hc2
     have hcd2:der R.2=0:=der_of_pp hok.1 fun q hq=>by
      rw[hok.2.1 q hq];split
      ·assumption
      ·simp
     have hle2:dg R.2≤dg f:=dg_dvd (dvd_of_val hok.1 hm.ne fun q hq=>by rw[hok.2.1 q hq];split<;>omega) hm.ne
     have h3:=rt_lt hok.1 hcd2 hc2
     have:=sqL_len k (rt R.2) (t*pn P) (rt_mo hok.1 hcd2) (by omega)
     omega
    ·simp;omega
set_option maxRecDepth 20000 in
set_option maxHeartbeats 2000000 in
theorem squares_con:∀ (k:Nat) (f:Po P) (t:Nat) (T:Nat),Mo f→dg f≤k→k≤1000→dg f≤1000→1≤t→t*(dg f-1)≤1000→t≤1000→Con Try.prog [] 35 [LT T f.l,I P.p,I t] (.list 56 2 ((sqL k f t).map fD)):=by
 intro k
 induction k with
 | zero=>intro f t T hm hk;have:=dg_pos hm.ne;omega
 | succ k ih =>
  intro f t T hm hk hkk hl ht1 ht ht2
  have hp:=P.h.pos
  have hp2:=P.p2
  have hpn:=pn_p P
  by_cases h2:dg f<2
  ·have hI:(f.l.length:Int)<2:=by unfold dg at h2;omega
   refine fn35.con rfl (by simp) ?_
   (try simp only[init3,c35,c35_83,c35_1,l35_0,cw,cops,csW,csL,reduceIte,reduceEqDiff,reduceCtorEq,reduceAdd,reduceLT,reduceLeDiff,reduceSub,csFx,hI])
   (repeat refine And.intro (by first|omega|(simp;omega)) ?_)
   refine keep [0,1,2] ?_
   (try simp only[c35_82,c35_3,l35_2,cw,cops,csW,csL,reduceIte,reduceEqDiff,reduceCtorEq,reduceAdd,reduceLT,reduceLeDiff,reduceSub,csFx,hI])
   (repeat refine And.intro (by first|omega|(simp;omega)) ?_)
   refine keep [0,1,2,7] ?_
   (try simp only[c35_81,c35_10,c35_5,l35_4,cw,cops,csW,csL,reduceIte,reduceEqDiff,reduceCtorEq,reduceAdd,reduceLT,reduceLeDiff,reduceSub,csFx,hI])
   (repeat refine And.intro (by first|omega|(simp;omega)) ?_)
   refine keep [0,1,2,7,18] ?_
   (try simp only[c35_9,cw,cops,csW,csL,reduceIte,reduceEqDiff,reduceCtorEq,reduceAdd,reduceLT,reduceLeDiff,reduceSub,csFx,hI])
   (repeat refine And.intro (by first|omega|(simp;omega)) ?_)
   (try simp only[c35_8,c35_7,l35_6,cw,cops,csW,csL,reduceIte,reduceEqDiff,reduceCtorEq,reduceAdd,reduceLT,reduceLeDiff,reduceSub,csFx])
   (repeat refine And.intro (by first|omega|(simp;omega)) ?_)
   refine keep [6] ?_
   (try simp only[cw,cops,csW,csL,reduceIte,reduceEqDiff,reduceCtorEq,reduceAdd,reduceLT,reduceLeDiff,reduceSub,csFx,Ends,resD,resL,resV])
   (repeat refine And.intro (by first|omega|(simp;omega)) ?_)
   rw[sqL,if_pos h2];rfl
  have hI:¬ (f.l.length:Int)<2:=by unfold dg at h2;omega
  have hmul:0≤(t:Int)*P.p∧(t:Int)*P.p≤1000*1073741824:=⟨Int.mul_nonneg (by omega) (by omega),Int.mul_le_mul (by omega) (by omega) (by omega) (by omega)⟩
  have htp:(t:Int)*P.p=((t*pn P:Nat):Int):=by rw[←hpn,Int.natCast_mul]
  refine fn35.con rfl (by simp) ?_
  (try simp only[init3,c35,c35_83,c35_1,l35_0,cw,cops,csW,csL,reduceIte,reduceEqDiff,reduceCtorEq,reduceAdd,reduceLT,reduceLeDiff,reduceSub,csFx,hI])
  (repeat refine And.intro (by first|omega|(simp;omega)) ?_)
  refine keep [0,1,2] ?_
  (try simp only[c35_82,c35_3,l35_2,cw,cops,csW,csL,reduceIte,reduceEqDiff,reduceCtorEq,reduceAdd,reduceLT,reduceLeDiff,reduceSub,csFx,hI])
  (repeat refine And.intro (by first|omega|(simp;omega)) ?_)
  refine keep [0,1,2,7] ?_
  (try simp only[c35_81,c35_10,c35_5,l35_4,cw,cops,csW,csL,reduceIte,reduceEqDiff,reduceCtorEq,reduceAdd,reduceLT,reduceLeDiff,reduceSub,csFx,hI])
  (repeat refine And.intro (by first|omega|(simp;omega)) ?_)
  refine keep [0,1,2,7,18] ?_
  (try simp only[c35_9,cw,cops,csW,csL,reduceIte,reduceEqDiff,reduceCtorEq,reduceAdd,reduceLT,reduceLeDiff,reduceSub,csFx,hI])
  (repeat refine And.intro (by first|omega|(simp;omega)) ?_)
  (try simp only[cw,cops,csW,csL,reduceIte,reduceEqDiff,reduceCtorEq,reduceAdd,reduceLT,reduceLeDiff,reduceSub,csFx])
  (repeat refine And.intro (by first|omega|(simp;omega)) ?_)
  refine keep [0,1,2,7] ?_
  (try simp only[c35_80,c35_13,l35_11,cw,cops,csW,csL,reduceIte,reduceEqDiff,reduceCtorEq,reduceAdd,reduceLT,reduceLeDiff,reduceSub,csFx])
  (repeat refine And.intro (by first|omega|(simp;omega)) ?_)
  refine⟨_,cx (derive_con f (by omega)),?_⟩
  (try simp only[l35_12,cw,cops,csW,csL,reduceIte,reduceEqDiff,reduceCtorEq,reduceAdd,reduceLT,reduceLeDiff,reduceSub,csFx])
  (repeat refine And.intro (by first|omega|(simp;omega)) ?_)
  refine keep [0,1,2,7,8] ?_
  (try simp only[c35_79,c35_22,c35_15,l35_14,cw,cops,csW,csL,reduceIte,reduceEqDiff,reduceCtorEq,reduceAdd,reduceLT,reduceLeDiff,reduceSub,csFx])
  (repeat refine And.intro (by first|omega|(simp;omega)) ?_)
  refine keep [0,1,2,7,8,24] ?_
  (try simp only[c35_21,cw,cops,csW,csL,reduceIte,reduceEqDiff,reduceCtorEq,reduceAdd,reduceLT,reduceLeDiff,reduceSub,csFx])
  (repeat refine And.intro (by first|omega|(simp;omega)) ?_)
  by_cases hd:der f=0
  ·have h3:=rt_lt hm hd (by omega)
   have hIz:(((der f).l.length:Nat):Int)=0:=by rw[hd,l_0];rfl
   have hb:t*pn P*(dg (rt f)-1)≤t*(dg f-1):=by
    rw[Nat.mul_assoc];exact Nat.mul_le_mul_left _ (by omega)
   by_cases h4:dg (rt f)=1
   ·-- then its root is a number: f is one,too
    exfalso
    have h5:=(rt_mo hm hd).one (by omega)
    have h6:=rt_pw hd
    rw[h5,pw_one] at h6
    rw[←h6,dg_1] at h2
    omega
   have h7:t*pn P≤1000:=by
    have h8:t*pn P*1≤t*pn P*(dg (rt f)-1):=Nat.mul_le_mul_left _ (by have:=dg_pos (rt_mo hm hd).ne;omega)
    omega
   refine⟨fun _ => ?_,fun hc=>absurd hc (by simp[hIz])⟩
   (try simp only[c35_20,c35_19,l35_16,cw,cops,csW,csL,reduceIte,reduceEqDiff,reduceCtorEq,reduceAdd,reduceLT,reduceLeDiff,reduceSub,csFx])
   (repeat refine And.intro (by first|omega|(simp;omega)) ?_)
   refine⟨_,cx (rooted_con f (by omega) hd),?_⟩
   (try simp only[l35_17,cw,cops,csW,csL,reduceIte,reduceEqDiff,reduceCtorEq,reduceAdd,reduceLT,reduceLeDiff,reduceSub,csFx,htp])
   (repeat refine And.intro (by first|omega|(simp;omega)) ?_)
   refine⟨_,cx (ih (rt f) (t*pn P) _ (rt_mo hm hd) (by omega) (by omega) (by omega) (by have:1*1≤t*pn P:=Nat.mul_le_mul ht1 (by have:=pn_2 P;omega);omega) (by omega) h7),?_⟩
   (try simp only[l35_18,cw,cops,csW,csL,reduceIte,reduceEqDiff,reduceCtorEq,reduceAdd,reduceLT,reduceLeDiff,reduceSub,csFx])
   (repeat refine And.intro (by first|omega|(simp;omega)) ?_)
   refine keep [6] ?_
   (try simp only[cw,cops,csW,csL,reduceIte,reduceEqDiff,reduceCtorEq,reduceAdd,reduceLT,reduceLeDiff,reduceSub,csFx,Ends,resD,resL,resV])
   (repeat refine And.intro (by first|omega|(simp;omega)) ?_)
   rw[sqL,if_neg h2,if_pos (by rw[hd,dg_0])]
  ·have hdl:¬ (((der f).l.length:Nat):Int)=0:=fun e=>hd (dg_eq_0.1 (by unfold dg;omega))
   refine⟨fun hc=>absurd hc (by simp;omega),fun _ => ?_⟩
   have hc:=gc_mo (f:=f) (g:=der f) (.inl hm.ne)
   have hcd:=gc_dl f (der f)
   have hdd:=der_dg hd
   have hcl:dg (gc f (der f))≤dg f:=dg_dvd hcd hm.ne
   have hJ:=Jw.start hm hd
   have hwl:=qo_dg hm hc hcd
   have hcp:=dg_pos hc.ne
   have hsq:sqL (k+1) f t=(sqW (dg (qo f (gc f (der f)))+dg (gc f (der f))) (qo f (gc f (der f))) (gc f (der f)) 1 t).1++if 1<dg (sqW (dg (qo f (gc f (der f)))+dg (gc f (der f))) (qo f (gc f (der f))) (gc f (der f)) 1 t).2 then sqL k (rt (sqW (dg (qo f (gc f (der f)))+dg (gc f (der f))) (qo f (gc f (der f))) (gc f (der f)) 1 t).2) (t*pn P) else []:=by
    rw[sqL,if_neg h2,if_neg (fun e=>hd (dg_eq_0.1 e))]
   (try simp only[cw,cops,csW,csL,reduceIte,reduceEqDiff,reduceCtorEq,reduceAdd,reduceLT,reduceLeDiff,reduceSub,csFx])
   (repeat refine And.intro (by first|omega|(simp;omega)) ?_)
   refine keep [0,1,2,7,8] ?_
   (try simp only[c35_78,c35_25,l35_23,cw,cops,csW,csL,reduceIte,reduceEqDiff,reduceCtorEq,reduceAdd,reduceLT,reduceLeDiff,reduceSub,csFx])
   (repeat refine And.intro (by first|omega|(simp;omega)) ?_)
   refine⟨_,cx (gcX_con f (der f) (by omega) (by omega)),?_⟩
   (try simp only[l35_24,cw,cops,csW,csL,reduceIte,reduceEqDiff,reduceCtorEq,reduceAdd,reduceLT,reduceLeDiff,reduceSub,csFx])
   (repeat refine And.intro (by first|omega|(simp;omega)) ?_)
   refine keep [0,1,2,7,9] ?_
   (try simp only[c35_77,c35_28,l35_26,cw,cops,csW,csL,reduceIte,reduceEqDiff,reduceCtorEq,reduceAdd,reduceLT,reduceLeDiff,reduceSub,csFx])
   (repeat refine And.intro (by first|omega|(simp;omega)) ?_)
   refine⟨_,cx (divX_con f (by omega) (by omega) hc.ne),?_⟩
   (try simp only[l35_27,cw,cops,csW,csL,reduceIte,reduceEqDiff,reduceCtorEq,reduceAdd,reduceLT,reduceLeDiff,reduceSub,csFx])
   (repeat refine And.intro (by first|omega|(simp;omega)) ?_)
   refine keep [1,2,7,9,10] ?_
   (try simp only[c35_76,c35_63,c35_30,l35_29,cw,cops,csW,csL,reduceIte,reduceEqDiff,reduceCtorEq,reduceAdd,reduceLT,reduceLeDiff,reduceSub,csFx])
   (repeat refine And.intro (by first|omega|(simp;omega)) ?_)
   refine keep [1,2,7,9,10,12] ?_
   (try simp only[c35_62,cw,cops,csW,csL,reduceIte,reduceEqDiff,reduceCtorEq,reduceAdd,reduceLT,reduceLeDiff,reduceSub,csFx])
   have hok:=sqW_ok f t _ _ _ 1 (Nat.le_refl _) (Nat.le_refl _) hJ
   generalize hR:sqW (dg (qo f (gc f (der f)))+dg (gc f (der f))) (qo f (gc f (der f))) (gc f (der f)) 1 t=R at *
   refine loop_of (ι:=List (Po P × Nat) × Po P × Po P × Nat × Nat × Nat) (fun s=>Jw f s.2.1 s.2.2.1 s.2.2.2.1∧dg s.2.1≤1000∧dg s.2.2.1≤1000∧1≤s.2.2.2.1∧s.2.2.2.1≤dg f∧dg s.2.1+dg s.2.2.1≤s.2.2.2.2.1∧s.1++(sqW s.2.2.2.2.1 s.2.1 s.2.2.1 s.2.2.2.1 t).1=R.1∧(sqW s.2.2.2.2.1 s.2.1 s.2.2.1 s.2.2.2.1 t).2=R.2∧s.1.length=s.2.2.2.2.2∧s.2.2.2.2.2≤s.2.2.2.1)
    (fun s=>⟨look [(1,.p (I P.p)),(2,.p (I t)),(7,.slice 207 0 s.2.2.2.2.2),(9,.p (L s.2.2.1.l)),(10,.p (L s.2.1.l)),(12,.p (I s.2.2.2.1))],lookM [(207,⟨56,2,.row (s.1.map fD),false⟩)]⟩) (fun s=>dg s.2.1+dg s.2.2.1) ([],qo f (gc f (der f)),gc f (der f),1,_,0) ⟨hJ,by simp only;omega,by simp only;omega,by simp,by simp only;omega,Nat.le_refl _,by simp only[List.nil_append];rw[hR],by simp only;rw[hR],rfl,by simp⟩ (Sub.nilG 7 207 56 2 (by rfl) (by rfl) (by decide) (by rfl) (by rfl)) ?_
   rintro⟨o,w,c,n,j,N⟩ ⟨hj,hw1,hc1,hn1,hn2,hj2,he1,he2,hoN,hol⟩
   simp only at hj hw1 hc1 hn1 hn2 hj2 he1 he2 hoN hol
   by_cases hw:1<dg w
   ·have hwI:(1:Int)<(w.l.length:Int):=by unfold dg at hw;omega
    have hy:=gc_mo (f:=w) (g:=c) (.inl hj.wm.ne)
    have hyl:dg (gc w c)≤dg w:=dg_dvd (gc_dl w c) hj.wm.ne
    have hdec:=hj.dec hw
    have hnl:=jw_n_le hj hm.ne hw
    have hq1:=qo_dg hj.wm hy (gc_dl w c)
    have hq2:=qo_dg hj.cm hy (gc_dr w c)
    have hyp:=dg_pos hy.ne
    obtain⟨m,rfl⟩:∃ m,j=m+1:=⟨j-1,by have:=dg_pos hj.wm.ne;omega⟩
    rw[sqW,if_neg (by omega)] at he1 he2
    simp only at he1 he2
    have hnt:n*t≤1000:=Nat.le_trans (by rw[Nat.mul_comm];exact Nat.mul_le_mul_left t (show n≤dg f-1 by omega)) ht
    have hntI:(n:Int)*(t:Int)=((n*t:Nat):Int):=(Int.natCast_mul n t).symm
    have happ:=fD_app o (qo w (gc w c)) (n*t) rfl
    (try simp only[c35_60,c35_34,c35_32,l35_31,cw,cops,csW,csL,reduceIte,reduceEqDiff,reduceCtorEq,reduceAdd,reduceLT,reduceLeDiff,reduceSub,csFx,hwI])
    (repeat refine And.intro (by first|omega|(simp;omega)) ?_)
    refine keep [1,2,7,9,10,12,46] ?_
    (try simp only[c35_33,cw,cops,csW,csL,reduceIte,reduceEqDiff,reduceCtorEq,reduceAdd,reduceLT,reduceLeDiff,reduceSub,csFx,hwI])
    (repeat refine And.intro (by first|omega|(simp;omega)) ?_)
    (try simp only[cw,cops,csW,csL,reduceIte,reduceEqDiff,reduceCtorEq,reduceAdd,reduceLT,reduceLeDiff,reduceSub,csFx,hwI])
    (repeat refine And.intro (by first|omega|(simp;omega)) ?_)
    refine keep [1,2,7,9,10,12] ?_
    (try simp only[c35_59,c35_56,c35_55,c35_37,l35_35,cw,cops,csW,csL,reduceIte,reduceEqDiff,reduceCtorEq,reduceAdd,reduceLT,reduceLeDiff,reduceSub,csFx,hwI])
    (repeat refine And.intro (by first|omega|(simp;omega)) ?_)
    refine⟨_,cx (gcX_con w c (by omega) (by omega)),?_⟩
    (try simp only[l35_36,cw,cops,csW,csL,reduceIte,reduceEqDiff,reduceCtorEq,reduceAdd,reduceLT,reduceLeDiff,reduceSub,csFx])
    (repeat refine And.intro (by first|omega|(simp;omega)) ?_)
    refine keep [1,2,7,9,10,12,13] ?_
    (try simp only[c35_54,c35_47,c35_40,l35_38,cw,cops,csW,csL,reduceIte,reduceEqDiff,reduceCtorEq,reduceAdd,reduceLT,reduceLeDiff,reduceSub,csFx])
    (repeat refine And.intro (by first|omega|(simp;omega)) ?_)
    refine⟨_,cx (divX_con w (by omega) (by omega) hy.ne),?_⟩
    (try simp only[l35_39,cw,cops,csW,csL,reduceIte,reduceEqDiff,reduceCtorEq,reduceAdd,reduceLT,reduceLeDiff,reduceSub,csFx])
    (repeat refine And.intro (by first|omega|(simp;omega)) ?_)
    refine keep [1,2,7,9,12,13,14] ?_
    (try simp only[c35_46,c35_42,l35_41,cw,cops,csW,csL,reduceIte,reduceEqDiff,reduceCtorEq,reduceAdd,reduceLT,reduceLeDiff,reduceSub,csFx])
    (repeat refine And.intro (by first|omega|(simp;omega)) ?_)
    refine keep [1,2,7,9,12,13,14,62] ?_
    (try simp only[c35_45,cw,cops,csW,csL,reduceIte,reduceEqDiff,reduceCtorEq,reduceAdd,reduceLT,reduceLeDiff,reduceSub,csFx])
    (repeat refine And.intro (by first|omega|(simp;omega)) ?_)
    by_cases hz:1<dg (qo w (gc w c))
    ·have hzI:(1:Int)<((qo w (gc w c)).l.length:Int):=by unfold dg at hz;omega
     rw[if_pos hz] at he1
     refine⟨fun _ => ?_,fun hh=>absurd hh (by simp;omega)⟩
     (try simp only[c35_44,l35_43,cw,cops,csW,csL,reduceIte,reduceEqDiff,reduceCtorEq,reduceAdd,reduceLT,reduceLeDiff,reduceSub,csFx,hntI,happ,hoN,List.length_map])
     (repeat refine And.intro (by first|omega|(simp;omega)) ?_)
     refine keep [1,2,7,9,12,13] ?_
     (try simp only[c35_53,c35_49,l35_48,cw,cops,csW,csL,reduceIte,reduceEqDiff,reduceCtorEq,reduceAdd,reduceLT,reduceLeDiff,reduceSub,csFx,hntI,happ,hoN,List.length_map])
     (repeat refine And.intro (by first|omega|(simp;omega)) ?_)
     refine keep [1,2,7,9,10,12,13] ?_
     (try simp only[c35_52,l35_50,cw,cops,csW,csL,reduceIte,reduceEqDiff,reduceCtorEq,reduceAdd,reduceLT,reduceLeDiff,reduceSub,csFx,hntI,happ,hoN,List.length_map])
     (repeat refine And.intro (by first|omega|(simp;omega)) ?_)
     refine⟨_,cx (divX_con c (by omega) (by omega) hy.ne),?_⟩
     (try simp only[l35_51,cw,cops,csW,csL,reduceIte,reduceEqDiff,reduceCtorEq,reduceAdd,reduceLT,reduceLeDiff,reduceSub,csFx])
     (repeat refine And.intro (by first|omega|(simp;omega)) ?_)
     refine keep [1,2,7,9,10,12] ?_
     (try simp only[c35_58,l35_57,cw,cops,csW,csL,reduceIte,reduceEqDiff,reduceCtorEq,reduceAdd,reduceLT,reduceLeDiff,reduceSub,csFx])
     (repeat refine And.intro (by first|omega|(simp;omega)) ?_)
     refine⟨(o++[(qo w (gc w c),n*t)],gc w c,qo c (gc w c),n+1,m,N+1),⟨hj.next,by simp only;omega,by simp only;omega,by simp only;omega,by simp only;omega,by simp only;omega,by simp only[List.append_assoc];exact he1,he2,by simp[hoN],by simp only;omega⟩,(Sub.toG [1,2,7,9,10,12] [69] (by rfl) (by rfl) (by rfl) (by rfl)),by simp only;omega⟩
    ·have hzI:¬ (1:Int)<((qo w (gc w c)).l.length:Int):=by unfold dg at hz;omega
     rw[if_neg hz,List.nil_append] at he1
     refine⟨fun hh=>absurd hh (by simp;omega),fun _ => ?_⟩
     (try simp only[cw,cops,csW,csL,reduceIte,reduceEqDiff,reduceCtorEq,reduceAdd,reduceLT,reduceLeDiff,reduceSub,csFx])
     (repeat refine And.intro (by first|omega|(simp;omega)) ?_)
     refine keep [1,2,7,9,12,13] ?_
     (try simp only[c35_53,c35_49,l35_48,cw,cops,csW,csL,reduceIte,reduceEqDiff,reduceCtorEq,reduceAdd,reduceLT,reduceLeDiff,reduceSub,csFx])
     (repeat refine And.intro (by first|omega|(simp;omega)) ?_)
     refine keep [1,2,7,9,10,12,13] ?_
     (try simp only[c35_52,l35_50,cw,cops,csW,csL,reduceIte,reduceEqDiff,reduceCtorEq,reduceAdd,reduceLT,reduceLeDiff,reduceSub,csFx])
     (repeat refine And.intro (by first|omega|(simp;omega)) ?_)
     refine⟨_,cx (divX_con c (by omega) (by omega) hy.ne),?_⟩
     (try simp only[l35_51,cw,cops,csW,csL,reduceIte,reduceEqDiff,reduceCtorEq,reduceAdd,reduceLT,reduceLeDiff,reduceSub,csFx])
     (repeat refine And.intro (by first|omega|(simp;omega)) ?_)
     refine keep [1,2,7,9,10,12] ?_
     (try simp only[c35_58,l35_57,cw,cops,csW,csL,reduceIte,reduceEqDiff,reduceCtorEq,reduceAdd,reduceLT,reduceLeDiff,reduceSub,csFx])
     (repeat refine And.intro (by first|omega|(simp;omega)) ?_)
     refine⟨(o,gc w c,qo c (gc w c),n+1,m,N),⟨hj.next,by simp only;omega,by simp only;omega,by simp only;omega,by simp only;omega,by simp only;omega,he1,he2,hoN,by simp only;omega⟩,(Sub.toG [1,2,7,9,10,12] [69] (by rfl) (by rfl) (by rfl) (by rfl)),by simp only;omega⟩
   ·have hwI:¬ (1:Int)<(w.l.length:Int):=by unfold dg at hw;omega
    have hend:sqW j w c n t=([],c):=by
     cases j with
     | zero=>rfl
     | succ j=>rw[sqW,if_pos (by omega)]
    rw[hend] at he1 he2
    simp only[List.append_nil] at he1 he2
    subst he2
    (try simp only[c35_60,c35_34,c35_32,l35_31,cw,cops,csW,csL,reduceIte,reduceEqDiff,reduceCtorEq,reduceAdd,reduceLT,reduceLeDiff,reduceSub,csFx,hwI])
    (repeat refine And.intro (by first|omega|(simp;omega)) ?_)
    refine keep [1,2,7,9,10,12,46] ?_
    (try simp only[c35_33,cw,cops,csW,csL,reduceIte,reduceEqDiff,reduceCtorEq,reduceAdd,reduceLT,reduceLeDiff,reduceSub,csFx,hwI])
    (repeat refine And.intro (by first|omega|(simp;omega)) ?_)
    have htk:(o.map fD).take N=o.map fD:=List.take_of_length_le (by simp[hoN])
    have hNo:(N=o.length)=True:=eq_true hoN.symm
    have hNo2:(N≤o.length)=True:=eq_true (by omega)
    (try simp only[cw,cops,csW,csL,reduceIte,reduceEqDiff,reduceCtorEq,reduceAdd,reduceLT,reduceLeDiff,reduceSub,csFx,hwI])
    (repeat refine And.intro (by first|omega|(simp;omega)) ?_)
    refine keep [1,2,7,9] ?_
    (try simp only[c35_75,c35_71,c35_65,l35_64,cw,cops,csW,csL,reduceIte,reduceEqDiff,reduceCtorEq,reduceAdd,reduceLT,reduceLeDiff,reduceSub,csFx,hwI])
    (repeat refine And.intro (by first|omega|(simp;omega)) ?_)
    refine keep [1,2,7,9,81] ?_
    (try simp only[c35_70,cw,cops,csW,csL,reduceIte,reduceEqDiff,reduceCtorEq,reduceAdd,reduceLT,reduceLeDiff,reduceSub,csFx,hwI])
    (repeat refine And.intro (by first|omega|(simp;omega)) ?_)
    have hcv:∀ q,Irr q→val q R.2=if val q f % pn P=0 then val q f else 0:=hok.2.1
    by_cases hc2:1<dg R.2
    ·have hcI:(1:Int)<(R.2.l.length:Int):=by unfold dg at hc2;omega
     have hcd2:der R.2=0:=der_of_pp hok.1 fun q hq=>by
      rw[hcv q hq];split
      ·assumption
      ·simp
     have hle2:dg R.2≤dg f:=dg_dvd (dvd_of_val hok.1 hm.ne fun q hq=>by rw[hcv q hq];split<;>omega) hm.ne
     have h3:=rt_lt hok.1 hcd2 hc2
     have h5:=rt_mo hok.1 hcd2
     have h6:2≤dg (rt R.2):=by
      apply Classical.byContradiction
      intro h7
      have h8:=h5.one (by omega)
      have h9:=rt_pw hcd2
      rw[h8,pw_one] at h9
      rw[←h9,dg_1] at hc2
      omega
     have hb:t*pn P*(dg (rt R.2)-1)≤t*(dg f-1):=by
      rw[Nat.mul_assoc];exact Nat.mul_le_mul_left _ (by omega)
     have h7:t*pn P≤1000:=by
      have h8:t*pn P*1≤t*pn P*(dg (rt R.2)-1):=Nat.mul_le_mul_left _ (by omega)
      omega
     have happ:=fD_app2 o (sqL k (rt R.2) (t*pn P))
     have hlen:=sqL_len k (rt R.2) (t*pn P) h5 (by omega)
     have hl3:(N+(sqL k (rt R.2) (t*pn P)).length≤(o++sqL k (rt R.2) (t*pn P)).length)=True:=eq_true (by rw[List.length_append];omega)
     have htk3:((o++sqL k (rt R.2) (t*pn P)).map fD).take (N+(sqL k (rt R.2) (t*pn P)).length)=(o++sqL k (rt R.2) (t*pn P)).map fD:=List.take_of_length_le (by simp[hoN])
     refine⟨fun _ => ?_,fun hh=>absurd hh (by simp;omega)⟩
     (try simp only[c35_69,l35_66,cw,cops,csW,csL,reduceIte,reduceEqDiff,reduceCtorEq,reduceAdd,reduceLT,reduceLeDiff,reduceSub,csFx])
     (repeat refine And.intro (by first|omega|(simp;omega)) ?_)
     refine⟨_,cx (rooted_con R.2 (by omega) hcd2),?_⟩
     (try simp only[l35_67,cw,cops,csW,csL,reduceIte,reduceEqDiff,reduceCtorEq,reduceAdd,reduceLT,reduceLeDiff,reduceSub,csFx,htp])
     (repeat refine And.intro (by first|omega|(simp;omega)) ?_)
     refine⟨_,cx (ih (rt R.2) (t*pn P) _ h5 (by omega) (by omega) (by omega) (by have:1*1≤t*pn P:=Nat.mul_le_mul ht1 (by have:=pn_2 P;omega);omega) (by omega) h7),?_⟩
     (try simp only[l35_68,cw,cops,csW,csL,reduceIte,reduceEqDiff,reduceCtorEq,reduceAdd,reduceLT,reduceLeDiff,reduceSub,csFx,happ,Bool.true_or,Nat.le_refl,htk,hNo,hl3,htk3,List.length_map])
     (repeat refine And.intro (by first|omega|(simp;omega)) ?_)
     refine keepF 207 _ [7] (by rfl) ?_
     (try simp only[c35_74,c35_73,l35_72,cw,cops,csW,csL,reduceIte,reduceEqDiff,reduceCtorEq,reduceAdd,reduceLT,reduceLeDiff,reduceSub,csFx,happ,Bool.true_or,Nat.le_refl,htk,hNo,hl3,htk3,List.length_map])
     (repeat refine And.intro (by first|omega|(simp;omega)) ?_)
     refine keep [6] ?_
     (try simp only[cw,cops,csW,csL,reduceIte,reduceEqDiff,reduceCtorEq,reduceAdd,reduceLT,reduceLeDiff,reduceSub,csFx,Ends,resD,resL,resV,happ,Bool.true_or,Nat.le_refl,htk,hNo,hl3,htk3,List.length_map])
     (repeat refine And.intro (by first|omega|(simp;omega)) ?_)
     rw[hsq,if_pos hc2,he1]
    ·have hcI:¬ (1:Int)<(R.2.l.length:Int):=by unfold dg at hc2;omega
     refine⟨fun hh=>absurd hh (by simp;omega),fun _ => ?_⟩
     (try simp only[cw,cops,csW,csL,reduceIte,reduceEqDiff,reduceCtorEq,reduceAdd,reduceLT,reduceLeDiff,reduceSub,csFx,Bool.true_or,Nat.le_refl,htk,hNo2,List.length_map])
     (repeat refine And.intro (by first|omega|(simp;omega)) ?_)
     refine keepF 207 _ [7] (by rfl) ?_
     (try simp only[c35_74,c35_73,l35_72,cw,cops,csW,csL,reduceIte,reduceEqDiff,reduceCtorEq,reduceAdd,reduceLT,reduceLeDiff,reduceSub,csFx,Bool.true_or,Nat.le_refl,htk,hNo2,List.length_map])
     (repeat refine And.intro (by first|omega|(simp;omega)) ?_)
     refine keep [6] ?_
     (try simp only[cw,cops,csW,csL,reduceIte,reduceEqDiff,reduceCtorEq,reduceAdd,reduceLT,reduceLeDiff,reduceSub,csFx,Ends,resD,resL,resV,Bool.true_or,Nat.le_refl,htk,hNo2,List.length_map])
     (repeat refine And.intro (by first|omega|(simp;omega)) ?_)
     rw[hsq,if_neg hc2,List.append_nil,←he1]
end Go.Proofs.Ytlnhembcfhfpkaa.M
