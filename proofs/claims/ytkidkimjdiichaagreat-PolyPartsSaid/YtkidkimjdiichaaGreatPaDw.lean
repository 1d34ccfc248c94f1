/- Polynomials: the parts without squares, in the program. A fraction that is written and read. Fractions of short texts: how large they are; how long texts are together. Polynomials: Parts. PolyParts: what its loop reckons. -/
import Derived.Test.YtkidkimjdiichaaGreatRvNw
import Derived.Test.YtkidkimjdiichaaGreatRvCw
import Derived.Test.YtkidkimjdiichaaGreatPoDw
section
namespace Go.Proofs.YtkidkimjdiichaaGreat.M
open Go.RowKit
set_option linter.unusedSimpArgs false
set_option linter.unusedVariables false
set_option linter.defProp false
theorem gS201 (x:Nat):gS x 8 201=403*x+4431:=by unfold gS;omega
structure SP (e n:Nat):Prop where
 e10:10≤e
 nn:660000*(e+10000)<n
 bg:n≤big
theorem Ys.blen {P b1:List Rat} {e k:Nat} {r b c a:List Rat} {l:List (List Rat × Nat)} (h:Ys P b1 e k r b c a l) (hL:P.length≤201):b.length≤201∧c.length≤201:=by
 have h1:=h.y.lens
 have h2:=h.y.clen
 have h3:=List.length_pos_iff.2 h.y.a0
 have h4:=h.kr
 omega
theorem Ys.round {P b1:List Rat} (nP:Nf P) (hP0:P≠[]) {e k n:Nat} (hP:Sz e P) (hL:P.length≤201) {r b c a:List Rat} {l:List (List Rat × Nat)} (h:Ys P b1 e k r b c a l) (hb:2≤b.length) (hs:SP e n) {g:List Rat} (hg:IsGcd b (subQ c (derQ b)) g) :
  Con Tryz.prog AN 40 [pI b] (pI (derQ b))∧Con Tryz.prog AN 19 [pI c,pI (derQ b)] (pI (subQ c (derQ b)))∧Con Tryz.prog AN 57 [pI b,pI (subQ c (derQ b))] (pI g) ∧
  Con Tryz.prog AN 25 [pI b,pI g] (.tup [pI (quoQ b g),pI (remQ b g),flt 0 0])∧Con Tryz.prog AN 25 [pI (subQ c (derQ b)),pI g] (.tup [pI (quoQ (subQ c (derQ b)) g),pI (remQ (subQ c (derQ b)) g),flt 0 0]):=by
 obtain⟨hb1,hc1⟩:=h.blen hL
 obtain⟨-,-,sg,lg⟩:=h.next nP hP0 hP hL hb hg
 have g0:g≠[]:=fun e0=>h.y.b0 (by
  obtain⟨m,_,hm⟩:=hg.dp
  exact ev_0 h.y.nb fun x=>by rw[hm,e0,evQ_nil];grind)
 have lg1:ld g=1:=hg.mo.resolve_left g0
 have eB:sB e=2*e+4021:=rfl
 have eC:sC e=2*e+8057:=rfl
 obtain⟨E,hE⟩:∃ E,E=sC e+(sB e+8)+1:=⟨_,rfl⟩
 have hG:=gS201 E
 have h2:=hs.nn
 have h1:=hs.e10
 have sbn:=h.sb
 have scn:=h.sc
 have sd:=sbn.der (by omega)
 have hdl:=der_lt h.y.b0
 have se:=scn.sub sd
 have hel:=sub_len c (derQ b)
 rw[←hE] at se
 have sb2:Sz E b:=sbn.mono (by omega)
 have b0:Bl (sB e+1) b:=sbn.bl (by omega)
 obtain⟨F,hF⟩:∃ F,F=e+4020:=⟨_,rfl⟩
 have sg':Sz F (monQ g):=by rw[mon_self hg.ng (.inr lg1),hF];exact sg
 have lgb:Bq 10 (ld g):=by rw[lg1];exact bq_1 10 (by omega)
 have hgl:=List.length_pos_iff.2 g0
 refine⟨derive_con b _ n b0 (by omega) hs.bg (by omega),subz_con scn sd (by omega) (by omega) (by omega) hs.bg,?_,?_,?_⟩
 ·exact gcd_con (n:=n) b _ h.y.nb (nf_sub _ _) (e:=E) (r:=8) (L:=201) sb2 se hb1 (by omega) (by omega) (by omega) (by omega) hs.bg hg
 ·exact (dv_con h.y.nb hg.ng g0 sbn sg' lgb (S:=201) (by omega) (by omega) (by omega) (n:=n) (by omega) (by omega) hs.bg (by omega) (by omega)).1
 ·exact (dv_con (nf_sub _ _) hg.ng g0 se sg' lgb (S:=201) (by omega) (by omega) (by omega) (n:=n) (by omega) (by omega) hs.bg (by omega) (by omega)).1
theorem first_con {P:List Rat} (nP:Nf P) (hP0:P≠[]) {e n:Nat} (hP:Sz e P) (hL:P.length≤201) (hs:SP e n) {a:List Rat} (ha:IsGcd P (derQ P) a) :
  Con Tryz.prog AN 40 [pI P] (pI (derQ P))∧Con Tryz.prog AN 57 [pI P,pI (derQ P)] (pI a) ∧
  Con Tryz.prog AN 25 [pI P,pI a] (.tup [pI (quoQ P a),pI (remQ P a),flt 0 0])∧Con Tryz.prog AN 25 [pI (derQ P),pI a] (.tup [pI (quoQ (derQ P) a),pI (remQ (derQ P) a),flt 0 0]):=by
 have h2:=hs.nn
 have h1:=hs.e10
 have hG:=gS201 (e+8)
 have sd:=hP.der (by omega)
 have hdl:=der_lt hP0
 have y:=Yr.of nP hP0 ha
 have hal:=y.lens
 have hbl:=List.length_pos_iff.2 y.b0
 have sa:=fac_mon nP hP0 y.na y.a0 (.of (m:=quoQ P a) y.ra) hP hL
 obtain⟨F,hF⟩:∃ F,F=e+4020:=⟨_,rfl⟩
 rw[←hF] at sa
 have la:Bq 10 (ld a):=by rw[y.am];exact bq_1 10 (by omega)
 have bP:Bl (e+1) P:=hP.bl (by omega)
 refine⟨derive_con P _ n bP (by omega) hs.bg (by omega),?_,?_,?_⟩
 ·exact gcd_con (n:=n) P _ nP (der_nf _) (e:=e+8) (r:=8) (L:=201) (hP.mono (by omega)) sd hL (by omega) (by omega) (by omega) (by omega) hs.bg ha
 ·exact (dv_con nP y.na y.a0 hP sa la (S:=201) (by have:=List.length_pos_iff.2 y.a0;omega) (by omega) (by omega) (n:=n) (by omega) (by omega) hs.bg (by omega) (by omega)).1
 ·exact (dv_con (der_nf _) y.na y.a0 sd sa la (S:=201) (by have:=List.length_pos_iff.2 y.a0;omega) (by omega) (by omega) (n:=n) (by omega) (by omega) hs.bg (by omega) (by omega)).1
abbrev prt (p:List Rat × Nat):D:=.agg [LI p.1,J p.2]
set_option maxHeartbeats 4000000 in
theorem squares_con (P:List Rat) (nP:Nf P) (hP0:P≠[]) {e n:Nat} (hP:Sz e P) (hL:P.length≤201) (hs:SP e n) :
  Con Tryz.prog AN 139 [pI P] (.list 181 2 ((partsQ P).map prt)):=by
 obtain⟨a,hae⟩:∃ a,a=gcdQ P (derQ P):=⟨_,rfl⟩
 have ha:IsGcd P (derQ P) a:=by rw[hae];exact gcdQ_spec nP (der_nf P)
 obtain⟨f1,f2,f3,f4⟩:=first_con nP hP0 hP hL hs ha
 have h0:=Ys.start nP hP0 hP hL ha
 obtain⟨b1,hb1⟩:∃ b1,b1=quoQ P a:=⟨_,rfl⟩
 obtain⟨R,hR⟩:∃ R,R=partsQ P:=⟨_,rfl⟩
 have hR2:yun P.length 0 (quoQ P a) (quoQ (derQ P) a) []=R:=by rw[hR,hae];rfl
 rw[←hb1] at h0 f3 hR2
 rw[←hR]
 refine fn139.con rfl (by simp) ?_
 simp only[c139,c139_64,c139_1,l139_0,init1,cw,csW,cops,reduceCtorEq,Nat.reduceEqDiff]
 refine keep [1] ?_
 simp only[c139_63,c139_3,l139_2,csW,reduceCtorEq,Nat.reduceEqDiff,cw,cops]
 refine keep [1,3] ?_
 simp only[c139_62,c139_6,l139_4,csW,Nat.reduceEqDiff,cw,cops,csP]
 refine⟨_,f1,?_⟩
 simp only[l139_5,cops,csW,csP,Nat.reduceEqDiff]
 refine keep [1,3,4] ?_
 simp only[c139_61,c139_9,l139_7,csW,Nat.reduceEqDiff,cw,cops,csP]
 refine⟨_,f2,?_⟩
 simp only[l139_8,cops,csW,csP,Nat.reduceEqDiff]
 refine keep [1,3,4,5] ?_
 simp only[c139_60,c139_12,l139_10,csW,Nat.reduceEqDiff,cw,cops,csP]
 refine⟨_,f3,?_⟩
 simp only[l139_11,csP,cops,csW,Nat.reduceEqDiff,Nat.reduceAdd]
 refine keep [3,4,5,6] ?_
 simp only[c139_59,c139_15,l139_13,csW,Nat.reduceEqDiff,cw,cops,csP]
 refine⟨_,f4,?_⟩
 simp only[l139_14,csP,cops,csW,Nat.reduceEqDiff,Nat.reduceAdd]
 refine keep [3,6,9] ?_
 simp only[c139_58,c139_54,c139_17,l139_16,csW,Nat.reduceEqDiff,cw,cops]
 refine keep [3,6,9,12] ?_
 simp only[c139_53,csW,Nat.reduceEqDiff,cw]
 refine loop_of (ι:=Nat × Nat × List Rat × List Rat × List Rat × List Rat × List (List Rat × Nat)) (fun x=>Ys P b1 e x.1 x.2.2.1 x.2.2.2.1 x.2.2.2.2.1 x.2.2.2.2.2.1 x.2.2.2.2.2.2∧x.2.2.1.length≤x.2.1∧yun x.2.1 x.1 x.2.2.2.1 x.2.2.2.2.1 x.2.2.2.2.2.2=R) (fun x=>⟨look [(3,.slice 105 0 x.2.2.2.2.2.2.length),(6,.ptr 6 0 0),(9,.ptr 9 0 0),(12,.p (J ((x.1:Int)+1)))],
  lookM [(6,⟨25,1,.box (.p (pI x.2.2.2.1)),false⟩),(9,⟨25,1,.box (.p (pI x.2.2.2.2.1)),false⟩),(105,⟨181,2,.row (x.2.2.2.2.2.2.map prt),false⟩)]⟩) (fun x=>x.2.1) (0,P.length,P,b1,quoQ (derQ P) a,a,[]) ⟨h0,Nat.le_refl _,hR2⟩ ((Sub.keepG [3,6,9,12] [1,4,5,7,8,10,11] (by rfl) (by rfl)).tr (Sub.nilG 3 105 181 2 (by rfl) (by rfl) (by decide) (by rfl) (by rfl))) ?_
 rintro⟨k,N,r,b,c,a,l⟩ ⟨hy,hN,hRR⟩
 simp only at hy hN hRR
 obtain⟨hbl,hcl⟩:=hy.blen hL
 have hkr:=hy.kr
 have hll:=hy.ll
 by_cases hb:b.length≤1
 ·have hI:¬ (0:Int)<(b.length:Int)-1:=by omega
  rw[yun_stop hb] at hRR
  subst hRR
  simp only[c139_51,c139_22,c139_20,l139_18,csW,cw,cops,Nat.reduceEqDiff,csP]
  refine⟨_,degree_con b (by omega),?_⟩
  simp only[l139_19,cops,csW,Nat.reduceEqDiff,hI]
  refine keep [3,6,9,12,36] ?_
  simp only[c139_21,csW,Nat.reduceEqDiff,cw]
  have htk:(l.map prt).take l.length=l.map prt:=List.take_of_length_le (by simp)
  refine keep [3] ?_
  simp only[c139_57,c139_56,l139_55,csW,Nat.reduceEqDiff,cw,cops]
  refine keep [2] ?_
  simp only[Ends,resD,resL,resV,csW,Nat.reduceEqDiff,Bool.or_true,Nat.le_refl,htk]
 ·have hI:(0:Int)<(b.length:Int)-1:=by omega
  obtain⟨g,hge⟩:∃ g,g=gcdQ b (subQ c (derQ b)):=⟨_,rfl⟩
  have hg:IsGcd b (subQ c (derQ b)) g:=by rw[hge];exact gcdQ_spec hy.y.nb (nf_sub _ _)
  obtain⟨c1,c2,c3,c4,c5⟩:=hy.round nP hP0 hP hL (by omega) hs hg
  obtain⟨⟨a2,hnext⟩,hlt,sg,lg⟩:=hy.next nP hP0 hP hL (by omega) hg
  have hN1:0<N:=by omega
  obtain⟨M,rfl⟩:∃ M,N=M+1:=⟨N-1,by omega⟩
  rw[yun,if_neg hb,←hge] at hRR
  simp only[c139_51,c139_22,c139_20,l139_18,csW,cw,cops,Nat.reduceEqDiff,csP]
  refine⟨_,degree_con b (by omega),?_⟩
  simp only[l139_19,cops,csW,Nat.reduceEqDiff,hI]
  refine keep [3,6,9,12,36] ?_
  simp only[c139_21,csW,Nat.reduceEqDiff,cw]
  refine keep [3,6,9,12] ?_
  simp only[c139_50,c139_47,c139_46,c139_26,l139_23,csW,Nat.reduceEqDiff,cw,cops,csP]
  refine⟨_,c1,?_⟩
  simp only[l139_24,cops,csW,Nat.reduceEqDiff]
  refine⟨_,c2,?_⟩
  simp only[l139_25,cops,csW,csP,Nat.reduceEqDiff]
  refine keep [3,6,9,12,13] ?_
  simp only[c139_45,c139_29,l139_27,csW,Nat.reduceEqDiff,cw,cops,csP]
  refine⟨_,c3,?_⟩
  simp only[l139_28,cops,csW,csP,Nat.reduceEqDiff]
  refine keep [3,6,9,12,13,14] ?_
  simp only[c139_44,c139_36,c139_32,l139_30,csW,Nat.reduceEqDiff,cw,cops,csP]
  by_cases hgl:2≤g.length
  ·have hJ:(0:Int)<(g.length:Int)-1:=by omega
   rw[if_pos hgl] at hRR hnext
   refine⟨_,degree_con g (by omega),?_⟩
   simp only[l139_31,cops,csW,Nat.reduceEqDiff,hJ]
   refine keep [3,6,9,12,13,14,48] ?_
   simp only[c139_35,csW,Nat.reduceEqDiff,cw]
   simp only[c139_34,l139_33,cw,csW,cops,csP,Nat.reduceAdd,Nat.reduceLeDiff,Nat.reduceEqDiff]
   (repeat refine And.intro (by first | omega | (simp;omega)) ?_)
   refine keep [3,6,9,12,13,14] ?_
   simp only[c139_43,c139_39,l139_37,csW,Nat.reduceEqDiff,cw,cops,csP]
   refine⟨_,c4,?_⟩
   simp only[l139_38,csP,cops,csW,Nat.reduceEqDiff]
   refine keep [3,6,9,12,13,14] ?_
   simp only[c139_42,l139_40,csW,Nat.reduceEqDiff,cw,cops,csP]
   refine⟨_,c5,?_⟩
   simp only[l139_41,csP,cops,csW,Nat.reduceEqDiff]
   refine keep [3,6,9,12] ?_
   simp only[c139_49,l139_48,csW,Nat.reduceEqDiff,cw,cops]
   (repeat refine And.intro (by first | omega | (simp;omega)) ?_)
   exact⟨(k+1,M,sclQ a (ld b),quoQ b g,quoQ (subQ c (derQ b)) g,a2,l++[(g,k+1)]),⟨hnext,by simp only;omega,hRR⟩,by simp only[List.map_append,List.map_cons,List.map_nil,List.length_append,List.length_cons,List.length_nil];exact (Sub.toG [3,6,9,12] [1,4,5,7,8,10,11,13,14,53] (by rfl) (by rfl) (by rfl) (by rfl)),by simp⟩
  ·have hJ:¬ (0:Int)<(g.length:Int)-1:=by omega
   rw[if_neg hgl] at hRR hnext
   refine⟨_,degree_con g (by omega),?_⟩
   simp only[l139_31,cops,csW,Nat.reduceEqDiff,hJ]
   refine keep [3,6,9,12,13,14,48] ?_
   simp only[c139_35,csW,Nat.reduceEqDiff,cw]
   refine keep [3,6,9,12,13,14] ?_
   simp only[c139_43,c139_39,l139_37,csW,Nat.reduceEqDiff,cw,cops,csP]
   refine⟨_,c4,?_⟩
   simp only[l139_38,csP,cops,csW,Nat.reduceEqDiff]
   refine keep [3,6,9,12,13,14] ?_
   simp only[c139_42,l139_40,csW,Nat.reduceEqDiff,cw,cops,csP]
   refine⟨_,c5,?_⟩
   simp only[l139_41,csP,cops,csW,Nat.reduceEqDiff]
   refine keep [3,6,9,12] ?_
   simp only[c139_49,l139_48,csW,Nat.reduceEqDiff,cw,cops]
   (repeat refine And.intro (by first | omega | (simp;omega)) ?_)
   exact⟨(k+1,M,sclQ a (ld b),quoQ b g,quoQ (subQ c (derQ b)) g,a2,l),⟨hnext,by simp only;omega,hRR⟩,(Sub.toG [3,6,9,12] [1,4,5,7,8,10,11,13,14,53] (by rfl) (by rfl) (by rfl) (by rfl)),by simp⟩
end Go.Proofs.YtkidkimjdiichaaGreat.M
end

section
namespace Go.Proofs.YtkidkimjdiichaaGreat.M
theorem t_isDig {c:UInt8} (h:48≤c.toNat∧c.toNat≤57):isDig c=true:=by
 unfold isDig
 simpa[UInt8.le_iff_toNat_le] using h
theorem t_digs (n:Nat):∀ c∈rdec n,isDig c=true:=by
 induction n using Nat.strongRecOn with
 | ind n ih =>
  intro c hc
  rcases Nat.eq_zero_or_pos n with h | h
  ·subst h;rw[rdec_zero] at hc;cases hc
  ·rw[rdec_pos h] at hc
   rcases List.mem_cons.1 hc with rfl | hc
   ·exact t_isDig (by rw[dch_toNat (by omega)];omega)
   ·exact ih (n / 10) (by omega) c hc
theorem t_len {n k:Nat} (h:n<10^k):(rdec n).length≤k:=by
 induction k generalizing n with
 | zero =>
      obtain rfl:n=0:=by simpa using h
      rw[rdec_zero];simp
 | succ k ih =>
  rcases Nat.eq_zero_or_pos n with h0 | h0
  ·subst h0;rw[rdec_zero];simp
  ·rw[rdec_pos h0]
   have h1:n / 10<10^k:=by rw[Nat.pow_succ] at h;omega
   have h2:=ih h1
   simp;omega
theorem t_last {n:Nat} (h:0<n):∃ c t,(rdec n).reverse=c::t∧48<c.toNat∧c.toNat≤57:=by
 induction n using Nat.strongRecOn with
 | ind n ih =>
  rw[rdec_pos h]
  rcases Nat.eq_zero_or_pos (n / 10) with h1 | h1
  ·rw[h1,rdec_zero]
   refine⟨dch (n % 10),[],rfl,?_⟩
   rw[dch_toNat (by omega)]
   omega
  ·obtain⟨c,t,h2,h3⟩:=ih (n / 10) (by omega) h1
   exact⟨c,t++[dch (n % 10)],by rw[List.reverse_cons,h2];rfl,h3⟩
theorem t_run {l:List UInt8} (v:List UInt8) (h:∀ c∈l,isDig c=true):digRun (l++47::v)=l.length:=by
 unfold digRun
 induction l with
 | nil=>rfl
 | cons c t ih =>
  rw[List.cons_append,List.takeWhile_cons_of_pos (h c (.head _)),List.length_cons,List.length_cons,ih (fun c hc=>h c (.tail _ hc))]
theorem t_full {l:List UInt8} (h:∀ c∈l,isDig c=true):digRun l=l.length:=by
 unfold digRun
 induction l with
 | nil=>rfl
 | cons c t ih =>
  rw[List.takeWhile_cons_of_pos (h c (.head _)),List.length_cons,List.length_cons,ih (fun c hc=>h c (.tail _ hc))]
theorem t_ndigs (n:Nat):∀ c∈decN n,isDig c=true:=by
 unfold decN
 split
 ·intro c hc;simp at hc;subst hc;decide
 ·intro c hc
  exact t_digs n c (by simpa using hc)
theorem t_head {n:Nat}:∃ c t,decN n=c::t∧48≤c.toNat∧c.toNat≤57∧(c=48→n=0):=by
 unfold decN
 split
 ·rename_i h;exact⟨48,[],rfl,by decide,by decide,fun _=>h⟩
 ·rename_i h
  obtain⟨c,t,h1,h2,h3⟩:=t_last (n:=n) (by omega)
  refine⟨c,t,h1,by omega,h3,fun e => ?_⟩
  subst e
  simp at h2
theorem t_nlen {n k:Nat} (hk:1≤k) (h:n<10^k):(decN n).length≤k:=by
 unfold decN
 split
 ·simpa using hk
 ·rw[List.length_reverse];exact t_len h
theorem t_neg (z:Int) (v:List UInt8):isNeg (dec z++v)=decide (z<0):=by
 obtain⟨c,t,hc,h1,h2,_⟩:=t_head (n:=z.natAbs)
 unfold dec
 by_cases hz:z<0
 ·rw[if_pos hz];simp[isNeg,hz]
 ·rw[if_neg hz,hc]
  simp only[isNeg,List.cons_append,List.head?_cons,hz,decide_false]
  rw[beq_eq_false_iff_ne]
  intro e
  injection e with e
  subst e
  simp at h1
theorem t_body (z:Int):body (dec z)=decN z.natAbs:=by
 have hn:=t_neg z []
 rw[List.append_nil] at hn
 by_cases hz:z<0
 ·rw[body_neg (by rw[hn];simp[hz])];unfold dec;rw[if_pos hz];rfl
 ·rw[body_pos (by rw[hn];simp[hz])];unfold dec;rw[if_neg hz]
theorem t_drop (z:Int) (v:List UInt8):(dec z++v).drop (if true&&isNeg (dec z++v) then 1 else 0)=decN z.natAbs++v∧(dec z).length=(if true&&isNeg (dec z++v) then 1 else 0)+(decN z.natAbs).length:=by
 rw[t_neg]
 unfold dec
 by_cases hz:z<0<;>simp[hz]
 omega
theorem t_numLen (z:Int) (v:List UInt8) (hv:v=[]∨∃ w,v=47::w):numLen true (dec z++v)=((dec z).length,true):=by
 obtain⟨hdr,hlen⟩:=t_drop z v
 obtain⟨c,t,hc,h1,h2,h48⟩:=t_head (n:=z.natAbs)
 have hpos:0<(decN z.natAbs).length:=by rw[hc];simp
 have hrun:digRun (decN z.natAbs++v)=(decN z.natAbs).length:=by
  rcases hv with rfl | ⟨w,rfl⟩
  ·rw[List.append_nil];exact t_full (t_ndigs _)
  ·exact t_run w (t_ndigs _)
 cases h:((decN z.natAbs++v).head? == some 48)
 ·have hr:=numLen_run (sg:=true) (t:=dec z++v) rfl (by rw[hdr];exact h) rfl
  rw[hdr,hrun] at hr
  rw[hr,hlen]
  simp
  omega
 ·have h0:z.natAbs=0:=by
   rw[hc] at h
   simp only[List.cons_append,List.head?_cons,beq_iff_eq,Option.some.injEq] at h
   exact h48 h
  obtain rfl:z=0:=by omega
  rw[dec_zero]
  have:=numLen_zero (sg:=true) (t:=[48]++v) (f:=0) (by simp[isNeg]) (by simp)
  rw[this];simp
theorem t_numLenF {n:Nat} (hn:0<n):numLen false (decN n)=((decN n).length,true):=by
 obtain⟨c,t,hc,h1,h2,h48⟩:=t_head (n:=n)
 have hpos:0<(decN n).length:=by rw[hc];simp
 have h:(((decN n).drop 0).head? == some 48)=false:=by
  rw[List.drop_zero,hc]
  simp only[List.head?_cons]
  rw[beq_eq_false_iff_ne]
  intro e
  injection e with e
  have:=h48 e
  omega
 have hr:=numLen_run (sg:=false) (t:=decN n) (f:=0) rfl h rfl
 rw[List.drop_zero,t_full (t_ndigs _),Nat.zero_add] at hr
 rw[hr];simp[hpos]
theorem t_parse {z:Int} {k:Nat} (hk:1≤k) (hk2:k≤1000) (h:z.natAbs<10^k):parseZ (dec z)=z:=by
 have hn:=t_neg z []
 have hnum:=t_numLen z [] (.inl rfl)
 rw[List.append_nil] at hn hnum
 have hok:numOk (dec z)=true:=by unfold numOk;rw[hnum];simp
 unfold parseZ
 rw[if_pos hok,t_body,if_pos (Nat.le_trans (t_nlen hk h) hk2)]
 unfold numVal
 rw[hn,t_body,readN_decN]
 unfold sg
 by_cases hz:z<0
 ·simp[hz];omega
 ·simp[hz];omega
theorem t_frac {x:Rat} {k:Nat} (hk:1≤k) (hk2:k≤1000) (h1:x.num.natAbs<10^k) (h2:x.den<10^k):fracR (frText x.num x.den)=(x.num,(x.den:Int),0,0):=by
 by_cases hd:x.den=1
 ·have e:frText x.num x.den=dec x.num:=by unfold frText;rw[if_pos (by rw[hd];rfl)]
  have hn:=t_numLen x.num [] (.inl rfl)
  rw[List.append_nil] at hn
  rw[e,fracR_whole (by rw[hn]) (by rw[hn];exact Nat.le_refl _),t_body,if_pos (Nat.le_trans (t_nlen hk h1) hk2),t_parse hk hk2 h1,hd];rfl
 ·have e:frText x.num x.den=dec x.num++47::decN x.den:=by
   unfold frText
   rw[if_neg (by omega)]
   congr 2
  have hn:=t_numLen x.num (47::decN x.den) (.inr ⟨_,rfl⟩)
  have hdp:0<x.den:=x.den_pos
  have hf:=t_numLenF hdp
  have htake:(dec x.num++47::decN x.den).take (dec x.num).length=dec x.num:=List.take_left' rfl
  have hdrop:(dec x.num++47::decN x.den).drop ((dec x.num).length+1)=decN x.den:=by
   rw[List.drop_append];simp
  have hbyt:byt (dec x.num++47::decN x.den) (dec x.num).length=47:=by
   unfold byt;simp
  have hpd:parseZ (decN x.den)=x.den:=by
   have:=t_parse (z:=(x.den:Int)) hk hk2 (by rw[Int.natAbs_natCast];exact h2)
   rwa[show dec (x.den:Int)=decN x.den by unfold dec;rw[if_neg (by omega),Int.natAbs_natCast]] at this
  have hx:Rat.divInt x.num (x.den:Int)=x:=Rat.num_divInt_den x
  have e1:frN x.num (x.den:Int)=x.num:=by rw[frN_rat (by omega),hx]
  have e2:frD x.num (x.den:Int)=x.den:=by rw[frD_rat (by omega),hx]
  have hc:=fracR_cut (t:=dec x.num++47::decN x.den) (by rw[hn]) (by rw[hn];simp) (by rw[hn];exact hbyt)
  rw[hn] at hc
  simp only[htake,hdrop] at hc
  rw[hf,t_body,hpd,t_parse hk hk2 h1,e1,e2,e] at hc
  rw[e,hc,if_pos ⟨rfl,Nat.le_refl _⟩,if_pos ⟨Nat.le_trans (t_nlen hk h1) hk2,Nat.le_trans (t_nlen hk h2) hk2⟩,if_pos rfl]
theorem t_q {x:Rat} {k:Nat} (hk:1≤k) (hk2:k≤1000) (h1:x.num.natAbs<10^k) (h2:x.den<10^k):qR (txt x)=x∧cR (txt x)=0:=by
 have h:=t_frac hk hk2 h1 h2
 have hs:=(fracR_rat (txt x)).choose_spec
 have e1:(fracR (txt x)).1=x.num:=by unfold txt;rw[h]
 have e2:(fracR (txt x)).2.1=(x.den:Int):=by unfold txt;rw[h]
 refine⟨Rat.ext ?_ ?_,?_⟩
 ·show (fracR_rat (txt x)).choose.num=x.num
  rw[←hs.1,e1]
 ·have:((qR (txt x)).den:Int)=x.den:=by
   show ((fracR_rat (txt x)).choose.den:Int)=x.den
   rw[←hs.2.1,e2]
  omega
 ·unfold cR txt;rw[h]
theorem p3000 {n m k:Nat} (hm:m≤3*k) (h:n<2^m):n<10^k:=by
 have e1:(2:Nat)^(3*k)=8^k:=by rw[Nat.pow_mul]
 have e2:(8:Nat)^k≤10^k:=Nat.pow_le_pow_left (by omega) _
 have e3:(2:Nat)^m≤2^(3*k):=Nat.pow_le_pow_right (by omega) hm
 rw[e1] at e3
 exact Nat.lt_of_lt_of_le h (Nat.le_trans e3 e2)
theorem back_new {y:List Rat} (ny:Nf y) (hl:y.length≤201) {m:Nat} (hm:m≤3000) (hb:Bl m y):newQ (txts y)=(y,0,0):=by
 have hlen:(txts y).length=y.length:=tabS_len _ _
 obtain⟨k,hk⟩:∃ k:Nat,k=1000:=⟨_,rfl⟩
 have hget:∀ j,j<y.length→(txts y).getD j []=txt (cf y j):=fun j hj=>by
  simp[txts,tabS,hj]
 have hq:∀ j,j<y.length→qR ((txts y).getD j [])=cf y j∧cR ((txts y).getD j [])=0:=fun j hj=>by
  rw[hget j hj];exact t_q (k:=k) (by omega) (by omega) (p3000 (by omega) (hb j).1) (p3000 (by omega) (hb j).2)
 rw[newQ_ok (by omega) (fun j hj=>(hq j (by omega)).2) ?_]
 ·rw[hlen,tab_ext (g:=cf y) fun j hj=>(hq j hj).1,tab_cf]
 ·rintro⟨h1,h2⟩
  rw[(hq _ (by omega)).1,hlen] at h2
  have y0:y≠[]:=fun e=>by rw[hlen,e] at h1;simp at h1
  exact ld_ne ny y0 h2
end Go.Proofs.YtkidkimjdiichaaGreat.M
end

section
namespace Go.Proofs.YtkidkimjdiichaaGreat.M
open Go.RowKit
set_option linter.unusedSimpArgs false
set_option linter.unusedVariables false
set_option linter.defProp false
theorem t_lt (n:Nat):n<10^(rdec n).length:=by
 induction n using Nat.strongRecOn with
 | ind n ih =>
  rcases Nat.eq_zero_or_pos n with h | h
  ·subst h;rw[rdec_zero];simp
  ·have h1:=ih (n / 10) (by omega)
   rw[rdec_pos h,List.length_cons,Nat.pow_succ]
   omega
theorem t_dec_lt (z:Int):z.natAbs≤10^(dec z).length:=by
 have h1:z.natAbs≤10^(decN z.natAbs).length:=by
  unfold decN
  split
  ·rename_i h;rw[h];exact Nat.zero_le _
  ·rw[List.length_reverse];exact Nat.le_of_lt (t_lt _)
 refine Nat.le_trans h1 (Nat.pow_le_pow_right (by omega) ?_)
 unfold dec
 split<;>simp
theorem t_small {a b:Int} {t:List UInt8} (h:frText a b=t) (hb:0<b):b.natAbs≤10^t.length∧a.natAbs*b.natAbs≤10^t.length:=by
 subst h
 have h1:=t_dec_lt a
 have h2:=t_dec_lt b
 unfold frText
 split
 ·rename_i e
  rw[e]
  exact⟨Nat.pow_pos (by omega),by simpa using h1⟩
 ·rw[List.length_append,List.length_cons,Nat.pow_add,Nat.pow_succ]
  have hp:1≤10^(dec a).length:=Nat.pow_pos (by omega)
  obtain⟨x,hx⟩:∃ x,x=10^(dec a).length:=⟨_,rfl⟩
  obtain⟨y,hy⟩:∃ y,y=10^(dec b).length:=⟨_,rfl⟩
  rw[←hx] at h1 hp ⊢
  rw[←hy] at h2 ⊢
  have h3:a.natAbs*b.natAbs≤x*y:=Nat.mul_le_mul h1 h2
  have h4:x*y≤x*(y*10):=Nat.mul_le_mul_left _ (by omega)
  have h5:y≤x*y:=Nat.le_mul_of_pos_left _ hp
  exact⟨by omega,by omega⟩
theorem qR_small (t:List UInt8):(qR t).den≤10^t.length∧(qR t).num.natAbs*(qR t).den≤10^t.length:=by
 have hs:=(fracR_rat t).choose_spec
 have e1:(fracR t).1=(qR t).num:=hs.1
 have e2:(fracR t).2.1=((qR t).den:Int):=hs.2.1
 have hp:1≤10^t.length:=Nat.pow_pos (by omega)
 have hz:∀ c d,fracR t=(0,1,c,d)→(qR t).den≤10^t.length∧(qR t).num.natAbs*(qR t).den≤10^t.length:=fun c d h=>by
  rw[h] at e1 e2
  simp only at e1 e2
  rw[←e1,show (qR t).den=1 by omega]
  simpa using hp
 have hdp:=(qR t).den_pos
 have key:∀ a b:Int,fracR t=(a,b,0,0)→frText a b=t→(qR t).den≤10^t.length∧(qR t).num.natAbs*(qR t).den≤10^t.length:=fun a b h ht=>by
  rw[h] at e1 e2
  simp only at e1 e2
  have:=t_small ht (by omega)
  rw[←e1,show (qR t).den=b.natAbs by omega]
  exact this
 have h0:=hz
 have hk:=key
 unfold fracR at h0 hk
 split at h0
 ·rename_i g1
  rw[if_pos g1] at hk
  split at h0
  ·rename_i g2
   rw[if_pos g2] at hk
   split at h0
   ·rename_i g3
    rw[if_pos g3] at hk
    split at h0
    ·rename_i g4
     rw[if_pos g4] at hk
     exact hk _ _ rfl g4
    ·exact h0 _ _ rfl
   ·exact h0 _ _ rfl
  ·exact h0 _ _ rfl
 ·rename_i g1
  rw[if_neg g1] at hk
  split at h0
  ·rename_i g2
   rw[if_pos g2] at hk
   split at h0
   ·rename_i g3
    rw[if_pos g3] at hk
    refine hk _ _ rfl ?_
    have hok:numOk t=true:=by unfold numOk;rw[g2.1];simpa using g2.2
    have hc:parseC t=0:=by unfold parseC;rw[if_pos hok,if_pos g3]
    unfold frText
    rw[if_pos rfl,parse_dec hc]
   ·exact h0 _ _ rfl
  ·exact h0 _ _ rfl
def tot:List (List UInt8)→Nat
 | []=>0
 | t::l=>t.length+tot l
theorem tot_dens:∀ l:List (List UInt8),dens (l.map qR)≤10^tot l∧∀ x∈l.map qR,x.num.natAbs*dens (l.map qR)≤10^tot l
 | []=>by simp[dens,tot]
 | t::l=>by
  obtain⟨h1,h2⟩:=tot_dens l
  obtain⟨g1,g2⟩:=qR_small t
  have e:dens ((t::l).map qR)=(qR t).den*dens (l.map qR):=rfl
  rw[e,tot,Nat.pow_add]
  refine⟨Nat.mul_le_mul g1 h1,fun x hx => ?_⟩
  rcases List.mem_cons.1 hx with rfl | hx
  ·rw[←Nat.mul_assoc];exact Nat.mul_le_mul g2 h1
  ·rw[Nat.mul_left_comm];exact Nat.mul_le_mul g1 (h2 x hx)
theorem tab_map (cs:List (List UInt8)):(tab cs.length fun j=>qR (cs.getD j []))=cs.map qR:=by
 apply List.ext_getElem
 ·simp[tab]
 ·intro j h1 h2
  simp only[tab_len] at h1
  simp[tab,h1]
theorem newQ_sz {cs:List (List UInt8)} {k:Nat} (h:tot cs≤3*k):Sz (10*k) (newQ cs).1:=by
 unfold newQ
 (repeat' split)<;>first | exact Sz.nil _ | skip
 rw[tab_map]
 obtain⟨h1,h2⟩:=tot_dens cs
 have h3:10^tot cs≤2^(10*k):=by
  refine Nat.le_trans (Nat.pow_le_pow_right (by omega) h) ?_
  rw[Nat.pow_mul,Nat.pow_mul]
  exact Nat.pow_le_pow_left (by omega) _
 refine⟨dens (cs.map qR),Nat.le_trans h1 h3,Lb.of (dens_pos _) fun x hx => ?_⟩
 obtain⟨E,e1,e2⟩:=dens_up hx
 rw[e2]
 refine ((Db.of_self x).up e1).mono ?_
 refine Nat.le_trans ?_ (Nat.le_trans (h2 x hx) h3)
 refine Nat.mul_le_mul_left _ ?_
 rw[e2];exact Nat.le_mul_of_pos_left _ x.den_pos
theorem tot_take (cs:List (List UInt8)) (i:Nat) (h:i<cs.length):tot (cs.take (i+1))=tot (cs.take i)+(cs.getD i []).length:=by
 induction cs generalizing i with
 | nil=>simp at h
 | cons t l ih =>
  cases i with
  | zero=>simp[tot]
  | succ i =>
   rw[List.take_succ_cons,List.take_succ_cons,tot,tot,ih i (by simpa using h)]
   simp;omega
set_option maxHeartbeats 1000000 in
theorem long_con (T:Nat) (cs:List (List UInt8)) (h1:tot cs≤9223372036854775807) (h2:cs.length≤9223372036854775807):Con Tryz.prog AN 52 [LS T cs] (.bool (decide (600<tot cs))):=by
 have hle:∀ i,tot (cs.take i)≤tot cs:=fun i=>by
  have:∀ (l:List (List UInt8)) (i:Nat),tot (l.take i)≤tot l:=fun l=>by
   induction l with
   | nil=>intro i;simp
   | cons t l ih =>
    intro i
    cases i with
    | zero=>simp[tot]
    | succ i=>rw[List.take_succ_cons,tot,tot];have:=ih i;omega
  exact this cs i
 refine fn52.con rfl (by simp) ?_
 simp only[c52,c52_25,c52_1,l52_0,init1,cw,csW,cops,reduceCtorEq]
 refine keep [0] ?_
 simp only[c52_24,c52_3,l52_2,csW,reduceCtorEq,cw,cops]
 refine keep [0,3] ?_
 simp only[c52_23,c52_19,c52_5,l52_4,csW,reduceCtorEq,cw,cops,Nat.reduceEqDiff]
 refine keep [0,3,4] ?_
 simp only[c52_18,csW,reduceCtorEq,Nat.reduceEqDiff,cw]
 refine loop_of (ι:=Nat) (fun i=>i≤cs.length) (fun i=>⟨look [(0,.p (LS T cs)),(3,.p (J (tot (cs.take i)))),(4,.p (J i))],lookM []⟩) (fun i=>cs.length-i) 0 (by omega) (by simp only[List.take_zero,tot];exact Sub.rf _) ?_
 rintro i hi
 by_cases h:i<cs.length
 ·have hI:(i:Int)<(cs.length:Int):=by omega
  have ht:=tot_take cs i h
  have hl1:=hle (i+1)
  simp only[c52_16,c52_9,c52_7,l52_6,cw,csW,cops,reduceCtorEq,Nat.reduceEqDiff,hI]
  refine keep [0,3,4,8] ?_
  simp only[c52_8,csW,reduceCtorEq,Nat.reduceEqDiff,cw]
  refine keep [0,3,4] ?_
  simp only[c52_15,c52_12,c52_11,l52_10,csW,reduceCtorEq,Nat.reduceEqDiff,cw,cops,csP,hI,getD_s h]
  (repeat refine And.intro (by first | omega | (simp;omega)) ?_)
  refine keep [0,3,4] ?_
  simp only[c52_14,l52_13,csW,reduceCtorEq,Nat.reduceEqDiff,cw,cops]
  (repeat refine And.intro (by first | omega | (simp;omega)) ?_)
  exact⟨i+1,by omega,by rw[ht];exact (Sub.toG [0,3,4] [] (by rfl) (by rfl) (by rfl) (by rfl)),by omega⟩
 ·have hI:¬ (i:Int)<(cs.length:Int):=by omega
  have hiN:cs.take i=cs:=List.take_of_length_le (by omega)
  simp only[c52_16,c52_9,c52_7,l52_6,cw,csW,cops,reduceCtorEq,Nat.reduceEqDiff,hI]
  refine keep [0,3,4,8] ?_
  simp only[c52_8,csW,reduceCtorEq,Nat.reduceEqDiff,cw]
  refine keep [3] ?_
  simp only[c52_22,c52_21,l52_20,csW,reduceCtorEq,Nat.reduceEqDiff,cw,cops]
  refine keep [2] ?_
  simp only[Ends,resD,resL,resV,csW,Nat.reduceEqDiff]
  rw[hiN]
  congr 2
  simp;omega
end Go.Proofs.YtkidkimjdiichaaGreat.M
end

section
namespace Go.Proofs.YtkidkimjdiichaaGreat.M
open Go.RowKit
set_option linter.unusedSimpArgs false
set_option linter.unusedVariables false
set_option linter.defProp false
abbrev apart (p:List Rat × Nat):D:=.agg [LS 9 (txts p.1),J p.2]
theorem getD_prt {l:List (List Rat × Nat)} {i:Nat} (h:i<l.length):(l.map prt).getD i default=prt (l.getD i ([],0)):=by simp[h]
theorem getD_apart {l:List (List Rat × Nat)} {i:Nat} (h:i<l.length):(l.map apart).getD i default=apart (l.getD i ([],0)):=by simp[h]
theorem take_apart {l:List (List Rat × Nat)} {i:Nat} (h:i<l.length):(l.take (i+1)).map apart=(l.take i).map apart++[apart (l.getD i ([],0))]:=by
 rw[List.take_succ_eq_append_getElem h,List.map_append,show l.getD i ([],0)=l[i] by simp[h]];rfl
theorem mem_getD {l:List (List Rat × Nat)} {i:Nat} (h:i<l.length):l.getD i ([],0)∈l:=by simp[h]
set_option maxHeartbeats 2000000 in
theorem parts0_con:Con Tryz.prog AN 51 [pI []] (.tup [qI 0,.list 83 2 [],flt 4 0]):=by
 have hI:((List.length ([]:List Rat):Nat):Int)=0:=rfl
 refine fn51.con rfl (by simp) ?_
 simp only[c51,c51_40,c51_1,l51_0,csP,init1,cw,csW,cops,reduceCtorEq,Nat.reduceEqDiff]
 refine keep [1,2,4] ?_
 simp only[c51_39,c51_9,c51_3,l51_2,csW,reduceCtorEq,Nat.reduceEqDiff,cw,cops,csP]
 refine keep [1,2,4,11] ?_
 simp only[c51_8,csW,Nat.reduceEqDiff,cw]
 simp only[c51_7,c51_6,l51_4,csW,cw,cops,csP,Nat.reduceEqDiff]
 refine⟨_,fault_con 4 0,?_⟩
 simp only[l51_5,csP,cops,csW,Nat.reduceEqDiff,Nat.reduceAdd]
 refine keep [2,3,4] ?_
 simp only[Ends,resD,resL,resV,csW,Nat.reduceEqDiff,csP,Nat.reduceAdd]
set_option maxHeartbeats 4000000 in
theorem parts_con (P:List Rat) (nP:Nf P) (hP0:P≠[]) {e n:Nat} (hP:Sz e P) (hL:P.length≤201) (hs:SP e n) :
  Con Tryz.prog AN 51 [pI P] (.tup [qI (ld P),.list 83 2 ((partsQ P).map apart),flt 0 0]):=by
 have hI:¬ (P.length:Int)=0:=by have:=List.length_pos_iff.2 hP0;omega
 have hpt:=pts_of nP hP0 hP hL
 have hsq:=squares_con P nP hP0 hP hL hs
 have hll:(partsQ P).length≤201:=by
  obtain⟨k,r,b,c,a,h,hb⟩:=yun_end nP hP0 hP hL P.length 0 _ _ _ _ [] (Nat.le_refl _) (Ys.start nP hP0 hP hL (gcdQ_spec nP (der_nf P)))
  have h1:=h.ll
  have h2:=h.kr
  show (yun P.length 0 (quoQ P (gcdQ P (derQ P))) (quoQ (derQ P) (gcdQ P (derQ P))) []).length≤201
  omega
 obtain⟨R,hR⟩:∃ R,R=partsQ P:=⟨_,rfl⟩
 rw[←hR] at hpt hsq hll ⊢
 have hlp:0<P.length:=List.length_pos_iff.2 hP0
 have hsn:=hs.nn
 have htx:∀ p∈R,Con Tryz.prog AN 104 [pI p.1] (LS 9 (txts p.1)):=fun p hp=>by
  obtain⟨q1,q2,q3,q4,q5,q6⟩:=hpt.ps p hp
  have y0:p.1≠[]:=fun e0=>by rw[e0] at q3;simp at q3
  have s:=fac_mon nP hP0 q1 y0 q6 hP hL
  rw[mon_self q1 (.inr q2)] at s
  obtain⟨m,m0,_,_,_,hlen⟩:=q6.len q1 nP hP0
  have:=List.length_pos_iff.2 m0
  obtain⟨F,hF⟩:∃ F,F=e+4020:=⟨_,rfl⟩
  rw[←hF] at s
  exact texts_con p.1 n (s.bl (by omega)) hs.bg (by omega)
 refine fn51.con rfl (by simp) ?_
 simp only[c51,c51_40,c51_1,l51_0,csP,init1,cw,csW,cops,reduceCtorEq,Nat.reduceEqDiff]
 refine keep [1,2,4] ?_
 simp only[c51_39,c51_9,c51_3,l51_2,csW,reduceCtorEq,Nat.reduceEqDiff,cw,cops,csP,hI]
 refine keep [1,2,4,11] ?_
 simp only[c51_8,csW,Nat.reduceEqDiff,cw]
 refine keep [1,2,4] ?_
 simp only[c51_38,c51_11,l51_10,csW,Nat.reduceEqDiff,cw,cops]
 refine keep [1,2,4,5] ?_
 simp only[c51_37,c51_32,c51_14,l51_12,csW,Nat.reduceEqDiff,cw,cops,csP]
 refine⟨_,hsq,?_⟩
 simp only[l51_13,cops,csW,Nat.reduceEqDiff]
 refine keep [1,2,4,5,15,16,17] ?_
 simp only[c51_31,csW,Nat.reduceEqDiff,cw]
 refine loop_of (ι:=Nat) (fun i=>i≤R.length) (fun i=>⟨look [(1,.ptr 1 0 0),(2,.ptr 2 0 0),(4,.ptr 4 0 0),(5,.slice 105 0 i),(15,.p (.list 181 2 (R.map prt))),(16,.p (J R.length)),(17,.p (J i))],
  lookM [(1,⟨25,1,.box (.p (pI P)),false⟩),(2,⟨52,4,.box (.p (qI 0)),false⟩),(4,⟨27,2,.box (.p (flt 0 0)),false⟩),(105,⟨83,2,.row ((R.take i).map apart),false⟩)]⟩) (fun i=>R.length-i) 0 (by omega) (Sub.nilG 5 105 83 2 (by rfl) (by rfl) (by decide) (by rfl) (by rfl)) ?_
 rintro i hi
 by_cases h:i<R.length
 ·have hJ:(i:Int)<(R.length:Int):=by omega
  obtain⟨p,hp⟩:∃ p,p=R.getD i ([],0):=⟨_,rfl⟩
  have hm:p∈R:=by rw[hp];exact mem_getD h
  have ht:=htx p hm
  have hti:(R.take i).length=i:=by rw[List.length_take];omega
  have hg:(R.map prt).getD i default=prt p:=by rw[hp];exact getD_prt h
  simp only[c51_29,c51_16,l51_15,csP,cw,csW,cops,Nat.reduceEqDiff,hJ]
  refine keep [1,2,4,5,15,16,17,18] ?_
  simp only[c51_28,c51_17,csW,Nat.reduceEqDiff,cw]
  refine keep [1,2,4,5,15,16,17] ?_
  simp only[c51_27,c51_24,c51_23,c51_19,l51_18,csW,Nat.reduceEqDiff,cw,cops,csP,Nat.reduceLT,hJ,hg,Nat.reduceAdd]
  (repeat refine And.intro (by first | omega | (simp;omega)) ?_)
  refine keep [1,2,4,5,7,15,16,17] ?_
  simp only[c51_22,l51_20,csW,Nat.reduceEqDiff,cw,cops,csP,Nat.reduceAdd,Nat.reduceLeDiff]
  refine⟨_,ht,?_⟩
  simp only[l51_21,cops,csW,csP,Nat.reduceAdd,Nat.reduceLeDiff,Nat.reduceEqDiff,reduceCtorEq,hti]
  (repeat refine And.intro (by first | omega | (simp;omega)) ?_)
  refine keep [1,2,4,5,15,16,17] ?_
  simp only[c51_26,l51_25,csW,Nat.reduceEqDiff,cw,cops]
  (repeat refine And.intro (by first | omega | (simp;omega)) ?_)
  exact⟨i+1,by omega,by rw[take_apart h,←hp];exact (Sub.toG [1,2,4,5,15,16,17] [7,28] (by rfl) (by rfl) (by rfl) (by rfl)),by omega⟩
 ·have hJ:¬ (i:Int)<(R.length:Int):=by omega
  have hiN:R.take i=R:=List.take_of_length_le (by omega)
  have hil:i=R.length:=by omega
  simp only[c51_29,c51_16,l51_15,csP,cw,csW,cops,Nat.reduceEqDiff,hJ]
  refine keep [1,2,4,5,15,16,17,18] ?_
  simp only[c51_28,c51_17,csW,Nat.reduceEqDiff,cw]
  have htk:((R.take i).map apart).take i=R.map apart:=by rw[hiN,List.take_of_length_le (by simp;omega)]
  have hlen:((R.take i).map apart).length=i:=by rw[List.length_map,hiN];omega
  refine keep [1,2,4,5] ?_
  simp only[c51_36,c51_35,l51_33,csW,Nat.reduceEqDiff,cw,cops,csP]
  refine⟨_,lead_con P (by omega),?_⟩
  simp only[l51_34,cops,csW,csP,Nat.reduceEqDiff,Nat.reduceAdd,Nat.le_refl]
  refine keepF 105 _ [2,3,4] (by rfl) ?_
  simp only[Ends,resD,resL,resV,csW,Nat.reduceEqDiff,csP,Nat.reduceAdd,Nat.le_refl,Bool.or_true,hlen,htk]
end Go.Proofs.YtkidkimjdiichaaGreat.M
end

section
namespace Go.Proofs.YtkidkimjdiichaaGreat.M
open Go.RowKit
set_option linter.unusedSimpArgs false
set_option linter.unusedVariables false
set_option linter.defProp false
def allL (c:Rat) (R:List (List Rat × Nat)):Nat→List Rat
 | 0=>[c]
 | i+1=>mulQ (allL c R i) (powQ (R.getD i ([],0)).1 (R.getD i ([],0)).2)
def onceL (R:List (List Rat × Nat)):Nat→List Rat
 | 0=>[1]
 | i+1=>mulQ (onceL R i) (R.getD i ([],0)).1
theorem take_snoc' {R:List (List Rat × Nat)} {i:Nat} (h:i<R.length):R.take (i+1)=R.take i++[R.getD i ([],0)]:=by
 rw[List.take_succ_eq_append_getElem h];simp[h]
theorem ev_all (c x:Rat) (R:List (List Rat × Nat)):∀ i,i≤R.length→evQ (allL c R i) x=c*prodA (R.take i) x
 | 0,_=>by simp only[allL,List.take_zero,prodA,evQ];grind
 | i+1,h=>by rw[allL,ev_mul,ev_pow,ev_all c x R i (by omega),take_snoc' (by omega),prodA_app];grind
theorem ev_once (x:Rat) (R:List (List Rat × Nat)):∀ i,i≤R.length→evQ (onceL R i) x=prodB (R.take i) x
 | 0,_=>by simp only[onceL,List.take_zero,prodB,evQ];grind
 | i+1,h=>by rw[onceL,ev_mul,ev_once x R i (by omega),take_snoc' (by omega),prodB_app]
theorem all_nf {c:Rat} (hc:c≠0) (R:List (List Rat × Nat)):∀ i,Nf (allL c R i)
 | 0 => .inr (by show c≠0;exact hc)
 | i+1=>nf_mul _ _
theorem once_nf (R:List (List Rat × Nat)):∀ i,Nf (onceL R i)
 | 0=>nf_1
 | i+1=>nf_mul _ _
theorem sz_single {c:Rat} {m:Nat} (h:Bq m c):Sz m [c]:=⟨c.den,Nat.le_of_lt h.2,fun i=>by
 rw[cf_cons]
 cases i with
 | zero=>exact (Db.of_self c).mono (Nat.le_of_lt h.1)
 | succ i=>exact Db.zero c.den_pos _⟩
theorem t_txt_len {x:Rat} {k:Nat} (hk:1≤k) (h1:x.num.natAbs<10^k) (h2:x.den<10^k):(txt x).length≤2*k+3:=by
 have g1:=t_nlen hk h1
 have g2:(decN (x.den:Int).natAbs).length≤k:=by rw[Int.natAbs_natCast];exact t_nlen hk h2
 have g3:∀ z:Int,(dec z).length≤(decN z.natAbs).length+1:=fun z=>by unfold dec;split<;>simp
 have g4:=g3 x.num
 have g5:=g3 (x.den:Int)
 unfold txt frText
 split
 ·omega
 ·rw[List.length_append,List.length_cons];omega
theorem pmulz_con {l m:List Rat} {k j n r:Nat} (hl:Sz k l) (hm:Sz j m) (hr:l.length+1≤2^r) (h1:l.length≤1000000) (h2:m.length≤1000000) (hn:k+j+r<n) (hb:n≤big):Con Tryz.prog AN 24 [LZ l,LZ m] (LZ (mulQ l m)):=by
 have b1:=hl.bl (n:=n) (by omega)
 have b2:=hm.bl (n:=n) (by omega)
 obtain⟨K,g1,g2⟩:=hl
 obtain⟨M,g3,g4⟩:=hm
 refine pmul_con l m (K*M) (2^k*2^j) n b1 b2 (fun i t=>(g2 i).mul (g4 t)) (p2 (pm g1 g3) (by omega)) ?_ hb h1 h2
 exact p2 (pm hr (pm (Nat.le_refl _) (Nat.le_refl _))) (by omega)
structure P14 (P:List Rat) (n:Nat):Prop where
 nP:Nf P
 P0:P≠[]
 sz:Sz 2000 P
 len:P.length≤14
 nn:10000000000<n
 bg:n≤big
theorem P14.part {P:List Rat} {n:Nat} (h:P14 P n) {p:List Rat × Nat} {R:List (List Rat × Nat)} (hR:Pts P R) (hp:p∈R):Nf p.1∧ld p.1=1∧2≤p.1.length∧p.1.length≤14∧1≤p.2∧p.2≤13∧Sz 2168 p.1:=by
 obtain⟨q1,q2,q3,q4,q5,q6⟩:=hR.ps p hp
 have hl:=h.len
 have y0:p.1≠[]:=fun e0=>by rw[e0] at q3;simp at q3
 obtain⟨m,m0,_,_,_,hlen⟩:=q6.len q1 h.nP h.P0
 have:=List.length_pos_iff.2 m0
 exact⟨q1,q2,q3,by omega,q4,by omega,(fac_sz h.nP h.P0 q1 q2 q6 h.sz (L:=14) hl (r:=6) (by omega)).mono (by omega)⟩
theorem pow_sz {y:List Rat} {N f:Nat} (h:Sz f y) (hl:y.length≤14) (hN:N≤13):Sz ((8+f)*13) (powQ y N)∧(powQ y N).length≤170:=by
 have hNL:N*(y.length-1)≤13*13:=Nat.mul_le_mul hN (by omega)
 obtain⟨K,h1,h2⟩:=h
 have h3:=pow_lb h2 (N:=N) (L:=170) (by omega) N (Nat.le_refl _)
 have h4:=pow_len y N
 have h6:(8+f)*N≤(8+f)*13:=Nat.mul_le_mul_left _ hN
 have h7:f*N≤(8+f)*13:=Nat.mul_le_mul (by omega) hN
 refine⟨⟨K^N,pu (pp h1 N) h7,h3.mono ?_⟩,by omega⟩
 have h5:170*2^f≤2^(8+f):=pm (by omega) (Nat.le_refl _)
 exact pu (pp h5 N) h6
theorem all_sz {P:List Rat} {n:Nat} (h:P14 P n) {R:List (List Rat × Nat)} (hR:Pts P R):∀ i,i≤R.length→i≤14→Sz (2001+i*28400) (allL (ld P) R i)∧(allL (ld P) R i).length≤1+i*170
 | 0,_,_=>⟨(sz_single h.sz.ld).mono (by omega),by simp[allL]⟩
 | i+1,hi,h14=>by
  obtain⟨g1,g2⟩:=all_sz h hR i (by omega) (by omega)
  obtain⟨q1,q2,q3,q4,q5,q6,q7⟩:=h.part hR (mem_getD (show i<R.length by omega))
  obtain⟨w1,w2⟩:=pow_sz q7 q4 q6
  have hml:=mul_len_le (allL (ld P) R i) (powQ (R.getD i ([],0)).1 (R.getD i ([],0)).2)
  exact⟨(g1.mul w1 (r:=12) (by omega)).mono (by omega),by rw[allL];omega⟩
theorem once_sz {P:List Rat} {n:Nat} (h:P14 P n) {R:List (List Rat × Nat)} (hR:Pts P R):∀ i,i≤R.length→i≤14→Sz (i*2200) (onceL R i)∧(onceL R i).length≤1+i*13
 | 0,_,_=>⟨sz_one _,by simp[onceL]⟩
 | i+1,hi,h14=>by
  obtain⟨g1,g2⟩:=once_sz h hR i (by omega) (by omega)
  obtain⟨q1,q2,q3,q4,q5,q6,q7⟩:=h.part hR (mem_getD (show i<R.length by omega))
  have hml:=mul_len_le (onceL R i) (R.getD i ([],0)).1
  exact⟨(g1.mul q7 (r:=12) (by omega)).mono (by omega),by rw[onceL];omega⟩
theorem round14 {P:List Rat} {n:Nat} (h:P14 P n) {R:List (List Rat × Nat)} (hR:Pts P R) {i:Nat} (hi:i<R.length) (h14:i<14) {y:List Rat} {N:Nat} (hp:R.getD i ([],0)=(y,N)) :
  Con Tryz.prog AN 14 [LS 9 (txts y)] (.tup [LZ y,flt 0 0])∧Con Tryz.prog AN 39 [LZ y] (LZ y)∧Con Tryz.prog AN 22 [LZ y,LZ y] (.bool true) ∧
  Con Tryz.prog AN 54 [LZ y,J N] (LZ (powQ y N))∧Con Tryz.prog AN 24 [LZ (allL (ld P) R i),LZ (powQ y N)] (LZ (allL (ld P) R (i+1))) ∧
  Con Tryz.prog AN 24 [LZ (onceL R i),LZ y] (LZ (onceL R (i+1)))∧2≤y.length∧1≤N∧N≤13:=by
 have hn:=h.nn
 have hm:=mem_getD hi
 rw[hp] at hm
 obtain⟨q1,q2,q3,q4,q5,q6,q7⟩:=h.part hR hm
 simp only at q1 q2 q3 q4 q5 q6 q7
 obtain⟨a1,a2⟩:=all_sz h hR i (by omega) (by omega)
 obtain⟨o1,o2⟩:=once_sz h hR i (by omega) (by omega)
 obtain⟨w1,w2⟩:=pow_sz q7 q4 q6
 have b0:Bl 2169 y:=q7.bl (by omega)
 have bn:Bl n y:=b0.mono (by omega)
 have hback:=back_new q1 (by omega) (m:=2169) (by omega) b0
 have hpr:=pread_con 9 (txts y) (by unfold txts;rw[tabS_len];omega) fun t ht=>by
  obtain⟨j,hj,rfl⟩:=List.mem_iff_getElem.1 ht
  have hj':j<y.length:=by unfold txts at hj;rwa[tabS_len] at hj
  have e:(txts y)[j]=txt (cf y j):=by simp[txts,tabS]
  rw[e]
  obtain⟨k,hk⟩:∃ k:Nat,k=1000:=⟨_,rfl⟩
  have:=t_txt_len (k:=k) (by omega) (p3000 (by omega) (b0 j).1) (p3000 (by omega) (b0 j).2)
  omega
 rw[hback] at hpr
 have hpm:=pmonic_con y 2169 n q1 b0 (by omega) (by omega) h.bg (by omega)
 rw[mon_self q1 (.inr q2)] at hpm
 have hps:=psame_con y y q1 q1 n bn bn (fun i=>by rw[show cf y i-cf y i=0 by grind];exact Bq.zero n (by omega)) h.bg (by omega) (by omega) (by omega)
 rw[decide_eq_true (rfl:y=y)] at hps
 have hpp:Con Tryz.prog AN 54 [LZ y,J N] (LZ (powQ y N)):=by
  have hNL:N*(y.length-1)≤13*13:=Nat.mul_le_mul q6 (by omega)
  obtain⟨f,hf⟩:∃ f:Nat,f=2168:=⟨_,rfl⟩
  rw[←hf] at q7
  obtain⟨K,g1,g2⟩:=q7
  have h6:(8+f)*N≤(8+f)*13:=Nat.mul_le_mul_left _ q6
  have h7:f*N≤(8+f)*13:=Nat.mul_le_mul (by omega) q6
  have h5:170*2^f≤2^(8+f):=pm (by omega) (Nat.le_refl _)
  exact ppow_con y N g2 (L:=170) (by omega) (by omega) (Nat.pow_pos (by omega)) (p2 (pp g1 N) (by omega)) (p2 (pm (show 2≤2^1 by omega) (pp h5 N)) (by omega)) bn h.bg (by omega) (by omega)
 have hall:=pmulz_con (n:=n) a1 w1 (r:=12) (by omega) (by omega) (by omega) (by omega) h.bg
 have honce:=pmulz_con (n:=n) o1 q7 (r:=12) (by omega) (by omega) (by omega) (by omega) h.bg
 have e1:allL (ld P) R (i+1)=mulQ (allL (ld P) R i) (powQ y N):=by rw[allL,hp]
 have e2:onceL R (i+1)=mulQ (onceL R i) y:=by rw[onceL,hp]
 rw[←e1] at hall
 rw[←e2] at honce
 exact⟨hpr,hpm,hps,hpp,hall,honce,q3,q5,q6⟩
theorem end14 {P:List Rat} {n:Nat} (h:P14 P n) {R:List (List Rat × Nat)} (hR:Pts P R) (h14:R.length≤14) :
  Con Tryz.prog AN 22 [LZ (allL (ld P) R R.length),LZ P] (.bool true)∧Con Tryz.prog AN 41 [LZ (onceL R R.length)] (LZ (derQ (onceL R R.length))) ∧
  ∃ d,Con Tryz.prog AN 55 [LZ (onceL R R.length),LZ (derQ (onceL R R.length))] (LZ d)∧d.length≤1:=by
 have hn:=h.nn
 have hl:=h.len
 have hl0:=ld_ne h.nP h.P0
 obtain⟨o1,o2⟩:=once_sz h hR R.length (Nat.le_refl _) h14
 have e1:allL (ld P) R R.length=P:=ev_nf (all_nf hl0 _ _) h.nP fun x=>by
  rw[ev_all _ _ _ _ (Nat.le_refl _),List.take_of_length_le (Nat.le_refl _),hR.pr];grind
 have bP:Bl n P:=h.sz.bl (by omega)
 have hps:=psame_con P P h.nP h.nP n bP bP (fun i=>by rw[show cf P i-cf P i=0 by grind];exact Bq.zero n (by omega)) h.bg (by omega) (by omega) (by omega)
 rw[decide_eq_true (rfl:P=P)] at hps
 obtain⟨B,hB⟩:∃ B,B=onceL R R.length:=⟨_,rfl⟩
 have nB:Nf B:=by rw[hB];exact once_nf _ _
 have hev:∀ x,evQ B x=prodB R x:=fun x=>by rw[hB,ev_once _ _ _ (Nat.le_refl _),List.take_of_length_le (Nat.le_refl _)]
 rw[←hB] at o1 o2 ⊢
 rw[e1]
 obtain⟨E,hE⟩:∃ E:Nat,E=31000:=⟨_,rfl⟩
 have sB:Sz E B:=o1.mono (by omega)
 have bB:Bl (E+1) B:=sB.bl (by omega)
 have sd:Sz (E+8) (derQ B):=sB.der (by omega)
 obtain⟨d,hd⟩:=gcd_ex _ B (derQ B) (Nat.le_refl _) nB (der_nf B)
 have hdl:(derQ B).length≤201:=by
  have:=der_len B
  omega
 have hG:=gS201 (E+8)
 exact⟨hps,pderive_con B (E+1) n bB (by omega) h.bg (by omega),d,pgcd_con (n:=n) B (derQ B) nB (der_nf B) (e:=E+8) (r:=8) (L:=201) (sB.mono (by omega)) sd (by omega) hdl (by omega) (by omega) (by omega) h.bg hd,hR.fr B d nB hev hd⟩
end Go.Proofs.YtkidkimjdiichaaGreat.M
end
