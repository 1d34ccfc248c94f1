/- Polynomials modulo a prime: the reference's test of irreducible polynomials walked. -/
import Derived.Test.YtlnhembcfhfpkaaFyKx
namespace Go.Proofs.Ytlnhembcfhfpkaa.M
open Go.RowKit Go.Proofs.Ytlnhembcfhfpkaa.Fx
open Nat (reduceEqDiff reduceAdd reduceLT reduceLeDiff reduceSub)
set_option linter.unusedSimpArgs false
set_option linter.unusedVariables false
variable {P:Pr}
set_option maxRecDepth 20000 in
set_option maxHeartbeats 1000000 in
theorem mwork_con {T:Nat} (g:List Int) (p:Int) (hp:1≤p∧p≤1073741824) (h0:0<g.length) (hl:g.length≤1000):Con Try.prog [] 25 [LT T g,I p] (I (pwM p ((g.length-1) / 2)*g.length)):=by
 have hq:((g.length:Int)-1).tdiv 2=(((g.length-1) / 2:Nat):Int):=by
  rw[Int.tdiv_eq_ediv_of_nonneg (by omega)];omega
 have hb:0≤pwM p ((g.length-1) / 2)∧pwM p ((g.length-1) / 2)≤1073741824:=by
  have:=ipow_pos hp.1 ((g.length-1) / 2)
  unfold pwM
  split<;>omega
 have hm:0≤pwM p ((g.length-1) / 2)*(g.length:Int)∧pwM p ((g.length-1) / 2)*(g.length:Int)≤1073741824*1000:=⟨Int.mul_nonneg hb.1 (by omega),Int.mul_le_mul hb.2 (by omega) (by omega) (by omega)⟩
 have hc:=mpow_con p ((g.length-1) / 2) hp (by omega)
 refine fn25.con rfl (by simp) ?_
 (try simp only[init2,c25,c25_6,c25_1,l25_0,cw,cops,csW,csL,reduceIte,reduceEqDiff,reduceCtorEq,reduceAdd,reduceLT,reduceLeDiff,reduceSub,csFa,hq])
 (repeat refine And.intro (by first|omega|(simp;omega)) ?_)
 refine keep [0,1] ?_
 (try simp only[c25_5,c25_4,l25_2,cw,cops,csW,csL,reduceIte,reduceEqDiff,reduceCtorEq,reduceAdd,reduceLT,reduceLeDiff,reduceSub,csFa,hq])
 (repeat refine And.intro (by first|omega|(simp;omega)) ?_)
 refine⟨_,cx (hc),?_⟩
 (try simp only[l25_3,cw,cops,csW,csL,reduceIte,reduceEqDiff,reduceCtorEq,reduceAdd,reduceLT,reduceLeDiff,reduceSub,csFa])
 (repeat refine And.intro (by first|omega|(simp;omega)) ?_)
 refine keep [4] ?_
 (try simp only[cw,cops,csW,csL,reduceIte,reduceEqDiff,reduceCtorEq,reduceAdd,reduceLT,reduceLeDiff,reduceSub,csFa,Ends,resD,resL,resV])
 (repeat refine And.intro (by first|omega|(simp;omega)) ?_)
def dig (p:Int):Nat→Int→List Int
 | 0,_=>[]
 | d+1,k=>k.tmod p::dig p d (k.tdiv p)
theorem dig_len (p:Int):∀ d k,(dig p d k).length=d
 | 0,_=>rfl
 | d+1,k=>by rw[dig,List.length_cons,dig_len]
theorem dig_mem {p:Int} (hp:0<p):∀ d k,0≤k→∀ x∈dig p d k,0≤x∧x<p
 | 0,_,_,x,h=>by cases h
 | d+1,k,hk,x,h=>by
  rcases List.mem_cons.1 h with rfl | h
  ·rw[tm hk];exact md hp
  ·exact dig_mem hp d _ (by rw[Int.tdiv_eq_ediv_of_nonneg hk];exact Int.ediv_nonneg hk (by omega)) x h
set_option maxRecDepth 20000 in
set_option maxHeartbeats 1000000 in
theorem mmonic_con (d:Nat) (k p:Int) (hp:0<p∧p≤1073741824) (hd:d≤1000) (hk:0≤k∧k≤1073741824):Con Try.prog [] 51 [I d,I k,I p] (L (dig p d k++[1])):=by
 have hpn:¬ p=0:=by omega
 refine fn51.con rfl (by simp) ?_
 (try simp only[init3,c51,c51_28,c51_1,l51_0,cw,cops,csW,csL,reduceIte,reduceEqDiff,reduceCtorEq,reduceAdd,reduceLT,reduceLeDiff,reduceSub,csFa])
 (repeat refine And.intro (by first|omega|(simp;omega)) ?_)
 refine keep [0,1,2] ?_
 (try simp only[c51_27,c51_3,l51_2,cw,cops,csW,csL,reduceIte,reduceEqDiff,reduceCtorEq,reduceAdd,reduceLT,reduceLeDiff,reduceSub,csFa])
 (repeat refine And.intro (by first|omega|(simp;omega)) ?_)
 refine keep [0,1,2,7] ?_
 (try simp only[c51_26,c51_22,c51_5,l51_4,cw,cops,csW,csL,reduceIte,reduceEqDiff,reduceCtorEq,reduceAdd,reduceLT,reduceLeDiff,reduceSub,csFa])
 (repeat refine And.intro (by first|omega|(simp;omega)) ?_)
 refine keep [0,1,2,7,8] ?_
 (try simp only[c51_21,cw,cops,csW,csL,reduceIte,reduceEqDiff,reduceCtorEq,reduceAdd,reduceLT,reduceLeDiff,reduceSub,csFa])
 refine loop_of (ι:=Nat × List Int × Int × Nat) (fun s=>s.1≤d∧s.2.1.length=s.2.2.2∧(0≤s.2.2.1∧s.2.2.1≤1073741824)∧s.2.1.length=s.1∧s.2.1++dig p (d-s.1) s.2.2.1=dig p d k) (fun s=>⟨look [(0,.p (I d)),(1,.p (I s.2.2.1)),(2,.p (I p)),(7,.slice 307 0 s.2.2.2),(8,.p (I s.1))],lookM [(307,⟨3,1,.row (s.2.1.map (D.int .i64)),false⟩)]⟩) (fun s=>d-s.1) (0,[],k,0) ⟨by simp,rfl,hk,rfl,rfl⟩ ?_ ?_
 ·exact (Sub.nilG 7 307 3 1 (by rfl) (by rfl) (by decide) (by rfl) (by rfl))
 rintro⟨i,o,k1,N⟩ ⟨hi,hoN,hk1,hoi,hR⟩
 simp only at hi hoN hk1 hoi hR
 by_cases h:i<d
 ·have hI:(i:Int)<(d:Int):=by omega
  obtain⟨m,hm⟩:∃ m,d-i=m+1:=⟨d-i-1,by omega⟩
  rw[hm,dig] at hR
  have h1:=tm hk1.1 p
  have h2:0≤k1.tmod p∧k1.tmod p<p:=by rw[h1];exact md hp.1
  have h3:0≤k1.tdiv p∧k1.tdiv p≤k1:=by
   rw[Int.tdiv_eq_ediv_of_nonneg hk1.1]
   exact⟨Int.ediv_nonneg hk1.1 (by omega),Int.ediv_le_self _ hk1.1⟩
  have hap:o.map (D.int .i64)++[D.int .i64 (k1.tmod p)]=(o++[k1.tmod p]).map (D.int .i64):=by rw[List.map_append];rfl
  generalize hx:k1.tmod p=x at *
  generalize hy:k1.tdiv p=y at *
  (try simp only[c51_19,c51_9,c51_7,l51_6,cw,cops,csW,csL,reduceIte,reduceEqDiff,reduceCtorEq,reduceAdd,reduceLT,reduceLeDiff,reduceSub,csFa,hI])
  (repeat refine And.intro (by first|omega|(simp;omega)) ?_)
  refine keep [0,1,2,7,8,11] ?_
  (try simp only[c51_8,cw,cops,csW,csL,reduceIte,reduceEqDiff,reduceCtorEq,reduceAdd,reduceLT,reduceLeDiff,reduceSub,csFa,hI])
  (repeat refine And.intro (by first|omega|(simp;omega)) ?_)
  (try simp only[cw,cops,csW,csL,reduceIte,reduceEqDiff,reduceCtorEq,reduceAdd,reduceLT,reduceLeDiff,reduceSub,csFa,hI,hpn,hx,hy,hap,hoN,List.length_map])
  (repeat refine And.intro (by first|omega|(simp;omega)) ?_)
  refine keep [0,1,2,7,8] ?_
  (try simp only[c51_18,c51_15,c51_14,c51_11,l51_10,cw,cops,csW,csL,reduceIte,reduceEqDiff,reduceCtorEq,reduceAdd,reduceLT,reduceLeDiff,reduceSub,csFa,hI,hpn,hx,hy,hap,hoN,List.length_map])
  (repeat refine And.intro (by first|omega|(simp;omega)) ?_)
  refine keep [0,1,2,7,8] ?_
  (try simp only[c51_13,l51_12,cw,cops,csW,csL,reduceIte,reduceEqDiff,reduceCtorEq,reduceAdd,reduceLT,reduceLeDiff,reduceSub,csFa,hI,hpn,hx,hy,hap,hoN,List.length_map])
  (repeat refine And.intro (by first|omega|(simp;omega)) ?_)
  refine keep [0,1,2,7,8] ?_
  (try simp only[c51_17,l51_16,cw,cops,csW,csL,reduceIte,reduceEqDiff,reduceCtorEq,reduceAdd,reduceLT,reduceLeDiff,reduceSub,csFa,hI,hpn,hx,hy,hap,hoN,List.length_map])
  (repeat refine And.intro (by first|omega|(simp;omega)) ?_)
  exact⟨(i+1,o++[x],y,N+1),⟨by simp only;omega,by simp[hoN],by simp only;omega,by simp[hoi],by simp only[List.append_assoc,List.cons_append,List.nil_append];rw[show d-(i+1)=m by omega];exact hR⟩,(Sub.toG [0,1,2,7,8] [18,24,25] (by rfl) (by rfl) (by rfl) (by rfl)),by first | omega | (simp only;omega)⟩
 ·have hI:¬ (i:Int)<(d:Int):=by omega
  rw[show d-i=0 by omega,dig,List.append_nil] at hR
  rw[←hR]
  have hap:o.map (D.int .i64)++[D.int .i64 1]=(o++[1]).map (D.int .i64):=by rw[List.map_append];rfl
  (try simp only[c51_19,c51_9,c51_7,l51_6,cw,cops,csW,csL,reduceIte,reduceEqDiff,reduceCtorEq,reduceAdd,reduceLT,reduceLeDiff,reduceSub,csFa,hI])
  (repeat refine And.intro (by first|omega|(simp;omega)) ?_)
  refine keep [0,1,2,7,8,11] ?_
  (try simp only[c51_8,cw,cops,csW,csL,reduceIte,reduceEqDiff,reduceCtorEq,reduceAdd,reduceLT,reduceLeDiff,reduceSub,csFa,hI])
  (repeat refine And.intro (by first|omega|(simp;omega)) ?_)
  (try simp only[cw,cops,csW,csL,reduceIte,reduceEqDiff,reduceCtorEq,reduceAdd,reduceLT,reduceLeDiff,reduceSub,csFa,hI,hap,hoN,List.length_map])
  (repeat refine And.intro (by first|omega|(simp;omega)) ?_)
  refine keep [7] ?_
  (try simp only[c51_25,c51_24,l51_23,cw,cops,csW,csL,reduceIte,reduceEqDiff,reduceCtorEq,reduceAdd,reduceLT,reduceLeDiff,reduceSub,csFa,hI,hap,hoN,List.length_map])
  (repeat refine And.intro (by first|omega|(simp;omega)) ?_)
  refine keep [6] ?_
  (try simp only[cw,cops,csW,csL,reduceIte,reduceEqDiff,reduceCtorEq,reduceAdd,reduceLT,reduceLeDiff,reduceSub,csFa,Ends,resD,resL,resV,hI,hap,hoN,List.length_map])
  (repeat refine And.intro (by first|omega|(simp;omega)) ?_)
  have hNN:N+1≤(o++[1]).length:=by simp[hoN]
  have htk:(o++[1]).take (N+1)=o++[1]:=List.take_of_length_le (by simp[hoN])
  simp only[hNN,htk,Bool.or_true,and_self,and_true,if_true]
  first | rfl | skip
theorem dig_po (d:Nat) (k:Int) (hk:0≤k):∃ m:Po P,m.l=dig P.p d k++[1]∧Mo m∧dg m=d+1:=by
 have hp:=P.p2
 have hlen:=dig_len P.p d k
 have hlast:(dig P.p d k++[1]).getD d 0=1:=by simp[List.getElem?_append,hlen]
 have ht:Td (dig P.p d k++[1]):=td_of_last fun _=>by
  rw[List.length_append,hlen,List.length_singleton,Nat.add_sub_cancel,hlast];decide
 have hr:Rg P.p (dig P.p d k++[1]):=fun i=>by
  by_cases h:i<(dig P.p d k++[1]).length
  ·have hm:(dig P.p d k++[1]).getD i 0∈dig P.p d k++[1]:=by
    rw[List.getD_eq_getElem?_getD,List.getElem?_eq_getElem h];exact List.getElem_mem h
   rcases List.mem_append.1 hm with h2 | h2
   ·exact dig_mem P.pos d k hk _ h2
   ·rw[List.mem_singleton.1 h2];omega
  ·rw[List.getD_eq_getElem?_getD,List.getElem?_eq_none (by omega)];simp;omega
 refine⟨⟨_,ht,hr⟩,rfl,?_,?_⟩
 ·show (dig P.p d k++[1]).getD ((dig P.p d k++[1]).length-1) 0=1
  rw[List.length_append,hlen,List.length_singleton,Nat.add_sub_cancel,hlast]
 ·show (dig P.p d k++[1]).length=_
  rw[List.length_append,hlen];rfl
theorem mon_self {m:Po P} (h:Mo m):mon m=m:=dvd_anti (mon_dvd h.ne) (dvd_mon m) (mon_mo h.ne) h
theorem rsP_po {g m:Po P} (h:Mo m):rsP P.p g.l.length g.l m.l=(rm g m).l:=by
 have:=rsP_rem P.h (pl g) (pl m) (l_ne h.ne) (Nat.le_refl _)
 rw[←mon_l,mon_self h] at this
 exact this
theorem irr_rest {g m:Po P} (hg:Irr g) (hm:Mo m) (h2:2≤dg m) (hd:dg m<dg g):(rm g m).l≠[]:=fun h=>by
 have h0:rm g m=0:=nil_of h
 have h1:=div_eq g hm.ne
 rw[h0,add_zero] at h1
 rcases hg.ir _ _ h1 with h3 | h3
 ·have hq0:qo g m≠0:=by
   intro e
   rw[e,zero_mul] at h1
   exact hg.ne h1
  have h4:=dg_mul hq0 hm.ne
  rw[←h1] at h4
  omega
 ·omega
theorem mn_po {m:Po P} (h:Mo m):Mn P.p m.l:=⟨m.rg,dg_pos h.ne,h⟩
set_option maxRecDepth 20000 in
set_option maxHeartbeats 1000000 in
theorem mirr_con {T:Nat} (g:Po P) (hg:Irr g) (hl:dg g≤1000):Con Try.prog [] 26 [LT T g.l,I P.p] (.bool true):=by
 have hp:=P.h.pos
 have hp2:=P.p2
 have hl2:2≤g.l.length:=hg.d2
 have hlL:g.l.length≤1000:=hl
 refine fn26.con rfl (by simp) ?_
 (try simp only[init2,c26,c26_44,c26_1,l26_0,cw,cops,csW,csL,reduceIte,reduceEqDiff,reduceCtorEq,reduceAdd,reduceLT,reduceLeDiff,reduceSub,csFa])
 (repeat refine And.intro (by first|omega|(simp;omega)) ?_)
 refine keep [0,1] ?_
 (try simp only[c26_43,c26_39,c26_3,l26_2,cw,cops,csW,csL,reduceIte,reduceEqDiff,reduceCtorEq,reduceAdd,reduceLT,reduceLeDiff,reduceSub,csFa])
 (repeat refine And.intro (by first|omega|(simp;omega)) ?_)
 refine keep [0,1,5] ?_
 (try simp only[c26_38,cw,cops,csW,csL,reduceIte,reduceEqDiff,reduceCtorEq,reduceAdd,reduceLT,reduceLeDiff,reduceSub,csFa])
 refine loop_of (ι:=Nat) (fun d=>1≤d∧d≤g.l.length) (fun d=>⟨look [(0,.p (LT T g.l)),(1,.p (I P.p)),(5,.p (I d))],lookM []⟩) (fun d=>g.l.length-d) 1 ⟨by omega,by omega⟩ (Sub.toG [0,1,5] [] (by rfl) (by rfl) (by rfl) (by rfl)) ?_
 rintro d ⟨hd1,hd2⟩
 by_cases h:2*(d:Int)≤(g.l.length:Int)-1
 ·have hb:0≤pwM P.p d∧pwM P.p d≤1073741824:=by
   have:=ipow_pos (p:=P.p) (by omega) d
   unfold pwM
   split<;>omega
  (try simp only[c26_36,c26_7,c26_5,l26_4,cw,cops,csW,csL,reduceIte,reduceEqDiff,reduceCtorEq,reduceAdd,reduceLT,reduceLeDiff,reduceSub,csFa,h])
  (repeat refine And.intro (by first|omega|(simp;omega)) ?_)
  refine keep [0,1,5,12] ?_
  (try simp only[c26_6,cw,cops,csW,csL,reduceIte,reduceEqDiff,reduceCtorEq,reduceAdd,reduceLT,reduceLeDiff,reduceSub,csFa,h])
  (repeat refine And.intro (by first|omega|(simp;omega)) ?_)
  (try simp only[cw,cops,csW,csL,reduceIte,reduceEqDiff,reduceCtorEq,reduceAdd,reduceLT,reduceLeDiff,reduceSub,csFa,h])
  (repeat refine And.intro (by first|omega|(simp;omega)) ?_)
  refine keep [0,1,5] ?_
  (try simp only[c26_35,c26_32,c26_31,c26_9,l26_8,cw,cops,csW,csL,reduceIte,reduceEqDiff,reduceCtorEq,reduceAdd,reduceLT,reduceLeDiff,reduceSub,csFa,h])
  (repeat refine And.intro (by first|omega|(simp;omega)) ?_)
  refine keep [0,1,5,6] ?_
  (try simp only[c26_30,cw,cops,csW,csL,reduceIte,reduceEqDiff,reduceCtorEq,reduceAdd,reduceLT,reduceLeDiff,reduceSub,csFa,h])
  refine loop_of (ι:=Nat) (fun k=>(k:Int)≤pwM P.p d) (fun k=>⟨look [(0,.p (LT T g.l)),(1,.p (I P.p)),(5,.p (I d)),(6,.p (I k))],lookM []⟩) (fun k=>(pwM P.p d).toNat-k) 0 (by omega) (Sub.toG [0,1,5,6] [] (by rfl) (by rfl) (by rfl) (by rfl)) ?_
  intro k hk
  by_cases h3:(k:Int)<pwM P.p d
  ·obtain⟨m,hm1,hm2,hm3⟩:=dig_po (P:=P) d (k:Int) (by omega)
   have hr:=irr_rest hg hm2 (by omega) (by unfold dg at hm3 ⊢;omega)
   have hrl:=List.length_pos_iff.2 hr
   have hrd:(rm g m).l.length≤1000:=by have:=rm_dg g hm2.ne;unfold dg at this hm3;omega
   have hrI:¬ ((rm g m).l.length:Int)=0:=by omega
   have hsh:¬ g.l.length<m.l.length:=by unfold dg at hm3;omega
   have cR:=mrest_con (T:=T) (T':=3) g.l m.l P.p hp g.rg (mn_po hm2) (by omega) (by unfold dg at hm3;omega)
   rw[rsP_po hm2,if_neg hsh] at cR
   have cM:=mmonic_con d (k:Int) P.p hp (by omega) (by omega)
   rw[←hm1] at cM
   (try simp only[c26_28,c26_14,c26_12,l26_10,cw,cops,csW,csL,reduceIte,reduceEqDiff,reduceCtorEq,reduceAdd,reduceLT,reduceLeDiff,reduceSub,csFa,h3])
   (repeat refine And.intro (by first|omega|(simp;omega)) ?_)
   refine⟨_,cx (mpow_con P.p d (by omega) (by omega)),?_⟩
   (try simp only[l26_11,cw,cops,csW,csL,reduceIte,reduceEqDiff,reduceCtorEq,reduceAdd,reduceLT,reduceLeDiff,reduceSub,csFa,h3])
   (repeat refine And.intro (by first|omega|(simp;omega)) ?_)
   refine keep [0,1,5,6,19] ?_
   (try simp only[c26_13,cw,cops,csW,csL,reduceIte,reduceEqDiff,reduceCtorEq,reduceAdd,reduceLT,reduceLeDiff,reduceSub,csFa,h3])
   (repeat refine And.intro (by first|omega|(simp;omega)) ?_)
   (try simp only[cw,cops,csW,csL,reduceIte,reduceEqDiff,reduceCtorEq,reduceAdd,reduceLT,reduceLeDiff,reduceSub,csFa,h3])
   (repeat refine And.intro (by first|omega|(simp;omega)) ?_)
   refine keep [0,1,5,6] ?_
   (try simp only[c26_27,c26_24,c26_23,c26_18,l26_15,cw,cops,csW,csL,reduceIte,reduceEqDiff,reduceCtorEq,reduceAdd,reduceLT,reduceLeDiff,reduceSub,csFa,h3])
   (repeat refine And.intro (by first|omega|(simp;omega)) ?_)
   refine⟨_,cx (cM),?_⟩
   (try simp only[l26_16,cw,cops,csW,csL,reduceIte,reduceEqDiff,reduceCtorEq,reduceAdd,reduceLT,reduceLeDiff,reduceSub,csFa])
   (repeat refine And.intro (by first|omega|(simp;omega)) ?_)
   refine⟨_,cx (cR),?_⟩
   (try simp only[l26_17,cw,cops,csW,csL,reduceIte,reduceEqDiff,reduceCtorEq,reduceAdd,reduceLT,reduceLeDiff,reduceSub,csFa,hrI])
   (repeat refine And.intro (by first|omega|(simp;omega)) ?_)
   refine keep [0,1,5,6,30] ?_
   (try simp only[c26_22,cw,cops,csW,csL,reduceIte,reduceEqDiff,reduceCtorEq,reduceAdd,reduceLT,reduceLeDiff,reduceSub,csFa,hrI])
   (repeat refine And.intro (by first|omega|(simp;omega)) ?_)
   (try simp only[cw,cops,csW,csL,reduceIte,reduceEqDiff,reduceCtorEq,reduceAdd,reduceLT,reduceLeDiff,reduceSub,csFa,hrI])
   (repeat refine And.intro (by first|omega|(simp;omega)) ?_)
   refine keep [0,1,5,6] ?_
   (try simp only[c26_26,l26_25,cw,cops,csW,csL,reduceIte,reduceEqDiff,reduceCtorEq,reduceAdd,reduceLT,reduceLeDiff,reduceSub,csFa,hrI])
   (repeat refine And.intro (by first|omega|(simp;omega)) ?_)
   exact⟨k+1,by omega,(Sub.toG [0,1,5,6] [] (by rfl) (by rfl) (by rfl) (by rfl)),by omega⟩
  ·-- skip
   (try simp only[c26_28,c26_14,c26_12,l26_10,cw,cops,csW,csL,reduceIte,reduceEqDiff,reduceCtorEq,reduceAdd,reduceLT,reduceLeDiff,reduceSub,csFa,h3])
   (repeat refine And.intro (by first|omega|(simp;omega)) ?_)
   refine⟨_,cx (mpow_con P.p d (by omega) (by omega)),?_⟩
   (try simp only[l26_11,cw,cops,csW,csL,reduceIte,reduceEqDiff,reduceCtorEq,reduceAdd,reduceLT,reduceLeDiff,reduceSub,csFa,h3])
   (repeat refine And.intro (by first|omega|(simp;omega)) ?_)
   refine keep [0,1,5,6,19] ?_
   (try simp only[c26_13,cw,cops,csW,csL,reduceIte,reduceEqDiff,reduceCtorEq,reduceAdd,reduceLT,reduceLeDiff,reduceSub,csFa,h3])
   (repeat refine And.intro (by first|omega|(simp;omega)) ?_)
   (try simp only[cw,cops,csW,csL,reduceIte,reduceEqDiff,reduceCtorEq,reduceAdd,reduceLT,reduceLeDiff,reduceSub,csFa,h3])
   (repeat refine And.intro (by first|omega|(simp;omega)) ?_)
   refine keep [0,1,5] ?_
   (try simp only[c26_34,l26_33,cw,cops,csW,csL,reduceIte,reduceEqDiff,reduceCtorEq,reduceAdd,reduceLT,reduceLeDiff,reduceSub,csFa,h3])
   (repeat refine And.intro (by first|omega|(simp;omega)) ?_)
   exact⟨d+1,⟨by omega,by omega⟩,(Sub.toG [0,1,5] [] (by rfl) (by rfl) (by rfl) (by rfl)),by omega⟩
 ·have hgt:(1:Int)<(g.l.length:Int):=by omega
  (try simp only[c26_36,c26_7,c26_5,l26_4,cw,cops,csW,csL,reduceIte,reduceEqDiff,reduceCtorEq,reduceAdd,reduceLT,reduceLeDiff,reduceSub,csFa,h])
  (repeat refine And.intro (by first|omega|(simp;omega)) ?_)
  refine keep [0,1,5,12] ?_
  (try simp only[c26_6,cw,cops,csW,csL,reduceIte,reduceEqDiff,reduceCtorEq,reduceAdd,reduceLT,reduceLeDiff,reduceSub,csFa,h])
  (repeat refine And.intro (by first|omega|(simp;omega)) ?_)
  (try simp only[cw,cops,csW,csL,reduceIte,reduceEqDiff,reduceCtorEq,reduceAdd,reduceLT,reduceLeDiff,reduceSub,csFa,h,hgt])
  (repeat refine And.intro (by first|omega|(simp;omega)) ?_)
  refine keep [0] ?_
  (try simp only[c26_42,c26_41,l26_40,cw,cops,csW,csL,reduceIte,reduceEqDiff,reduceCtorEq,reduceAdd,reduceLT,reduceLeDiff,reduceSub,csFa,h,hgt])
  (repeat refine And.intro (by first|omega|(simp;omega)) ?_)
  refine keep [4] ?_
  (try simp only[cw,cops,csW,csL,reduceIte,reduceEqDiff,reduceCtorEq,reduceAdd,reduceLT,reduceLeDiff,reduceSub,csFa,Ends,resD,resL,resV,h,hgt])
  (repeat refine And.intro (by first|omega|(simp;omega)) ?_)
end Go.Proofs.Ytlnhembcfhfpkaa.M
