/- Interpolation: Through walked. -/
import Derived.Test.YtdjbfgfbpimakaaK12
import Derived.Test.YtdjbfgfbpimakaaK5
import Derived.Test.YtdjbfgfbpimakaaK11
namespace Go.Proofs.Ytdjbfgfbpimakaa.M
open Go.RowKit
set_option linter.unusedSimpArgs false
set_option linter.unusedVariables false
set_option linter.defProp false
theorem imulz_con {l m:List Rat} {k j n r:Nat} (hl:Sz k l) (hm:Sz j m) (hr:l.length+1≤2^r) (h1:l.length≤1000000) (h2:m.length≤1000000) (hn:k+j+r<n) (hb:n≤big):Con Try.prog AN 26 [pI l,pI m] (pI (mulQ l m)):=by
 have b1:=hl.bl (n:=n) (by omega)
 have b2:=hm.bl (n:=n) (by omega)
 obtain⟨K,g1,g2⟩:=hl
 obtain⟨M,g3,g4⟩:=hm
 refine mul_con l m (K*M) (2^k*2^j) n b1 b2 (fun i t=>(g2 i).mul (g4 t)) (p2 (pm g1 g3) (by omega)) ?_ hb h1 h2
 exact p2 (pm hr (pm (Nat.le_refl _) (Nat.le_refl _))) (by omega)
theorem roots_top (f:Nat→Rat):∀ i,ld (rootsI f i)=1
 | 0=>rfl
 | i+1=>by
  have h1:=roots_ln f i
  rw[rootsI,ld_mul (roots_nf f i) (nf_two (f i)) (fun e=>by rw[e] at h1;simp at h1) (by simp),roots_top f i,show ld [-(f i),1]=1 from rfl]
  grind
theorem out_top (f g:Nat→Rat) (i:Nat):cf (outI f g (i+1)) i=(g i-evQ (outI f g i) (f i)) / evQ (rootsI f i) (f i):=by
 have h1:=out_len f g i
 have h2:=roots_ln f i
 have h3:cf (rootsI f i) i=1:=by
  have:=roots_top f i
  unfold ld at this
  rwa[h2,Nat.add_sub_cancel] at this
 rw[outI,cf_add,cf_scl,cf_ge h1,h3]
 grind
structure ThS (f g:Nat→Rat) (i0 N O W b n:Nat):Prop where
 o:∀ i,i≤i0→Sz O (outI f g i)
 w:∀ i,i≤i0→Sz W (rootsI f i)
 bf:∀ i,Bq b (f i)
 bg:∀ i,Bq b (g i)
 so:20+(O+b*(N+1))+2*b+10<n
 sw:20+(W+b*(N+1))+2*b+10<n
 s:W+O+b+30<n
 nb:n≤big
 hN:N≤600000
structure ThR (f g:Nat→Rat) (i N n:Nat):Prop where
 e1:EvD (outI f g i) (f i) n
 e2:EvD (rootsI f i) (f i) n
 gi:Bq n (g i)
 v1:Bq n (evQ (outI f g i) (f i))
 d:Bq n (g i-evQ (outI f g i) (f i))
 v2:Bq n (evQ (rootsI f i) (f i))
theorem ThS.r {f g:Nat→Rat} {i0 N O W b n:Nat} (h:ThS f g i0 N O W b n) {i:Nat} (hi:i≤i0) (hiN:i≤N):ThR f g i N n:=by
 have hs:=h.so
 have hw:=h.sw
 have hN:=h.hN
 have l1:=out_len f g i
 have l2:=roots_ln f i
 have e1:EvD (outI f g i) (f i) (20+(O+b*(N+1))+b+1):=(h.o i hi).evd (h.bf i) (N:=N+1) (by omega) (by omega) (by omega)
 have e2:EvD (rootsI f i) (f i) n:=(h.w i hi).evd (h.bf i) (N:=N+1) (by omega) (by omega) (by omega)
 have e1':EvD (outI f g i) (f i) n:=(h.o i hi).evd (h.bf i) (N:=N+1) (by omega) (by omega) (by omega)
 have v1:=e1.d 0
 rw[List.drop_zero] at v1
 have v2:=e2.d 0
 rw[List.drop_zero] at v2
 exact⟨e1',e2,(h.bg i).mono (by omega),v1.mono (by omega),(bq_sub (h.bg i) v1).mono (by omega),v2⟩
structure ThN (f g:Nat→Rat) (i N W b n:Nat) (k:Rat):Prop where
 r:ThR f g i N n
 kb:Bq n k
 bo:Bl n (outI f g i)
 bw:Bl n (rootsI f i)
 ks:∀ t,Bq n (cf (rootsI f i) t*k)
 os:∀ t,Bq n (cf (outI f g i) t+cf (sclQ (rootsI f i) k) t)
 sw:Sz W (rootsI f i)
 s2:Sz b [-(f i),1]
 fi:Bq n (f i)
theorem ThS.nx {f g:Nat→Rat} {i0 N O W b n:Nat} (h:ThS f g i0 N O W b n) {i:Nat} (hi:i<i0) (hiN:i≤N):ThN f g i N W b n ((g i-evQ (outI f g i) (f i)) / evQ (rootsI f i) (f i)):=by
 have hs:=h.s
 have hk:Bq (O+1) ((g i-evQ (outI f g i) (f i)) / evQ (rootsI f i) (f i)):=by
  rw[←out_top];exact (h.o (i+1) (by omega)).bl (by omega) i
 have hw:Bl (W+1) (rootsI f i):=(h.w i (by omega)).bl (by omega)
 refine⟨h.r (by omega) hiN,hk.mono (by omega),(h.o i (by omega)).bl (by omega),(h.w i (by omega)).bl (by omega),fun t=>((hw t).mul hk).mono (by omega),fun t => ?_,h.w i (by omega),sz_two (h.bf i),(h.bf i).mono (by omega)⟩
 have:Bl n (outI f g (i+1)):=(h.o (i+1) (by omega)).bl (by omega)
 rw[←cf_add]
 exact this t
set_option maxHeartbeats 4000000 in
theorem through_ne (l m:List Rat) (hl:l.length≠m.length):Con Try.prog AN 21 [LI l,LI m] (.tup [pI [],flt 8 0]):=by
 have hI:¬ (l.length:Int)=(m.length:Int):=by omega
 refine fn21.con rfl (by simp) ?_
 simp only[c21,c21_66,c21_1,l21_0,csP,init2,cw,csW,cops,reduceCtorEq,Nat.reduceEqDiff]
 refine keep [0,1,4,5] ?_
 simp only[c21_65,c21_9,c21_3,l21_2,csW,reduceCtorEq,Nat.reduceEqDiff,cw,cops,hI]
 refine keep [0,1,4,5,16] ?_
 simp only[c21_8,csW,reduceCtorEq,Nat.reduceEqDiff,cw]
 simp only[c21_7,c21_6,l21_4,csW,cw,cops,csP,reduceCtorEq,Nat.reduceEqDiff]
 refine⟨_,fault_con 8 0,?_⟩
 simp only[l21_5,csP,cops,csW,reduceCtorEq,Nat.reduceEqDiff,Nat.reduceAdd]
 refine keep [4,5] ?_
 simp only[Ends,resD,resL,resV,csW,reduceCtorEq,Nat.reduceEqDiff,csP,Nat.reduceAdd]
 rfl
set_option maxHeartbeats 8000000 in
theorem through_con (l m:List Rat) {i0 N O W b n:Nat} (hl:l.length=N) (hm:m.length=N) (h:ThS (cf l) (cf m) i0 N O W b n) (hd:Dist (cf l) i0) {R:D}
  (hR:(i0=N∧R = .tup [pI (outI (cf l) (cf m) N),flt 0 0])∨(i0<N∧(∃ j,j<i0∧cf l i0=cf l j)∧R = .tup [pI [],flt 12 i0])) :
  Con Try.prog AN 21 [LI l,LI m] R:=by
 have hs:=h.s
 have hN:=h.hN
 have hn:=h.nb
 have hi0:i0≤N:=by omega
 have ht1:trimQ [(1:Rat)]=[1]:=trim_nf nf_1
 refine fn21.con rfl (by simp) ?_
 simp only[c21,c21_66,c21_1,l21_0,init2,cw,csW,cops,reduceCtorEq,Nat.reduceEqDiff]
 refine keep [0,1,4,5] ?_
 simp only[c21_65,c21_9,c21_3,l21_2,csW,reduceCtorEq,Nat.reduceEqDiff,cw,cops,hl,hm]
 refine keep [0,1,4,5,16] ?_
 simp only[c21_8,csW,reduceCtorEq,Nat.reduceEqDiff,cw]
 refine keep [0,1,4,5] ?_
 simp only[c21_64,c21_14,l21_10,csW,reduceCtorEq,Nat.reduceEqDiff,cw,cops,csP]
 refine⟨_,cOf 1 (by omega),?_⟩
 simp only[l21_11,cops,csW,reduceCtorEq,Nat.reduceEqDiff]
 refine⟨_,qWhole 1 n (bq_one (by omega)).1 hn,?_⟩
 simp only[l21_12,csP,rat_one,cops,csW,Nat.reduceEqDiff,reduceCtorEq,Nat.reduceAdd]
 refine⟨_,of_con [1] n (bl_one (by omega) (bq_one (by omega))) hn (by simp),?_⟩
 simp only[l21_13,ht1,cops,csW,csP,Nat.reduceEqDiff,reduceCtorEq]
 refine keep [0,1,4,5,6,7] ?_
 simp only[c21_63,c21_59,c21_16,l21_15,csW,reduceCtorEq,Nat.reduceEqDiff,cw,cops]
 refine keep [1,4,5,6,7,24,25,26] ?_
 simp only[c21_58,csW,reduceCtorEq,Nat.reduceEqDiff,cw]
 refine loop_of (ι:=Nat) (fun i=>i≤i0) (fun i=>⟨look [(1,.p (LI m)),(4,.ptr 4 0 0),(5,.ptr 5 0 0),(6,.ptr 6 0 0),(7,.ptr 7 0 0),(24,.p (LI l)),(25,.p (J l.length)),(26,.p (J i))],
  lookM [(4,⟨25,1,.box zPoly,false⟩),(5,⟨27,2,.box (.p (flt 0 0)),false⟩),(6,⟨25,1,.box (.p (pI (outI (cf l) (cf m) i))),false⟩),(7,⟨25,1,.box (.p (pI (rootsI (cf l) i))),false⟩)]⟩) (fun i=>N-i) 0 (by omega) (Sub.toG [1,4,5,6,7,24,25,26] [9,10,11,22,62] (by rfl) (by rfl) (by rfl) (by rfl)) ?_
 rintro i hi
 have hr:=h.r hi (by omega)
 have hfi:Bq n (cf l i):=(h.bf i).mono (by omega)
 have htr:trimQ [-(cf l i),1]=[-(cf l i),1]:=trim_nf (nf_two _)
 by_cases hiN:i<N
 ·have hI:(i:Int)<(l.length:Int):=by omega
  have hil:i<l.length:=by omega
  have him:i<m.length:=by omega
  by_cases hii:i<i0
  ·have hx:=h.nx hii (by omega)
   have l1:=out_len (cf l) (cf m) i
   have l2:=roots_ln (cf l) i
   have h0:evQ (rootsI (cf l) i) (cf l i)≠0:=by
    rw[ev_roots]
    intro h0
    obtain⟨j,hj,he⟩:=(prodI_0 (cf l) (cf l i) i).1 h0
    exact hd j i hj hii he.symm
   have hsl:=scl_len (rootsI (cf l) i) ((cf m i-evQ (outI (cf l) (cf m) i) (cf l i)) / evQ (rootsI (cf l) i) (cf l i))
   simp only[c21_56,c21_18,l21_17,csP,cw,csW,cops,Nat.reduceEqDiff,hI]
   refine keep [1,4,5,6,7,24,25,26,27] ?_
   simp only[c21_55,c21_19,csW,Nat.reduceEqDiff,cw]
   refine keep [1,4,5,6,7,24,25,26] ?_
   simp only[c21_54,c21_51,c21_50,c21_21,l21_20,csP,csW,Nat.reduceEqDiff,cw,cops,Nat.reduceLT,hI,getD_q hil,Nat.reduceAdd]
   (repeat refine And.intro (by first | omega | (simp;omega)) ?_)
   refine keep [1,4,5,6,7,8,9,24,25,26] ?_
   simp only[c21_49,c21_27,l21_22,csW,Nat.reduceEqDiff,cw,cops,csP,Nat.reduceLT,Nat.reduceAdd]
   refine⟨_,evalN_con (outI (cf l) (cf m) i) (cf l i) n hr.e1 hn,?_⟩
   simp only[l21_23,cops,csW,csP,Nat.reduceLT,Nat.reduceEqDiff,Nat.reduceAdd,getD_q him]
   (repeat refine And.intro (by first | omega | (simp;omega)) ?_)
   refine⟨_,qSub (cf m i) _ n hr.gi hr.v1 hn,?_⟩
   simp only[l21_24,cops,csW,Nat.reduceEqDiff]
   refine⟨_,evalN_con (rootsI (cf l) i) (cf l i) n hr.e2 hn,?_⟩
   simp only[l21_25,cops,csW,Nat.reduceEqDiff]
   refine⟨_,qQuo _ _ n hr.d hr.v2 hn h0,?_⟩
   simp only[l21_26,csP,cops,csW,Nat.reduceEqDiff,Nat.reduceAdd]
   refine keep [1,4,5,6,7,8,9,10,11,24,25,26] ?_
   simp only[c21_48,c21_35,c21_29,l21_28,csW,Nat.reduceEqDiff,cw,cops,csP,Nat.reduceAdd,Nat.reduceLeDiff]
   refine keep [1,4,5,6,7,8,9,10,24,25,26,48] ?_
   simp only[c21_34,csW,Nat.reduceEqDiff,cw]
   refine keep [1,4,5,6,7,9,10,24,25,26] ?_
   simp only[c21_47,c21_39,l21_36,csW,Nat.reduceEqDiff,cw,cops,csP,Nat.reduceLT,Nat.reduceAdd]
   refine⟨_,scale_con (rootsI (cf l) i) _ n hx.bw hx.kb hx.ks hn (by omega),?_⟩
   simp only[l21_37,cops,csW,Nat.reduceEqDiff]
   refine⟨_,add_con (outI (cf l) (cf m) i) _ n hx.bo (fun t=>by rw[cf_scl];exact hx.ks t) hx.os hn (by omega) (by omega),?_⟩
   simp only[l21_38,cops,csW,Nat.reduceEqDiff,csP]
   refine keep [1,4,5,6,7,9,24,25,26] ?_
   simp only[c21_46,l21_40,csW,Nat.reduceEqDiff,cw,cops,csP,Nat.reduceLT,Nat.reduceAdd]
   refine⟨_,qNeg (cf l i) n hfi hn,?_⟩
   simp only[l21_41,cops,csW,Nat.reduceEqDiff]
   refine⟨_,cOf 1 (by omega),?_⟩
   simp only[l21_42,cops,csW,Nat.reduceEqDiff]
   refine⟨_,qWhole 1 n (bq_one (by omega)).1 hn,?_⟩
   simp only[l21_43,csP,rat_one,cops,csW,Nat.reduceEqDiff,Nat.reduceAdd,Nat.reduceLT]
   refine⟨_,of_con [-(cf l i),1] n (hx.s2.bl (by omega)) hn (by simp),?_⟩
   simp only[l21_44,htr,cops,csW,Nat.reduceEqDiff]
   refine⟨_,imulz_con (r:=20) hx.sw hx.s2 (by omega) (by omega) (by simp) (by omega) hn,?_⟩
   simp only[l21_45,cops,csW,Nat.reduceEqDiff,csP]
   refine keep [1,4,5,6,7,24,25,26] ?_
   simp only[c21_53,l21_52,csW,Nat.reduceEqDiff,cw,cops]
   (repeat refine And.intro (by first | omega | (simp;omega)) ?_)
   exact⟨i+1,by omega,(Sub.toG [1,4,5,6,7,24,25,26] [9,10,11,22,62] (by rfl) (by rfl) (by rfl) (by rfl)),by omega⟩
  ·obtain⟨hx,⟨j,hj,he⟩,rfl⟩:=hR.resolve_left (by omega)
   obtain rfl:i=i0:=by omega
   have h0:evQ (rootsI (cf l) i) (cf l i)=0:=by
    rw[ev_roots];exact (prodI_0 (cf l) (cf l i) i).2 ⟨j,hj,he⟩
   simp only[c21_56,c21_18,l21_17,csP,cw,csW,cops,Nat.reduceEqDiff,hI]
   refine keep [1,4,5,6,7,24,25,26,27] ?_
   simp only[c21_55,c21_19,csW,Nat.reduceEqDiff,cw]
   refine keep [1,4,5,6,7,24,25,26] ?_
   simp only[c21_54,c21_51,c21_50,c21_21,l21_20,csP,csW,Nat.reduceEqDiff,cw,cops,Nat.reduceLT,hI,getD_q hil,Nat.reduceAdd]
   (repeat refine And.intro (by first | omega | (simp;omega)) ?_)
   refine keep [1,4,5,6,7,8,9,24,25,26] ?_
   simp only[c21_49,c21_27,l21_22,csW,Nat.reduceEqDiff,cw,cops,csP,Nat.reduceLT,Nat.reduceAdd]
   refine⟨_,evalN_con (outI (cf l) (cf m) i) (cf l i) n hr.e1 hn,?_⟩
   simp only[l21_23,cops,csW,csP,Nat.reduceLT,Nat.reduceEqDiff,Nat.reduceAdd,getD_q him]
   (repeat refine And.intro (by first | omega | (simp;omega)) ?_)
   refine⟨_,qSub (cf m i) _ n hr.gi hr.v1 hn,?_⟩
   simp only[l21_24,cops,csW,Nat.reduceEqDiff]
   refine⟨_,evalN_con (rootsI (cf l) i) (cf l i) n hr.e2 hn,?_⟩
   simp only[l21_25,h0,cops,csW,Nat.reduceEqDiff]
   refine⟨_,qQuo0 _ n hr.d hn,?_⟩
   simp only[l21_26,csP,cops,csW,Nat.reduceEqDiff,Nat.reduceAdd]
   refine keep [1,4,5,6,7,8,9,10,11,24,25,26] ?_
   simp only[c21_48,c21_35,c21_29,l21_28,csW,Nat.reduceEqDiff,cw,cops,csP,Nat.reduceAdd,Nat.reduceLeDiff,Int.reduceEq]
   refine keep [1,4,5,6,7,8,9,10,24,25,26,48] ?_
   simp only[c21_34,csW,Nat.reduceEqDiff,cw]
   simp only[c21_33,c21_32,l21_30,csW,cw,cops,csP,Nat.reduceEqDiff]
   refine⟨_,fault_con 12 i,?_⟩
   simp only[l21_31,csP,cops,csW,Nat.reduceEqDiff,Nat.reduceAdd]
   refine keep [4,5] ?_
   simp only[Ends,resD,resL,resV,csW,Nat.reduceEqDiff,csP,Nat.reduceAdd]
   rfl
 ·obtain⟨hx,rfl⟩:=hR.resolve_right (by omega)
  have hI:¬ (i:Int)<(l.length:Int):=by omega
  obtain rfl:i=N:=by omega
  simp only[c21_56,c21_18,l21_17,csP,cw,csW,cops,Nat.reduceEqDiff,hI]
  refine keep [1,4,5,6,7,24,25,26,27] ?_
  simp only[c21_55,c21_19,csW,Nat.reduceEqDiff,cw]
  refine keep [4,5,6] ?_
  simp only[c21_62,c21_61,l21_60,csW,Nat.reduceEqDiff,cw,cops,csP,Nat.reduceAdd]
  refine keep [4,5] ?_
  simp only[Ends,resD,resL,resV,csW,Nat.reduceEqDiff,csP,Nat.reduceAdd]
end Go.Proofs.Ytdjbfgfbpimakaa.M
