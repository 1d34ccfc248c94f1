/- Polynomials: what all coefficients have in common is taken out. -/
import Derived.Test.YtdjbfgfbpimakaaK11
import Derived.Test.YtdjbfgfbpimakaaK9
namespace Go.Proofs.Ytdjbfgfbpimakaa.M
open Go.RowKit
set_option linter.unusedSimpArgs false
set_option linter.unusedVariables false
set_option linter.defProp false
theorem encI_0:D.agg [.bool false,.list 116 1 []]=encI ((0:Nat):Int):=by
 have e:digs 4294967296 0=[]:=by rw[digs];simp
 unfold encI
 rw[show (((0:Nat):Int)).natAbs=0 from rfl,e]
 rfl
theorem bt_nat {k n:Nat} (h:k<2^n):Bt (k:Int) n:=by unfold Bt;simpa using h
theorem divInt_bq {g L n:Nat} (hL:0<L) (h1:g<2^n) (h2:L<2^n):Bq n (Rat.divInt g L):=by
 have h0:(((L:Nat):Int):Rat)≠0:=by rw[Rat.intCast_natCast,ne_eq,Rat.natCast_eq_zero_iff];omega
 have:Db L g (Rat.divInt g L):=⟨hL,(g:Int),by
  rw[Rat.divInt_eq_div,←Rat.intCast_natCast L,Rat.div_mul_cancel h0],by simp⟩
 exact this.Bq h2 h1
structure PrB (l:List Rat) (s n:Nat):Prop where
 nf:Nf l
 bl:Bl s l
 g:∀ i,gN l i<2^s
 lo:∀ i,i≤l.length→lN l i<2^s
 p:∀ i,i≤l.length→gP l (lN l l.length) i<2^(s+s)
 s1:1<s
 sn:s*6<n
 len:l.length≤201
theorem prB {l:List Rat} {m s n:Nat} (nl:Nf l) (hl:Bl m l) (hlen:l.length≤201) (hm:1<m) (hs:m*201<s) (hn:s*6<n):PrB l s n:=by
 have hmi:∀ i,i≤l.length→m*i≤m*201:=fun i hi=>Nat.mul_le_mul_left _ (by omega)
 refine⟨nl,hl.mono (by omega),fun i=>Nat.lt_of_lt_of_le (gN_lt hl i) (Nat.pow_le_pow_right (by omega) (by omega)),fun i hi=>p2 (lN_le hl i) (by have:=hmi i hi;omega),fun i hi => ?_,by omega,hn,hlen⟩
 have h1:=gP_le hl hi
 rw[←Nat.pow_add] at h1
 exact p2 h1 (by have:=hmi l.length (Nat.le_refl _);omega)
theorem PrB.k {l:List Rat} {s n:Nat} (h:PrB l s n):Bq s (kQ l):=by
 have h1:=divInt_bq (lN_pos l l.length) (h.g l.length) (h.lo l.length (Nat.le_refl _))
 unfold kQ
 split
 ·exact h1.neg
 ·exact h1
set_option maxHeartbeats 2000000 in
theorem qOver (a b:Int) (n:Nat) (ba:Bt a n) (bb:Bt b n) (hn:n≤4147200000000) (hb0:b≠0):Con Try.prog AN 69 [encI a,encI b] (.tup [qI (Rat.divInt a b),flt 0 0]):=by
 have hs:¬ sgnZ b=0:=by unfold sgnZ;(repeat' split)<;>omega
 rw[←qI_of hb0]
 refine fn69.con rfl (by simp) ?_
 simp only[c69,c69_15,c69_1,l69_0,csP,init2,cw,csW,cops,reduceCtorEq,Nat.reduceAdd,Nat.reduceEqDiff]
 refine keep [2,3,4,5] ?_
 simp only[c69_14,c69_9,c69_4,l69_2,csW,reduceCtorEq,Nat.reduceEqDiff,cw,cops,csP,Nat.reduceAdd,fold_I]
 refine⟨_,cISign b n bb hn,?_⟩
 simp only[l69_3,cops,csW,Nat.reduceEqDiff,hs]
 refine keep [2,3,4,5,8] ?_
 simp only[c69_8,csW,Nat.reduceEqDiff,cw]
 refine keep [2,3,4,5] ?_
 simp only[c69_13,c69_12,l69_10,csW,Nat.reduceEqDiff,cw,cops,csP,Nat.reduceLT,Nat.reduceAdd,fold_I]
 refine⟨_,cLowest a b n ba bb hn hb0,?_⟩
 simp only[l69_11,cops,csW,csP,Nat.reduceEqDiff,Nat.reduceAdd,fold_FI]
 refine keep [4,5] ?_
 simp only[Ends,resD,resL,resV,csW,Nat.reduceEqDiff,csP,Nat.reduceAdd,fold_FI]
set_option maxHeartbeats 8000000 in
theorem prim_con (l:List Rat) (s n:Nat) (h:PrB l s n) (hn:n≤big):Con Try.prog AN 25 [pI l] (.tup [qI (kQ l),pI (primQ l)]):=by
 have hlen:=h.len
 have hsn:=h.sn
 have hs1:=h.s1
 have hbig:big=2048000000000:=rfl
 have hn8:n≤4147200000000:=by omega
 by_cases h0:l=[]
 ·subst h0
  rw[kQ_nil,prim_nil]
  refine fn25.con rfl (by simp) ?_
  simp only[c25,c25_72,c25_1,l25_0,csP,init1,cw,csW,apartV,bne,cops,reduceCtorEq,Nat.reduceEqDiff]
  refine keep [1,2,3] ?_
  simp only[c25_71,c25_8,c25_3,l25_2,csW,reduceCtorEq,Nat.reduceEqDiff,cw,apartV,bne,cops,csP]
  refine keep [1,2,3,20] ?_
  simp only[c25_7,csW,Nat.reduceEqDiff,cw]
  simp only[c25_6,c25_5,l25_4,cw,csW,apartV,bne,Nat.reduceEqDiff,Nat.reduceBEq,cops,csP,Nat.reduceAdd,fold_FI]
  refine keep [2,3] ?_
  simp only[Ends,resD,resL,resV,csW,Nat.reduceEqDiff,csP,Nat.reduceAdd,fold_FI]
 ·have hI:¬ (l.length:Int)=0:=by have:=List.length_pos_iff.2 h0;omega
  refine fn25.con rfl (by simp) ?_
  simp only[c25,c25_72,c25_1,l25_0,csP,init1,cw,csW,apartV,bne,cops,reduceCtorEq,Nat.reduceEqDiff]
  refine keep [1,2,3] ?_
  simp only[c25_71,c25_8,c25_3,l25_2,csW,reduceCtorEq,Nat.reduceEqDiff,cw,apartV,bne,cops,csP,hI]
  refine keep [1,2,3,20] ?_
  simp only[c25_7,csW,Nat.reduceEqDiff,cw]
  refine keep [1,2,3] ?_
  simp only[c25_70,c25_11,l25_9,csW,Nat.reduceEqDiff,cw,apartV,bne,cops,csP,encI_0]
  refine⟨_,cOf 1 (by omega),?_⟩
  simp only[l25_10,encI_0,csW,cops,csP,Nat.reduceEqDiff,Nat.reduceAdd,fold_I]
  refine keep [1,2,3,4,5] ?_
  simp only[c25_69,c25_44,c25_13,l25_12,csW,Nat.reduceEqDiff,cw,apartV,bne,cops,csP]
  refine keep [1,2,3,4,5,26,27,28] ?_
  simp only[c25_43,csW,Nat.reduceEqDiff,cw]
  refine loop_of (ι:=Nat) (fun i=>i≤l.length) (fun i=>⟨look [(1,.ptr 1 0 0),(2,.ptr 2 0 0),(3,.ptr 3 0 0),(4,.ptr 4 0 0),(5,.ptr 5 0 0),(26,.p (LI l)),(27,.p (J l.length)),(28,.p (J i))],
   lookM [(1,⟨25,1,.box (.p (pI l)),false⟩),(2,⟨39,4,.box (.p (qI 0)),false⟩),(3,⟨25,1,.box zPoly,false⟩),(4,⟨37,2,.box (.p (encI (gN l i))),false⟩),(5,⟨37,2,.box (.p (encI (lN l i))),false⟩)]⟩) (fun i=>l.length-i) 0 (by omega) (Sub.toG [1,2,3,4,5,26,27,28] [7,8,9,10,11,12,13,14,15,16] (by rfl) (by rfl) (by rfl) (by rfl)) ?_
  rintro i hi
  by_cases h':i<l.length
  ·have hI:(i:Int)<(l.length:Int):=by omega
   obtain⟨b,hb⟩:∃ b,b=(cf l i).den:=⟨_,rfl⟩
   obtain⟨e,he⟩:∃ e,e=Nat.gcd (lN l i) b:=⟨_,rfl⟩
   have hb0:0<b:=by rw[hb];exact (cf l i).den_pos
   have he0:0<e:=by rw[he];exact Nat.gcd_pos_of_pos_right _ hb0
   have hbs:b<2^s:=by rw[hb];exact (h.bl i).2
   have heb:e≤b:=by rw[he];exact Nat.gcd_le_right _ hb0
   have hls:lN l (i+1)=lN l i*(b / e):=by rw[lN,←hb,←he]
   have up:∀ k:Nat,k<2^s→Bt (k:Int) n:=fun k hk=>(bt_nat hk).mono (by omega)
   have cG:Con Try.prog AN 67 [encI (gN l i),encI (cf l i).num] (encI (gN l (i+1))):=cGcd _ _ n (up _ (h.g i)) (((h.bl i).n).mono (by omega)) hn8
   have cE:Con Try.prog AN 67 [encI (lN l i),encI (b:Int)] (encI (e:Int)):=by
    rw[he];exact cGcd _ _ n (up _ (h.lo i hi)) (up _ hbs) hn8
   have cD:Con Try.prog AN 68 [encI (b:Int),encI (e:Int)] (.tup [encI ((b / e:Nat):Int),encI ((b % e:Nat):Int),flt 0 0]):=cDivI b e n (up _ hbs) (up _ (by omega)) hn8 (by omega)
   have cM:Con Try.prog AN 63 [encI (lN l i),encI ((b / e:Nat):Int)] (encI (lN l (i+1))):=by
    rw[hls,Int.natCast_mul];exact cIMul _ _ n (up _ (h.lo i hi)) (up _ (Nat.lt_of_le_of_lt (Nat.div_le_self _ _) hbs)) hn8
   simp only[c25_41,c25_15,l25_14,cw,csW,apartV,bne,cops,Nat.reduceEqDiff,hI]
   refine keep [1,2,3,4,5,26,27,28,29] ?_
   simp only[c25_40,c25_16,csW,Nat.reduceEqDiff,cw]
   refine keep [1,2,3,4,5,26,27,28] ?_
   simp only[c25_39,c25_36,c25_35,c25_18,l25_17,csP,csW,Nat.reduceEqDiff,cw,apartV,bne,cops,Nat.reduceLT,hI,getD_q h',Nat.reduceAdd,fold_FI]
   (repeat refine And.intro (by first | omega | (simp;omega)) ?_)
   refine keep [1,2,3,4,5,7,26,27,28] ?_
   simp only[c25_34,c25_21,l25_19,csW,Nat.reduceEqDiff,cw,apartV,bne,cops,csP,Nat.reduceAdd,fold_FI]
   refine⟨_,qParts (cf l i) n ((h.bl i).mono (by omega)) hn,?_⟩
   simp only[l25_20,encI_0,csW,←hb,cops,csP,Nat.reduceEqDiff,Nat.reduceAdd,fold_I]
   refine keep [1,2,3,4,5,8,9,26,27,28] ?_
   simp only[c25_33,c25_24,l25_22,csW,Nat.reduceEqDiff,cw,apartV,bne,cops,csP,Nat.reduceLT,Nat.reduceAdd,fold_I]
   refine⟨_,cG,?_⟩
   simp only[l25_23,cops,csW,Nat.reduceEqDiff,csP,Nat.reduceAdd,fold_I]
   refine keep [1,2,3,4,5,9,26,27,28] ?_
   simp only[c25_32,c25_28,l25_25,csW,Nat.reduceEqDiff,cw,apartV,bne,cops,csP,Nat.reduceLT,Nat.reduceAdd,fold_I]
   refine⟨_,cE,?_⟩
   simp only[l25_26,cops,csW,Nat.reduceEqDiff]
   refine⟨_,cD,?_⟩
   simp only[l25_27,encI_0,csW,csP,cops,Nat.reduceEqDiff,Nat.reduceAdd,fold_I]
   refine keep [1,2,3,4,5,10,26,27,28] ?_
   simp only[c25_31,l25_29,csW,Nat.reduceEqDiff,cw,apartV,bne,cops,csP,Nat.reduceLT,Nat.reduceAdd,fold_I]
   refine⟨_,cM,?_⟩
   simp only[l25_30,cops,csW,Nat.reduceEqDiff,csP,Nat.reduceAdd,fold_I]
   refine keep [1,2,3,4,5,26,27,28] ?_
   simp only[c25_38,l25_37,csW,Nat.reduceEqDiff,cw,apartV,bne,cops]
   (repeat refine And.intro (by first | omega | (simp;omega)) ?_)
   exact⟨i+1,by omega,(Sub.toG [1,2,3,4,5,26,27,28] [7,8,9,10,11,12,13,14,15,16] (by rfl) (by rfl) (by rfl) (by rfl)),by omega⟩
  ·have hI:¬ (i:Int)<(l.length:Int):=by omega
   have hiN:i=l.length:=by omega
   subst hiN
   have hq0:=kQ_ne h.nf h0
   have hkq:=h.k
   have cO:=qOver (gN l l.length) (lN l l.length) n ((bt_nat (h.g _)).mono (by omega)) ((bt_nat (h.lo _ (Nat.le_refl _))).mono (by omega)) hn8 (by have:=lN_pos l l.length;omega)
   have hdb:=divInt_bq (lN_pos l l.length) (h.g l.length) (h.lo l.length (Nat.le_refl _))
   obtain⟨k,hk⟩:∃ k,k=Rat.divInt (gN l l.length) (lN l l.length):=⟨_,rfl⟩
   rw[←hk] at cO hdb
   have hbl:Bl n l:=h.bl.mono (by omega)
   have cS:=scale_con l (1 / kQ l) n hbl (hkq.inv.mono (by omega)) (fun i=>((h.bl i).mul hkq.inv).mono (by omega)) hn (by omega)
   simp only[c25_41,c25_15,l25_14,cw,csW,apartV,bne,cops,Nat.reduceEqDiff,hI]
   refine keep [1,2,3,4,5,26,27,28,29] ?_
   simp only[c25_40,c25_16,csW,Nat.reduceEqDiff,cw]
   refine keep [1,2,3,4,5] ?_
   simp only[c25_68,c25_47,l25_45,csW,Nat.reduceEqDiff,cw,apartV,bne,cops,csP,Nat.reduceLT,Nat.reduceAdd,fold_I]
   refine⟨_,cO,?_⟩
   simp only[l25_46,csP,cops,csW,Nat.reduceEqDiff,Nat.reduceAdd,fold_FI]
   refine keep [1,2,3,13] ?_
   simp only[c25_67,c25_56,c25_51,l25_48,csW,Nat.reduceEqDiff,cw,apartV,bne,cops,csP]
   refine⟨_,lead_con l (by omega),?_⟩
   simp only[l25_49,cops,csW,Nat.reduceEqDiff]
   refine⟨_,qSign (ld l) n (hbl _) hn,?_⟩
   simp only[l25_50,cops,csW,Nat.reduceEqDiff]
   refine keep [1,2,3,13,62] ?_
   simp only[c25_55,csW,Nat.reduceEqDiff,cw]
   refine⟨fun hc => ?_,fun hc => ?_⟩
   ·have hkk:-k=kQ l:=by unfold kQ;rw[if_pos (by simpa using hc),hk]
    simp only[c25_54,l25_52,csW,cw,apartV,bne,cops,Nat.reduceEqDiff,csP,Nat.reduceAdd,fold_FI]
    refine⟨_,qNeg k n (hdb.mono (by omega)) hn,?_⟩
    simp only[l25_53,hkk,cops,csW,Nat.reduceEqDiff,csP,Nat.reduceAdd,fold_FI]
    refine keep [1,2,3,13] ?_
    simp only[c25_66,c25_61,l25_57,csW,Nat.reduceEqDiff,cw,apartV,bne,cops]
    refine⟨_,cOf 1 (by omega),?_⟩
    simp only[l25_58,cops,csW,Nat.reduceEqDiff]
    refine⟨_,qWhole 1 n (bq_one (by omega)).1 hn,?_⟩
    simp only[l25_59,rat_one,cops,csW,Nat.reduceEqDiff,csP,Nat.reduceAdd,fold_FI]
    refine⟨_,qQuo 1 (kQ l) n (bq_one (by omega)) (hkq.mono (by omega)) hn hq0,?_⟩
    simp only[l25_60,csP,cops,csW,Nat.reduceEqDiff,Nat.reduceAdd,fold_FI]
    refine keep [1,2,3,13,15] ?_
    simp only[c25_65,c25_64,l25_62,csW,Nat.reduceEqDiff,cw,apartV,bne,cops,csP,Nat.reduceLT,Nat.reduceAdd,fold_FI]
    refine⟨_,cS,?_⟩
    simp only[l25_63,cops,csW,csP,Nat.reduceEqDiff,Nat.reduceAdd,fold_FI]
    refine keep [2,3] ?_
    simp only[Ends,resD,resL,resV,csW,Nat.reduceEqDiff,csP,Nat.reduceAdd,fold_FI]
    rfl
   ·have hkk:k=kQ l:=by unfold kQ;rw[if_neg (by simpa using hc),hk]
    subst hkk
    refine keep [1,2,3,13] ?_
    simp only[c25_66,c25_61,l25_57,csW,Nat.reduceEqDiff,cw,apartV,bne,cops]
    refine⟨_,cOf 1 (by omega),?_⟩
    simp only[l25_58,cops,csW,Nat.reduceEqDiff]
    refine⟨_,qWhole 1 n (bq_one (by omega)).1 hn,?_⟩
    simp only[l25_59,rat_one,cops,csW,Nat.reduceEqDiff,csP,Nat.reduceAdd,fold_FI]
    refine⟨_,qQuo 1 (kQ l) n (bq_one (by omega)) (hkq.mono (by omega)) hn hq0,?_⟩
    simp only[l25_60,csP,cops,csW,Nat.reduceEqDiff,Nat.reduceAdd,fold_FI]
    refine keep [1,2,3,13,15] ?_
    simp only[c25_65,c25_64,l25_62,csW,Nat.reduceEqDiff,cw,apartV,bne,cops,csP,Nat.reduceLT,Nat.reduceAdd,fold_FI]
    refine⟨_,cS,?_⟩
    simp only[l25_63,cops,csW,csP,Nat.reduceEqDiff,Nat.reduceAdd,fold_FI]
    refine keep [2,3] ?_
    simp only[Ends,resD,resL,resV,csW,Nat.reduceEqDiff,csP,Nat.reduceAdd,fold_FI]
    rfl
end Go.Proofs.Ytdjbfgfbpimakaa.M
