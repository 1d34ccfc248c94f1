/- Polynomials: the reference's division. -/
import Derived.Test.YtkidkimjdiichaaGreatPoFw
namespace Go.Proofs.YtkidkimjdiichaaGreat.M
open Go.RowKit
set_option linter.unusedSimpArgs false
set_option linter.unusedVariables false
set_option linter.defProp false
def mono (i:Nat) (k:Rat):List Rat:=tab (i+1) fun j=>if j=i then k else 0
theorem cf_mono (i:Nat) (k:Rat) (t:Nat):cf (mono i k) t=if t=i then k else 0:=by
 unfold mono;rw[cf_tab]
 by_cases e:t=i
 ·subst e;rw[if_pos (by omega)]
 ·rw[if_neg e];split<;>rfl
theorem mono_len (i:Nat) (k:Rat):(mono i k).length=i+1:=tab_len _ _
theorem cnv_mono (i:Nat) (k:Rat) (d:List Rat) (t:Nat):cnv (mono i k) d t=shl i k d t:=by
 unfold cnv shl
 split
 ·rename_i h
  rw[sumQ_one (k:=i) (by omega) fun j hj hne=>by rw[cf_mono,if_neg hne];grind,cf_mono,if_pos rfl]
 ·rename_i h
  exact sumQ_0 fun j hj=>by rw[cf_mono,if_neg (by omega)];grind
theorem ev_mono (i:Nat) (k x:Rat):evQ (mono i k) x=k*x^i:=by
 rw[ev_sum _ x (n:=i+1) (by rw[mono_len];omega),sumQ_one (k:=i) (by omega) fun j hj hne=>by rw[cf_mono,if_neg hne];grind,cf_mono,if_pos rfl]
theorem mono_tab (i:Nat) (k:Rat):(tab (i+1) fun _=>0).set i k=mono i k:=by
 rw[tab_set];rfl
theorem rows_set {i N:Nat} (a z:D) (h:i<N):(List.replicate i a++List.replicate (N-i) z).set i a=List.replicate (i+1) a++List.replicate (N-(i+1)) z:=by
 rw[show N-i=N-(i+1)+1 by omega,List.replicate_succ (n:=N-(i+1)),List.set_append,if_neg (by simp),List.length_replicate,Nat.sub_self,List.set_cons_zero,List.replicate_succ',List.append_assoc]
 rfl
theorem rows_setq {i N:Nat} {z:D} (h:i<N):((List.replicate i (0:Rat)).map qZ++List.replicate (N-i) z).set i (qZ 0)=(List.replicate (i+1) (0:Rat)).map qZ++List.replicate (N-(i+1)) z:=by
 rw[←rep_z,←rep_z];exact rows_set _ _ h
structure PDivS (p d:List Rat) (K H E G n S:Nat) (x:Nat × List Rat × List Rat):Prop where
 le:x.1≤S
 nq:Nf x.2.1
 np:Nf x.2.2
 len:x.2.2.length≤x.1+d.length-1
 ql:x.2.1.length≤S
 q0:∀ t,t+d.length≤x.2.2.length→cf x.2.1 t=0
 eq:∀ y,evQ p y=evQ x.2.1 y*evQ d y+evQ x.2.2 y
 lb:Lb (K*E^(S-x.1)) (H*(E+G)^(S-x.1)) x.2.2
 qb:Bl n x.2.1
theorem PDivS.begin {p d:List Rat} {K H E G b n S:Nat} (h:DivB p d K H E G b n S) (np:Nf p) (hn:0<n):PDivS p d K H E G n S (S,[],p):=
 ⟨Nat.le_refl _,nf_nil,np,by simp only;have:=h.len;omega,by simp,fun t _=>cf_nil t,fun y=>by simp only[evQ_nil];grind,by simpa using h.lb,fun i=>Bq.zero n hn⟩
theorem PDivS.fin {p d:List Rat} {K H E G b n S s:Nat} (h:DivB p d K H E G b n S) (nd:Nf d) {q r:List Rat} (x:PDivS p d K H E G n S (s,q,r)) (hr:r.length<d.length):q=quoQ p d∧r=remQ p d:=
 div_eq nd ⟨x.nq,x.np,x.eq,hr⟩
theorem PDivS.next {p d:List Rat} {K H E G b n S s:Nat} (h:DivB p d K H E G b n S) (nd:Nf d) (hd:d≠[]) {q r:List Rat} (x:PDivS p d K H E G n S (s+1,q,r)) {i:Nat} (hi:r.length=i+d.length) :
  PDivS p d K H E G n S (s,addQ q (mono i (ld r / ld d)),subQ r (mulQ (mono i (ld r / ld d)) d))∧Bq n (ld r / ld d)∧(∀ a c,Db (K*E^(S-(s+1))*E) (H*(E+G)^(S-(s+1))*G) (cf (mono i (ld r / ld d)) a*cf d c)) ∧
  (∀ t,Bq n (cf q t+cf (mono i (ld r / ld d)) t))∧(∀ t,Bq n (cf r t-cf (mulQ (mono i (ld r / ld d)) d) t)):=by
 have hdl:=List.length_pos_iff.2 hd
 have hle:=x.le
 have hlen:=x.len
 have hql:=x.ql
 simp only at hle hlen hql
 obtain⟨k,hk⟩:∃ k,k=ld r / ld d:=⟨_,rfl⟩
 rw[←hk]
 have h0:=ld_ne nd hd
 have e:S-s=S-(s+1)+1:=by omega
 have hn0:0<n:=h.bl.pos
 have htop:ld r=cf r (i+d.length-1):=by unfold ld;rw[hi]
 have hkd:∀ j,Db (K*E^(S-(s+1))*E) (H*(E+G)^(S-(s+1))*G) (k*cf d j):=fun j=>by
  have e2:k*cf d j=ld r*(cf d j / ld d):=by rw[hk];grind
  rw[e2,htop]
  exact (x.lb _).mul (h.eg j)
 have hS:i+d.length≤r.length:=by omega
 have hcm:∀ t,cf (subQ r (mulQ (mono i k) d)) t=cf (dstep r d i k) t:=fun t=>by rw[cf_sub,cf_mul,cnv_mono,cf_dstep hS]
 have hst:=Lb.step (k:=k) hS x.lb hkd h.e0
 have hlb:Lb (K*E^(S-s)) (H*(E+G)^(S-s)) (dstep r d i k):=by
  rw[e,Nat.pow_succ,Nat.pow_succ,←Nat.mul_assoc,←Nat.mul_assoc];exact hst
 have hz:∀ t,i+d.length≤t+1→cf (subQ r (mulQ (mono i k) d)) t=0:=fun t ht=>by
  rw[hcm,hk,htop];exact dstep_top hd h0 hS (fun t ht=>cf_ge (by omega)) ht
 have hl':(subQ r (mulQ (mono i k) d)).length≤i+d.length-1:=len_le_of (nf_sub _ _) fun t ht=>hz t (by omega)
 obtain⟨g1,g2,-,-⟩:=lb_le h (s:=S-s) (by omega)
 have hkb:Bq n k:=by
  have h1:=(x.lb (i+d.length-1)).mul (Db.of_self (ld d)⁻¹)
  obtain⟨-,-,g1,g2⟩:=lb_le h (s:=S-(s+1)) (by omega)
  rw[hk,htop,Rat.div_def]
  refine h1.Bq (Nat.lt_of_le_of_lt (Nat.mul_le_mul_left _ ?_) g1) (Nat.lt_of_le_of_lt (Nat.mul_le_mul_left _ ?_) g2)
  ·rw[Rat.den_inv]
   split
   ·exact Nat.pow_pos (by omega)
   ·exact Nat.le_of_lt h.ld.1
  ·rw[Rat.num_inv,Int.natAbs_mul]
   have h4:=h.ld.2
   rcases Int.lt_trichotomy (ld d).num 0 with h5 | h5 | h5
   ·rw[Int.sign_eq_neg_one_of_neg h5];simp;omega
   ·rw[h5];simp
   ·rw[Int.sign_eq_one_of_pos h5];simp;omega
 have hqs:∀ t,cf q t+cf (mono i k) t=if t=i then k else cf q t:=fun t=>by
  rw[cf_mono]
  by_cases et:t=i
  ·subst et;rw[if_pos rfl,if_pos rfl,x.q0 t (by simp only;omega)];grind
  ·rw[if_neg et,if_neg et];grind
 have hqb:∀ t,Bq n (cf q t+cf (mono i k) t):=fun t=>by
  rw[hqs];split
  ·exact hkb
  ·exact x.qb t
 refine⟨⟨by simp only;omega,nf_add _ _,nf_sub _ _,by simp only;omega,?_,fun t ht => ?_,fun y => ?_,fun t=>by simp only;rw[hcm];exact hlb t,fun t=>by simp only;rw[cf_add];exact hqb t⟩,hkb,fun a c => ?_,hqb,fun t => ?_⟩
 ·simp only
  have:=add_len q (mono i k)
  rw[mono_len] at this
  omega
 ·simp only at ht ⊢
  rw[cf_add,hqs,if_neg (by omega)]
  exact x.q0 t (by simp only;omega)
 ·have e1:=x.eq y
  simp only at e1 ⊢
  rw[ev_add,ev_sub,ev_mul,ev_mono,e1];grind
 ·rw[cf_mono]
  split
  ·exact hkd c
  ·rw[Rat.zero_mul];exact Db.zero (hkd 0).1 _
 ·rw[←cf_sub,hcm]
  exact (hlb t).Bq g1 g2
set_option maxHeartbeats 8000000 in
theorem pdiv_con (p d:List Rat) (np:Nf p) (nd:Nf d) (hd:d≠[]) {K H E G b n S:Nat} (hB:DivB p d K H E G b n S) (hSb:S+2≤2^b) (hn1:1<n) (h1:p.length≤1000000) (h2:d.length≤1000000) (hS1:S≤1000000) :
  Con Tryz.prog AN 28 [LZ p,LZ d] (.tup [LZ (quoQ p d),LZ (remQ p d)]):=by
 have hdl:=List.length_pos_iff.2 hd
 have hlen:=hB.len
 have hn0:0<n:=hB.bl.pos
 have h0:=ld_ne nd hd
 refine fn28.con rfl (by simp) ?_
 simp only[c28,c28_58,c28_1,l28_0,init2,cw,csW,cops,reduceCtorEq,Nat.reduceEqDiff]
 refine keep [0,1] ?_
 simp only[c28_57,c28_3,l28_2,csW,reduceCtorEq,Nat.reduceEqDiff,cw,cops]
 refine keep [0,1,6] ?_
 simp only[c28_56,c28_52,csW,reduceCtorEq,Nat.reduceEqDiff,cw]
 refine loop_of (ι:=Nat × List Rat × List Rat) (PDivS p d K H E G n S) (fun x=>⟨look [(0,.p (LZ x.2.2)),(1,.p (LZ d)),(6,.p (LZ x.2.1))],lookM []⟩) (fun x=>x.1) (S,[],p) (PDivS.begin hB np hn0) ((Sub.showG 6 12 _ (LZ []) rfl rfl).tr (Sub.toG [0,1,6] [7,8,12,32] (by rfl) (by rfl) (by rfl) (by rfl))) ?_
 rintro⟨s,q,r⟩ hs
 have hle:=hs.le
 have hrl:=hs.len
 have hql:=hs.ql
 simp only at hle hrl hql
 by_cases hr:r.length<d.length
 ·have hI:¬ (d.length:Int)≤(r.length:Int):=by omega
  obtain⟨e1,e2⟩:=PDivS.fin hB nd hs hr
  simp only[c28_50,c28_7,c28_5,l28_4,cw,csW,cops,reduceCtorEq,Nat.reduceEqDiff,hI]
  refine keep [0,1,6,17] ?_
  simp only[c28_6,csW,reduceCtorEq,Nat.reduceEqDiff,cw]
  refine keep [0,6] ?_
  simp only[c28_55,c28_54,l28_53,csW,reduceCtorEq,Nat.reduceEqDiff,cw,cops]
  refine keep [4,5] ?_
  simp only[Ends,resD,resL,resV,csW,reduceCtorEq,Nat.reduceEqDiff]
  rw[e1,e2]
 ·have hI:(d.length:Int)≤(r.length:Int):=by omega
  rcases s with _ | s
  ·omega
  obtain⟨i,hi⟩:∃ i,r.length=i+d.length:=⟨r.length-d.length,by omega⟩
  obtain⟨x1,x2,x3,x4,x5⟩:=PDivS.next hB nd hd hs hi
  obtain⟨k,hk⟩:∃ k,k=ld r / ld d:=⟨_,rfl⟩
  rw[←hk] at x1 x2 x3 x4 x5
  have hrb:Bl n r:=by
   obtain⟨g1,g2,-,-⟩:=lb_le hB (s:=S-(s+1)) (by omega)
   exact Bl.ofLb hs.lb g1 g2
  have hNI:(r.length:Int)-(d.length:Int)+1=(i:Int)+1:=by omega
  simp only[c28_50,c28_7,c28_5,l28_4,cw,csW,cops,reduceCtorEq,Nat.reduceEqDiff,hI]
  refine keep [0,1,6,17] ?_
  simp only[c28_6,csW,reduceCtorEq,Nat.reduceEqDiff,cw]
  refine keep [0,1,6] ?_
  simp only[c28_49,c28_48,c28_12,l28_8,csW,reduceCtorEq,Nat.reduceEqDiff,cw,cops]
  refine⟨_,plead_con r (by omega),?_⟩
  simp only[l28_9,cops,csW,reduceCtorEq,Nat.reduceEqDiff]
  refine⟨_,plead_con d (by omega),?_⟩
  simp only[l28_10,cops,csW,reduceCtorEq,Nat.reduceEqDiff]
  refine⟨_,zQuo _ _ n (hrb (r.length-1)) (by rw[show ld d=cf d (d.length-1) from rfl];exact hB.bl _) hB.hn h0,?_⟩
  simp only[l28_11,←hk,csP,cops,csW,reduceCtorEq,Nat.reduceEqDiff,Nat.reduceAdd]
  refine keep [0,1,6,7] ?_
  simp only[c28_47,c28_14,l28_13,csW,reduceCtorEq,Nat.reduceEqDiff,cw,cops,hNI]
  (repeat refine And.intro (by first | omega | (simp;omega)) ?_)
  refine keep [0,1,6,7,9] ?_
  simp only[c28_46,c28_31,c28_16,l28_15,csW,reduceCtorEq,Nat.reduceEqDiff,cw,cops]
  refine keep [0,1,6,7,9,10] ?_
  simp only[c28_30,csW,reduceCtorEq,Nat.reduceEqDiff,cw]
  refine loop_of (ι:=Nat) (fun j=>j≤i+1) (fun j=>⟨look [(0,.p (LZ r)),(1,.p (LZ d)),(6,.p (LZ q)),(7,.ptr 7 0 0),(9,.slice 32 0 (i+1)),(10,.p (J j))],
   lookM [(7,⟨60,4,.box (.p (qZ k)),false⟩),(32,⟨60,4,.row (List.replicate j (qZ 0)++List.replicate (i+1-j) (.agg [.bool false,.list 3 1 [],.bool false,.list 3 1 []])),false⟩)]⟩) (fun j=>i+1-j) 0 (by omega) (Sub.toG [0,1,6,7,9,10] [8,12] (by rfl) (by rfl) (by rfl) (by rfl)) ?_
  rintro j hj
  have hrow:(List.replicate j (qZ 0)++List.replicate (i+1-j) (D.agg [.bool false,.list 3 1 [],.bool false,.list 3 1 []])).length=i+1:=by simp;omega
  by_cases h':j<i+1
  ·have hJ:(j:Int)<(i:Int)+1:=by omega
   simp only[c28_28,c28_20,c28_18,l28_17,csP,cw,csW,cops,reduceCtorEq,Nat.reduceEqDiff,hJ]
   refine keep [0,1,6,7,9,10,36] ?_
   simp only[c28_19,csW,reduceCtorEq,Nat.reduceEqDiff,cw]
   refine keep [0,1,6,7,9,10] ?_
   simp only[c28_27,c28_24,c28_23,l28_21,csW,reduceCtorEq,Nat.reduceEqDiff,cw,cops]
   refine⟨_,fof_con 0 (by omega),?_⟩
   simp only[l28_22,rat_zero,cops,csW,csP,reduceCtorEq,Nat.reduceEqDiff,Nat.reduceAdd,rows_setq h']
   (repeat refine And.intro (by first | omega | (simp;omega)) ?_)
   refine keep [0,1,6,7,9,10] ?_
   simp only[c28_26,l28_25,csW,reduceCtorEq,Nat.reduceEqDiff,cw,cops]
   (repeat refine And.intro (by first | omega | (simp;omega)) ?_)
   exact⟨j+1,by omega,(Sub.toG [0,1,6,7,9,10] [8,12] (by rfl) (by rfl) (by rfl) (by rfl)),by omega⟩
  ·have hJ:¬ (j:Int)<(i:Int)+1:=by omega
   have hji:j=i+1:=by omega
   subst hji
   have hrw:List.replicate (i+1) (qZ 0)++List.replicate (i+1-(i+1)) (D.agg [.bool false,.list 3 1 [],.bool false,.list 3 1 []])=(tab (i+1) fun _=>0).map qZ:=by
    rw[Nat.sub_self,List.replicate_zero,List.append_nil,rep_z,tab_0]
   rw[hrw]
   have hJ:¬ (i:Int)+1<(i:Int)+1:=by omega
   have hit:((i:Int)+1-1).toNat=i:=by omega
   have hmb:Bl n (mono i k):=fun t=>by
    rw[cf_mono];split
    ·exact x2
    ·exact Bq.zero n hn0
   have htk:(mono i k).take (i+1)=mono i k:=List.take_of_length_le (by rw[mono_len];omega)
   obtain⟨g1,g2,-,g3⟩:=lb_le hB (s:=S-s) (by omega)
   have eS:S-s=S-(s+1)+1:=by omega
   have hK':K*E^(S-(s+1))*E<2^n:=by rw[Nat.mul_assoc,←Nat.pow_succ,Nat.succ_eq_add_one,←eS];exact g1
   have hH':((mono i k).length+1)*(H*(E+G)^(S-(s+1))*G)<2^n:=by
    refine Nat.lt_of_le_of_lt ?_ g3
    rw[mono_len,Nat.mul_comm,eS,Nat.pow_succ,←Nat.mul_assoc H]
    exact Nat.mul_le_mul (Nat.mul_le_mul_left _ (by omega)) (by omega)
   have hml:=mul_len_le (mono i k) d
   rw[mono_len] at hml
   have hmul:∀ t,Bq n (cf (mulQ (mono i k) d) t):=fun t=>by
    rw[cf_mul,cnv_mono];unfold shl;split
    ·have:=x3 i (t-i)
     rw[cf_mono,if_pos rfl] at this
     exact this.Bq hK' (Nat.lt_of_le_of_lt (Nat.le_mul_of_pos_left _ (by omega)) hH')
    ·exact Bq.zero n hn0
   simp only[c28_28,c28_20,c28_18,l28_17,csP,csW,cw,cops,reduceCtorEq,Nat.reduceEqDiff,hJ]
   refine keep [0,1,6,7,9,10,36] ?_
   simp only[c28_19,csW,reduceCtorEq,Nat.reduceEqDiff,cw]
   refine keep [0,1,6,7,9] ?_
   simp only[c28_45,c28_33,l28_32,csW,reduceCtorEq,Nat.reduceEqDiff,cw,cops,csP,Nat.reduceLT,Nat.reduceAdd,Nat.le_refl,mono_tab]
   (repeat refine And.intro (by first | omega | (simp;omega)) ?_)
   refine keepF 32 _ [0,1,6,9] (by rfl) ?_
   simp only[c28_44,c28_36,l28_34,csW,reduceCtorEq,Nat.reduceEqDiff,cw,cops,Bool.true_or,mono_len,Nat.le_refl,csP,htk]
   refine⟨_,padd_con q (mono i k) n hs.qb hmb x4 hB.hn (by omega) (by rw[mono_len];omega),?_⟩
   simp only[l28_35,cops,csW,reduceCtorEq,Nat.reduceEqDiff]
   refine keep [0,1,6,9] ?_
   simp only[c28_43,c28_40,l28_37,csW,reduceCtorEq,Nat.reduceEqDiff,cw,cops,Bool.true_or,mono_len,Nat.le_refl,csP,htk]
   refine⟨_,pmul_con (mono i k) d _ _ n hmb hB.bl x3 hK' hH' hB.hn (by rw[mono_len];omega) h2,?_⟩
   simp only[l28_38,cops,csW,reduceCtorEq,Nat.reduceEqDiff]
   refine⟨_,psub_con r (mulQ (mono i k) d) n hrb hmul x5 hB.hn hn1 (by omega) (by omega),?_⟩
   simp only[l28_39,cops,csW,reduceCtorEq,Nat.reduceEqDiff]
   refine keep [1,6,11] ?_
   simp only[c28_42,l28_41,csW,reduceCtorEq,Nat.reduceEqDiff,cw,cops]
   exact⟨(s,addQ q (mono i k),subQ r (mulQ (mono i k) d)),x1,(Sub.toG [0,1,6] [7,8,12,32] (by rfl) (by rfl) (by rfl) (by rfl)),by simp⟩
end Go.Proofs.YtkidkimjdiichaaGreat.M
