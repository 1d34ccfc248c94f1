/- Polynomials: division. -/
import Derived.Test.YtdjbfgfbpimakaaPoEx
namespace Go.Proofs.Ytdjbfgfbpimakaa.M
open Go.RowKit
set_option linter.unusedSimpArgs false
set_option linter.unusedVariables false
set_option linter.defProp false
theorem ev_set:∀ {l:List Rat} {i:Nat} (k x:Rat),i<l.length→evQ (l.set i k) x=evQ l x+(k-cf l i)*x^i
 | [],_,_,_,h=>by simp at h
 | a::l,0,k,x,_=>by simp only[List.set_cons_zero,evQ,cf_cons,Rat.pow_zero];grind
 | a::l,i+1,k,x,h=>by
  simp only[List.set_cons_succ,evQ,cf_cons,ev_set (l:=l) (i:=i) k x (by simpa using h),Rat.pow_succ];grind
theorem cf_set {l:List Rat} {i:Nat} (h:i<l.length) (k:Rat) (j:Nat):cf (l.set i k) j=if j=i then k else cf l j:=by
 unfold cf
 simp only[List.getD_eq_getElem?_getD,List.getElem?_set]
 by_cases e:j=i
 ·subst e;simp[h]
 ·rw[if_neg (fun e'=>e e'.symm),if_neg e]
def rj (r d:List Rat) (i:Nat) (k:Rat) (j:Nat):List Rat:=tab r.length fun t=>cf r t-if i≤t∧t<i+j then k*cf d (t-i) else 0
theorem rj_len (r d:List Rat) (i:Nat) (k:Rat) (j:Nat):(rj r d i k j).length=r.length:=tab_len _ _
theorem rj_0 (r d:List Rat) (i:Nat) (k:Rat):rj r d i k 0=r:=by
 unfold rj
 rw[tab_ext (g:=cf r) fun t _=>by rw[if_neg (by omega)];grind,tab_cf]
theorem rj_at {r d:List Rat} {i j:Nat} (k:Rat) (h:i+j<r.length):cf (rj r d i k j) (i+j)=cf r (i+j):=by
 unfold rj;rw[cf_tab,if_pos h,if_neg (by omega)];grind
theorem rj_set {r d:List Rat} {i j:Nat} (k:Rat) (h:i+j<r.length):(rj r d i k j).set (i+j) (cf r (i+j)-k*cf d j)=rj r d i k (j+1):=by
 unfold rj
 rw[tab_set]
 refine tab_ext fun t ht => ?_
 by_cases e:t=i+j
 ·subst e;rw[if_pos rfl,if_pos (by omega),show i+j-i=j by omega]
 ·rw[if_neg e]
  by_cases h2:i≤t∧t<i+j
  ·rw[if_pos h2,if_pos (by omega)]
  ·rw[if_neg h2,if_neg (by omega)]
theorem rj_end {r d:List Rat} {i:Nat} (k:Rat) (h:i+d.length≤r.length):rj r d i k d.length=dstep r d i k:=by
 unfold rj dstep shl
 refine tab_ext fun t ht => ?_
 by_cases h1:i≤t
 ·by_cases h2:t<i+d.length
  ·rw[if_pos ⟨h1,h2⟩,if_pos h1]
  ·rw[if_neg (fun e=>h2 e.2),if_pos h1,cf_ge (l:=d) (by omega)];grind
 ·rw[if_neg (fun e=>h1 e.1),if_neg h1]
theorem Bl.ofLb {K H n:Nat} {l:List Rat} (h:Lb K H l) (hK:K<2^n) (hH:H<2^n):Bl n l:=fun i=>(h i).Bq hK hH
structure DivB (p d:List Rat) (K H E G b n S:Nat):Prop where
 lb:Lb K H p
 e0:0<E
 eg:∀ j,Db E G (cf d j / ld d)
 ld:Bq b (ld d)
 bl:Bl n d
 len:p.length=S+d.length-1
 hK:K*E^S*2^b<2^n
 hH:H*(E+G)^S*2^b<2^n
 hn:n≤big
theorem pow_up {a b c:Nat} (h:0<a) (hbc:b≤c):a^b≤a^c:=Nat.pow_le_pow_right h hbc
structure DivS (p d:List Rat) (K H E G n S:Nat) (x:Nat × List Rat × List Rat):Prop where
 le:x.1≤S
 ql:x.2.1.length=S
 rl:x.2.2.length=p.length
 top:∀ t,x.1+d.length≤t+1→cf x.2.2 t=0
 q0:∀ i,i<x.1→cf x.2.1 i=0
 eq:∀ y,evQ p y=evQ x.2.1 y*evQ d y+evQ x.2.2 y
 lb:Lb (K*E^(S-x.1)) (H*(E+G)^(S-x.1)) x.2.2
 qb:Bl n x.2.1
theorem DivS.begin {p d:List Rat} {K H E G b n S:Nat} (h:DivB p d K H E G b n S) (hd:d≠[]) (hn:0<n):DivS p d K H E G n S (S,tab S fun _=>0,p) where
 le:=Nat.le_refl _
 ql:=tab_len _ _
 rl:=rfl
 top:=fun t ht=>cf_ge (by have:=h.len;have:=List.length_pos_iff.2 hd;simp only at ht ⊢;omega)
 q0:=fun i hi=>by simp only;rw[cf_tab];split<;>rfl
 eq:=fun y=>by
  have:evQ (tab S fun _=>0) y=0:=by rw[ev_sum _ y (Nat.le_refl _)];exact sumQ_0 fun i _=>by rw[cf_tab];split<;>grind
  simp only[this];grind
 lb:=by simpa using h.lb
 qb:=Bl.tab hn fun _ _=>Bq.zero n hn
def nextK (d r:List Rat) (i:Nat):Rat:=cf r (i+d.length-1) / ld d
theorem lb_le {p d:List Rat} {K H E G b n S:Nat} (h:DivB p d K H E G b n S) {s:Nat} (hs:s≤S):K*E^s<2^n∧H*(E+G)^s<2^n∧K*E^s*2^b<2^n∧H*(E+G)^s*2^b<2^n:=by
 have e1:E^s≤E^S:=pow_up h.e0 hs
 have e2:(E+G)^s≤(E+G)^S:=pow_up (by have:=h.e0;omega) hs
 have h1:K*E^s*2^b<2^n:=Nat.lt_of_le_of_lt (Nat.mul_le_mul_right _ (Nat.mul_le_mul_left _ e1)) h.hK
 have h2:H*(E+G)^s*2^b<2^n:=Nat.lt_of_le_of_lt (Nat.mul_le_mul_right _ (Nat.mul_le_mul_left _ e2)) h.hH
 have hp:0<2^b:=Nat.pow_pos (by omega)
 exact⟨Nat.lt_of_le_of_lt (Nat.le_mul_of_pos_right _ hp) h1,Nat.lt_of_le_of_lt (Nat.le_mul_of_pos_right _ hp) h2,h1,h2⟩
theorem DivS.k_bq {p d:List Rat} {K H E G b n S:Nat} (h:DivB p d K H E G b n S) {i:Nat} {qa r:List Rat} (s:DivS p d K H E G n S (i+1,qa,r)):Bq n (nextK d r i):=by
 have h1:=s.lb (i+d.length-1)
 have h2:=Db.of_self (ld d)⁻¹
 have h3:=h1.mul h2
 obtain⟨-,-,g1,g2⟩:=lb_le h (s:=S-(i+1)) (by omega)
 unfold nextK
 rw[Rat.div_def]
 refine h3.Bq (Nat.lt_of_le_of_lt (Nat.mul_le_mul_left _ ?_) g1) (Nat.lt_of_le_of_lt (Nat.mul_le_mul_left _ ?_) g2)
 ·rw[Rat.den_inv]
  split
  ·exact Nat.pow_pos (by omega)
  ·exact Nat.le_of_lt h.ld.1
 ·rw[Rat.num_inv,Int.natAbs_mul]
  have h4:=h.ld.2
  rcases Int.lt_trichotomy (ld d).num 0 with h5 | h5 | h5
  ·rw[Int.sign_eq_neg_one_of_neg h5];simp;omega
  ·rw[h5];simp
  ·rw[Int.sign_eq_one_of_pos h5];simp;omega
theorem DivS.kj {p d:List Rat} {K H E G b n S:Nat} (h:DivB p d K H E G b n S) {i:Nat} {qa r:List Rat} (s:DivS p d K H E G n S (i+1,qa,r)) (j:Nat):Db (K*E^(S-(i+1))*E) (H*(E+G)^(S-(i+1))*G) (nextK d r i*cf d j):=by
 have e:nextK d r i*cf d j=cf r (i+d.length-1)*(cf d j / ld d):=by unfold nextK;grind
 rw[e]
 exact (s.lb (i+d.length-1)).mul (h.eg j)
theorem DivS.kj_bq {p d:List Rat} {K H E G b n S:Nat} (h:DivB p d K H E G b n S) {i:Nat} {qa r:List Rat} (s:DivS p d K H E G n S (i+1,qa,r)) (j:Nat):Bq n (nextK d r i*cf d j):=by
 obtain⟨g1,g2,-,-⟩:=lb_le h (s:=S-i) (by omega)
 have hle:=s.le
 have e:S-i=S-(i+1)+1:=by simp only at hle;omega
 refine (DivS.kj h s j).Bq ?_ ?_
 ·rw[Nat.mul_assoc,←Nat.pow_succ,Nat.succ_eq_add_one,←e];exact g1
 ·refine Nat.lt_of_le_of_lt ?_ g2
  rw[e,Nat.pow_succ,←Nat.mul_assoc]
  exact Nat.mul_le_mul_left _ (by omega)
theorem DivS.next {p d:List Rat} {K H E G b n S:Nat} (h:DivB p d K H E G b n S) (nd:Nf d) (hd:d≠[]) {i:Nat} {qa r:List Rat} (s:DivS p d K H E G n S (i+1,qa,r)):DivS p d K H E G n S (i,qa.set i (nextK d r i),dstep r d i (nextK d r i)):=by
 have hle:=s.le
 have hql:=s.ql
 have hrl:=s.rl
 have hlen:=h.len
 have hdl:=List.length_pos_iff.2 hd
 simp only at hle hql hrl
 have hS:i+d.length≤r.length:=by omega
 have hi:i<qa.length:=by omega
 have e:S-i=S-(i+1)+1:=by omega
 refine⟨by simp only;omega,by simp[hql],by simp only;rw[dstep_len];exact hrl,fun t ht => ?_,fun j hj => ?_,fun y => ?_,?_,fun j => ?_⟩
 ·exact dstep_top hd (ld_ne nd hd) hS (fun t ht=>s.top t (by simp only;omega)) (by simp only at ht;omega)
 ·simp only at hj ⊢
  rw[cf_set hi,if_neg (by omega)]
  exact s.q0 j (by simp only;omega)
 ·simp only
  rw[ev_set _ _ hi,ev_dstep hS]
  have h1:=s.eq y
  have h2:=s.q0 i (by simp only;omega)
  simp only at h1 h2
  rw[h2,h1];grind
 ·simp only
  have:=Lb.step (k:=nextK d r i) hS s.lb (fun j=>DivS.kj h s j) h.e0
  rw[e,Nat.pow_succ,Nat.pow_succ,←Nat.mul_assoc,←Nat.mul_assoc]
  exact this
 ·simp only
  rw[cf_set hi]
  split
  ·exact DivS.k_bq h s
  ·exact s.qb j
theorem DivS.skip {p d:List Rat} {K H E G b n S:Nat} (h:DivB p d K H E G b n S) (nd:Nf d) (hd:d≠[]) {i:Nat} {qa r:List Rat} (s:DivS p d K H E G n S (i+1,qa,r)) (hk:nextK d r i=0):DivS p d K H E G n S (i,qa.set i (nextK d r i),r):=by
 have h1:=DivS.next h nd hd s
 have hlen:=h.len
 have hrl:=s.rl
 have hle:=s.le
 simp only at hle hrl
 have hdl:=List.length_pos_iff.2 hd
 have e:dstep r d i (nextK d r i)=r:=by
  rw[hk]
  unfold dstep
  rw[tab_ext (g:=cf r) fun t _=>by unfold shl;split<;>grind,tab_cf]
 rw[e] at h1
 exact h1
theorem DivS.fin {p d:List Rat} {K H E G b n S:Nat} (h:DivB p d K H E G b n S) (nd:Nf d) (hd:d≠[]) {qa r:List Rat} (s:DivS p d K H E G n S (0,qa,r)):trimQ qa=quoQ p d∧trimQ r=remQ p d:=by
 have hdl:=List.length_pos_iff.2 hd
 refine div_eq nd ⟨nf_trim _,nf_trim _,fun y=>by rw[ev_trim,ev_trim];exact s.eq y,?_⟩
 have:(trimQ r).length≤d.length-1:=len_le_of (nf_trim _) fun t ht=>by rw[cf_trim];exact s.top t (by simp only;omega)
 omega
theorem DivS.r_bl {p d:List Rat} {K H E G b n S:Nat} (h:DivB p d K H E G b n S) {x:Nat × List Rat × List Rat} (s:DivS p d K H E G n S x):Bl n x.2.2:=by
 obtain⟨g1,g2,-,-⟩:=lb_le h (s:=S-x.1) (by omega)
 exact Bl.ofLb s.lb g1 g2
theorem nil_div {p d:List Rat} (np:Nf p) (nd:Nf d) (h:p.length<d.length):quoQ p d=[]∧remQ p d=p:=by
 have:=div_eq nd (p:=p) (d:=d) (q:=[]) (r:=p) ⟨nf_nil,np,fun x=>by rw[evQ_nil];grind,h⟩
 exact⟨this.1.symm,this.2.symm⟩
set_option maxHeartbeats 4000000 in
theorem divs_con (p d:List Rat) (np:Nf p) (nd:Nf d) (h:p.length<d.length) (h2:d.length≤1000000):Con Try.prog AN 41 [pI p,pI d] (.tup [pI (quoQ p d),pI (remQ p d),flt 0 0]):=by
 have hdI:¬ (d.length:Int)=0:=by omega
 have hI:(p.length:Int)<(d.length:Int):=by omega
 obtain⟨e1,e2⟩:=nil_div np nd h
 rw[e1,e2]
 refine fn41.con rfl (by simp) ?_
 simp only[c41,c41_80,c41_1,l41_0,csP,init2,cw,csW,apartV,bne,cops,reduceCtorEq,Nat.reduceEqDiff]
 refine keep [2,3,4,5,6] ?_
 simp only[c41_79,c41_9,c41_3,l41_2,csW,reduceCtorEq,Nat.reduceEqDiff,cw,apartV,bne,cops,csP,hdI]
 refine keep [2,3,4,5,6,17] ?_
 simp only[c41_8,csW,Nat.reduceEqDiff,cw]
 refine keep [2,3,4,5,6] ?_
 simp only[c41_78,c41_11,l41_10,csW,Nat.reduceEqDiff,cw,apartV,bne,cops,csP]
 (repeat refine And.intro (by first | omega | (simp;omega)) ?_)
 refine keep [2,3,4,5,6,7] ?_
 simp only[c41_77,c41_18,c41_13,l41_12,csW,Nat.reduceEqDiff,cw,apartV,bne,cops,csP,hI]
 refine keep [2,3,4,5,6,7,29] ?_
 simp only[c41_17,csW,Nat.reduceEqDiff,cw]
 simp only[c41_16,c41_15,l41_14,cw,csW,apartV,bne,Nat.reduceEqDiff,Nat.reduceBEq,cops,csP,Nat.reduceAdd]
 refine keep [4,5,6] ?_
 simp only[Ends,resD,resL,resV,csW,Nat.reduceEqDiff,csP,Nat.reduceAdd]
 rfl
set_option maxHeartbeats 8000000 in
theorem div_con (p d:List Rat) (nd:Nf d) (hd:d≠[]) {K H E G b n S:Nat} (hB:DivB p d K H E G b n S) (hS:0<S) (h1:p.length≤1000000) (h2:d.length≤1000000) :
  Con Try.prog AN 41 [pI p,pI d] (.tup [pI (quoQ p d),pI (remQ p d),flt 0 0]):=by
 have hdl:=List.length_pos_iff.2 hd
 have hlen:=hB.len
 have hdI:¬ (d.length:Int)=0:=by omega
 have hI:¬ (p.length:Int)<(d.length:Int):=by omega
 have hSI:(p.length:Int)-(d.length:Int)+1=(S:Int):=by omega
 have hn0:0<n:=hB.bl.pos
 have h0:=ld_ne nd hd
 refine fn41.con rfl (by simp) ?_
 simp only[c41,c41_80,c41_1,l41_0,csP,init2,cw,csW,apartV,bne,cops,reduceCtorEq,Nat.reduceEqDiff]
 refine keep [2,3,4,5,6] ?_
 simp only[c41_79,c41_9,c41_3,l41_2,csW,reduceCtorEq,Nat.reduceEqDiff,cw,apartV,bne,cops,csP,hdI]
 refine keep [2,3,4,5,6,17] ?_
 simp only[c41_8,csW,Nat.reduceEqDiff,cw]
 refine keep [2,3,4,5,6] ?_
 simp only[c41_78,c41_11,l41_10,csW,Nat.reduceEqDiff,cw,apartV,bne,cops,csP]
 (repeat refine And.intro (by first | omega | (simp;omega)) ?_)
 refine keep [2,3,4,5,6,7] ?_
 simp only[c41_77,c41_18,c41_13,l41_12,csW,Nat.reduceEqDiff,cw,apartV,bne,cops,csP,hI]
 refine keep [2,3,4,5,6,7,29] ?_
 simp only[c41_17,csW,Nat.reduceEqDiff,cw]
 refine keep [3,4,5,6,7] ?_
 simp only[c41_76,c41_20,l41_19,csP,csW,Nat.reduceEqDiff,cw,apartV,bne,cops,hSI]
 (repeat refine And.intro (by first | omega | (simp;omega)) ?_)
 refine keep [3,4,5,6,7,8] ?_
 simp only[c41_75,c41_69,c41_22,l41_21,csW,Nat.reduceEqDiff,cw,apartV,bne,cops]
 (repeat refine And.intro (by first | omega | (simp;omega)) ?_)
 refine keep [3,4,5,6,7,8,9] ?_
 simp only[c41_68,csW,Nat.reduceEqDiff,cw]
 refine loop_of (ι:=Nat × List Rat × List Rat) (DivS p d K H E G n S) (fun x=>⟨look [(3,.ptr 3 0 0),(4,.ptr 4 0 0),(5,.ptr 5 0 0),(6,.ptr 6 0 0),(7,.slice 23 0 p.length),(8,.slice 40 0 S),(9,.p (J ((x.1:Int)-1)))],
  lookM [(3,⟨25,1,.box (.p (pI d)),false⟩),(4,⟨25,1,.box zPoly,false⟩),(5,⟨25,1,.box zPoly,false⟩),(6,⟨27,2,.box (.p (flt 0 0)),false⟩),(23,⟨39,4,.row (x.2.2.map qI),false⟩),(40,⟨39,4,.row (x.2.1.map qI),false⟩)]⟩) (fun x=>x.1) (S,tab S fun _=>0,p) (DivS.begin hB hd hn0) (by simp only[←tab_0];exact (Sub.toG [3,4,5,6,7,8,9] [2,10,11,13] (by rfl) (by rfl) (by rfl) (by rfl))) ?_
 rintro⟨i,qa,r⟩ hs
 have hql:=hs.ql
 have hrl:=hs.rl
 have hle:=hs.le
 simp only at hql hrl hle
 rcases i with _ | i
 ·have hJ:¬ (0:Int)≤0-1:=by omega
  obtain⟨e1,e2⟩:=DivS.fin hB nd hd hs
  have hrb:=DivS.r_bl hB hs
  have hqb:=hs.qb
  simp only at hrb hqb
  have ht1:qa.take S=qa:=List.take_of_length_le (by omega)
  have ht2:r.take p.length=r:=List.take_of_length_le (by omega)
  simp only[c41_66,c41_26,c41_24,l41_23,csP,csW,cw,apartV,bne,cops,Nat.reduceEqDiff,hJ]
  refine keep [3,4,5,6,7,8,9,45] ?_
  simp only[c41_25,csW,Nat.reduceEqDiff,cw]
  refine keepF2 23 _ 40 _ [4,5,6,7,8] (by rfl) (by rfl) ?_
  simp only[c41_74,c41_73,l41_70,csW,Nat.reduceEqDiff,cw,apartV,bne,cops,Bool.true_or,hql,Nat.le_refl,csP,ht1]
  refine⟨_,made_con qa n hqb hB.hn (by omega),?_⟩
  simp only[l41_71,cops,csW,Nat.reduceEqDiff,Bool.true_or,hrl,Nat.le_refl,csP,ht2]
  refine⟨_,made_con r n hrb hB.hn (by omega),?_⟩
  simp only[l41_72,cops,csW,csP,Nat.reduceEqDiff,Nat.reduceAdd]
  refine keep [4,5,6] ?_
  simp only[Ends,resD,resL,resV,csW,Nat.reduceEqDiff,csP,Nat.reduceAdd]
  rw[e1,e2]
 ·have hJ:(0:Int)≤(i:Int):=by omega
  have hil:i+d.length-1<r.length:=by omega
  have hiq:i<qa.length:=by omega
  have hit:((i:Int)+(d.length:Int)-1).toNat=i+d.length-1:=by omega
  have hrb:=DivS.r_bl hB hs
  have hkb:=DivS.k_bq hB hs
  simp only at hrb
  have hnk:cf r (i+d.length-1) / ld d=nextK d r i:=rfl
  simp only[c41_66,c41_26,c41_24,l41_23,csP,csW,cw,apartV,bne,cops,Nat.reduceEqDiff,hJ]
  refine keep [3,4,5,6,7,8,9,45] ?_
  simp only[c41_25,csW,Nat.reduceEqDiff,cw]
  refine keep [3,4,5,6,7,8,9] ?_
  simp only[c41_65,c41_62,c41_61,c41_30,l41_27,csW,Nat.reduceEqDiff,cw,apartV,bne,cops,csP]
  refine⟨_,lead_con d (by omega),?_⟩
  simp only[l41_28,cops,csW,csP,Nat.reduceLT,Nat.reduceEqDiff,hit,getD_q hil,Nat.reduceAdd,hrl]
  (repeat refine And.intro (by first | omega | (simp;omega)) ?_)
  refine⟨_,qQuo _ _ n (hrb (i+d.length-1)) (by rw[show ld d=cf d (d.length-1) from rfl];exact hB.bl _) hB.hn h0,?_⟩
  simp only[l41_29,csP,hnk,cops,csW,Nat.reduceEqDiff,Nat.reduceAdd]
  refine keep [3,4,5,6,7,8,9,10] ?_
  simp only[c41_60,c41_32,l41_31,csW,Nat.reduceEqDiff,cw,apartV,bne,cops,csP,Nat.reduceLT,Nat.reduceAdd,hql]
  (repeat refine And.intro (by first | omega | (simp;omega)) ?_)
  refine keep [3,4,5,6,7,8,9,10] ?_
  simp only[c41_59,c41_37,c41_35,l41_33,csW,Nat.reduceEqDiff,cw,apartV,bne,cops,csP,Nat.reduceAdd]
  refine⟨_,qSign _ n hkb hB.hn,?_⟩
  simp only[l41_34,cops,csW,Nat.reduceEqDiff]
  refine keep [3,4,5,6,7,8,9,10,69] ?_
  simp only[c41_36,csW,Nat.reduceEqDiff,cw,reduceCtorEq]
  refine⟨fun hc => ?_,fun hc => ?_⟩
  ·(try simp only[cw,cops,csW,reduceIte,Nat.reduceEqDiff,reduceCtorEq,Nat.reduceAdd,Nat.reduceLT,Nat.reduceLeDiff,Nat.reduceSub,csP,rj_len,apartV,bne,Nat.reduceBEq,Bool.not_false])
   refine keep [3,4,5,6,7,8,9] ?_
   simp only[c41_64,l41_63,csW,Nat.reduceEqDiff,cw,apartV,bne,cops]
   (repeat refine And.intro (by first | omega | (simp;omega)) ?_)
   have hz:nextK d r i=0:=sgnQ_0.1 (by simpa using hc)
   exact⟨(i,qa.set i (nextK d r i),r),DivS.skip hB nd hd hs hz,(Sub.toG [3,4,5,6,7,8,9] [2,10,11,13] (by rfl) (by rfl) (by rfl) (by rfl)),by simp⟩
  ·(try simp only[cw,cops,csW,reduceIte,Nat.reduceEqDiff,reduceCtorEq,Nat.reduceAdd,Nat.reduceLT,Nat.reduceLeDiff,Nat.reduceSub,csP,rj_len,apartV,bne,Nat.reduceBEq,Bool.not_false])
   refine keep [3,4,5,6,7,8,9,10] ?_
   simp only[c41_58,c41_39,l41_38,csW,Nat.reduceEqDiff,cw,apartV,bne,cops,csP]
   refine keep [3,4,5,6,7,8,9,10,71,72,73] ?_
   simp only[c41_57,csW,Nat.reduceEqDiff,cw]
   refine loop_of (ι:=Nat) (fun j=>j≤d.length) (fun j=>⟨look [(3,.ptr 3 0 0),(4,.ptr 4 0 0),(5,.ptr 5 0 0),(6,.ptr 6 0 0),(7,.slice 23 0 p.length),(8,.slice 40 0 S),(9,.p (J i)),(10,.ptr 10 0 0),(71,.p (LI d)),(72,.p (J d.length)),(73,.p (J j))],
    lookM [(3,⟨25,1,.box (.p (pI d)),false⟩),(4,⟨25,1,.box zPoly,false⟩),(5,⟨25,1,.box zPoly,false⟩),(6,⟨27,2,.box (.p (flt 0 0)),false⟩),(23,⟨39,4,.row ((rj r d i (nextK d r i) j).map qI),false⟩),(40,⟨39,4,.row ((qa.set i (nextK d r i)).map qI),false⟩),(10,⟨39,4,.box (.p (qI (nextK d r i))),false⟩)]⟩) (fun j=>d.length-j) 0 (by omega) (by rw[rj_0];exact (Sub.toG [3,4,5,6,7,8,9,10,71,72,73] [2,11,13] (by rfl) (by rfl) (by rfl) (by rfl))) ?_
   rintro j hj
   by_cases h':j<d.length
   ·have hjI:(j:Int)<(d.length:Int):=by omega
    have hij:i+j<r.length:=by omega
    have hij':i+j<(rj r d i (nextK d r i) j).length:=by rw[rj_len];omega
    have hijt:((i:Int)+(j:Int)).toNat=i+j:=by omega
    have hcf:=rj_at (d:=d) (nextK d r i) hij
    simp only[c41_55,c41_41,l41_40,csP,cw,csW,apartV,bne,cops,Nat.reduceEqDiff,hjI]
    refine keep [3,4,5,6,7,8,9,10,71,72,73,74] ?_
    simp only[c41_54,c41_42,csW,Nat.reduceEqDiff,cw,reduceCtorEq]
    refine keep [3,4,5,6,7,8,9,10,71,72,73] ?_
    simp only[c41_53,c41_50,c41_49,c41_44,l41_43,csP,csW,Nat.reduceEqDiff,cw,apartV,bne,cops,Nat.reduceLT,hjI,getD_q h',Nat.reduceAdd]
    (repeat refine And.intro (by first | omega | (simp;omega)) ?_)
    refine keep [3,4,5,6,7,8,9,10,12,13,71,72,73] ?_
    simp only[c41_48,l41_45,csW,Nat.reduceEqDiff,cw,apartV,bne,cops,csP,Nat.reduceLT,Nat.reduceAdd]
    refine⟨_,qMul _ _ n hkb (hB.bl j) hB.hn,?_⟩
    simp only[l41_46,cops,csW,csP,Nat.reduceLT,Nat.reduceEqDiff,hijt,getD_q hij',hcf,Nat.reduceAdd,rj_len,hrl]
    (repeat refine And.intro (by first | omega | (simp;omega)) ?_)
    refine⟨_,qSub _ _ n (hrb (i+j)) (DivS.kj_bq hB hs j) hB.hn,?_⟩
    simp only[l41_47,cops,csW,csP,Nat.reduceEqDiff,hijt,Nat.reduceAdd,rj_len,hrl]
    (repeat refine And.intro (by first | omega | (simp;omega)) ?_)
    refine keep [3,4,5,6,7,8,9,10,71,72,73] ?_
    simp only[c41_52,l41_51,csW,Nat.reduceEqDiff,cw,apartV,bne,cops]
    (repeat refine And.intro (by first | omega | (simp;omega)) ?_)
    exact⟨j+1,by omega,by rw[←rj_set (d:=d) (nextK d r i) hij];exact (Sub.toG [3,4,5,6,7,8,9,10,71,72,73] [2,11,13] (by rfl) (by rfl) (by rfl) (by rfl)),by omega⟩
   ·have hjI:¬ (j:Int)<(d.length:Int):=by omega
    have hjm:j=d.length:=by omega
    subst hjm
    simp only[c41_55,c41_41,l41_40,csP,cw,csW,apartV,bne,cops,Nat.reduceEqDiff,hjI]
    refine keep [3,4,5,6,7,8,9,10,71,72,73,74] ?_
    simp only[c41_54,c41_42,csW,Nat.reduceEqDiff,cw,reduceCtorEq]
    refine keep [3,4,5,6,7,8,9] ?_
    simp only[c41_64,l41_63,csW,Nat.reduceEqDiff,cw,apartV,bne,cops]
    (repeat refine And.intro (by first | omega | (simp;omega)) ?_)
    exact⟨(i,qa.set i (nextK d r i),dstep r d i (nextK d r i)),DivS.next hB nd hd hs,by rw[←rj_end (nextK d r i) (show i+d.length≤r.length by omega)];exact (Sub.toG [3,4,5,6,7,8,9] [2,10,11,13] (by rfl) (by rfl) (by rfl) (by rfl)),by simp⟩
end Go.Proofs.Ytdjbfgfbpimakaa.M
