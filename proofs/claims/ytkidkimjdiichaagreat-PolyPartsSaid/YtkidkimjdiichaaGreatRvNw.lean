/- Contracts of numbers: greatest divisors, quotients; fractions' parts. Polynomials: monic, the derivative, the value at a point. Polynomials: what comes out of two by Euclid's steps: there is one such with small cofactors (Siegel), so all are small but for a factor. Polynomials: the greatest common divisor; how large things get on the way to it. Polynomials: a divisor's coefficients are small (Gauss's lemma; values at whole numbers). Polynomials: derivatives; what the parts without squares are found by. Polynomials: the states of Euclid's loops. Polynomials: what stands at the end of Euclid's loop that keeps the factors. Polynomials: the greatest common divisor, in the program and in the reference. Polynomials: the loop that finds the parts without squares: its states, how large they are. -/
import Derived.Test.YtkidkimjdiichaaGreatPoCw
import Derived.Test.YtkidkimjdiichaaGreatRvCw
import Derived.Test.YtkidkimjdiichaaGreatPoKw
import Derived.Test.YtkidkimjdiichaaGreatPoLw
section
namespace Go.Proofs.YtkidkimjdiichaaGreat.M
open Go.RowKit
set_option linter.unusedSimpArgs false
set_option linter.unusedVariables false
set_option linter.defProp false
theorem nf_scl (a:List Rat) (k:Rat):Nf (sclQ a k):=nf_trim _
theorem scl_tab {l:List Rat} {k:Rat} (nl:Nf l) (hk:k≠0):sclQ l k=tab l.length fun i=>cf l i*k:=by
 unfold sclQ
 refine trim_nf ?_
 rcases nl with rfl | nl
 ·exact nf_nil
 ·right
  rw[tab_len,cf_tab]
  split
  ·exact fun e=>(Rat.mul_eq_zero.1 e).elim nl hk
  ·rename_i h
   exact absurd (cf_ge (l:=l) (by omega)) nl
theorem scl_len_eq {l:List Rat} {k:Rat} (nl:Nf l) (hk:k≠0):(sclQ l k).length=l.length:=by rw[scl_tab nl hk,tab_len]
def derQ (a:List Rat):List Rat:=trimQ (tab (a.length-1) fun i=>cf a (i+1)*((i+1:Nat):Rat))
theorem Bq.mul {n m:Nat} {x y:Rat} (hx:Bq n x) (hy:Bq m y):Bq (n+m) (x*y):=by
 refine ((Db.of_self x).mul (Db.of_self y)).Bq ?_ ?_
 ·rw[Nat.pow_add];exact Nat.mul_lt_mul'' hx.2 hy.2
 ·rw[Nat.pow_add];exact Nat.mul_lt_mul'' hx.1 hy.1
theorem Bq.inv {n:Nat} {x:Rat} (h:Bq n x):Bq n (1 / x):=by
 have h4:=h.1
 have h5:=h.2
 have e:1 / x=x⁻¹:=by rw[Rat.div_def,Rat.one_mul]
 rw[e]
 have hp:0<2^n:=Nat.pow_pos (by omega)
 constructor
 ·rw[Rat.num_inv,Int.natAbs_mul]
  rcases Int.lt_trichotomy x.num 0 with h6 | h6 | h6
  ·rw[Int.sign_eq_neg_one_of_neg h6];simp;omega
  ·rw[h6];simp;exact hp
  ·rw[Int.sign_eq_one_of_pos h6];simp;omega
 ·rw[Rat.den_inv]
  split
  ·exact Nat.lt_of_le_of_lt x.den_pos h5
  ·exact h4
end Go.Proofs.YtkidkimjdiichaaGreat.M
end

section
namespace Go.Proofs.YtkidkimjdiichaaGreat.M
open Go.RowKit
set_option linter.unusedSimpArgs false
set_option linter.unusedVariables false
set_option linter.defProp false
def monQ (l:List Rat):List Rat:=sclQ l (1 / ld l)
theorem mon_nil:monQ []=[]:=rfl
theorem nf_mon (l:List Rat):Nf (monQ l):=nf_scl _ _
theorem mon_len (l:List Rat):(monQ l).length≤l.length:=scl_len _ _
set_option maxHeartbeats 2000000 in
theorem monic_con (l:List Rat) (m n:Nat) (nl:Nf l) (hl:Bl m l) (hm:1<m) (hmn:m+m≤n) (hn:n≤big) (h1:l.length≤1000000):Con Tryz.prog AN 38 [pI l] (pI (monQ l)):=by
 by_cases h0:l=[]
 ·subst h0
  rw[mon_nil]
  refine fn38.con rfl (by simp) ?_
  simp only[c38,c38_21,c38_1,l38_0,init1,cw,csW,cops,reduceCtorEq,Nat.reduceEqDiff]
  refine keep [1,2] ?_
  simp only[c38_20,c38_8,c38_3,l38_2,csW,reduceCtorEq,Nat.reduceEqDiff,cw,cops,csP]
  refine keep [1,2,8] ?_
  simp only[c38_7,csW,Nat.reduceEqDiff,cw]
  simp only[c38_6,c38_5,l38_4,cw,csW,cops,csP,Nat.reduceEqDiff]
  refine keep [2] ?_
  simp only[Ends,resD,resL,resV,csW,Nat.reduceEqDiff,csP]
 ·have hI:¬ (l.length:Int)=0:=by have:=List.length_pos_iff.2 h0;omega
  have hld:Bq m (ld l):=hl _
  refine fn38.con rfl (by simp) ?_
  simp only[c38,c38_21,c38_1,l38_0,init1,cw,csW,cops,reduceCtorEq,Nat.reduceEqDiff]
  refine keep [1,2] ?_
  simp only[c38_20,c38_8,c38_3,l38_2,csW,reduceCtorEq,Nat.reduceEqDiff,cw,cops,csP,hI]
  refine keep [1,2,8] ?_
  simp only[c38_7,csW,Nat.reduceEqDiff,cw]
  refine keep [1,2] ?_
  simp only[c38_19,c38_14,l38_9,csW,Nat.reduceEqDiff,cw,cops]
  refine⟨_,cOf 1 (by omega),?_⟩
  simp only[l38_10,cops,csW,Nat.reduceEqDiff]
  refine⟨_,qWhole 1 n (bq_one (by omega)).1 hn,?_⟩
  simp only[l38_11,rat_one,cops,csW,Nat.reduceEqDiff,csP]
  refine⟨_,lead_con l (by omega),?_⟩
  simp only[l38_12,cops,csW,Nat.reduceEqDiff]
  refine⟨_,qQuo 1 (ld l) n (bq_one (by omega)) (hld.mono (by omega)) hn (ld_ne nl h0),?_⟩
  simp only[l38_13,csP,cops,csW,Nat.reduceEqDiff,Nat.reduceAdd]
  refine keep [1,2,3] ?_
  simp only[c38_18,c38_17,l38_15,csW,Nat.reduceEqDiff,cw,cops,csP,Nat.reduceLT,Nat.reduceAdd]
  refine⟨_,scale_con l (1 / ld l) n (hl.mono (by omega)) (hld.inv.mono (by omega)) (fun i=>((hl i).mul hld.inv).mono hmn) hn h1,?_⟩
  simp only[l38_16,cops,csW,Nat.reduceEqDiff,csP]
  refine keep [2] ?_
  simp only[Ends,resD,resL,resV,csW,Nat.reduceEqDiff,csP]
  rfl
set_option maxHeartbeats 2000000 in
theorem pmonic_con (l:List Rat) (m n:Nat) (nl:Nf l) (hl:Bl m l) (hm:1<m) (hmn:m+m≤n) (hn:n≤big) (h1:l.length≤1000000):Con Tryz.prog AN 39 [LZ l] (LZ (monQ l)):=by
 by_cases h0:l=[]
 ·subst h0
  rw[mon_nil]
  refine fn39.con rfl (by simp) ?_
  simp only[c39,c39_20,c39_1,l39_0,init1,cw,csW,cops,reduceCtorEq]
  refine keep [0] ?_
  simp only[c39_19,c39_8,c39_3,l39_2,csW,reduceCtorEq,cw,cops,Nat.reduceEqDiff]
  refine keep [0,7] ?_
  simp only[c39_7,csW,reduceCtorEq,Nat.reduceEqDiff,cw]
  simp only[c39_6,c39_5,l39_4,cw,csW,cops,reduceCtorEq,Nat.reduceEqDiff]
  refine keep [2] ?_
  simp only[Ends,resD,resL,resV,csW,reduceCtorEq,Nat.reduceEqDiff]
 ·have hI:¬ (l.length:Int)=0:=by have:=List.length_pos_iff.2 h0;omega
  have hld:Bq m (ld l):=hl _
  refine fn39.con rfl (by simp) ?_
  simp only[c39,c39_20,c39_1,l39_0,init1,cw,csW,cops,reduceCtorEq]
  refine keep [0] ?_
  simp only[c39_19,c39_8,c39_3,l39_2,csW,reduceCtorEq,cw,cops,Nat.reduceEqDiff,hI]
  refine keep [0,7] ?_
  simp only[c39_7,csW,reduceCtorEq,Nat.reduceEqDiff,cw]
  refine keep [0] ?_
  simp only[c39_18,c39_13,l39_9,csW,reduceCtorEq,cw,cops]
  refine⟨_,fof_con 1 (by omega),?_⟩
  simp only[l39_10,rat_one,cops,csW,reduceCtorEq,Nat.reduceEqDiff]
  refine⟨_,plead_con l (by omega),?_⟩
  simp only[l39_11,cops,csW,reduceCtorEq,Nat.reduceEqDiff]
  refine⟨_,zQuo 1 (ld l) n (bq_one (by omega)) (hld.mono (by omega)) hn (ld_ne nl h0),?_⟩
  simp only[l39_12,csP,cops,csW,reduceCtorEq,Nat.reduceEqDiff,Nat.reduceAdd]
  refine keep [0,3] ?_
  simp only[c39_17,c39_16,l39_14,csW,reduceCtorEq,Nat.reduceEqDiff,cw,cops,csP,Nat.reduceLT,Nat.reduceAdd]
  refine⟨_,pscale_con l (1 / ld l) n (hl.mono (by omega)) (hld.inv.mono (by omega)) (fun i=>((hl i).mul hld.inv).mono hmn) hn h1,?_⟩
  simp only[l39_15,cops,csW,reduceCtorEq,Nat.reduceEqDiff]
  refine keep [2] ?_
  simp only[Ends,resD,resL,resV,csW,reduceCtorEq,Nat.reduceEqDiff]
  rfl
theorem bq_nat (i n:Nat) (hi:i<2^n) (hn:0<n):Bq n (((i:Nat):Int):Rat):=⟨by simpa using hi,Nat.one_lt_two_pow (by omega)⟩
def dco (l:List Rat) (j:Nat):Rat:=cf l (j+1)*(((j:Int)+1:Int):Rat)
theorem dco_der (l:List Rat):trimQ (tab (l.length-1) (dco l))=derQ l:=by
 unfold derQ
 refine congrArg trimQ (tab_ext fun i _ => ?_)
 rw[←Rat.intCast_natCast];rfl
theorem dco_bq {l:List Rat} {m:Nat} (h:Bl m l) {j:Nat} (hj:j<1000000):Bq (m+20) (dco l j):=by
 have h20:j+1<2^20:=by omega
 exact (h (j+1)).mul (bq_nat (j+1) 20 h20 (by omega))
theorem der_len (l:List Rat):(derQ l).length≤l.length:=by unfold derQ;exact Nat.le_trans (trim_len _) (by rw[tab_len];omega)
set_option maxHeartbeats 4000000 in
theorem derive_con (l:List Rat) (m n:Nat) (hl:Bl m l) (hmn:m+20≤n) (hn:n≤big) (h1:l.length≤1000000):Con Tryz.prog AN 40 [pI l] (pI (derQ l)):=by
 rw[←dco_der]
 obtain⟨N,hN⟩:∃ N,N=l.length:=⟨_,rfl⟩
 refine fn40.con rfl (by simp) ?_
 simp only[c40,c40_36,c40_1,l40_0,←hN,init1,cw,csW,cops,reduceCtorEq,Nat.reduceEqDiff]
 refine keep [1,2] ?_
 simp only[c40_35,c40_3,l40_2,csW,reduceCtorEq,Nat.reduceEqDiff,cw,cops]
 refine keep [1,2,3] ?_
 simp only[c40_34,c40_29,c40_5,l40_4,csW,Nat.reduceEqDiff,cw,cops,csP,←hN]
 refine keep [2,3,7,8,9] ?_
 simp only[c40_28,csW,Nat.reduceEqDiff,cw]
 refine loop_of (ι:=Nat × Nat) (fun x=>x.1≤N∧(x.1=0∧x.2=0∨x.1=x.2+1)) (fun x=>⟨look [(2,.ptr 2 0 0),(3,.slice 105 0 x.2),(7,.p (LI l)),(8,.p (J N)),(9,.p (J x.1))],
  lookM [(2,⟨25,1,.box zPoly,false⟩),(105,⟨52,4,.row ((tab x.2 (dco l)).map qI),false⟩)]⟩) (fun x=>N-x.1) (0,0) ⟨by simp only;omega,by simp⟩ ((Sub.keepG [2,3,7,8,9] [1] (by rfl) (by rfl)).tr (Sub.nilG 3 105 52 4 (by rfl) (by rfl) (by decide) (by rfl) (by rfl))) ?_
 rintro⟨i,k⟩ ⟨hi,hk⟩
 simp only at hi hk
 by_cases h:i<N
 ·rcases hk with⟨rfl,rfl⟩ | rfl
  ·have hI:(0:Int)<(N:Int):=by omega
   have hp:¬ (0:Int)<0:=by omega
   have hil:0<l.length:=by omega
   simp only[c40_26,c40_7,l40_6,csW,cw,cops,Nat.reduceEqDiff,hI]
   refine keep [2,3,7,8,9,10] ?_
   simp only[c40_25,c40_8,csW,Nat.reduceEqDiff,cw]
   refine keep [2,3,7,8,9] ?_
   simp only[c40_24,c40_21,c40_20,c40_10,l40_9,csP,csW,Nat.reduceEqDiff,cw,cops,Nat.reduceLT,getD_q hil,Nat.reduceAdd]
   (repeat refine And.intro (by first | omega | (simp;omega)) ?_)
   refine keep [2,3,4,5,7,8,9] ?_
   simp only[c40_19,c40_12,l40_11,csW,Nat.reduceEqDiff,cw,cops,hp]
   refine keep [2,3,4,5,7,8,9,15] ?_
   simp only[c40_18,csW,Nat.reduceEqDiff,cw]
   refine keep [2,3,7,8,9] ?_
   simp only[c40_23,l40_22,csW,Nat.reduceEqDiff,cw,cops]
   (repeat refine And.intro (by first | omega | (simp;omega)) ?_)
   exact⟨(1,0),⟨by simp only;omega,by simp⟩,(Sub.toG [2,3,7,8,9] [1,5,22] (by rfl) (by rfl) (by rfl) (by rfl)),by simp only;omega⟩
  ·have hI:(k:Int)+1<(N:Int):=by omega
   have hp:(0:Int)<(k:Int)+1:=by omega
   have hil:k+1<l.length:=by omega
   have hit:((k:Int)+1).toNat=k+1:=by omega
   have hb:=bq_nat (k+1) 20 (by omega) (by omega)
   simp only[c40_26,c40_7,l40_6,csW,cw,cops,Nat.reduceEqDiff,hI]
   refine keep [2,3,7,8,9,10] ?_
   simp only[c40_25,c40_8,csW,Nat.reduceEqDiff,cw]
   refine keep [2,3,7,8,9] ?_
   simp only[c40_24,c40_21,c40_20,c40_10,l40_9,csP,csW,Nat.reduceEqDiff,cw,cops,Nat.reduceLT,hit,getD_q hil,Nat.reduceAdd]
   (repeat refine And.intro (by first | omega | (simp;omega)) ?_)
   refine keep [2,3,4,5,7,8,9] ?_
   simp only[c40_19,c40_12,l40_11,csW,Nat.reduceEqDiff,cw,cops,hp]
   refine keep [2,3,4,5,7,8,9,15] ?_
   simp only[c40_18,csW,Nat.reduceEqDiff,cw]
   simp only[c40_17,l40_13,csW,cw,cops,Nat.reduceEqDiff,csP,Nat.reduceAdd]
   refine⟨_,cOf ((k:Int)+1) (by omega),?_⟩
   simp only[l40_14,cops,csW,Nat.reduceEqDiff]
   refine⟨_,qWhole ((k:Int)+1) n (hb.mono (by omega)).1 hn,?_⟩
   simp only[l40_15,cops,csW,Nat.reduceEqDiff]
   refine⟨_,qMul (cf l (k+1)) _ n ((hl _).mono (by omega)) (hb.mono (by omega)) hn,?_⟩
   simp only[l40_16,csP,cops,csW,Nat.reduceEqDiff,Nat.reduceAdd,Nat.reduceLeDiff]
   (repeat refine And.intro (by first | omega | (simp;omega)) ?_)
   refine keep [2,3,7,8,9] ?_
   simp only[c40_23,l40_22,csW,Nat.reduceEqDiff,cw,cops]
   (repeat refine And.intro (by first | omega | (simp;omega)) ?_)
   exact⟨(k+1+1,k+1),⟨by simp only;omega,by simp⟩,by simp only[←tab_succ];exact (Sub.toG [2,3,7,8,9] [1,5,22] (by rfl) (by rfl) (by rfl) (by rfl)),by simp only;omega⟩
 ·have hI:¬ (i:Int)<(N:Int):=by omega
  have hiN:i=N:=by omega
  have hkl:k=l.length-1:=by omega
  simp only[c40_26,c40_7,l40_6,cw,csW,cops,Nat.reduceEqDiff,hI]
  refine keep [2,3,7,8,9,10] ?_
  simp only[c40_25,c40_8,csW,Nat.reduceEqDiff,cw]
  have htk:(tab k (dco l)).take k=tab k (dco l):=List.take_of_length_le (by rw[tab_len];omega)
  refine keepF 105 _ [2,3] (by rfl) ?_
  simp only[c40_33,c40_32,l40_30,csW,Nat.reduceEqDiff,cw,cops,Bool.true_or,csP,Nat.le_refl,htk]
  refine⟨_,made_con (tab k (dco l)) n (Bl.tab (by omega) fun j hj=>(dco_bq hl (by omega)).mono hmn) hn (by rw[tab_len];omega),?_⟩
  simp only[l40_31,cops,csW,Nat.reduceEqDiff,csP]
  refine keep [2] ?_
  simp only[Ends,resD,resL,resV,csW,Nat.reduceEqDiff,csP]
  rw[hkl,hN]
set_option maxHeartbeats 4000000 in
theorem pderive_con (l:List Rat) (m n:Nat) (hl:Bl m l) (hmn:m+20≤n) (hn:n≤big) (h1:l.length≤1000000):Con Tryz.prog AN 41 [LZ l] (LZ (derQ l)):=by
 rw[←dco_der]
 refine fn41.con rfl (by simp) ?_
 simp only[c41,c41_28,c41_1,l41_0,init1,cw,csW,cops,reduceCtorEq]
 refine keep [0] ?_
 simp only[c41_27,c41_3,l41_2,csW,reduceCtorEq,cw,cops]
 refine keep [0,3] ?_
 simp only[c41_26,c41_21,c41_5,l41_4,csW,reduceCtorEq,cw,cops,Nat.reduceEqDiff]
 refine keep [0,3,4] ?_
 simp only[c41_20,csW,reduceCtorEq,Nat.reduceEqDiff,cw]
 refine loop_of (ι:=Nat) (fun k=>k≤l.length-1) (fun k=>⟨look [(0,.p (LZ l)),(3,.slice 105 0 k),(4,.p (J ((k:Int)+1)))],
  lookM [(105,⟨60,4,.row ((tab k (dco l)).map qZ),false⟩)]⟩) (fun k=>l.length-1-k) 0 (by omega) (Sub.nilG 3 105 60 4 (by rfl) (by rfl) (by decide) (by rfl) (by rfl)) ?_
 rintro k hk
 by_cases h:k+1<l.length
 ·have hI:(k:Int)+1<(l.length:Int):=by omega
  have hit:((k:Int)+1).toNat=k+1:=by omega
  have hb:=bq_nat (k+1) 20 (by omega) (by omega)
  simp only[c41_18,c41_9,c41_7,l41_6,cw,csW,cops,reduceCtorEq,Nat.reduceEqDiff,hI]
  refine keep [0,3,4,8] ?_
  simp only[c41_8,csW,reduceCtorEq,Nat.reduceEqDiff,cw]
  refine keep [0,3,4] ?_
  simp only[c41_17,c41_14,c41_13,l41_10,csW,reduceCtorEq,Nat.reduceEqDiff,cw,cops,csP,Nat.reduceLT,hI,hit,getD_z h,Nat.reduceAdd]
  (repeat refine And.intro (by first | omega | (simp;omega)) ?_)
  refine⟨_,fof_con ((k:Int)+1) (by omega),?_⟩
  simp only[l41_11,cops,csW,reduceCtorEq,Nat.reduceEqDiff]
  refine⟨_,zMul (cf l (k+1)) _ n ((hl _).mono (by omega)) (hb.mono (by omega)) hn,?_⟩
  simp only[l41_12,cops,csW,Nat.reduceEqDiff,reduceCtorEq,csP,Nat.reduceAdd,Nat.reduceLeDiff]
  (repeat refine And.intro (by first | omega | (simp;omega)) ?_)
  refine keep [0,3,4] ?_
  simp only[c41_16,l41_15,csW,reduceCtorEq,Nat.reduceEqDiff,cw,cops]
  (repeat refine And.intro (by first | omega | (simp;omega)) ?_)
  exact⟨k+1,by omega,by rw[←tab_succ];exact (Sub.toG [0,3,4] [19] (by rfl) (by rfl) (by rfl) (by rfl)),by omega⟩
 ·have hI:¬ (k:Int)+1<(l.length:Int):=by omega
  have hkl:k=l.length-1:=by omega
  simp only[c41_18,c41_9,c41_7,l41_6,cw,csW,cops,reduceCtorEq,Nat.reduceEqDiff,hI]
  refine keep [0,3,4,8] ?_
  simp only[c41_8,csW,reduceCtorEq,Nat.reduceEqDiff,cw]
  have htk:(tab k (dco l)).take k=tab k (dco l):=List.take_of_length_le (by rw[tab_len];omega)
  refine keepF 105 _ [3] (by rfl) ?_
  simp only[c41_25,c41_24,l41_22,csW,reduceCtorEq,Nat.reduceEqDiff,cw,cops,Bool.true_or,csP,Nat.le_refl,htk]
  refine⟨_,pmade_con (tab k (dco l)) n (Bl.tab (by omega) fun j hj=>(dco_bq hl (by omega)).mono hmn) hn (by rw[tab_len];omega),?_⟩
  simp only[l41_23,cops,csW,Nat.reduceEqDiff]
  refine keep [2] ?_
  simp only[Ends,resD,resL,resV,csW,Nat.reduceEqDiff]
  rw[hkl]
end Go.Proofs.YtkidkimjdiichaaGreat.M
end

section
namespace Go.Proofs.YtkidkimjdiichaaGreat.M
set_option linter.unusedVariables false
theorem pigeon:∀ (m n:Nat) (f:Nat→Nat),(∀ x,x<n→f x<m)→m<n→∃ x y,x<y∧y<n∧f x=f y
 | 0,n,f,h,hn=>absurd (h 0 hn) (by omega)
 | m+1,n,f,h,hn=>by
  obtain⟨k,rfl⟩:∃ k,n=k+1:=⟨n-1,by omega⟩
  by_cases hv:∃ x,x<k∧f x=f k
  ·obtain⟨x,h1,h2⟩:=hv
   exact⟨x,k,h1,by omega,h2⟩
  ·have hne:∀ x,x<k→f x≠f k:=fun x hx e=>hv ⟨x,hx,e⟩
   have hg:∀ x,x<k→(if f x=m then f k else f x)<m:=fun x hx=>by
    have h1:=h x (by omega)
    have h2:=h k (by omega)
    have h3:=hne x hx
    split<;>omega
   obtain⟨x,y,h1,h2,h3⟩:=pigeon m k (fun x=>if f x=m then f k else f x) hg (by omega)
   refine⟨x,y,h1,by omega,?_⟩
   have h4:=hne x (by omega)
   have h5:=hne y h2
   split at h3<;>split at h3<;>omega
def sumZ:Nat→(Nat→Int)→Int
 | 0,_=>0
 | n+1,f=>sumZ n f+f n
theorem sumZ_sub:∀ (n:Nat) (f g:Nat→Int),sumZ n (fun i=>f i-g i)=sumZ n f-sumZ n g
 | 0,_,_=>rfl
 | n+1,f,g=>by
  have h:=sumZ_sub n f g
  simp only[sumZ];omega
theorem sumZ_abs:∀ (n:Nat) (f:Nat→Int) (H:Nat),(∀ i,i<n→(f i).natAbs≤H)→(sumZ n f).natAbs≤n*H
 | 0,_,_,_=>Nat.zero_le _
 | n+1,f,H,h=>by
  have h1:=sumZ_abs n f H fun i hi=>h i (by omega)
  have h2:=h n (by omega)
  rw[sumZ,Nat.succ_mul];omega
theorem sumZ_ext:∀ {n:Nat} {f g:Nat→Int},(∀ i,i<n→f i=g i)→sumZ n f=sumZ n g
 | 0,_,_,_=>rfl
 | n+1,f,g,h=>by rw[sumZ,sumZ,sumZ_ext fun i hi=>h i (by omega),h n (by omega)]
def dg (C:Nat):Nat→Nat→Nat
 | x,0=>x % C
 | x,j+1=>dg C (x / C) j
theorem dg_lt {C:Nat} (hC:0<C):∀ (j x:Nat),dg C x j<C
 | 0,x=>Nat.mod_lt _ hC
 | j+1,x=>dg_lt hC j (x / C)
theorem dg_ne {C:Nat} (hC:0<C):∀ (N x y:Nat),x<C^N→y<C^N→(∀ j,j<N→dg C x j=dg C y j)→x=y
 | 0,x,y,hx,hy,_=>by simp at hx hy;omega
 | N+1,x,y,hx,hy,h=>by
  have h0:x % C=y % C:=h 0 (by omega)
  have h1:=dg_ne hC N (x / C) (y / C) (Nat.div_lt_of_lt_mul (by rw[Nat.mul_comm,←Nat.pow_succ];exact hx)) (Nat.div_lt_of_lt_mul (by rw[Nat.mul_comm,←Nat.pow_succ];exact hy)) fun j hj=>h (j+1) (by omega)
  rw[←Nat.div_add_mod x C,←Nat.div_add_mod y C,h0,h1]
def cod (R:Nat):Nat→(Nat→Nat)→Nat
 | 0,_=>0
 | k+1,w=>cod R k w*R+w k
theorem cod_lt {R:Nat}:∀ (k:Nat) (w:Nat→Nat),(∀ i,i<k→w i<R)→cod R k w<R^k
 | 0,_,_=>by simp[cod]
 | k+1,w,h=>by
  have h1:=cod_lt k w fun i hi=>h i (by omega)
  have h2:=h k (by omega)
  rw[cod,Nat.pow_succ]
  have:(cod R k w+1)*R≤R^k*R:=Nat.mul_le_mul_right _ h1
  rw[Nat.succ_mul] at this
  omega
theorem cod_inj {R:Nat}:∀ (k:Nat) (w v:Nat→Nat),(∀ i,i<k→w i<R)→(∀ i,i<k→v i<R)→cod R k w=cod R k v→∀ i,i<k→w i=v i
 | 0,_,_,_,_,_,i,hi=>absurd hi (by omega)
 | k+1,w,v,hw,hv,h,i,hi=>by
  have h1:=hw k (by omega)
  have h2:=hv k (by omega)
  rw[cod,cod] at h
  have e1:w k=v k:=by
   have:=congrArg (· % R) h
   simp only[Nat.mul_comm _ R,Nat.mul_add_mod] at this
   rwa[Nat.mod_eq_of_lt h1,Nat.mod_eq_of_lt h2] at this
  have e2:cod R k w=cod R k v:=by
   rw[e1] at h
   exact Nat.eq_of_mul_eq_mul_right (by omega:0<R) (by omega)
  by_cases e:i=k
  ·subst e;exact e1
  ·exact cod_inj k w v (fun i hi=>hw i (by omega)) (fun i hi=>hv i (by omega)) e2 i (by omega)
theorem siegel {M:Nat} (hM:0<M) (c:Nat→Nat→Int) {A:Nat} (hA:0<A) (hc:∀ k j,(c k j).natAbs≤A) :
  ∃ z:Nat→Int,(∃ j,j<M+1∧z j≠0)∧(∀ j,(z j).natAbs≤(2*(M+1)*A+1)^M)∧∀ k,k<M→sumZ (M+1) (fun j=>c k j*z j)=0:=by
 obtain⟨F,hF⟩:∃ F,F=2*(M+1)*A+1:=⟨_,rfl⟩
 obtain⟨C,hC⟩:∃ C,C=F^M:=⟨_,rfl⟩
 have hF0:0<F:=by omega
 have hC0:0<C:=by rw[hC];exact Nat.pow_pos hF0
 obtain⟨T,hT⟩:∃ T,T=(M+1)*(A*(C-1)):=⟨_,rfl⟩
 obtain⟨R,hR⟩:∃ R,R=2*T+1:=⟨_,rfl⟩
 have e:F*C=2*((M+1)*(A*C))+C:=by rw[hF,Nat.add_mul,Nat.one_mul];congr 1;simp only[Nat.mul_assoc]
 have hRlt:R<F*C:=by
  have h1:A*(C-1)<A*C:=Nat.mul_lt_mul_of_pos_left (by omega) hA
  have h2:T<(M+1)*(A*C):=by rw[hT];exact Nat.mul_lt_mul_of_pos_left h1 (by omega)
  omega
 have hval:∀ k x,(sumZ (M+1) fun j=>c k j*(dg C x j:Int)).natAbs≤T:=fun k x=>by
  rw[hT]
  refine sumZ_abs _ _ _ fun j _ => ?_
  rw[Int.natAbs_mul]
  exact Nat.mul_le_mul (hc k j) (by have:=dg_lt hC0 j x;simp;omega)
 have hw:∀ x k,((sumZ (M+1) fun j=>c k j*(dg C x j:Int))+T).toNat<R:=fun x k=>by have:=hval k x;omega
 have hF1:(F*C)^M=C^(M+1):=by rw[Nat.mul_pow,←hC,Nat.pow_succ,Nat.mul_comm]
 have hlt:R^M<C^(M+1):=by rw[←hF1];exact Nat.pow_lt_pow_left hRlt (by omega)
 obtain⟨x,y,h1,h2,h3⟩:=pigeon (R^M) (C^(M+1)) (fun x=>cod R M fun k=>((sumZ (M+1) fun j=>c k j*(dg C x j:Int))+T).toNat) (fun x _=>cod_lt M _ fun k _=>hw x k) hlt
 refine⟨fun j=>(dg C x j:Int)-(dg C y j:Int),?_,fun j => ?_,fun k hk => ?_⟩
 ·refine Classical.byContradiction fun hno => ?_
  have:=dg_ne hC0 (M+1) x y (by omega) h2 fun j hj=>Classical.byContradiction fun hne=>hno ⟨j,hj,by show (dg C x j:Int)-(dg C y j:Int)≠0;omega⟩
  omega
 ·have g1:=dg_lt hC0 j x
  have g2:=dg_lt hC0 j y
  show ((dg C x j:Int)-(dg C y j:Int)).natAbs≤_
  rw[←hF,←hC]
  omega
 ·have h4:=cod_inj M _ _ (fun k _=>hw x k) (fun k _=>hw y k) h3 k hk
  have g1:=hval k x
  have g2:=hval k y
  have h5:=sumZ_sub (M+1) (fun j=>c k j*(dg C x j:Int)) (fun j=>c k j*(dg C y j:Int))
  have h6:(sumZ (M+1) fun j=>c k j*((dg C x j:Int)-(dg C y j:Int)))=sumZ (M+1) fun j=>c k j*(dg C x j:Int)-c k j*(dg C y j:Int):=sumZ_ext fun j _=>Int.mul_sub ..
  rw[h6,h5]
  omega
structure Ch (P Q A B U0 V0 U1 V1:List Rat) (δ:Rat):Prop where
 a:∀ x,evQ A x=evQ U0 x*evQ P x+evQ V0 x*evQ Q x
 b:∀ x,evQ B x=evQ U1 x*evQ P x+evQ V1 x*evQ Q x
 d0:δ≠0
 det:∀ x,evQ U0 x*evQ V1 x-evQ V0 x*evQ U1 x=δ
 lt:B.length<A.length
 lv:V1.length+A.length=P.length+1
 lu:V0.length≤V1.length
 aq:A.length≤Q.length
 qp:Q.length≤P.length
 nA:Nf A
 nB:Nf B
 nU0:Nf U0
 nV0:Nf V0
 nU1:Nf U1
 nV1:Nf V1
theorem ev_0 {l:List Rat} (n:Nf l) (h:∀ x,evQ l x=0):l=[]:=ev_nf n nf_nil fun x=>by rw[h];rfl
theorem len1 {l:List Rat} (h:l.length≤1) (x:Rat):evQ l x=cf l 0:=by
 match l,h with
 | [],_=>rfl
 | [a],_=>simp only[evQ,cf_cons];grind
theorem Ch.uniq {P Q A B U0 V0 U1 V1:List Rat} {δ:Rat} (h:Ch P Q A B U0 V0 U1 V1 δ) (nP:Nf P) {u v w:List Rat} (nu:Nf u) (nv:Nf v) (nw:Nf w) (hw:∀ x,evQ w x=evQ u x*evQ P x+evQ v x*evQ Q x) (hl:w.length<A.length) (hv:v.length≤V1.length) (hne:u≠[]∨v≠[]) :
  ∃ c:Rat,c≠0∧(∀ x,evQ w x=c*evQ B x)∧(∀ x,evQ u x=c*evQ U1 x)∧∀ x,evQ v x=c*evQ V1 x:=by
 have h1:=h.lt
 have h2:=h.lv
 have h3:=h.aq
 have h4:=h.qp
 have hP:P≠[]:=fun e=>by have:=congrArg List.length e;simp only[List.length_nil] at this;omega
 have hX:subQ (mulQ u V1) (mulQ v U1)=[]:=by
  refine Classical.byContradiction fun hx => ?_
  have e:mulQ (subQ (mulQ u V1) (mulQ v U1)) P=subQ (mulQ V1 w) (mulQ v B):=ev_nf (nf_mul _ _) (nf_sub _ _) fun x=>by
   rw[ev_mul,ev_sub,ev_sub,ev_mul,ev_mul,ev_mul,ev_mul,hw,h.b];grind
  have e1:=mul_len (nf_sub (mulQ u V1) (mulQ v U1)) nP hx hP
  have e2:=List.length_pos_iff.2 hx
  have e3:=len_le_of (nf_sub (mulQ V1 w) (mulQ v B)) (n:=P.length-1) fun i hi=>by
   rw[cf_sub,cf_ge (l:=mulQ V1 w) (by have:=mul_len_le V1 w;omega),cf_ge (l:=mulQ v B) (by have:=mul_len_le v B;omega)];grind
  rw[←e,e1] at e3
  have:=List.length_pos_iff.2 hP
  omega
 have hX':∀ x,evQ u x*evQ V1 x=evQ v x*evQ U1 x:=fun x=>by
  have:=congrArg (fun l=>evQ l x) hX
  simp only[ev_sub,ev_mul,evQ] at this
  grind
 have hd:=h.d0
 obtain⟨α,hα⟩:∃ α,α=sclQ (subQ (mulQ U0 v) (mulQ V0 u)) (1 / δ):=⟨_,rfl⟩
 have nα:Nf α:=hα ▸ nf_scl _ _
 have e0:∀ x,evQ α x=(evQ U0 x*evQ v x-evQ V0 x*evQ u x)*(1 / δ):=fun x=>by rw[hα,ev_scl,ev_sub,ev_mul,ev_mul]
 have ev:∀ x,evQ α x*evQ V1 x=evQ v x:=fun x=>by
  have g1:=h.det x
  have g2:=hX' x
  rw[e0]
  have g3:(evQ U0 x*evQ v x-evQ V0 x*evQ u x)*evQ V1 x=evQ v x*δ:=by rw[←g1];grind
  grind
 have eu:∀ x,evQ α x*evQ U1 x=evQ u x:=fun x=>by
  have g1:=h.det x
  have g2:=hX' x
  rw[e0]
  have g3:(evQ U0 x*evQ v x-evQ V0 x*evQ u x)*evQ U1 x=evQ u x*δ:=by rw[←g1];grind
  grind
 have hα0:α≠[]:=fun e=>by
  have e1:u=[]:=ev_0 nu fun x=>by rw[←eu,e];simp only[evQ];grind
  have e2:v=[]:=ev_0 nv fun x=>by rw[←ev,e];simp only[evQ];grind
  rcases hne with k | k
  ·exact k e1
  ·exact k e2
 have hV:V1≠[]:=fun e=>by rw[e] at h2;simp at h2;omega
 have hlen:α.length≤1:=by
  have e1:mulQ α V1=v:=ev_nf (nf_mul _ _) nv fun x=>by rw[ev_mul,ev]
  have e2:=mul_len nα h.nV1 hα0 hV
  rw[e1] at e2
  have:=List.length_pos_iff.2 hα0
  have:=List.length_pos_iff.2 hV
  omega
 have hc:cf α 0≠0:=by
  have g1:=ld_ne nα hα0
  unfold ld at g1
  rwa[show α.length-1=0 by omega] at g1
 have ec:=fun x=>len1 hlen x
 refine⟨cf α 0,hc,fun x => ?_,fun x => ?_,fun x => ?_⟩
 ·rw[hw,←eu,←ev,h.b,ec];grind
 ·rw[←eu,ec]
 ·rw[←ev,ec]
theorem quo_len {p d q r:List Rat} (h:DivQ p d q r) (np:Nf p) (nd:Nf d) (hle:d.length≤p.length) (hd:d≠[]):q.length+d.length=p.length+1:=by
 have hdl:=List.length_pos_iff.2 hd
 have hr:=h.lt
 have e:p=addQ (mulQ q d) r:=ev_nf np (nf_add _ _) fun x=>by rw[ev_add,ev_mul,h.eq]
 have hq:q≠[]:=fun e0=>by
  rw[e0,mul_nil_l] at e
  have:=add_len ([]:List Rat) r
  rw[←e] at this
  simp at this
  omega
 have h1:=mul_len h.nq nd hq hd
 have hql:=List.length_pos_iff.2 hq
 have h2:=add_len (mulQ q d) r
 rw[←e] at h2
 have h3:(mulQ q d).length≤p.length:=by
  have e2:mulQ q d=subQ p r:=ev_nf (nf_mul _ _) (nf_sub _ _) fun x=>by rw[ev_sub,ev_mul,h.eq];grind
  rw[e2]
  have:=sub_len p r
  omega
 omega
theorem Ch.step {P Q A B U0 V0 U1 V1:List Rat} {δ:Rat} (h:Ch P Q A B U0 V0 U1 V1 δ) (hB:B≠[]) {k r:List Rat} (hd:DivQ A B k r):Ch P Q B r U1 V1 (subQ U0 (mulQ k U1)) (subQ V0 (mulQ k V1)) (-δ):=by
 have h1:=h.lt
 have h2:=h.lv
 have h3:=h.lu
 have h4:=h.aq
 have h5:=h.qp
 have hBl:=List.length_pos_iff.2 hB
 have hkl:=quo_len hd h.nA h.nB (by omega) hB
 have hk:k≠[]:=fun e=>by rw[e] at hkl;simp at hkl;omega
 have hV:V1≠[]:=fun e=>by rw[e] at h2;simp at h2;omega
 have hVl:=List.length_pos_iff.2 hV
 have hkV:=mul_len hd.nq h.nV1 hk hV
 have hlen:(subQ V0 (mulQ k V1)).length=(mulQ k V1).length:=by
  have g1:=sub_len V0 (mulQ k V1)
  have g2:(mulQ k V1).length≤(subQ V0 (mulQ k V1)).length:=by
   refine Classical.byContradiction fun hc => ?_
   have hne:mulQ k V1≠[]:=fun e=>by rw[e] at hkV;simp at hkV;omega
   have:=ld_ne (nf_mul k V1) hne
   unfold ld at this
   have e0:=cf_sub V0 (mulQ k V1) ((mulQ k V1).length-1)
   rw[cf_ge (l:=subQ _ _) (by omega),cf_ge (l:=V0) (by omega)] at e0
   exact this (by grind)
  omega
 refine⟨h.b,fun x => ?_,fun e=>h.d0 (by grind),fun x => ?_,hd.lt,by omega,by omega,by omega,h.qp,h.nB,hd.nr,h.nU1,h.nV1,nf_sub _ _,nf_sub _ _⟩
 ·have:=hd.eq x
  rw[h.a,h.b] at this
  rw[ev_sub,ev_sub,ev_mul,ev_mul];grind
 ·have:=h.det x
  rw[ev_sub,ev_sub,ev_mul,ev_mul];grind
theorem nf_1:Nf [1]:=.inr (by show (1:Rat)≠0;decide)
theorem ev_1 (x:Rat):evQ [1] x=1:=by simp only[evQ];grind
theorem Ch.start {P Q k r:List Rat} (nP:Nf P) (nQ:Nf Q) (hQ:Q≠[]) (hle:Q.length≤P.length) (hd:DivQ P Q k r):Ch P Q Q r [] [1] [1] (subQ [] k) (-1):=by
 have hQl:=List.length_pos_iff.2 hQ
 have hkl:=quo_len hd nP nQ hle hQ
 have hlen:(subQ [] k).length=k.length:=by
  have:∀ i,cf (subQ [] k) i = - cf k i:=fun i=>by rw[cf_sub,cf_nil];grind
  refine Nat.le_antisymm (len_le_of (nf_sub _ _) fun i hi=>by rw[this,cf_ge hi];grind) (len_le_of hd.nq fun i hi => ?_)
  have e:=this i
  rw[cf_ge hi] at e
  grind
 refine⟨fun x => ?_,fun x => ?_,by decide,fun x => ?_,hd.lt,by omega,by simp;omega,Nat.le_refl _,hle,nQ,hd.nr,nf_nil,nf_1,nf_1,nf_sub _ _⟩
 ·rw[ev_1,evQ_nil];grind
 ·have:=hd.eq x
  rw[ev_1,ev_sub,evQ_nil];grind
 ·rw[ev_1,evQ_nil];grind
theorem Ch.scl {P Q A B U0 V0 U1 V1:List Rat} {δ c:Rat} (h:Ch P Q A B U0 V0 U1 V1 δ) (hc:c≠0):Ch P Q A (sclQ B c) U0 V0 (sclQ U1 c) (sclQ V1 c) (δ*c):=by
 have e1:=scl_len_eq h.nB hc
 have e2:=scl_len_eq h.nV1 hc
 have hd:=h.d0
 exact⟨h.a,fun x=>by rw[ev_scl,ev_scl,ev_scl,h.b];grind,fun e=>(Rat.mul_eq_zero.1 e).elim hd hc,fun x=>by rw[ev_scl,ev_scl,←h.det x];grind,by rw[e1];exact h.lt,by rw[e2];exact h.lv,by rw[e2];exact h.lu,h.aq,h.qp,h.nA,nf_scl _ _,h.nU0,h.nV0,nf_scl _ _,nf_scl _ _⟩
theorem cnv_sum (l m:List Rat) (k:Nat) {n:Nat} (hn:l.length≤n):cnv l m k=sumQ n fun j=>if j≤k then cf l j*cf m (k-j) else 0:=by
 have h1:sumQ (n+(k+1)) (fun j=>if j≤k then cf l j*cf m (k-j) else 0)=sumQ n fun j=>if j≤k then cf l j*cf m (k-j) else 0:=sumQ_le (by omega) fun i h1 _=>by
  rw[cf_ge (l:=l) (by omega)];split<;>grind
 have h2:sumQ (n+(k+1)) (fun j=>if j≤k then cf l j*cf m (k-j) else 0)=sumQ (k+1) fun j=>if j≤k then cf l j*cf m (k-j) else 0:=sumQ_le (by omega) fun i h1 _=>if_neg (by omega)
 have h3:sumQ (k+1) (fun j=>if j≤k then cf l j*cf m (k-j) else 0)=sumQ (k+1) fun j=>cf l j*cf m (k-j):=sumQ_ext fun i hi=>if_pos (by omega)
 rw[←h1,h2,h3];rfl
theorem sumZ_rat:∀ (n:Nat) (f:Nat→Int),((sumZ n f:Int):Rat)=sumQ n fun i=>((f i:Int):Rat)
 | 0,_=>rfl
 | n+1,f=>by rw[sumZ,sumQ,Rat.intCast_add,sumZ_rat n f]
theorem sumZ_add (n:Nat) (f:Nat→Int):∀ m,sumZ (n+m) f=sumZ n f+sumZ m fun i=>f (n+i)
 | 0=>by simp[sumZ]
 | m+1=>by rw[←Nat.add_assoc,sumZ,sumZ_add n f m,sumZ];omega
theorem Ch.small {P Q A B U0 V0 U1 V1:List Rat} {δ:Rat} (h:Ch P Q A B U0 V0 U1 V1 δ) (nP:Nf P) (hB:B≠[]) {Kp Kq H L C G:Nat} (hP:Lb Kp H P) (hQ:Lb Kq H Q) (hH:0<H) (hL:P.length≤L) (hC:(4*L*H+1)^(2*L)≤C) (hG1:2*L*(C*H)≤G) (hG2:Kp*C≤G) (hG3:Kq*C≤G) :
  ∃ E,0<E∧E≤G∧Lb E G (sclQ B (1 / ld B))∧Lb E G (sclQ U1 (1 / ld B))∧Lb E G (sclQ V1 (1 / ld B)):=by
 have h1:=h.lt
 have h2:=h.lv
 have h4:=h.aq
 have h5:=h.qp
 obtain⟨a,ha⟩:∃ a:Nat→Int,∀ t,cf P t*(Kp:Rat)=(a t:Rat)∧(a t).natAbs≤H:=⟨fun t=>(hP t).2.choose,fun t=>(hP t).2.choose_spec⟩
 obtain⟨b,hb⟩:∃ b:Nat→Int,∀ t,cf Q t*(Kq:Rat)=(b t:Rat)∧(b t).natAbs≤H:=⟨fun t=>(hQ t).2.choose,fun t=>(hQ t).2.choose_spec⟩
 obtain⟨nu,hnu⟩:∃ nu,nu=Q.length+1-A.length:=⟨_,rfl⟩
 obtain⟨nv,hnv⟩:∃ nv,nv=P.length+1-A.length:=⟨_,rfl⟩
 obtain⟨M,hM⟩:∃ M,M=nu+nv-1:=⟨_,rfl⟩
 obtain⟨d,hd⟩:∃ d,d=A.length-1:=⟨_,rfl⟩
 obtain⟨z,⟨j0,hj0,hz0⟩,hzb,hz⟩:=siegel (M:=M) (by omega) (fun k j=>if j<nu then (if j≤k+d then a (k+d-j) else 0) else (if j-nu≤k+d then b (k+d-(j-nu)) else 0)) (A:=H) hH fun k j=>by
  (repeat' split)<;>first | exact (ha _).2 | exact (hb _).2 | exact Nat.zero_le _
 have hzC:∀ j,(z j).natAbs≤C:=fun j=>by
  refine Nat.le_trans (hzb j) (Nat.le_trans ?_ hC)
  refine Nat.le_trans (Nat.pow_le_pow_left (Nat.add_le_add_right (Nat.mul_le_mul_right H (show 2*(M+1)≤4*L by omega)) 1) _) (Nat.pow_le_pow_right (by omega) (by omega))
 obtain⟨u,hu⟩:∃ u,u=tab nu fun j=>((z j:Int):Rat):=⟨_,rfl⟩
 obtain⟨v,hv⟩:∃ v,v=tab nv fun j=>((z (nu+j):Int):Rat):=⟨_,rfl⟩
 have cu:∀ j,j<nu→cf u j=((z j:Int):Rat):=fun j hj=>by rw[hu,cf_tab,if_pos hj]
 have cv:∀ j,j<nv→cf v j=((z (nu+j):Int):Rat):=fun j hj=>by rw[hv,cf_tab,if_pos hj]
 have lu:u.length=nu:=by rw[hu,tab_len]
 have lv:v.length=nv:=by rw[hv,tab_len]
 obtain⟨P',hP'⟩:∃ P',P'=sclQ P (Kp:Rat):=⟨_,rfl⟩
 obtain⟨Q',hQ'⟩:∃ Q',Q'=sclQ Q (Kq:Rat):=⟨_,rfl⟩
 have cP:∀ t,cf P' t=((a t:Int):Rat):=fun t=>by rw[hP',cf_scl,(ha t).1]
 have cQ:∀ t,cf Q' t=((b t:Int):Rat):=fun t=>by rw[hQ',cf_scl,(hb t).1]
 obtain⟨w,hw⟩:∃ w,w=addQ (mulQ u P') (mulQ v Q'):=⟨_,rfl⟩
 have nw:Nf w:=hw ▸ nf_add _ _
 have cw:∀ t,cf w t=sumQ nu (fun j=>if j≤t then cf u j*cf P' (t-j) else 0)+sumQ nv fun j=>if j≤t then cf v j*cf Q' (t-j) else 0:=fun t=>by
  rw[hw,cf_add,cf_mul,cf_mul,cnv_sum u P' t (n:=nu) (by omega),cnv_sum v Q' t (n:=nv) (by omega)]
 have hwz:∀ t,d≤t→cf w t=0:=fun t ht=>by
  by_cases hlt:t<d+M
  ·have h7:=hz (t-d) (by omega)
   rw[show M+1=nu+nv by omega,sumZ_add] at h7
   have h8:=congrArg (fun n:Int=>(n:Rat)) h7
   simp only[Rat.intCast_add,sumZ_rat] at h8
   rw[cw]
   refine Eq.trans ?_ h8
   congr 1
   ·refine sumQ_ext fun j hj => ?_
    rw[if_pos hj,cu j hj,cP,show t-d+d=t by omega]
    split
    ·rw[Rat.intCast_mul];grind
    ·rw[Int.zero_mul];rfl
   ·refine sumQ_ext fun j hj => ?_
    rw[if_neg (show ¬ nu+j<nu by omega),cv j hj,cQ,show t-d+d=t by omega,show nu+j-nu=j by omega]
    split
    ·rw[Rat.intCast_mul];grind
    ·rw[Int.zero_mul];rfl
  ·have l1:=scl_len P (Kp:Rat)
   have l2:=scl_len Q (Kq:Rat)
   rw[←hP'] at l1
   rw[←hQ'] at l2
   rw[hw,cf_add,cf_mul,cf_mul,cnv_0 (a:=u) (b:=P') (n:=t) (by omega),cnv_0 (a:=v) (b:=Q') (n:=t) (by omega)];grind
 have hwl:w.length<A.length:=by
  have:=len_le_of nw hwz
  omega
 have hK:(Kp:Rat)≠0∧(Kq:Rat)≠0:=by
  have:=hP.pos
  have:=hQ.pos
  exact⟨by rw[ne_eq,Rat.natCast_eq_zero_iff];omega,by rw[ne_eq,Rat.natCast_eq_zero_iff];omega⟩
 obtain⟨hKp,hKq⟩:=hK
 obtain⟨c,c0,e1,e2,e3⟩:=h.uniq nP (u:=sclQ u (Kp:Rat)) (v:=sclQ v (Kq:Rat)) (nf_scl _ _) (nf_scl _ _) nw (fun x=>by rw[hw,ev_add,ev_mul,ev_mul,hP',hQ',ev_scl,ev_scl,ev_scl,ev_scl];grind) hwl (by have:=scl_len v (Kq:Rat);omega) (by
  by_cases hj:j0<nu
  ·left
   intro e
   have:=cf_scl u (Kp:Rat) j0
   rw[e,cf_nil,cu j0 hj] at this
   rcases Rat.mul_eq_zero.1 this.symm with k | k
   ·exact hz0 (Rat.intCast_eq_zero_iff.1 k)
   ·exact hKp k
  ·right
   intro e
   have:=cf_scl v (Kq:Rat) (j0-nu)
   rw[e,cf_nil,cv (j0-nu) (by omega),show nu+(j0-nu)=j0 by omega] at this
   rcases Rat.mul_eq_zero.1 this.symm with k | k
   ·exact hz0 (Rat.intCast_eq_zero_iff.1 k)
   ·exact hKq k)
 have ew:w=sclQ B c:=ev_nf nw (nf_scl _ _) fun x=>by rw[ev_scl,e1];grind
 have eu:∀ i,cf u i*(Kp:Rat)=cf U1 i*c:=fun i=>by rw[←cf_scl,←cf_scl];exact ev_ext (fun x=>by rw[ev_scl (a:=U1),e2];grind) i
 have ev:∀ i,cf v i*(Kq:Rat)=cf V1 i*c:=fun i=>by rw[←cf_scl,←cf_scl];exact ev_ext (fun x=>by rw[ev_scl (a:=V1),e3];grind) i
 have hld:ld w=ld B*c:=by
  unfold ld
  rw[ew,scl_len_eq h.nB c0,cf_scl]
 have hB0:=ld_ne h.nB hB
 have hw0:ld w≠0:=by rw[hld];exact fun e=>(Rat.mul_eq_zero.1 e).elim hB0 c0
 have hCH:nu*(C*H)+nv*(C*H)≤G:=by
  rw[←Nat.add_mul]
  exact Nat.le_trans (Nat.mul_le_mul_right _ (by omega)) hG1
 have z1:∀ j,Db 1 C ((z j:Int):Rat):=fun j=>(Db.ofInt (z j)).mono (hzC j)
 have bw:∀ t,Db 1 G (cf w t):=fun t=>by
  rw[cw]
  refine Db.mono ((Db.sum (by omega) nu _ fun j hj => ?_).add (Db.sum (by omega) nv _ fun j hj => ?_)) hCH
  ·split
   ·rw[cu j hj,cP];exact (z1 j).mul ((Db.ofInt _).mono (ha _).2)
   ·exact Db.zero (by omega) _
  ·split
   ·rw[cv j hj,cQ];exact (z1 _).mul ((Db.ofInt _).mono (hb _).2)
   ·exact Db.zero (by omega) _
 have bK:∀ (K:Nat) (x:Rat),K*C≤G→Db 1 C x→Db 1 G (x*(K:Rat)):=fun K x hk hx=>by
  have:=hx.mul (Db.ofInt (K:Int))
  rw[Rat.intCast_natCast] at this
  refine this.mono ?_
  simp only[Int.natAbs_natCast]
  rw[Nat.mul_comm];exact hk
 have bu:∀ i,Db 1 G (cf u i*(Kp:Rat)):=fun i=>bK Kp _ hG2 (by
  rw[hu,cf_tab]
  split
  ·exact z1 i
  ·exact Db.zero (by omega) _)
 have bv:∀ i,Db 1 G (cf v i*(Kq:Rat)):=fun i=>bK Kq _ hG3 (by
  rw[hv,cf_tab]
  split
  ·exact z1 _
  ·exact Db.zero (by omega) _)
 obtain⟨E,hE,hq⟩:=Db.quo (bw (w.length-1)) hw0
 have hE0:0<E:=(hq 0 (Db.zero (by omega) _)).1
 have key:∀ x y:Rat,y*c=x→y*(1 / ld B)=x / ld w:=fun x y e=>by rw[hld,←e];grind
 refine⟨E,hE0,hE,fun i => ?_,fun i => ?_,fun i => ?_⟩
 ·rw[cf_scl,key (cf w i) _ (by rw[ew,cf_scl])];exact hq _ (bw i)
 ·rw[cf_scl,key _ _ (eu i).symm];exact hq _ (bu i)
 ·rw[cf_scl,key _ _ (ev i).symm];exact hq _ (bv i)
end Go.Proofs.YtkidkimjdiichaaGreat.M
end

section
namespace Go.Proofs.YtkidkimjdiichaaGreat.M
set_option linter.unusedVariables false
def Sz (k:Nat) (l:List Rat):Prop:=∃ K,K≤2^k∧Lb K (2^k) l
section
variable {k m n r:Nat} {l a b:List Rat}
theorem Sz.mono (h:Sz k l) (hk:k≤m):Sz m l:=by
 obtain⟨K,h1,h2⟩:=h
 exact⟨K,pu h1 hk,h2.mono (Nat.pow_le_pow_right (by omega) hk)⟩
theorem Sz.bl (h:Sz k l) (hk:k<n):Bl n l:=by
 obtain⟨K,h1,h2⟩:=h
 exact Bl.ofLb h2 (p2 h1 hk) (Nat.pow_lt_pow_right (by omega) hk)
theorem Sz.nil (k:Nat):Sz k []:=⟨1,Nat.one_le_two_pow,Lb.nil (by omega) _⟩
theorem Sz.scl {c:Rat} (h:Sz k l) (hc:Bq m c):Sz (k+m) (sclQ l c):=by
 obtain⟨K,h1,h2⟩:=h
 exact⟨K*c.den,pm h1 (Nat.le_of_lt hc.2),fun i=>by rw[cf_scl];exact ((h2 i).mul (Db.of_self c)).mono (pm (Nat.le_refl _) (Nat.le_of_lt hc.1))⟩
theorem Sz.mul (ha:Sz k a) (hb:Sz m b) (hr:a.length≤2^r):Sz (r+(k+m)) (mulQ a b):=by
 obtain⟨K,h1,h2⟩:=ha
 obtain⟨M,h3,h4⟩:=hb
 exact⟨K*M,pu (pm h1 h3) (by omega),(h2.mul h4).mono (pm hr (pm (Nat.le_refl _) (Nat.le_refl _)))⟩
theorem Sz.sub (ha:Sz k a) (hb:Sz m b):Sz (k+m+1) (subQ a b):=by
 obtain⟨K,h1,h2⟩:=ha
 obtain⟨M,h3,h4⟩:=hb
 refine⟨K*M,pu (pm h1 h3) (by omega),fun i => ?_⟩
 rw[cf_sub]
 exact (((h2 i).up h4.pos).sub (by rw[Nat.mul_comm K M];exact (h4 i).up h2.pos)).mono (pa (pm (Nat.le_refl _) h3) (by rw[Nat.add_comm k m];exact pm (Nat.le_refl _) h1))
theorem Sz.mon (h:Sz k l) (nl:Nf l):Sz k (monQ l):=by
 by_cases h0:l=[]
 ·subst h0;rw[mon_nil];exact Sz.nil _
 ·obtain⟨K,h1,h2⟩:=h
  obtain⟨E,e1,e2,e3⟩:=h2.top (ld_ne nl h0)
  refine⟨E,e1,fun i => ?_⟩
  rw[monQ,cf_scl,show cf l i*(1 / ld l)=cf l i / ld l by grind]
  exact e3 i
theorem Sz.ld (h:Sz k l):Bq (k+1) (ld l):=h.bl (Nat.lt_succ_self k) _
end
theorem mon_back {l:List Rat} (nl:Nf l):sclQ (monQ l) (ld l)=l:=nf_ext (nf_scl _ _) nl fun i=>by
 rw[cf_scl,monQ,cf_scl]
 by_cases h0:l=[]
 ·subst h0;rw[cf_nil];grind
 ·have:=ld_ne nl h0;grind
theorem one_div_ne {c:Rat} (h:c≠0):1 / c≠0:=by grind
theorem mon_len_eq {l:List Rat} (nl:Nf l):(monQ l).length=l.length:=by
 by_cases h0:l=[]
 ·subst h0;rfl
 ·exact scl_len_eq nl (one_div_ne (ld_ne nl h0))
theorem mon_ne {l:List Rat} (nl:Nf l) (h0:l≠[]):monQ l≠[]:=fun e=>by
 have:=mon_len_eq nl
 rw[e] at this
 exact h0 (List.length_eq_zero_iff.1 this.symm)
theorem mon_ld {l:List Rat} (nl:Nf l) (h0:l≠[]):ld (monQ l)=1:=by
 have:=ld_ne nl h0
 have e:ld (monQ l)=ld l*(1 / ld l):=by
  unfold ld
  rw[mon_len_eq nl,monQ,cf_scl];rfl
 rw[e];grind
theorem mon_self {l:List Rat} (nl:Nf l) (h:l=[]∨ld l=1):monQ l=l:=by
 rcases h with rfl | h
 ·rfl
 ·rw[monQ,h]
  exact nf_ext (nf_scl _ _) nl fun i=>by rw[cf_scl];grind
theorem selfLb (l:List Rat):∃ D H,Lb D H l:=by
 refine⟨dens l,l.foldr (fun x a=>a+x.num.natAbs*dens l) 0,Lb.of (dens_pos l) fun x hx => ?_⟩
 obtain⟨E,h1,h2⟩:=dens_up hx
 have h3:=(Db.of_self x).up h1
 have h4:x.num.natAbs*E≤x.num.natAbs*dens l:=Nat.mul_le_mul_left _ (by rw[h2];exact Nat.le_mul_of_pos_left _ x.den_pos)
 have h5:∀ (m:List Rat) (N:Nat),x∈m→x.num.natAbs*N≤m.foldr (fun x a=>a+x.num.natAbs*N) 0:=by
  intro m N hm
  induction m with
  | nil=>cases hm
  | cons y m ih =>
   rw[List.foldr_cons]
   rcases List.mem_cons.1 hm with rfl | hm
   ·omega
   ·have:=ih hm;omega
 rw[←h2] at h3
 have:=h5 l (dens l) hx
 exact h3.mono (by omega)
theorem dvSpec {d:List Rat} (nd:Nf d) (hd:d≠[]) (p:List Rat):DivQ p d (quoQ p d) (remQ p d):=by
 obtain⟨D,H,hb⟩:=selfLb p
 obtain⟨D',H',hb'⟩:=selfLb d
 obtain⟨E,_,h2,h3⟩:=hb'.top (ld_ne nd hd)
 obtain⟨q,r,h,_⟩:=div_ex nd hd h2 h3 p.length p D H (by have:=List.length_pos_iff.2 hd;omega) hb
 exact divQ_of h
theorem dv_sz {A B:List Rat} (nB:Nf B) (hB0:B≠[]) {k e b S:Nat} (hA:Sz k A) (hB:Sz e (monQ B)) (hb:Bq b (ld B)) (hS:A.length+1≤S+B.length) :
  Sz (k+(e+1)*S) (remQ A B)∧Sz (k+(e+1)*S+b) (quoQ A B)∧(quoQ A B).length≤S∧(remQ A B).length<B.length:=by
 obtain⟨K,h1,h2⟩:=hA
 obtain⟨E,h3,h4⟩:=hB
 have hE:=h4.pos
 have h0:=ld_ne nB hB0
 have heg:∀ j,Db E (2^e) (cf B j / ld B):=fun j=>by
  have:=h4 j
  rw[monQ,cf_scl,show cf B j*(1 / ld B)=cf B j / ld B by grind] at this
  exact this
 obtain⟨q,r,d,h5,h6,h7⟩:=div_ex nB hB0 hE heg S A K (2^k) (by omega) h2
 obtain⟨rfl,rfl⟩:=div_eq nB d
 have g1:K*E^S≤2^(k+(e+1)*S):=pm h1 (pp (pu h3 (by omega)) _)
 have g2:2^k*(E+2^e)^S≤2^(k+(e+1)*S):=pm (Nat.le_refl _) (pp (pa h3 (Nat.le_refl _)) _)
 refine⟨⟨_,g1,h6.mono g2⟩,?_,h5,d.lt⟩
 have hi:=hb.inv
 refine⟨K*E^S*(1 / ld B).den,pm g1 (Nat.le_of_lt hi.2),fun i => ?_⟩
 have h8:=((h7 i).mul (Db.of_self (1 / ld B))).mono (pm g2 (Nat.le_of_lt hi.1))
 rwa[show cf (quoQ A B) i*ld B*(1 / ld B)=cf (quoQ A B) i by grind] at h8
def Dv (a b:List Rat):Prop:=∃ m,Nf m∧∀ x,evQ b x=evQ m x*evQ a x
theorem Dv.co {g P Q w:List Rat} (h1:Dv g P) (h2:Dv g Q) (u v:List Rat) (hw:∀ x,evQ w x=evQ u x*evQ P x+evQ v x*evQ Q x):Dv g w:=by
 obtain⟨s,ns,hs⟩:=h1
 obtain⟨t,nt,ht⟩:=h2
 exact⟨addQ (mulQ u s) (mulQ v t),nf_add _ _,fun x=>by rw[hw,hs,ht,ev_add,ev_mul,ev_mul];grind⟩
structure IsGcd (P Q g:List Rat):Prop where
 ng:Nf g
 mo:g=[]∨ld g=1
 dp:Dv g P
 dq:Dv g Q
 co:∃ u v,Nf u∧Nf v∧∀ x,evQ g x=evQ u x*evQ P x+evQ v x*evQ Q x
theorem Dv.len {a b:List Rat} (h:Dv a b) (na:Nf a) (nb:Nf b) (hb:b≠[]):∃ m,m≠[]∧Nf m∧b=mulQ m a∧a≠[]∧b.length+1=m.length+a.length:=by
 obtain⟨m,nm,hm⟩:=h
 have e:b=mulQ m a:=ev_nf nb (nf_mul _ _) fun x=>by rw[ev_mul,hm]
 have hm0:m≠[]:=fun e0=>hb (by rw[e,e0,mul_nil_l])
 have ha0:a≠[]:=fun e0=>hb (by rw[e,e0,mul_nil_r])
 have h1:=mul_len nm na hm0 ha0
 have:=List.length_pos_iff.2 hm0
 have:=List.length_pos_iff.2 ha0
 exact⟨m,hm0,nm,e,ha0,by rw[e,h1];omega⟩
theorem IsGcd.unique {P Q g g':List Rat} (h:IsGcd P Q g) (h':IsGcd P Q g'):g=g':=by
 obtain⟨u,v,_,_,hc⟩:=h.co
 obtain⟨u',v',_,_,hc'⟩:=h'.co
 have d1:Dv g g':=h.dp.co h.dq u' v' hc'
 have d2:Dv g' g:=h'.dp.co h'.dq u v hc
 by_cases h0:g'=[]
 ·subst h0
  obtain⟨m,_,hm⟩:=d2
  exact ev_0 h.ng fun x=>by rw[hm,evQ_nil];grind
 ·obtain⟨m,hm0,nm,e,ha0,hl⟩:=d1.len h.ng h'.ng h0
  obtain⟨m2,hm2,_,_,_,hl2⟩:=d2.len h'.ng h.ng ha0
  have:=List.length_pos_iff.2 hm0
  have:=List.length_pos_iff.2 hm2
  have e1:g'=sclQ g (cf m 0):=ev_nf h'.ng (nf_scl _ _) fun x=>by rw[e,ev_mul,ev_scl,len1 (l:=m) (by omega)];grind
  have e2:ld g'=ld g*cf m 0:=by
   have e3:g'.length=g.length:=by omega
   have e4:=cf_scl g (cf m 0) (g.length-1)
   rw[←e1] at e4
   unfold ld
   rw[e3];exact e4
  have k1:=h.mo.resolve_left ha0
  have k2:=h'.mo.resolve_left h0
  rw[k1,k2] at e2
  rw[e1]
  exact nf_ext h.ng (nf_scl _ _) fun i=>by rw[cf_scl];grind
theorem IsGcd.step {A B k r g:List Rat} (hd:DivQ A B k r) (h:IsGcd B r g):IsGcd A B g:=by
 obtain⟨u,v,nu,nv,hc⟩:=h.co
 refine⟨h.ng,h.mo,h.dp.co h.dq k [1] fun x=>by rw[hd.eq,ev_1];grind,h.dp,v,subQ u (mulQ v k),nv,nf_sub _ _,fun x => ?_⟩
 rw[hc,ev_sub,ev_mul,hd.eq];grind
theorem IsGcd.scl {A B g:List Rat} {c:Rat} (hc:c≠0) (h:IsGcd A (sclQ B c) g):IsGcd A B g:=by
 obtain⟨u,v,nu,nv,hco⟩:=h.co
 obtain⟨m,nm,hm⟩:=h.dq
 refine⟨h.ng,h.mo,h.dp,⟨sclQ m (1 / c),nf_scl _ _,fun x => ?_⟩,u,sclQ v c,nu,nf_scl _ _,fun x => ?_⟩
 ·have:=hm x
  rw[ev_scl] at this
  rw[ev_scl];grind
 ·rw[hco,ev_scl,ev_scl];grind
theorem IsGcd.mon {A B g:List Rat} (nB:Nf B) (h:IsGcd A (monQ B) g):IsGcd A B g:=by
 by_cases h0:B=[]
 ·subst h0;exact h
 ·exact IsGcd.scl (one_div_ne (ld_ne nB h0)) h
theorem IsGcd.fin {A:List Rat} (nA:Nf A):IsGcd A [] (monQ A):=by
 refine⟨nf_mon _,?_,⟨trimQ [ld A],nf_trim _,fun x => ?_⟩,⟨[],nf_nil,fun x=>by rw[evQ_nil];grind⟩,trimQ [1 / ld A],[],nf_trim _,nf_nil,fun x => ?_⟩
 ·by_cases h0:A=[]
  ·left;rw[h0];rfl
  ·right;exact mon_ld nA h0
 ·have:=congrArg (fun l=>evQ l x) (mon_back nA)
  simp only[ev_scl] at this
  rw[ev_trim,←this];simp only[evQ];grind
 ·rw[monQ,ev_scl,ev_trim];simp only[evQ];grind
theorem gcd_ex:∀ (n:Nat) (P Q:List Rat),Q.length≤n→Nf P→Nf Q→∃ g,IsGcd P Q g
 | 0,P,Q,h,nP,nQ=>by
  obtain rfl:Q=[]:=List.length_eq_zero_iff.1 (by omega)
  exact⟨_,IsGcd.fin nP⟩
 | n+1,P,Q,h,nP,nQ=>by
  by_cases h0:Q=[]
  ·subst h0;exact⟨_,IsGcd.fin nP⟩
  ·have hd:=dvSpec nQ h0 P
   obtain⟨g,hg⟩:=gcd_ex n Q (remQ P Q) (by have:=hd.lt;omega) nQ hd.nr
   exact⟨g,hg.step hd⟩
theorem mul_zero_of {a b:List Rat} (na:Nf a) (nb:Nf b) (hb:b≠[]) (h:∀ x,evQ a x*evQ b x=0):a=[]:=Classical.byContradiction fun ha=>by
 have e:mulQ a b=[]:=ev_0 (nf_mul _ _) fun x=>by rw[ev_mul,h]
 have h1:=mul_len na nb ha hb
 have:=List.length_pos_iff.2 ha
 have:=List.length_pos_iff.2 hb
 rw[e] at h1
 simp at h1
 omega
def gS (e r L:Nat):Nat:=1+r+e+(e+r+3)*(2*L)
theorem Ch.sz {P Q A B U0 V0 U1 V1:List Rat} {δ:Rat} (h:Ch P Q A B U0 V0 U1 V1 δ) (nP:Nf P) (hB:B≠[]) {e r L:Nat} (hP:Sz e P) (hQ:Sz e Q) (hL:P.length≤L) (hr:L≤2^r) :
  Sz (gS e r L) (monQ B)∧Sz (gS e r L) (sclQ U1 (1 / ld B))∧Sz (gS e r L) (sclQ V1 (1 / ld B)):=by
 obtain⟨Kp,k1,hP⟩:=hP
 obtain⟨Kq,k2,hQ⟩:=hQ
 have hC:(4*L*2^e+1)^(2*L)≤2^((e+r+3)*(2*L)):=by
  refine pp ?_ _
  have h1:4*L*2^e≤2^(2+r+e):=pm (by rw[Nat.pow_add];exact Nat.mul_le_mul (by omega) hr) (Nat.le_refl _)
  have h2:=pa h1 (Nat.one_le_two_pow (n:=2+r+e))
  rwa[show 2+r+e+1=e+r+3 by omega] at h2
 obtain⟨E,h0,h1,h2,h3,h4⟩:=h.small nP hB hP hQ (Nat.pow_pos (by omega)) hL hC (G:=2^gS e r L) (by
  have h1:2*L≤2^(1+r):=by rw[Nat.pow_add];exact Nat.mul_le_mul (by omega) hr
  refine pu (pm h1 (pm (Nat.le_refl _) (Nat.le_refl _))) ?_
  unfold gS;omega) (pu (pm k1 (Nat.le_refl _)) (by unfold gS;omega)) (pu (pm k2 (Nat.le_refl _)) (by unfold gS;omega))
 exact⟨⟨E,h1,h2⟩,⟨E,h1,h3⟩,⟨E,h1,h4⟩⟩
end Go.Proofs.YtkidkimjdiichaaGreat.M
end

section
namespace Go.Proofs.YtkidkimjdiichaaGreat.M
set_option linter.unusedVariables false
def evI:List Int→Int→Int
 | [],_=>0
 | a::l,x=>a+x*evI l x
def sdI (c:Int):List Int→List Int
 | []=>[]
 | [_]=>[]
 | _::b::m=>evI (b::m) c::sdI c (b::m)
theorem evI_cons (a:Int) (l:List Int) (x:Int):evI (a::l) x=a+x*evI l x:=rfl
theorem evI_sd (c x:Int):∀ l:List Int,evI l x=(x-c)*evI (sdI c l) x+evI l c
 | []=>by simp only[sdI,evI];grind
 | [a]=>by simp only[sdI,evI];grind
 | a::b::m=>by
  have ih:=evI_sd c x (b::m)
  rw[sdI,evI_cons a,evI_cons (evI (b::m) c),evI_cons a,ih]
  grind
def cI (l:List Int) (i:Nat):Int:=l.getD i 0
theorem cI_cons (a:Int) (l:List Int) (i:Nat):cI (a::l) i=match i with | 0=>a | i+1=>cI l i:=by cases i<;>rfl
theorem evI_0 (l:List Int):evI l 0=cI l 0:=by
 cases l with
 | nil=>rfl
 | cons a l=>rw[evI_cons,cI_cons];simp
theorem cI_sd (c:Int):∀ (l:List Int) (i:Nat),cI l (i+1)=cI (sdI c l) i-c*cI (sdI c l) (i+1)
 | [],i=>by simp[sdI,cI]
 | [a],i=>by simp[sdI,cI]
 | a::b::m,i=>by
  have ih:=cI_sd c (b::m)
  rw[sdI]
  simp only[cI_cons]
  cases i with
  | zero =>
   have e:=evI_sd c 0 (b::m)
   rw[evI_0,evI_0,cI_cons] at e
   simp only at e ⊢
   grind
  | succ i=>simp only;rw[←ih];simp only[cI_cons]
theorem sdI_len (c:Int):∀ (l:List Int),(sdI c l).length=l.length-1
 | []=>rfl
 | [a]=>rfl
 | a::b::m=>by rw[sdI,List.length_cons,sdI_len c (b::m)];simp
theorem abs_of_mul {a b:Int} {M:Nat} (ha:a≠0) (h:(a*b).natAbs≤M):b.natAbs≤M:=by
 rw[Int.natAbs_mul] at h
 exact Nat.le_trans (Nat.le_mul_of_pos_left _ (by omega)) h
theorem coefI:∀ (m:Nat) (pts:List Nat) (G:List Int) (M B:Nat),G.length≤m→m≤pts.length→pts.Nodup→(∀ k∈pts,k≤B∧(evI G k).natAbs≤M)→∀ i,(cI G i).natAbs≤M*(2*B+3)^m
 | 0,pts,G,M,B,hG,_,_,_,i=>by
  obtain rfl:G=[]:=List.length_eq_zero_iff.1 (by omega)
  simp[cI]
 | m+1,[],G,M,B,hG,hp,_,_,i=>by simp at hp
 | m+1,c::pts,G,M,B,hG,hp,hn,hv,i=>by
  obtain⟨hc1,hc2⟩:=hv c (by simp)
  obtain⟨n1,n2⟩:=List.nodup_cons.1 hn
  have ih:=coefI m pts (sdI c G) (2*M) B (by rw[sdI_len];omega) (by simpa using hp) n2 fun k hk=>by
   obtain⟨g1,g2⟩:=hv k (by simp[hk])
   refine⟨g1,abs_of_mul (a:=(k:Int)-(c:Int)) (by intro e;exact n1 (by rwa[show c=k by omega])) ?_⟩
   have:=evI_sd (c:Int) (k:Int) G
   omega
  obtain⟨R,hR⟩:∃ R,R=(2*B+3)^m:=⟨_,rfl⟩
  have hR1:1≤R:=by rw[hR];exact Nat.pow_pos (by omega)
  rw[←hR] at ih
  have e:M*(2*B+3)^(m+1)=2*(B*(M*R))+3*(M*R):=by rw[Nat.pow_succ,←hR];grind
  rw[e]
  have h3:M≤M*R:=Nat.le_mul_of_pos_right _ hR1
  have h4:∀ j,((c:Int)*cI (sdI c G) j).natAbs≤B*(2*M*R):=fun j=>by
   rw[Int.natAbs_mul]
   exact Nat.mul_le_mul (by simpa using hc1) (ih j)
  have e2:B*(2*M*R)=2*(B*(M*R)):=by grind
  have e3:2*M*R=2*(M*R):=by grind
  cases i with
  | zero =>
   have h1:=evI_sd (c:Int) 0 G
   rw[evI_0,evI_0] at h1
   have h5:=h4 0
   have:((0:Int)-(c:Int))*cI (sdI c G) 0 = - ((c:Int)*cI (sdI c G) 0):=by grind
   omega
  | succ i =>
   have h1:=cI_sd (c:Int) G i
   have h5:=h4 (i+1)
   have h6:=ih i
   omega
theorem roots_len:∀ (n:Nat) (l:List Int) (pts:List Nat),l.length≤n→pts.Nodup→(∀ k∈pts,evI l (k:Int)=0)→pts.length<l.length∨∀ x,evI l x=0
 | 0,l,pts,hl,_,_=>by
  obtain rfl:l=[]:=List.length_eq_zero_iff.1 (by omega)
  exact .inr fun x=>rfl
 | n+1,l,[],hl,hn,hz=>by
  cases l with
  | nil=>exact .inr fun x=>rfl
  | cons a l=>left;simp
 | n+1,l,c::pts,hl,hn,hz=>by
  obtain⟨n1,n2⟩:=List.nodup_cons.1 hn
  have hc:=hz c (by simp)
  have key:∀ x,evI l x=(x-c)*evI (sdI c l) x:=fun x=>by rw[evI_sd (c:Int) x l,hc];omega
  rcases roots_len n (sdI c l) pts (by rw[sdI_len];omega) n2 fun k hk=>by
   have h1:=hz k (by simp[hk])
   rw[key] at h1
   rcases Int.mul_eq_zero.1 h1 with h | h
   ·exact absurd hk (by rw[show k=c by omega];exact n1)
   ·exact h with h | h
  ·left;rw[sdI_len] at h;simp;omega
  ·right;intro x;rw[key,h];simp
theorem filter_two (p:Nat→Bool):∀ l:List Nat,(l.filter p).length+(l.filter fun x => !p x).length=l.length
 | []=>rfl
 | a::l=>by
  have:=filter_two p l
  rw[List.filter_cons,List.filter_cons]
  cases p a<;>simp<;>omega
theorem good_pts {l:List Int} {L:Nat} (hl:l.length≤L) (h0:¬ ∀ x,evI l x=0):∃ pts:List Nat,pts.Nodup∧L≤pts.length∧∀ k∈pts,k≤2*L∧evI l (k:Int)≠0:=by
 have h1:=filter_two (fun k=>evI l (k:Int) == 0) (List.range (2*L))
 have h2:=(roots_len l.length l ((List.range (2*L)).filter fun k=>evI l (k:Int) == 0) (Nat.le_refl _) (List.nodup_range.filter _) fun k hk=>by simpa using (List.mem_filter.1 hk).2).resolve_right h0
 refine⟨(List.range (2*L)).filter fun k => !(evI l (k:Int) == 0),List.nodup_range.filter _,?_,fun k hk => ?_⟩
 ·rw[List.length_range] at h1;omega
 ·obtain⟨g1,g2⟩:=List.mem_filter.1 hk
  have:=List.mem_range.1 g1
  exact⟨by omega,by simpa using g2⟩
theorem evI_le {H B:Nat}:∀ (l:List Int),(∀ i,(cI l i).natAbs≤H)→∀ k:Nat,k≤B→(evI l (k:Int)).natAbs≤H*(B+1)^l.length
 | [],_,k,_=>by simp[evI]
 | a::l,h,k,hk=>by
  have ih:=evI_le l (fun i=>by have:=h (i+1);rwa[cI_cons] at this) k hk
  have h0:=h 0
  rw[cI_cons] at h0
  simp only at h0
  rw[evI_cons,List.length_cons,Nat.pow_succ]
  have h1:((k:Int)*evI l k).natAbs≤B*(H*(B+1)^l.length):=by
   rw[Int.natAbs_mul];exact Nat.mul_le_mul (by simpa using hk) ih
  have h2:H≤H*(B+1)^l.length:=Nat.le_mul_of_pos_right _ (Nat.pow_pos (by omega))
  have e:H*((B+1)^l.length*(B+1))=B*(H*(B+1)^l.length)+H*(B+1)^l.length:=by grind
  rw[e];omega
theorem least {p:Nat→Prop}:∀ n,p n→∃ m,p m∧∀ k,k<m→¬ p k:=fun n=>by
 induction n using Nat.strongRecOn with
 | ind n ih =>
  intro h
  by_cases hk:∃ k,k<n∧p k
  ·obtain⟨k,h1,h2⟩:=hk;exact ih k h1 h2
  ·exact⟨n,h,fun k h1 h2=>hk ⟨k,h1,h2⟩⟩
theorem prime_dvd {p:Nat} (hp:∀ q,1<q→q∣p→q=p) {a b:Int} (h:(p:Int)∣a*b):(p:Int)∣a∨(p:Int)∣b:=by
 have h':p∣a.natAbs*b.natAbs:=by rw[←Int.natAbs_mul];exact Int.ofNat_dvd_left.1 h
 by_cases hg:Nat.gcd p a.natAbs=1
 ·right;exact Int.ofNat_dvd_left.2 (Nat.Coprime.dvd_of_dvd_mul_left hg h')
 ·left
  by_cases h0:Nat.gcd p a.natAbs=0
  ·have:=Nat.gcd_eq_zero_iff.1 h0
   rw[show a=0 by omega];exact Int.dvd_zero _
  ·have:=hp _ (by omega) (Nat.gcd_dvd_left p a.natAbs)
   exact Int.ofNat_dvd_left.2 (by rw[←this];exact Nat.gcd_dvd_right _ _)
theorem sum_but {p:Int} {f:Nat→Int} {i:Nat}:∀ n,(∀ s,s<n→s≠i→p∣f s)→p∣sumZ n f-if i<n then f i else 0
 | 0,_=>by simp[sumZ]
 | n+1,h=>by
  have ih:=sum_but n fun s hs=>h s (by omega)
  rw[sumZ]
  by_cases e:i=n
  ·subst e
   rw[if_neg (by omega)] at ih
   rw[if_pos (by omega)]
   have e2:sumZ i f+f i-f i=sumZ i f-0:=by omega
   rw[e2];exact ih
  ·have h1:=h n (by omega) (fun e'=>e e'.symm)
   have e2:(sumZ n f+f n-if i<n+1 then f i else 0)=(sumZ n f-if i<n then f i else 0)+f n:=by
    by_cases hi:i<n
    ·rw[if_pos hi,if_pos (by omega)];omega
    ·rw[if_neg hi,if_neg (by omega)];omega
   rw[e2];exact Int.dvd_add ih h1
theorem sumZ_mul (c:Int):∀ (n:Nat) (f:Nat→Int),sumZ n (fun i=>c*f i)=c*sumZ n f
 | 0,_=>by simp[sumZ]
 | n+1,f=>by rw[sumZ,sumZ,sumZ_mul c n f];grind
theorem gauss {G P:Nat→Int} (hG:∀ p:Nat,1<p→¬ ∀ i,(p:Int)∣G i):∀ (n D:Nat),D≤n→0<D→∀ W:Nat→Int,(∀ k,(D:Int)*P k=sumZ (k+1) fun s=>G s*W (k-s))→∀ i,(D:Int)∣W i
 | 0,D,hn,hD,_,_,_=>by omega
 | n+1,D,hn,hD,W,h,i=>by
  by_cases h1:D=1
  ·subst h1;exact Int.one_dvd _
  ·obtain⟨p,⟨p1,p2⟩,p3⟩:=least (p:=fun q=>1<q∧q∣D) D ⟨by omega,Nat.dvd_refl _⟩
   have hp:∀ q,1<q→q∣p→q=p:=fun q q1 q2=>by
    have:=p3 q
    have:=Nat.le_of_dvd (by omega) q2
    rcases Nat.lt_or_ge q p with hlt | hge
    ·exact absurd ⟨q1,Nat.dvd_trans q2 p2⟩ (p3 q hlt)
    ·omega
   have hW:∀ j,(p:Int)∣W j:=fun j=>Classical.byContradiction fun hj=>by
    obtain⟨j0,g1,g2⟩:=least (p:=fun j => ¬ (p:Int)∣W j) j hj
    obtain⟨i1,hi1⟩:=Classical.not_forall.1 (hG p p1)
    obtain⟨i0,g3,g4⟩:=least (p:=fun i => ¬ (p:Int)∣G i) i1 hi1
    have h2:=h (i0+j0)
    have h3:=sum_but (p:=(p:Int)) (f:=fun s=>G s*W (i0+j0-s)) (i:=i0) (i0+j0+1) fun s hs hne=>by
     rcases Nat.lt_or_ge s i0 with hlt | hge
     ·exact Int.dvd_mul_of_dvd_left (Classical.not_not.1 (g4 s hlt))
     ·exact Int.dvd_mul_of_dvd_right (Classical.not_not.1 (g2 (i0+j0-s) (by omega)))
    rw[if_pos (by omega),←h2,show i0+j0-i0=j0 by omega] at h3
    have h4:(p:Int)∣(D:Int)*P (i0+j0):=Int.dvd_mul_of_dvd_left (Int.natCast_dvd_natCast.2 p2)
    have h5:(p:Int)∣G i0*W j0:=by
     have:=Int.dvd_sub h4 h3
     rwa[show (D:Int)*P (i0+j0)-((D:Int)*P (i0+j0)-G i0*W j0)=G i0*W j0 by omega] at this
    rcases prime_dvd hp h5 with k | k
    ·exact g3 k
    ·exact g1 k
   obtain⟨d,rfl⟩:=p2
   have hd:0<d:=Nat.pos_of_mul_pos_left hD
   have hp0:(p:Int)≠0:=by omega
   have hdn:d≤n:=by
    have:d<p*d:=by
     have:=Nat.mul_lt_mul_of_pos_right p1 hd
     omega
    omega
   have ih:=gauss hG n d hdn hd (fun j=>W j / p) fun k=>by
    have h2:=h k
    have e:(sumZ (k+1) fun s=>G s*W (k-s))=(p:Int)*sumZ (k+1) fun s=>G s*(W (k-s) / p):=by
     rw[←sumZ_mul]
     refine sumZ_ext fun s _ => ?_
     have:=Int.mul_ediv_cancel' (hW (k-s))
     rw[Int.mul_left_comm,this]
    rw[e] at h2
    refine Int.eq_of_mul_eq_mul_left hp0 ?_
    rw[←h2,Int.natCast_mul,Int.mul_assoc]
   obtain⟨z,hz⟩:=ih i
   refine⟨z,?_⟩
   have:=Int.mul_ediv_cancel' (hW i)
   rw[←this,hz,Int.natCast_mul,Int.mul_assoc]
def Wh (D:Nat) (l:List Rat):Prop:=∀ i,∃ z:Int,cf l i*(D:Rat)=(z:Rat)
def zl (D:Nat) (l:List Rat):List Int:=l.map fun x=>(x*(D:Rat)).num
theorem num_of {x:Rat} {z:Int} (h:x=(z:Rat)):((x.num:Int):Rat)=x:=by rw[h];rfl
theorem cI_zl {D:Nat} {l:List Rat} (h:Wh D l) (i:Nat):((cI (zl D l) i:Int):Rat)=cf l i*(D:Rat):=by
 by_cases hi:i<l.length
 ·obtain⟨z,hz⟩:=h i
  have e:cI (zl D l) i=(cf l i*(D:Rat)).num:=by simp[cI,zl,cf,hi]
  rw[e];exact num_of hz
 ·rw[cf_ge (by omega)]
  have:cI (zl D l) i=0:=by simp[cI,zl,List.getElem?_eq_none (show l.length≤i by omega)]
  rw[this,Rat.zero_mul];rfl
theorem Wh.tail {D:Nat} {a:Rat} {l:List Rat} (h:Wh D (a::l)):Wh D l:=fun i=>by have:=h (i+1);rwa[cf_cons] at this
theorem evI_zl {D:Nat} (k:Int):∀ {l:List Rat},Wh D l→((evI (zl D l) k:Int):Rat)=evQ l (k:Rat)*(D:Rat)
 | [],_=>by simp only[zl,List.map_nil,evI,evQ,Rat.zero_mul];rfl
 | a::l,h=>by
  have ih:=evI_zl k h.tail
  obtain⟨z,hz⟩:=h 0
  rw[cf_cons] at hz
  simp only at hz
  have e:zl D (a::l)=(a*(D:Rat)).num::zl D l:=rfl
  rw[e,evI_cons,Rat.intCast_add,Rat.intCast_mul,ih,num_of hz,evQ_cons];grind
theorem Wh.of_lb {D H:Nat} {l:List Rat} (h:Lb D H l):Wh D l:=fun i=>by
 obtain⟨_,z,h1,_⟩:=h i
 exact⟨z,h1⟩
theorem evI_map {c d:Int} (k:Int):∀ (l:List Int),(∀ x∈l,c∣d*x)→∃ q,c*q=d*evI l k
 | [],_=>⟨0,by simp[evI]⟩
 | a::l,h=>by
  obtain⟨q,hq⟩:=evI_map k l fun x hx=>h x (by simp[hx])
  obtain⟨z,hz⟩:=h a (by simp)
  exact⟨z+k*q,by rw[evI_cons];grind⟩
theorem fac_sz {P y:List Rat} (nP:Nf P) (hP0:P≠[]) (ny:Nf y) (hy1:ld y=1) (h:Dv y P) {e r L:Nat} (hP:Sz e P) (hL:P.length≤L) (hr:4*L+3≤2^r):Sz (e+2*(r*L)) y:=by
 obtain⟨m,m0,nm,eP,y0,hlen⟩:=h.len ny nP hP0
 obtain⟨K,hK1,hKb⟩:=hP
 have hK:=hKb.pos
 have hml:=List.length_pos_iff.2 m0
 obtain⟨D0,H0,hb0⟩:=selfLb y
 obtain⟨D,⟨hD,hDy⟩,hmin⟩:=least (p:=fun D=>0<D∧Wh D y) D0 ⟨hb0.pos,Wh.of_lb hb0⟩
 have hD':(D:Rat)≠0:=by rw[ne_eq,Rat.natCast_eq_zero_iff];omega
 have hK':(K:Rat)≠0:=by rw[ne_eq,Rat.natCast_eq_zero_iff];omega
 have htop:cI (zl D y) (y.length-1)=(D:Int):=by
  have:=cI_zl hDy (y.length-1)
  rw[show cf y (y.length-1)=ld y from rfl,hy1,Rat.one_mul,←Rat.intCast_natCast,Rat.intCast_inj] at this
  exact this
 have hprim:∀ p:Nat,1<p→¬ ∀ i,(p:Int)∣cI (zl D y) i:=fun p hp hall=>by
  have h1:=hall (y.length-1)
  rw[htop] at h1
  obtain⟨d,rfl⟩:=Int.natCast_dvd_natCast.1 h1
  have hd:0<d:=Nat.pos_of_mul_pos_left hD
  refine hmin d (by have:=Nat.mul_lt_mul_of_pos_right hp hd;omega) ⟨hd,fun i => ?_⟩
  obtain⟨z,hz⟩:=hall i
  refine⟨z,?_⟩
  have h2:=cI_zl hDy i
  rw[hz,Rat.intCast_mul,Rat.intCast_natCast,Rat.natCast_mul] at h2
  have hp':(p:Rat)≠0:=by rw[ne_eq,Rat.natCast_eq_zero_iff];omega
  grind
 obtain⟨E,H1,hb1⟩:=selfLb m
 have hE:=hb1.pos
 have hWm:=Wh.of_lb hb1
 have hE':(E:Rat)≠0:=by rw[ne_eq,Rat.natCast_eq_zero_iff];omega
 have hWP:=Wh.of_lb hKb
 have hq:=gauss (G:=cI (zl D y)) (P:=cI (zl K P)) hprim (D*E) (D*E) (Nat.le_refl _) (Nat.mul_pos hD hE) (fun i=>(K:Int)*cI (zl E m) i) fun k=>by
  rw[←Rat.intCast_inj,Rat.intCast_mul,cI_zl hWP,sumZ_rat,Rat.intCast_natCast,Rat.natCast_mul,eP,cf_mul]
  have hc:cnv m y k=cnv y m k:=by
   rw[←cf_mul,←cf_mul];exact ev_ext (fun x=>by rw[ev_mul,ev_mul];grind) k
  rw[hc]
  have e2:(sumQ (k+1) fun i=>(((cI (zl D y) i*((K:Int)*cI (zl E m) (k-i)):Int)):Rat))=sumQ (k+1) fun i=>(cf y i*cf m (k-i))*((D:Rat)*E*K):=sumQ_ext fun i _=>by
   rw[Rat.intCast_mul,Rat.intCast_mul,cI_zl hDy,cI_zl hWm,Rat.intCast_natCast];grind
  rw[e2,sumQ_mul];unfold cnv;grind
 have hval:∀ k:Nat,evI (zl K P) (k:Int)≠0→(evI (zl D y) (k:Int)).natAbs≤(evI (zl K P) (k:Int)).natAbs:=fun k hk=>by
  obtain⟨q,hq2⟩:=evI_map (c:=((D*E:Nat):Int)) (d:=(K:Int)) (k:Int) (zl E m) fun x hx=>by
   obtain⟨i,hi,rfl⟩:=List.mem_iff_getElem.1 hx
   have:=hq i
   rwa[show cI (zl E m) i=(zl E m)[i] by simp[cI,hi]] at this
  have h1:=evI_zl (k:Int) hWm
  have h2:=evI_zl (k:Int) hDy
  have h3:=evI_zl (k:Int) hWP
  have h4:evI (zl K P) (k:Int)=q*evI (zl D y) (k:Int):=by
   rw[←Rat.intCast_inj,Rat.intCast_mul,h2,h3,eP,ev_mul]
   have h5:(((((D*E:Nat):Int)*q:Int)):Rat)=((((K:Int)*evI (zl E m) (k:Int):Int)):Rat):=by rw[hq2]
   rw[Rat.intCast_mul,Rat.intCast_mul,h1,Rat.intCast_natCast,Rat.intCast_natCast,Rat.natCast_mul] at h5
   grind
  rw[h4,Int.natAbs_mul]
  refine Nat.le_mul_of_pos_left _ ?_
  rcases Nat.eq_zero_or_pos q.natAbs with h0 | h0
  ·exact absurd (by rw[h4,Int.natAbs_eq_zero.1 h0,Int.zero_mul]) hk
  ·exact h0
 have hlP:(zl K P).length≤L:=by simpa[zl] using hL
 have hcP:∀ i,(cI (zl K P) i).natAbs≤2^e:=fun i=>by
  obtain⟨_,z,z1,z2⟩:=hKb i
  have:=cI_zl hWP i
  rw[z1,Rat.intCast_inj] at this
  rw[this];exact z2
 obtain⟨pts,p1,p2,p3⟩:=good_pts hlP fun h0=>by
  have h1:∀ k:Nat,evQ P (k:Rat)=0:=fun k=>by
   have:=evI_zl (k:Int) hWP
   rw[h0,Rat.intCast_natCast] at this
   have h2:evQ P (k:Rat)*(K:Rat)=0:=by rw[←this];rfl
   exact (Rat.mul_eq_zero.1 h2).resolve_right hK'
  refine hP0 (nf_ext nP nf_nil fun i => ?_)
  rw[ev_zero P.length P 0 (Nat.le_refl _) (fun k _=>h1 k) i];rfl
 have hyL:y.length≤L:=by omega
 have hb:=coefI L pts (zl D y) (2^e*(2*L+1)^L) (2*L) (by simpa[zl] using hyL) p2 p1 fun k hk=>by
  obtain⟨g1,g2⟩:=p3 k hk
  refine⟨g1,Nat.le_trans (hval k g2) (Nat.le_trans (evI_le _ hcP k g1) (Nat.mul_le_mul_left _ (Nat.pow_le_pow_right (by omega) hlP)))⟩
 have hfin:2^e*(2*L+1)^L*(2*(2*L)+3)^L≤2^(e+2*(r*L)):=by
  rw[show e+2*(r*L)=e+r*L+r*L by omega]
  refine pm (pm (Nat.le_refl _) ?_) ?_
  ·exact pp (Nat.le_trans (by omega) hr) L
  ·exact pp (Nat.le_trans (by omega) hr) L
 refine⟨D,?_,fun i=>⟨hD,cI (zl D y) i,(cI_zl hDy i).symm,Nat.le_trans (hb i) hfin⟩⟩
 have:=Nat.le_trans (hb (y.length-1)) hfin
 rw[htop] at this
 simpa using this
end Go.Proofs.YtkidkimjdiichaaGreat.M
end

section
namespace Go.Proofs.YtkidkimjdiichaaGreat.M
set_option linter.unusedVariables false
theorem der_cf (a:List Rat) (i:Nat):cf (derQ a) i=cf a (i+1)*((i+1:Nat):Rat):=by
 unfold derQ
 rw[cf_trim,cf_tab]
 split
 ·rfl
 ·rw[cf_ge (by omega)];grind
theorem der_nf (a:List Rat):Nf (derQ a):=nf_trim _
theorem der_nil:derQ []=[]:=rfl
theorem der_congr {a b:List Rat} (h:∀ i,cf a i=cf b i) (x:Rat):evQ (derQ a) x=evQ (derQ b) x:=ev_cf (fun i=>by rw[der_cf,der_cf,h]) x
theorem der_cons (a:Rat) (l:List Rat) (x:Rat):evQ (derQ (a::l)) x=evQ l x+x*evQ (derQ l) x:=by
 have h:∀ i,cf (derQ (a::l)) i=cf (addQ l (0::derQ l)) i:=fun i=>by
  rw[der_cf,cf_add,cf_cons,cf_cons]
  cases i with
  | zero=>simp only;grind
  | succ i=>simp only;rw[der_cf,show ((i+1+1:Nat):Rat)=((i+1:Nat):Rat)+1 by rw[Rat.natCast_add];rfl];grind
 rw[ev_cf h,ev_add,evQ_cons];grind
theorem der_add (a b:List Rat) (x:Rat):evQ (derQ (addQ a b)) x=evQ (derQ a) x+evQ (derQ b) x:=by
 rw[←ev_add]
 exact ev_cf (fun i=>by rw[der_cf,cf_add,cf_add,der_cf,der_cf];grind) x
theorem der_scl (a:List Rat) (c x:Rat):evQ (derQ (sclQ a c)) x=evQ (derQ a) x*c:=by
 rw[←ev_scl]
 exact ev_cf (fun i=>by rw[der_cf,cf_scl,cf_scl,der_cf];grind) x
theorem mul_cons_cf (c:Rat) (a b:List Rat) (i:Nat):cf (mulQ (c::a) b) i=cf (addQ (sclQ b c) (0::mulQ a b)) i:=by
 rw[cf_mul,cf_add,cf_scl,cnv_cons,cf_cons]
 cases i with
 | zero=>grind
 | succ i=>simp only[cf_mul];grind
theorem der_mul (a b:List Rat) (x:Rat):evQ (derQ (mulQ a b)) x=evQ (derQ a) x*evQ b x+evQ a x*evQ (derQ b) x:=by
 induction a with
 | nil=>rw[mul_nil_l,der_nil,evQ_nil];grind
 | cons c a ih =>
  rw[der_congr (mul_cons_cf c a b),der_add,der_scl,der_cons,ev_mul,ih,der_cons,evQ_cons];grind
theorem der_ev {a b:List Rat} (h:∀ x,evQ a x=evQ b x) (x:Rat):evQ (derQ a) x=evQ (derQ b) x:=der_congr (ev_ext h) x
theorem der_lt {a:List Rat} (h:a≠[]):(derQ a).length<a.length:=by
 have:=List.length_pos_iff.2 h
 unfold derQ
 have:=trim_len (tab (a.length-1) fun i=>cf a (i+1)*((i+1:Nat):Rat))
 rw[tab_len] at this
 omega
theorem der_0 {a:List Rat} (na:Nf a) (h:derQ a=[]):a.length≤1:=len_le_of na fun i hi=>by
 have:=der_cf a (i-1)
 rw[h,cf_nil,show i-1+1=i by omega] at this
 rcases Rat.mul_eq_zero.1 this.symm with k | k
 ·exact k
 ·rw[Rat.natCast_eq_zero_iff] at k;omega
theorem der_ld {a:List Rat} (na:Nf a) (h:2≤a.length):(derQ a).length=a.length-1∧ld (derQ a)=ld a*((a.length-1:Nat):Rat):=by
 have h0:a≠[]:=fun e=>by rw[e] at h;simp at h
 have h1:=der_lt h0
 have h2:=ld_ne na h0
 have e:cf (derQ a) (a.length-2)=ld a*((a.length-1:Nat):Rat):=by
  rw[der_cf,show a.length-2+1=a.length-1 by omega];rfl
 have h3:(derQ a).length=a.length-1:=by
  refine Nat.le_antisymm (by omega) ?_
  refine Nat.le_of_not_lt fun hlt => ?_
  rw[cf_ge (by omega)] at e
  rcases Rat.mul_eq_zero.1 e.symm with k | k
  ·exact h2 k
  ·rw[Rat.natCast_eq_zero_iff] at k;omega
 refine⟨h3,?_⟩
 rw[←e];unfold ld;rw[h3];rfl
theorem can {a b g:List Rat} (na:Nf a) (nb:Nf b) (ng:Nf g) (g0:g≠[]) (h:∀ x,evQ a x*evQ g x=evQ b x*evQ g x) (x:Rat):evQ a x=evQ b x:=by
 have e:subQ a b=[]:=mul_zero_of (nf_sub _ _) ng g0 fun x=>by rw[ev_sub];have:=h x;grind
 have:=congrArg (fun l=>evQ l x) e
 simp only[ev_sub,evQ_nil] at this
 grind
def Cop (a b:List Rat):Prop:=∃ s t,∀ x,evQ s x*evQ a x+evQ t x*evQ b x=1
theorem Cop.dvd {a b w:List Rat} (h:Cop a b) (hd:Dv a (mulQ b w)):Dv a w:=by
 obtain⟨s,t,h⟩:=h
 obtain⟨m,nm,hm⟩:=hd
 refine⟨addQ (mulQ s w) (mulQ t m),nf_add _ _,fun x => ?_⟩
 have h1:=h x
 have h2:=hm x
 rw[ev_mul] at h2
 rw[ev_add,ev_mul,ev_mul]
 have h3:evQ w x=(evQ s x*evQ a x+evQ t x*evQ b x)*evQ w x:=by rw[h1];grind
 rw[h3];grind
structure Yr (r b c a:List Rat):Prop where
 nr:Nf r
 nb:Nf b
 nc:Nf c
 na:Nf a
 ra:∀ x,evQ r x=evQ b x*evQ a x
 rd:∀ x,evQ (derQ r) x=evQ c x*evQ a x
 co:Cop b c
 am:ld a=1
 a0:a≠[]
 r0:r≠[]
theorem Yr.of {r a:List Rat} (nr:Nf r) (r0:r≠[]) (h:IsGcd r (derQ r) a):Yr r (quoQ r a) (quoQ (derQ r) a) a:=by
 obtain⟨m,m0,nm,e,a0,hl⟩:=h.dp.len h.ng nr r0
 obtain⟨k,nk,hk⟩:=h.dq
 have hal:=List.length_pos_iff.2 a0
 have e1:=(div_eq h.ng (p:=r) (q:=m) (r:=[]) ⟨nm,nf_nil,fun x=>by rw[e,ev_mul,evQ_nil];grind,hal⟩).1
 have e2:=(div_eq h.ng (p:=derQ r) (q:=k) (r:=[]) ⟨nk,nf_nil,fun x=>by rw[hk,evQ_nil];grind,hal⟩).1
 rw[←e1,←e2]
 obtain⟨u,v,nu,nv,hc⟩:=h.co
 refine⟨nr,nm,nk,h.ng,fun x=>by rw[e,ev_mul],hk,⟨u,v,fun x => ?_⟩,h.mo.resolve_left a0,a0,r0⟩
 have h1:=can (a:=addQ (mulQ u m) (mulQ v k)) (b:=[1]) (nf_add _ _) nf_1 h.ng a0 (fun x=>by
  have:=hc x
  rw[hk,e,ev_mul] at this
  rw[ev_add,ev_mul,ev_mul,ev_1]
  grind) x
 rw[ev_add,ev_mul,ev_mul,ev_1] at h1
 exact h1
theorem Yr.b0 {r b c a:List Rat} (h:Yr r b c a):b≠[]:=fun e=>h.r0 (ev_0 h.nr fun x=>by rw[h.ra,e,evQ_nil];grind)
theorem ld_mul {a b:List Rat} (na:Nf a) (nb:Nf b) (a0:a≠[]) (b0:b≠[]):ld (mulQ a b)=ld a*ld b:=by
 have h:=mul_len na nb a0 b0
 have h1:=List.length_pos_iff.2 a0
 have h2:=List.length_pos_iff.2 b0
 rw[←cnv_top a0 b0,←cf_mul]
 unfold ld
 rw[h,show a.length+b.length-1-1=a.length-1+(b.length-1) by omega]
theorem Yr.eqm {r b c a:List Rat} (h:Yr r b c a):r=mulQ b a:=ev_nf h.nr (nf_mul _ _) fun x=>by rw[h.ra,ev_mul]
theorem Yr.lead {r b c a:List Rat} (h:Yr r b c a):ld r=ld b:=by
 rw[h.eqm,ld_mul h.nb h.na h.b0 h.a0,h.am];grind
theorem Yr.lens {r b c a:List Rat} (h:Yr r b c a):r.length+1=b.length+a.length:=by
 have h1:=mul_len h.nb h.na h.b0 h.a0
 rw[←h.eqm] at h1
 have:=List.length_pos_iff.2 h.b0
 have:=List.length_pos_iff.2 h.a0
 omega
theorem scl_ne {l:List Rat} {c:Rat} (nl:Nf l) (h0:l≠[]) (hc:c≠0):sclQ l c≠[]:=fun e=>by
 have:=scl_len_eq nl hc
 rw[e] at this
 exact h0 (List.length_eq_zero_iff.1 this.symm)
theorem scl_ld {l:List Rat} {c:Rat} (nl:Nf l) (hc:c≠0):ld (sclQ l c)=ld l*c:=by
 unfold ld
 rw[scl_len_eq nl hc,cf_scl]
theorem Yr.step {r b c a g β γ a2:List Rat} (h:Yr r b c a) (h2:Yr a β γ a2) (hg:IsGcd b (subQ c (derQ b)) g) :
  Yr (sclQ a (ld b)) (quoQ b g) (quoQ (subQ c (derQ b)) g) a2∧quoQ b g=sclQ β (ld b)∧quoQ (subQ c (derQ b)) g=sclQ γ (ld b)∧(∀ x,evQ b x=evQ g x*evQ (quoQ b g) x)∧g≠[]∧(∀ x,evQ r x=evQ b x*(1 / ld b)*evQ (sclQ a (ld b)) x):=by
 have hl0:=ld_ne h.nb h.b0
 have hβ:=h2.b0
 have lβ:ld β=1:=by rw[←h2.lead];exact h.am
 have key:∀ x,evQ b x*evQ γ x=evQ (subQ c (derQ b)) x*evQ β x:=fun x=>by
  have e1:∀ x,evQ (derQ r) x=evQ (derQ b) x*evQ a x+evQ b x*evQ (derQ a) x:=fun x=>by
   rw[h.eqm,der_mul]
  have:=can (a:=mulQ b γ) (b:=mulQ (subQ c (derQ b)) β) (nf_mul _ _) (nf_mul _ _) h2.na h2.a0 (fun x=>by
   have q1:=e1 x
   have q2:=h.rd x
   have q3:=h2.ra x
   have q4:=h2.rd x
   rw[q2] at q1
   rw[ev_mul,ev_mul,ev_sub]
   have q5:evQ b x*evQ (derQ a) x=(evQ c x-evQ (derQ b) x)*evQ a x:=by grind
   rw[q3,q4] at q5
   grind) x
  rw[ev_mul,ev_mul] at this
  exact this
 obtain⟨G,nG,hG⟩:Dv β b:=h2.co.dvd ⟨subQ c (derQ b),nf_sub _ _,fun x=>by rw[ev_mul,Rat.mul_comm,key]⟩
 have hbG:b=mulQ G β:=ev_nf h.nb (nf_mul _ _) fun x=>by rw[ev_mul,hG]
 have G0:G≠[]:=fun e=>h.b0 (by rw[hbG,e,mul_nil_l])
 have lG:ld G=ld b:=by rw[hbG,ld_mul nG h2.nb G0 hβ,lβ];grind
 have he:∀ x,evQ (subQ c (derQ b)) x=evQ G x*evQ γ x:=fun x=>by
  have:=can (a:=mulQ G γ) (b:=subQ c (derQ b)) (nf_mul _ _) (nf_sub _ _) h2.nb hβ (fun x=>by
   rw[ev_mul,←key,hG];grind) x
  rw[ev_mul] at this
  exact this.symm
 have hmG:∀ x,evQ (monQ G) x=evQ G x*(1 / ld b):=fun x=>by rw[monQ,ev_scl,lG]
 obtain⟨s,t,hst⟩:=h2.co
 have hgG:IsGcd b (subQ c (derQ b)) (monQ G):=by
  refine⟨nf_mon _,.inr (mon_ld nG G0),⟨sclQ β (ld b),nf_scl _ _,fun x => ?_⟩,⟨sclQ γ (ld b),nf_scl _ _,fun x => ?_⟩,sclQ (trimQ s) (1 / ld b),sclQ (trimQ t) (1 / ld b),nf_scl _ _,nf_scl _ _,fun x => ?_⟩
  ·rw[ev_scl,hmG,hG];grind
  ·rw[ev_scl,hmG,he];grind
  ·rw[ev_scl,ev_scl,ev_trim,ev_trim,hmG,hG,he]
   have:=hst x
   have e3:evQ s x*(1 / ld b)*(evQ G x*evQ β x)+evQ t x*(1 / ld b)*(evQ G x*evQ γ x)=evQ G x*(1 / ld b)*(evQ s x*evQ β x+evQ t x*evQ γ x):=by grind
   rw[e3,this];grind
 have eg:g=monQ G:=hg.unique hgG
 have g0:g≠[]:=by rw[eg];exact mon_ne nG G0
 have hgl:=List.length_pos_iff.2 g0
 have e1:=(div_eq hg.ng (p:=b) (q:=sclQ β (ld b)) (r:=[]) ⟨nf_scl _ _,nf_nil,fun x=>by rw[eg,ev_scl,hmG,hG,evQ_nil];grind,hgl⟩).1
 have e2:=(div_eq hg.ng (p:=subQ c (derQ b)) (q:=sclQ γ (ld b)) (r:=[]) ⟨nf_scl _ _,nf_nil,fun x=>by rw[eg,ev_scl,hmG,he,evQ_nil];grind,hgl⟩).1
 refine⟨?_,e1.symm,e2.symm,fun x => ?_,g0,fun x => ?_⟩
 ·rw[←e1,←e2]
  refine⟨nf_scl _ _,nf_scl _ _,nf_scl _ _,h2.na,fun x=>by rw[ev_scl,ev_scl,h2.ra];grind,fun x=>by rw[der_scl,ev_scl,h2.rd];grind,⟨sclQ s (1 / ld b),sclQ t (1 / ld b),fun x => ?_⟩,h2.am,h2.a0,scl_ne h.na h.a0 hl0⟩
  rw[ev_scl,ev_scl,ev_scl,ev_scl,←hst x];grind
 ·rw[←e1,eg,ev_scl,hmG,hG];grind
 ·rw[ev_scl,h.ra];grind
theorem pow_list (d:List Rat) (nd:Nf d) (d0:d≠[]):∀ k:Nat,∃ E:List Rat,Nf E∧(∀ x,evQ E x=evQ d x^k)∧E≠[]
 | 0=>⟨[1],nf_1,fun x=>by rw[ev_1,Rat.pow_zero],by simp⟩
 | k+1=>by
  obtain⟨E,nE,hE,E0⟩:=pow_list d nd d0 k
  refine⟨mulQ E d,nf_mul _ _,fun x=>by rw[ev_mul,hE,Rat.pow_succ],fun e => ?_⟩
  have h:=mul_len nE nd E0 d0
  rw[e] at h
  have:=List.length_pos_iff.2 E0
  have:=List.length_pos_iff.2 d0
  simp at h
  omega
theorem pow_der (d:List Rat):∀ k:Nat,∃ D:List Rat,(∀ x,evQ D x=evQ d x^k)∧∀ x,evQ (derQ D) x*evQ d x=(k:Rat)*evQ d x^k*evQ (derQ d) x
 | 0=>⟨[1],fun x=>by rw[ev_1,Rat.pow_zero],fun x=>by
  have:derQ [1]=[]:=rfl
  rw[this,evQ_nil];have:((0:Nat):Rat)=0:=rfl;rw[this];grind⟩
 | k+1=>by
  obtain⟨D,h1,h2⟩:=pow_der d k
  refine⟨mulQ D d,fun x=>by rw[ev_mul,h1,Rat.pow_succ],fun x => ?_⟩
  have:=h2 x
  rw[der_mul,h1,Rat.pow_succ,Rat.natCast_add]
  have e1:((1:Nat):Rat)=1:=rfl
  rw[e1]
  grind
theorem Yr.free {r b c a:List Rat} (h:Yr r b c a) {d:List Rat} (hd:IsGcd b (derQ b) d):d.length≤1:=Classical.byContradiction fun hd1=>by
 have d0:d≠[]:=fun e=>hd1 (by rw[e];simp)
 obtain⟨b2,nb2,hb2⟩:=hd.dp
 obtain⟨m,nm,hm⟩:=hd.dq
 obtain⟨s,t,hst⟩:=h.co
 have hdc:Cop d c:=⟨mulQ s b2,t,fun x=>by rw[ev_mul,←hst x,hb2];grind⟩
 have key:∀ x,evQ (derQ a) x*evQ b x=evQ a x*(evQ c x-evQ (derQ b) x):=fun x=>by
  have q1:evQ (derQ r) x=evQ (derQ b) x*evQ a x+evQ b x*evQ (derQ a) x:=by rw[h.eqm,der_mul]
  have q2:=h.rd x
  grind
 have hdb:∀ x,evQ (derQ b) x=evQ (derQ d) x*evQ b2 x+evQ d x*evQ (derQ b2) x:=fun x=>by
  have e:b=mulQ b2 d:=ev_nf h.nb (nf_mul _ _) fun x=>by rw[ev_mul,hb2]
  rw[e,der_mul];grind
 have desc:∀ (N k:Nat) (w:List Rat),Nf w→w.length≤N→(∀ x,evQ a x=evQ d x^k*evQ w x)→False:=fun N=>by
  induction N with
  | zero =>
   intro k w nw hl hw
   obtain rfl:w=[]:=List.length_eq_zero_iff.1 (by omega)
   exact h.a0 (ev_0 h.na fun x=>by rw[hw,evQ_nil];grind)
  | succ N ih =>
   intro k w nw hl hw
   have hw0:w≠[]:=fun e=>h.a0 (ev_0 h.na fun x=>by rw[hw,e,evQ_nil];grind)
   obtain⟨D,hD⟩:=pow_der d k
   have hda:∀ x,evQ (derQ a) x=evQ (derQ D) x*evQ w x+evQ d x^k*evQ (derQ w) x:=fun x=>by
    have e:∀ x,evQ a x=evQ (mulQ D w) x:=fun x=>by rw[ev_mul,hw,hD.1]
    rw[der_ev e,der_mul,hD.1]
   have hdw:Dv d (mulQ c w):=by
    have hpow:∀ x,(((k:Rat)*evQ (derQ d) x*evQ w x+evQ d x*evQ (derQ w) x)*evQ b2 x)=evQ w x*(evQ c x-evQ (derQ b) x):=fun x=>by
     obtain⟨E,nE,hE,E0⟩:=pow_list d hd.ng d0 k
     have:=can (a:=mulQ (addQ (sclQ (mulQ (derQ d) w) (k:Rat)) (mulQ d (derQ w))) b2) (b:=mulQ w (subQ c (derQ b))) (nf_mul _ _) (nf_mul _ _) nE E0 (fun x=>by
      have q1:=key x
      have q2:=hda x
      have q3:=hD.2 x
      have q4:=hw x
      have q5:=hb2 x
      rw[q2,q4,q5] at q1
      rw[ev_mul,ev_add,ev_scl,ev_mul,ev_mul,ev_mul,ev_sub,hE]
      have q6:evQ (derQ D) x*evQ d x=(k:Rat)*evQ d x^k*evQ (derQ d) x:=q3
      grind) x
     rw[ev_mul,ev_add,ev_scl,ev_mul,ev_mul,ev_mul,ev_sub] at this
     rw[←this];grind
    refine⟨addQ (mulQ w m) (addQ (mulQ (derQ w) b2) (sclQ (mulQ w (subQ m (derQ b2))) (k:Rat))),nf_add _ _,fun x => ?_⟩
    have q1:=hpow x
    have q2:=hdb x
    have q3:=hm x
    rw[q3] at q2 q1
    rw[ev_mul,ev_add,ev_mul,ev_add,ev_mul,ev_scl,ev_mul,ev_sub]
    have q4:evQ (derQ d) x*evQ b2 x=evQ m x*evQ d x-evQ d x*evQ (derQ b2) x:=by grind
    grind
   obtain⟨w2,nw2,hw2⟩:=hdc.dvd hdw
   refine ih (k+1) w2 nw2 ?_ fun x=>by rw[hw,hw2,Rat.pow_succ];grind
   have e:w=mulQ w2 d:=ev_nf nw (nf_mul _ _) fun x=>by rw[ev_mul,hw2]
   have w20:w2≠[]:=fun e2=>hw0 (by rw[e,e2,mul_nil_l])
   have:=mul_len nw2 hd.ng w20 d0
   rw[←e] at this
   have:=List.length_pos_iff.2 w20
   omega
 exact desc a.length 0 a h.na (Nat.le_refl _) fun x=>by rw[Rat.pow_zero];grind
end Go.Proofs.YtkidkimjdiichaaGreat.M
end

section
namespace Go.Proofs.YtkidkimjdiichaaGreat.M
open Go.RowKit
set_option linter.unusedVariables false
theorem dv_con {A B:List Rat} (nA:Nf A) (nB:Nf B) (hB0:B≠[]) {k e b n S:Nat} (hA:Sz k A) (hB:Sz e (monQ B)) (hb:Bq b (ld B)) (hS:A.length+1≤S+B.length) (hS1:S≤1000) (hb10:10≤b) (hn:k+(e+1)*S+b<n) (hn2:e+b<n) (hbig:n≤big)
  (h1:A.length≤1000000) (h2:B.length≤1000000) :
  Con Tryz.prog AN 25 [pI A,pI B] (.tup [pI (quoQ A B),pI (remQ A B),flt 0 0])∧Con Tryz.prog AN 28 [LZ A,LZ B] (.tup [LZ (quoQ A B),LZ (remQ A B)]):=by
 by_cases hlen:B.length≤A.length
 ·obtain⟨S0,hS0⟩:∃ S0,S0=A.length+1-B.length:=⟨_,rfl⟩
  have hB':=hB
  obtain⟨K,g1,g2⟩:=hA
  obtain⟨E,g3,g4⟩:=hB
  have hBl:=List.length_pos_iff.2 hB0
  have h0:=ld_ne nB hB0
  have hm:(e+1)*S0≤(e+1)*S:=Nat.mul_le_mul_left _ (by omega)
  have hD:DivB A B K (2^k) E (2^e) b n S0:=by
   refine⟨g2,g4.pos,fun j => ?_,hb,?_,by omega,?_,?_,hbig⟩
   ·have:=g4 j
    rwa[monQ,cf_scl,show cf B j*(1 / ld B)=cf B j / ld B by grind] at this
   ·rw[←mon_back nB]
    exact (hB'.scl hb).bl hn2
   ·exact p2 (pm (pm g1 (pp (pu g3 (show e≤e+1 by omega)) _)) (Nat.le_refl _)) (by omega)
   ·exact p2 (pm (pm (Nat.le_refl _) (pp (pa g3 (Nat.le_refl _)) _)) (Nat.le_refl _)) (by omega)
  refine⟨div_con A B nB hB0 hD (by omega) h1 h2,pdiv_con A B nA nB hB0 hD ?_ (by omega) h1 h2 (by omega)⟩
  exact Nat.le_trans (show S0+2≤2^10 by omega) (Nat.pow_le_pow_right (by omega) hb10)
 ·obtain⟨e1,e2⟩:=nil_div nA nB (by omega)
  exact⟨divs_con A B nA nB (by omega) h2,pdivs_con A B nA nB (by omega) h2⟩
structure GI (P Q:List Rat) (e r L:Nat) (A B:List Rat):Prop where
 nA:Nf A
 nB:Nf B
 lA:A.length≤L
 lB:B.length≤L
 sA:Sz (gS e r L) A
 sB:Sz (gS e r L) B
 dB:Bq (e+1) (ld B)
 gc:∀ g,IsGcd A B g→IsGcd P Q g
 ch:(A.length<B.length∧Sz e A∧Sz e B)∨∃ T1 T2,Nf T1∧Nf T2∧Sz e T1∧Sz e T2∧T1.length≤L∧T2.length≤T1.length∧((A=T1∧B=T2)∨∃ U0 V0 U1 V1 δ,Ch T1 T2 A B U0 V0 U1 V1 δ)
theorem gS_le (e r L:Nat):e+1≤gS e r L:=by unfold gS;omega
theorem GI.start {P Q:List Rat} (nP:Nf P) (nQ:Nf Q) {e r L:Nat} (hP:Sz e P) (hQ:Sz e Q) (h1:P.length≤L) (h2:Q.length≤L):GI P Q e r L P Q:=by
 have hg:=gS_le e r L
 refine⟨nP,nQ,h1,h2,hP.mono (by omega),hQ.mono (by omega),hQ.ld,fun g h=>h,?_⟩
 by_cases h:P.length<Q.length
 ·exact .inl ⟨h,hP,hQ⟩
 ·exact .inr ⟨P,Q,nP,nQ,hP,hQ,h1,by omega,.inl ⟨rfl,rfl⟩⟩
theorem bq_1 (m:Nat) (h:0<m):Bq m 1:=⟨by simpa using Nat.one_lt_two_pow (by omega),by simpa using Nat.one_lt_two_pow (by omega)⟩
theorem ld_mon_bq {l:List Rat} (nl:Nf l) (m:Nat) (h:0<m):Bq m (ld (monQ l)):=by
 by_cases h0:l=[]
 ·subst h0;exact Bq.zero m h
 ·rw[mon_ld nl h0];exact bq_1 m h
theorem Ch.mon {P Q A B U0 V0 U1 V1:List Rat} {δ:Rat} (h:Ch P Q A B U0 V0 U1 V1 δ):∃ U1 V1 δ,Ch P Q A (monQ B) U0 V0 U1 V1 δ:=by
 by_cases h0:B=[]
 ·subst h0;exact⟨_,_,_,h⟩
 ·exact⟨_,_,_,h.scl (one_div_ne (ld_ne h.nB h0))⟩
theorem Ch.szm {P Q A B U0 V0 U1 V1:List Rat} {δ:Rat} (h:Ch P Q A B U0 V0 U1 V1 δ) (nP:Nf P) {e r L:Nat} (hP:Sz e P) (hQ:Sz e Q) (hL:P.length≤L) (hr:L≤2^r):Sz (gS e r L) (monQ B):=by
 by_cases h0:B=[]
 ·subst h0;exact Sz.nil _
 ·exact (h.sz nP h0 hP hQ hL hr).1
theorem GI.next {P Q A B:List Rat} {e r L:Nat} (h:GI P Q e r L A B) (hr:L≤2^r) (hB:B≠[]):GI P Q e r L B (monQ (remQ A B)):=by
 have hg:=gS_le e r L
 have hd:=dvSpec h.nB hB A
 have hlt:=hd.lt
 have hml:=mon_len_eq hd.nr
 have hlB:=h.lB
 have key:Sz (gS e r L) (monQ (remQ A B))∧((B.length<(monQ (remQ A B)).length∧Sz e B∧Sz e (monQ (remQ A B)))∨∃ T1 T2,Nf T1∧Nf T2∧Sz e T1∧Sz e T2∧T1.length≤L∧T2.length≤T1.length∧((B=T1∧monQ (remQ A B)=T2)∨∃ U0 V0 U1 V1 δ,Ch T1 T2 B (monQ (remQ A B)) U0 V0 U1 V1 δ)):=by
  rcases h.ch with⟨k1,k2,k3⟩ | ⟨T1,T2,n1,n2,s1,s2,l1,l2,⟨e1,e2⟩ | ⟨U0,V0,U1,V1,δ,c⟩⟩
  ·have e2:=(nil_div h.nA h.nB k1).2
   have s:=k2.mon h.nA
   rw[e2]
   exact⟨s.mono (by omega),.inr ⟨B,monQ A,h.nB,nf_mon _,k3,s,hlB,by have:=mon_len A;omega,.inl ⟨rfl,rfl⟩⟩⟩
  ·rw[e1,e2] at hd ⊢
   rw[e2] at hB
   have c:=Ch.start n1 n2 hB l2 hd
   obtain⟨U1,V1,δ,c2⟩:=c.mon
   exact⟨c.szm n1 s1 s2 l1 hr,.inr ⟨T1,T2,n1,n2,s1,s2,l1,l2,.inr ⟨_,_,_,_,_,c2⟩⟩⟩
  ·have c:=c.step hB hd
   obtain⟨U1,V1,δ,c2⟩:=c.mon
   exact⟨c.szm n1 s1 s2 l1 hr,.inr ⟨T1,T2,n1,n2,s1,s2,l1,l2,.inr ⟨_,_,_,_,_,c2⟩⟩⟩
 exact⟨h.nB,nf_mon _,hlB,by omega,h.sB,key.1,ld_mon_bq hd.nr _ (by omega),fun g hg=>h.gc g ((IsGcd.mon hd.nr hg).step hd),key.2⟩
def xS (e r L:Nat):Nat:=(gS e r L+1)*(4*(L+2))
structure BI (P Q:List Rat) (e r L:Nat) (A B U0 U1:List Rat):Prop where
 nA:Nf A
 nB:Nf B
 n0:Nf U0
 n1:Nf U1
 lA:A.length≤L
 lB:B.length≤L
 sA:Sz (gS e r L) (monQ A)
 sB:Sz (gS e r L) (monQ B)
 dA:Bq ((gS e r L+1)*(4*(L+2-A.length))) (ld A)
 dB:Bq ((gS e r L+1)*(4*(L+2-B.length))) (ld B)
 s0:Sz (gS e r L+xS e r L) U0
 s1:B≠[]→Sz (gS e r L+xS e r L) U1
 l0:U0.length≤1+2*(L+1-A.length)
 l1:U1.length≤1+2*(L+1-A.length)
 gc:∀ g,IsGcd A B g→IsGcd P Q g
 co:∃ V,Nf V∧∀ x,evQ A x=evQ U0 x*evQ P x+evQ V x*evQ Q x
 ne:B≠[]∨A≠[]
 ch:(A=P∧B=Q∧U0=[1]∧U1=[])∨(P.length<Q.length∧A=Q∧B=P∧U0=[]∧U1=[1])∨(∃ V0 V1 δ,Ch P Q A B U0 V0 U1 V1 δ)∨(∃ V0 V1 δ,Ch Q P A B V0 U0 V1 U1 δ)
theorem sz_one (k:Nat):Sz k [1]:=⟨1,Nat.one_le_two_pow,fun i=>by
 rw[cf_cons]
 cases i with
 | zero=>exact (Db.ofInt 1).mono Nat.one_le_two_pow
 | succ i=>exact Db.zero (by omega) _⟩
end Go.Proofs.YtkidkimjdiichaaGreat.M
end

section
namespace Go.Proofs.YtkidkimjdiichaaGreat.M
open Go.RowKit
set_option linter.unusedVariables false
structure S12 (e n:Nat):Prop where
 e10:10≤e
 nn:40000*(e+8)<n
 big:n≤big
theorem subz_con {l m:List Rat} {k j n:Nat} (hl:Sz k l) (hm:Sz j m) (h1:l.length≤1000) (h2:m.length≤1000) (hn:k+j+1<n) (hb:n≤big):Con Tryz.prog AN 19 [pI l,pI m] (pI (subQ l m)):=
 sub_con l m n (hl.bl (by omega)) (hm.bl (by omega)) (fun i=>by rw[←cf_sub];exact (hl.sub hm).bl (by omega) i) hb (by omega) (by omega) (by omega)
end Go.Proofs.YtkidkimjdiichaaGreat.M
end

section
namespace Go.Proofs.YtkidkimjdiichaaGreat.M
open Go.RowKit
set_option linter.unusedSimpArgs false
set_option linter.unusedVariables false
set_option linter.defProp false
theorem GI.div {P Q A B:List Rat} {e r L n:Nat} (h:GI P Q e r L A B) (hB:B≠[]) (hL:L≤900) (hn:2*(gS e r L+(gS e r L+1)*(L+1))+2*gS e r L+60<n) (hb:n≤big) :
  (Con Tryz.prog AN 25 [pI A,pI B] (.tup [pI (quoQ A B),pI (remQ A B),flt 0 0])∧Con Tryz.prog AN 28 [LZ A,LZ B] (.tup [LZ (quoQ A B),LZ (remQ A B)])) ∧
  (Con Tryz.prog AN 38 [pI (remQ A B)] (pI (monQ (remQ A B)))∧Con Tryz.prog AN 39 [LZ (remQ A B)] (LZ (monQ (remQ A B))))∧(monQ (remQ A B)).length<B.length:=by
 have hg:=gS_le e r L
 have lA:=h.lA
 have lB:=h.lB
 have hd:=dvSpec h.nB hB A
 have hlt:=hd.lt
 obtain⟨s1,_⟩:=dv_sz h.nB hB h.sA (h.sB.mon h.nB) h.dB (S:=L+1) (by omega)
 have bR:Bl (gS e r L+(gS e r L+1)*(L+1)+10) (remQ A B):=s1.bl (by omega)
 exact⟨dv_con h.nA h.nB hB h.sA (h.sB.mon h.nB) (h.dB.mono (show e+1≤gS e r L+10 by omega)) (S:=L+1) (by omega) (by omega) (by omega) (n:=n) (by omega) (by omega) hb (by omega) (by omega),
  ⟨monic_con _ _ n hd.nr bR (by omega) (by omega) hb (by omega),pmonic_con _ _ n hd.nr bR (by omega) (by omega) hb (by omega)⟩,by rw[mon_len_eq hd.nr];exact hlt⟩
theorem GI.out {P Q A:List Rat} {e r L n:Nat} (h:GI P Q e r L A []) (hL:L≤900) (hn:2*(gS e r L+(gS e r L+1)*(L+1))+2*gS e r L+60<n) (hb:n≤big) {g:List Rat} (hg:IsGcd P Q g) :
  Con Tryz.prog AN 38 [pI A] (pI g)∧Con Tryz.prog AN 39 [LZ A] (LZ g):=by
 have lA:=h.lA
 have e1:monQ A=g:=(h.gc _ (IsGcd.fin h.nA)).unique hg
 rw[←e1]
 have bA:Bl (gS e r L+10) A:=h.sA.bl (by omega)
 exact⟨monic_con _ _ n h.nA bA (by omega) (by omega) hb (by omega),pmonic_con _ _ n h.nA bA (by omega) (by omega) hb (by omega)⟩
set_option maxHeartbeats 4000000 in
theorem gcd_con (P Q:List Rat) (nP:Nf P) (nQ:Nf Q) {e r L n:Nat} (hP:Sz e P) (hQ:Sz e Q) (h1:P.length≤L) (h2:Q.length≤L) (hr:L≤2^r) (hL:L≤900) (hn:2*(gS e r L+(gS e r L+1)*(L+1))+2*gS e r L+60<n) (hb:n≤big) {g:List Rat} (hg:IsGcd P Q g) :
  Con Tryz.prog AN 57 [pI P,pI Q] (pI g):=by
 refine fn57.con rfl (by simp) ?_
 simp only[c57,c57_22,c57_1,l57_0,init2,cw,csW,cops,reduceCtorEq,Nat.reduceEqDiff]
 refine keep [2,3,4] ?_
 simp only[c57_21,c57_16,csW,reduceCtorEq,Nat.reduceEqDiff,cw]
 refine loop_of (ι:=List Rat × List Rat) (fun x=>GI P Q e r L x.1 x.2) (fun x=>⟨look [(2,.ptr 2 0 0),(3,.ptr 3 0 0),(4,.ptr 4 0 0)],
  lookM [(2,⟨25,1,.box (.p (pI x.1)),false⟩),(3,⟨25,1,.box (.p (pI x.2)),false⟩),(4,⟨25,1,.box zPoly,false⟩)]⟩) (fun x=>x.2.length) (P,Q) (GI.start nP nQ hP hQ h1 h2) (Sub.toG [2,3,4] [5,6,7] (by rfl) (by rfl) (by rfl) (by rfl)) ?_
 rintro⟨A,B⟩ hs
 replace hs:GI P Q e r L A B:=hs
 by_cases hB:B=[]
 ·have hI:¬ (0:Int)<(B.length:Int):=by rw[hB];simp
  have ho:=(GI.out (hB ▸ hs) hL hn hb hg).1
  simp only[c57_14,c57_5,c57_3,l57_2,cw,csW,cops,csP,Nat.reduceEqDiff,hI]
  refine keep [2,3,4,11] ?_
  simp only[c57_4,csW,Nat.reduceEqDiff,cw]
  refine keep [2,4] ?_
  simp only[c57_20,c57_19,l57_17,csW,Nat.reduceEqDiff,cw,cops,csP]
  refine⟨_,ho,?_⟩
  simp only[l57_18,cops,csW,Nat.reduceEqDiff,csP]
  refine keep [4] ?_
  simp only[Ends,resD,resL,resV,csW,Nat.reduceEqDiff,csP]
 ·have hI:(0:Int)<(B.length:Int):=by have:=List.length_pos_iff.2 hB;omega
  obtain⟨⟨d1,d2⟩,⟨m1,m2⟩,hlt⟩:=hs.div hB hL hn hb
  simp only[c57_14,c57_5,c57_3,l57_2,cw,csW,cops,csP,Nat.reduceEqDiff,hI]
  refine keep [2,3,4,11] ?_
  simp only[c57_4,csW,Nat.reduceEqDiff,cw]
  refine keep [2,3,4] ?_
  simp only[c57_13,c57_12,c57_8,l57_6,csW,Nat.reduceEqDiff,cw,cops,csP]
  refine⟨_,d1,?_⟩
  simp only[l57_7,csP,cops,csW,Nat.reduceEqDiff,Nat.reduceAdd]
  refine keep [2,3,4,6] ?_
  simp only[c57_11,l57_9,csW,Nat.reduceEqDiff,cw,cops,csP]
  refine⟨_,m1,?_⟩
  simp only[l57_10,cops,csW,csP,Nat.reduceEqDiff]
  exact⟨(B,monQ (remQ A B)),hs.next hr hB,(Sub.toG [2,3,4] [5,6,7] (by rfl) (by rfl) (by rfl) (by rfl)),hlt⟩
set_option maxHeartbeats 4000000 in
theorem pgcd_con (P Q:List Rat) (nP:Nf P) (nQ:Nf Q) {e r L n:Nat} (hP:Sz e P) (hQ:Sz e Q) (h1:P.length≤L) (h2:Q.length≤L) (hr:L≤2^r) (hL:L≤900) (hn:2*(gS e r L+(gS e r L+1)*(L+1))+2*gS e r L+60<n) (hb:n≤big) {g:List Rat} (hg:IsGcd P Q g) :
  Con Tryz.prog AN 55 [LZ P,LZ Q] (LZ g):=by
 refine fn55.con rfl (by simp) ?_
 simp only[c55,c55_22,c55_1,l55_0,init2,cw,csW,cops,reduceCtorEq,Nat.reduceEqDiff]
 refine keep [0,1] ?_
 simp only[c55_21,c55_16,csW,reduceCtorEq,Nat.reduceEqDiff,cw]
 refine loop_of (ι:=List Rat × List Rat) (fun x=>GI P Q e r L x.1 x.2) (fun x=>⟨look [(0,.p (LZ x.1)),(1,.p (LZ x.2))],lookM []⟩) (fun x=>x.2.length) (P,Q) (GI.start nP nQ hP hQ h1 h2) (Sub.rf _) ?_
 rintro⟨A,B⟩ hs
 replace hs:GI P Q e r L A B:=hs
 by_cases hB:B=[]
 ·have hI:¬ (0:Int)<(B.length:Int):=by rw[hB];simp
  have ho:=(GI.out (hB ▸ hs) hL hn hb hg).2
  simp only[c55_14,c55_5,c55_3,l55_2,cw,csW,cops,reduceCtorEq,Nat.reduceEqDiff,hI]
  refine keep [0,1,9] ?_
  simp only[c55_4,csW,reduceCtorEq,Nat.reduceEqDiff,cw]
  refine keep [0] ?_
  simp only[c55_20,c55_19,l55_17,csW,reduceCtorEq,cw,cops,Nat.reduceEqDiff]
  refine⟨_,ho,?_⟩
  simp only[l55_18,cops,csW,reduceCtorEq,Nat.reduceEqDiff]
  refine keep [4] ?_
  simp only[Ends,resD,resL,resV,csW,reduceCtorEq,Nat.reduceEqDiff]
 ·have hI:(0:Int)<(B.length:Int):=by have:=List.length_pos_iff.2 hB;omega
  obtain⟨⟨d1,d2⟩,⟨m1,m2⟩,hlt⟩:=hs.div hB hL hn hb
  simp only[c55_14,c55_5,c55_3,l55_2,cw,csW,cops,reduceCtorEq,Nat.reduceEqDiff,hI]
  refine keep [0,1,9] ?_
  simp only[c55_4,csW,reduceCtorEq,Nat.reduceEqDiff,cw]
  refine keep [0,1] ?_
  simp only[c55_13,c55_12,c55_8,l55_6,csW,reduceCtorEq,Nat.reduceEqDiff,cw,cops]
  refine⟨_,d2,?_⟩
  simp only[l55_7,cops,csW,reduceCtorEq,Nat.reduceEqDiff]
  refine keep [1,6] ?_
  simp only[c55_11,l55_9,csW,reduceCtorEq,Nat.reduceEqDiff,cw,cops]
  refine⟨_,m2,?_⟩
  simp only[l55_10,cops,csW,Nat.reduceEqDiff,reduceCtorEq]
  exact⟨(B,monQ (remQ A B)),hs.next hr hB,(Sub.toG [0,1] [] (by rfl) (by rfl) (by rfl) (by rfl)),hlt⟩
end Go.Proofs.YtkidkimjdiichaaGreat.M
end

section
namespace Go.Proofs.YtkidkimjdiichaaGreat.M
open Go.RowKit
set_option linter.unusedVariables false
theorem q_mul_pow (x y:Rat):∀ n:Nat,(x*y)^n=x^n*y^n
 | 0=>by simp only[Rat.pow_zero];grind
 | n+1=>by simp only[Rat.pow_succ,q_mul_pow x y n];grind
theorem q_one_pow:∀ n:Nat,(1:Rat)^n=1
 | 0=>Rat.pow_zero _
 | n+1=>by rw[Rat.pow_succ,q_one_pow n];grind
def prodA:List (List Rat × Nat)→Rat→Rat
 | [],_=>1
 | p::l,x=>evQ p.1 x^p.2*prodA l x
def prodB:List (List Rat × Nat)→Rat→Rat
 | [],_=>1
 | p::l,x=>evQ p.1 x*prodB l x
theorem prodA_app (p:List Rat × Nat) (x:Rat):∀ l,prodA (l++[p]) x=prodA l x*evQ p.1 x^p.2
 | []=>by simp only[List.nil_append,prodA];grind
 | q::l=>by simp only[List.cons_append,prodA,prodA_app p x l];grind
theorem prodB_app (p:List Rat × Nat) (x:Rat):∀ l,prodB (l++[p]) x=prodB l x*evQ p.1 x
 | []=>by simp only[List.nil_append,prodB];grind
 | q::l=>by simp only[List.cons_append,prodB,prodB_app p x l];grind
noncomputable def gcdQ (P Q:List Rat):List Rat:=open Classical in if h:∃ g,IsGcd P Q g then h.choose else []
theorem gcdQ_spec {P Q:List Rat} (nP:Nf P) (nQ:Nf Q):IsGcd P Q (gcdQ P Q):=by
 have h:=gcd_ex _ P Q (Nat.le_refl _) nP nQ
 unfold gcdQ
 rw[dif_pos h]
 exact h.choose_spec
theorem Sz.der {k:Nat} {a:List Rat} (h:Sz k a) (hl:a.length≤256):Sz (k+8) (derQ a):=by
 obtain⟨K,h1,h2⟩:=h
 refine⟨K,pu h1 (by omega),fun i => ?_⟩
 rw[der_cf]
 by_cases hi:i+1<a.length
 ·have:=(h2 (i+1)).mul (Db.ofInt ((i+1:Nat):Int))
  rw[Rat.intCast_natCast,Nat.mul_one] at this
  refine this.mono (pm (Nat.le_refl _) ?_)
  simp only[Int.natAbs_natCast];omega
 ·rw[cf_ge (by omega),Rat.zero_mul];exact Db.zero h2.pos _
theorem Dv.trans {a b c:List Rat} (h:Dv a b) (h2:Dv b c):Dv a c:=by
 obtain⟨m,nm,hm⟩:=h
 obtain⟨k,nk,hk⟩:=h2
 exact⟨mulQ k m,nf_mul _ _,fun x=>by rw[ev_mul,hk,hm];grind⟩
theorem Dv.of {a b m:List Rat} (h:∀ x,evQ b x=evQ m x*evQ a x):Dv a b:=⟨trimQ m,nf_trim _,fun x=>by rw[ev_trim,h]⟩
theorem Dv.monl {a b:List Rat} (na:Nf a) (h:Dv a b):Dv (monQ a) b:=by
 obtain⟨m,nm,hm⟩:=h
 refine⟨sclQ m (ld a),nf_scl _ _,fun x => ?_⟩
 have:=congrArg (fun l=>evQ l x) (mon_back na)
 simp only[ev_scl] at this
 rw[hm,ev_scl,←this];grind
theorem fac_mon {P y:List Rat} (nP:Nf P) (hP0:P≠[]) (ny:Nf y) (y0:y≠[]) (h:Dv y P) {e:Nat} (hP:Sz e P) (hL:P.length≤201):Sz (e+4020) (monQ y):=
 (fac_sz nP hP0 (nf_mon _) (mon_ld ny y0) (h.monl ny) hP (L:=201) hL (r:=10) (by omega)).mono (by omega)
theorem Sz.back {k m:Nat} {a:List Rat} (na:Nf a) (h:Sz k (monQ a)) (hl:Bq m (Go.Proofs.YtkidkimjdiichaaGreat.M.ld a)):Sz (k+m) a:=by
 rw[←mon_back na];exact h.scl hl
def sB (e:Nat):Nat:=2*e+4021
def sC (e:Nat):Nat:=2*e+8057
structure Ys (P b1:List Rat) (e k:Nat) (r b c a:List Rat) (l:List (List Rat × Nat)):Prop where
 y:Yr r b c a
 lb:ld b=ld P
 pr:∀ x,evQ P x=prodA l x*(evQ b x*(1 / ld P))^k*evQ r x
 sq:∀ x,evQ b1 x=prodB l x*evQ b x
 ps:∀ p∈l,Nf p.1∧ld p.1=1∧2≤p.1.length∧1≤p.2∧p.2≤k∧p.2<P.length∧Dv p.1 P
 inc:l.Pairwise fun p q=>p.2<q.2
 kr:k+r.length≤P.length
 ll:l.length≤k
 dr:Dv r P
 sb:Sz (sB e) b
 sc:Sz (sC e) c
theorem bq_nat' (n m:Nat) (h:n<2^m) (hm:0<m):Bq m (n:Rat):=⟨by simpa using h,by simpa using Nat.one_lt_two_pow (by omega)⟩
theorem Yr.clen {r b c a:List Rat} (h:Yr r b c a):c.length≤r.length:=by
 by_cases c0:c=[]
 ·rw[c0];simp
 ·have e:derQ r=mulQ c a:=ev_nf (der_nf _) (nf_mul _ _) fun x=>by rw[ev_mul,h.rd]
  have h1:=mul_len h.nc h.na c0 h.a0
  rw[←e] at h1
  have:=der_lt h.r0
  have:=List.length_pos_iff.2 h.a0
  omega
theorem Ys.start {P:List Rat} (nP:Nf P) (hP0:P≠[]) {e:Nat} (hP:Sz e P) (hL:P.length≤201) {a:List Rat} (ha:IsGcd P (derQ P) a):Ys P (quoQ P a) e 0 P (quoQ P a) (quoQ (derQ P) a) a []:=by
 have y:=Yr.of nP hP0 ha
 have hl:=y.lead
 have db:Dv (quoQ P a) P:=.of (m:=a) fun x=>by rw[y.ra];grind
 refine⟨y,hl.symm,fun x=>by rw[prodA,Rat.pow_zero];grind,fun x=>by rw[prodB];grind,by simp,.nil,by omega,Nat.le_refl _,.of (m:=[1]) fun x=>by rw[ev_1];grind,?_,?_⟩
 ·exact ((fac_mon nP hP0 y.nb y.b0 db hP hL).back y.nb (by rw[←hl];exact hP.ld)).mono (by unfold sB;omega)
 ·by_cases c0:quoQ (derQ P) a=[]
  ·rw[c0];exact Sz.nil _
  ·have d0:derQ P≠[]:=fun e0=>c0 (ev_0 y.nc fun x=>by
    have:=can (a:=quoQ (derQ P) a) (b:=[]) y.nc nf_nil y.na y.a0 (fun x=>by rw[←y.rd,e0,evQ_nil];grind) x
    rw[this,evQ_nil])
   have dc:Dv (quoQ (derQ P) a) (derQ P):=.of (m:=a) fun x=>by rw[y.rd];grind
   have e1:derQ P=mulQ (quoQ (derQ P) a) a:=ev_nf (der_nf _) (nf_mul _ _) fun x=>by rw[ev_mul,y.rd]
   have hlc:ld (quoQ (derQ P) a)=ld (derQ P):=by rw[e1,ld_mul y.nc y.na c0 y.a0,y.am];grind
   have sd:=hP.der (by omega)
   have hdl:=der_lt hP0
   exact ((fac_mon (der_nf _) d0 y.nc c0 dc sd (by omega)).back y.nc (by rw[hlc];exact sd.ld)).mono (by unfold sC;omega)
theorem Ys.next {P b1:List Rat} (nP:Nf P) (hP0:P≠[]) {e k:Nat} (hP:Sz e P) (hL:P.length≤201) {r b c a:List Rat} {l:List (List Rat × Nat)} (h:Ys P b1 e k r b c a l) (hb:2≤b.length) {g:List Rat} (hg:IsGcd b (subQ c (derQ b)) g) :
  (∃ a2,Ys P b1 e (k+1) (sclQ a (ld b)) (quoQ b g) (quoQ (subQ c (derQ b)) g) a2 (if 2≤g.length then l++[(g,k+1)] else l))∧(sclQ a (ld b)).length<r.length∧Sz (e+4020) g∧g.length≤201:=by
 have y:=h.y
 have lb:=h.lb
 have hl0:=ld_ne y.nb y.b0
 obtain⟨a2,ha2⟩:=gcd_ex _ a (derQ a) (Nat.le_refl _) y.na (der_nf _)
 have y2:=Yr.of y.na y.a0 ha2
 obtain⟨s1,s2,s3,s4,s5,s6⟩:=y.step y2 hg
 have hsl:=scl_len_eq y.na hl0
 have hrl:=y.lens
 have kr:=h.kr
 have hal:=List.length_pos_iff.2 y.a0
 have hlt:(sclQ a (ld b)).length<r.length:=by omega
 have da:Dv a P:=Dv.trans (.of (m:=b) fun x=>y.ra x) h.dr
 have db:Dv b P:=Dv.trans (.of (m:=a) fun x=>by rw[y.ra];grind) h.dr
 have dg:Dv g P:=Dv.trans hg.dp db
 have lg:ld g=1:=hg.mo.resolve_left s5
 have gl:g.length≤201:=by
  obtain⟨m,m0,_,_,_,hlen⟩:=dg.len hg.ng nP hP0
  have:=List.length_pos_iff.2 m0
  omega
 have sg:Sz (e+4020) g:=by
  have:=fac_mon nP hP0 hg.ng s5 dg hP hL
  rwa[mon_self hg.ng (.inr lg)] at this
 refine⟨⟨a2,s1,?_,fun x => ?_,fun x => ?_,?_,?_,by omega,by have:=h.ll;split<;>simp<;>omega,?_,?_,?_⟩,hlt,sg,gl⟩
 ·have lβ:ld (quoQ a a2)=1:=by rw[←y2.lead];exact y.am
  rw[s2,scl_ld y2.nb hl0,lβ,lb];grind
 ·have h1:=h.pr x
  have h2:=s6 x
  have h3:=s4 x
  rw[lb] at h2
  have e1:evQ b x*(1 / ld P)=evQ g x*(evQ (quoQ b g) x*(1 / ld P)):=by rw[h3];grind
  have e2:(evQ b x*(1 / ld P))^(k+1)=evQ g x^(k+1)*(evQ (quoQ b g) x*(1 / ld P))^(k+1):=by rw[e1,q_mul_pow]
  have e3:evQ P x=prodA l x*(evQ b x*(1 / ld P))^(k+1)*evQ (sclQ a (ld P)) x:=by rw[h1,h2,Rat.pow_succ];grind
  rw[e3,e2,lb]
  split
  ·rw[prodA_app];grind
  ·rename_i hgl
   have hg1:evQ g x=1:=by
    have:=List.length_pos_iff.2 s5
    rw[len1 (by omega)]
    have e4:ld g=cf g 0:=by unfold ld;rw[show g.length-1=0 by omega]
    rw[←e4,lg]
   rw[hg1]
   have:(1:Rat)^(k+1)=1:=q_one_pow _
   rw[this];grind
 ·have h1:=h.sq x
  rw[h1,s4]
  split
  ·rw[prodB_app];grind
  ·rename_i hgl
   have hg1:evQ g x=1:=by
    have:=List.length_pos_iff.2 s5
    rw[len1 (by omega)]
    have e4:ld g=cf g 0:=by unfold ld;rw[show g.length-1=0 by omega]
    rw[←e4,lg]
   rw[hg1];grind
 ·have hold:∀ p∈l,Nf p.1∧ld p.1=1∧2≤p.1.length∧1≤p.2∧p.2≤k+1∧p.2<P.length∧Dv p.1 P:=fun p hp=>by
   obtain⟨q1,q2,q3,q4,q5,q6,q7⟩:=h.ps p hp
   exact⟨q1,q2,q3,q4,by omega,q6,q7⟩
  split
  ·rename_i hgl
   intro p hp
   rcases List.mem_append.1 hp with hp | hp
   ·exact hold p hp
   ·obtain rfl:p=(g,k+1):=by simpa using hp
    exact⟨hg.ng,lg,hgl,by simp,Nat.le_refl _,by show k+1<P.length;omega,dg⟩
  ·exact hold
 ·split
  ·refine List.pairwise_append.2 ⟨h.inc,List.pairwise_singleton _ _,fun p hp q hq => ?_⟩
   obtain rfl:q=(g,k+1):=by simpa using hq
   have:=(h.ps p hp).2.2.2.2.1
   show p.2<k+1
   omega
  ·exact h.inc
 ·obtain⟨m,nm,hm⟩:=da
  exact .of (m:=sclQ m (1 / ld b)) fun x=>by rw[hm,ev_scl,ev_scl];grind
 ·have lβ:ld (quoQ a a2)=1:=by rw[←y2.lead];exact y.am
  have dβ:Dv (quoQ a a2) P:=Dv.trans (.of (m:=a2) fun x=>by rw[y2.ra];grind) da
  have sβ:=fac_mon nP hP0 y2.nb y2.b0 dβ hP hL
  rw[mon_self y2.nb (.inr lβ)] at sβ
  rw[s2]
  exact (sβ.scl (by rw[lb];exact hP.ld)).mono (by unfold sB;omega)
 ·by_cases c0:quoQ (derQ a) a2=[]
  ·rw[s3,c0];exact Sz.nil _
  ·have hal2:a.length≤201:=by
    obtain⟨m,m0,_,_,_,hlen⟩:=da.len y.na nP hP0
    have:=List.length_pos_iff.2 m0
    omega
   have d0:derQ a≠[]:=fun e0=>c0 (ev_0 y2.nc fun x=>by
    have:=can (a:=quoQ (derQ a) a2) (b:=[]) y2.nc nf_nil y2.na y2.a0 (fun x=>by rw[←y2.rd,e0,evQ_nil];grind) x
    rw[this,evQ_nil])
   have ha2l:2≤a.length:=by
    have:=der_lt y.a0
    have:=List.length_pos_iff.2 d0
    omega
   have dc:Dv (quoQ (derQ a) a2) (derQ a):=.of (m:=a2) fun x=>by rw[y2.rd];grind
   have e1:derQ a=mulQ (quoQ (derQ a) a2) a2:=ev_nf (der_nf _) (nf_mul _ _) fun x=>by rw[ev_mul,y2.rd]
   have hlc:ld (quoQ (derQ a) a2)=((a.length-1:Nat):Rat):=by
    have h1:ld (derQ a)=ld (quoQ (derQ a) a2):=by
     have:=ld_mul y2.nc y2.na c0 y2.a0
     rw[←e1,y2.am] at this
     rw[this];grind
    rw[←h1,(der_ld y.na ha2l).2,y.am];grind
   have sa:=fac_mon nP hP0 y.na y.a0 da hP hL
   rw[mon_self y.na (.inr y.am)] at sa
   have sd:=sa.der (by omega)
   have hdl:=der_lt y.a0
   have sγ:=fac_mon (der_nf _) d0 y2.nc c0 dc sd (by omega)
   have sγ2:=sγ.back y2.nc (m:=8) (by rw[hlc];exact bq_nat' _ 8 (by omega) (by omega))
   rw[s3]
   exact (sγ2.scl (by rw[lb];exact hP.ld)).mono (by unfold sC;omega)
noncomputable def yun:Nat→Nat→List Rat→List Rat→List (List Rat × Nat)→List (List Rat × Nat)
 | 0,_,_,_,l=>l
 | N+1,k,b,c,l=>if b.length≤1 then l else
  yun N (k+1) (quoQ b (gcdQ b (subQ c (derQ b)))) (quoQ (subQ c (derQ b)) (gcdQ b (subQ c (derQ b)))) (if 2≤(gcdQ b (subQ c (derQ b))).length then l++[(gcdQ b (subQ c (derQ b)),k+1)] else l)
noncomputable def partsQ (P:List Rat):List (List Rat × Nat):=yun P.length 0 (quoQ P (gcdQ P (derQ P))) (quoQ (derQ P) (gcdQ P (derQ P))) []
theorem yun_stop {N k:Nat} {b c:List Rat} {l:List (List Rat × Nat)} (h:b.length≤1):yun N k b c l=l:=by
 cases N with
 | zero=>rfl
 | succ N=>rw[yun,if_pos h]
theorem yun_end {P b1:List Rat} (nP:Nf P) (hP0:P≠[]) {e:Nat} (hP:Sz e P) (hL:P.length≤201):∀ (N k:Nat) (r b c a:List Rat) (l:List (List Rat × Nat)),r.length≤N→Ys P b1 e k r b c a l→∃ k' r' b' c' a',Ys P b1 e k' r' b' c' a' (yun N k b c l)∧b'.length≤1
 | 0,k,r,b,c,a,l,hr,h=>absurd (List.length_pos_iff.2 h.y.r0) (by omega)
 | N+1,k,r,b,c,a,l,hr,h=>by
  by_cases hb:b.length≤1
  ·rw[yun_stop hb];exact⟨_,_,_,_,_,h,hb⟩
  ·rw[yun,if_neg hb]
   obtain⟨⟨a2,h2⟩,hlt,_,_⟩:=h.next nP hP0 hP hL (by omega) (gcdQ_spec h.y.nb (nf_sub _ _))
   exact yun_end nP hP0 hP hL N _ _ _ _ _ _ (by omega) h2
structure Pts (P:List Rat) (l:List (List Rat × Nat)):Prop where
 ps:∀ p∈l,Nf p.1∧ld p.1=1∧2≤p.1.length∧1≤p.2∧p.2<P.length∧Dv p.1 P
 inc:l.Pairwise fun p q=>p.2<q.2
 pr:∀ x,evQ P x=prodA l x*ld P
 fr:∀ B d,Nf B→(∀ x,evQ B x=prodB l x)→IsGcd B (derQ B) d→d.length≤1
theorem pts_of {P:List Rat} (nP:Nf P) (hP0:P≠[]) {e:Nat} (hP:Sz e P) (hL:P.length≤201):Pts P (partsQ P):=by
 have ha:=gcdQ_spec nP (der_nf P)
 have h0:=Ys.start nP hP0 hP hL ha
 obtain⟨k,r,b,c,a,h,hb⟩:=yun_end nP hP0 hP hL P.length 0 _ _ _ _ [] (Nat.le_refl _) h0
 have y:=h.y
 have hl0:=ld_ne nP hP0
 have hbx:∀ x,evQ b x=ld P:=fun x=>by
  rw[len1 hb,←h.lb]
  have:=List.length_pos_iff.2 y.b0
  unfold ld;rw[show b.length-1=0 by omega]
 have hrl:r.length≤1:=by
  refine der_0 y.nr (Classical.byContradiction fun d0 => ?_)
  have c0:c≠[]:=fun e0=>d0 (ev_0 (der_nf _) fun x=>by rw[y.rd,e0,evQ_nil];grind)
  have e1:derQ r=mulQ c a:=ev_nf (der_nf _) (nf_mul _ _) fun x=>by rw[ev_mul,y.rd]
  have h1:=mul_len y.nc y.na c0 y.a0
  rw[←e1] at h1
  have:=der_lt y.r0
  have:=y.lens
  have:=List.length_pos_iff.2 c0
  omega
 have hrx:∀ x,evQ r x=ld P:=fun x=>by
  rw[len1 hrl,←h.lb,←y.lead]
  have:=List.length_pos_iff.2 y.r0
  unfold ld;rw[show r.length-1=0 by omega]
 refine⟨fun p hp => ?_,h.inc,fun x => ?_,fun B d nB hB hd => ?_⟩
 ·obtain⟨q1,q2,q3,q4,q5,q6,q7⟩:=h.ps p hp
  exact⟨q1,q2,q3,q4,q6,q7⟩
 ·have h1:=h.pr x
  rw[hbx,hrx,show ld P*(1 / ld P)=1 by grind,q_one_pow] at h1
  rw[h1];unfold partsQ;grind
 ·have hb1:∀ x,evQ (quoQ P (gcdQ P (derQ P))) x=evQ B x*ld P:=fun x=>by rw[h.sq,hbx,hB];rfl
  obtain⟨u,v,nu,nv,hc⟩:=hd.co
  obtain⟨m1,_,hm1⟩:=hd.dp
  obtain⟨m2,_,hm2⟩:=hd.dq
  have hder:∀ x,evQ (derQ (quoQ P (gcdQ P (derQ P)))) x=evQ (derQ B) x*ld P:=fun x=>by
   rw[←der_scl];exact der_ev (fun x=>by rw[ev_scl,hb1]) x
  refine h0.y.free (d:=d) ⟨hd.ng,hd.mo,.of (m:=sclQ m1 (ld P)) fun x=>by rw[hb1,hm1,ev_scl];grind,.of (m:=sclQ m2 (ld P)) fun x=>by rw[hder,hm2,ev_scl];grind,sclQ u (1 / ld P),sclQ v (1 / ld P),nf_scl _ _,nf_scl _ _,fun x => ?_⟩
  rw[ev_scl,ev_scl,hb1,hder,hc];grind
end Go.Proofs.YtkidkimjdiichaaGreat.M
end
