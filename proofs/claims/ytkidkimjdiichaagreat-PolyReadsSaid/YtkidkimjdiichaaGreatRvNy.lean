/- Contracts of numbers: greatest divisors, quotients; fractions' parts. Polynomials: monic, the derivative, the value at a point. -/
import Derived.Test.YtkidkimjdiichaaGreatPoCy
import Derived.Test.YtkidkimjdiichaaGreatRvCy
import Derived.Test.YtkidkimjdiichaaGreatPoKy
section
namespace Go.Proofs.YtkidkimjdiichaaGreat.M
open Go.RowKit
set_option linter.unusedSimpArgs false
set_option linter.unusedVariables false
set_option linter.defProp false
theorem nf_scl (a : List Rat) (k : Rat) : Nf (sclQ a k):=nf_trim _
theorem scl_tab {l : List Rat} {k : Rat} (nl : Nf l) (hk : k ≠ 0) : sclQ l k = tab l.length fun i => cf l i * k:=by
 unfold sclQ
 refine trim_nf ?_
 rcases nl with rfl | nl
 ·exact nf_nil
 ·right
  rw [tab_len,cf_tab]
  split
  ·exact fun e => (Rat.mul_eq_zero.1 e).elim nl hk
  ·rename_i h
   exact absurd (cf_ge (l:=l) (by omega)) nl
theorem scl_len_eq {l : List Rat} {k : Rat} (nl : Nf l) (hk : k ≠ 0) : (sclQ l k).length = l.length:=by rw [scl_tab nl hk,tab_len]
def derQ (a : List Rat) : List Rat:=trimQ (tab (a.length - 1) fun i => cf a (i + 1) * ((i + 1 : Nat) : Rat))
theorem tup3_V {w : World} {N : Nat → Prop} {v1 v2 v3 : Value} {d1 d2 d3 : D} (h1 : V w N v1 d1) (h2 : V w N v2 d2) (h3 : V w N v3 d3) : V w N (.tuple #[v1,v2,v3]) (.tup [d1,d2,d3]):=by
 refine .tup _ _ rfl fun i e he => ?_
 match i,he with
 | 0,he => simp at he;subst he;exact h1
 | 1,he => simp at he;subst he;exact h2
 | 2,he => simp at he;subst he;exact h3
 | i + 3,he => simp at he
theorem bt_up {a : Int} {n : Nat} (h : Bt a n) (hn : n ≤ 4147200000000) : Bt a 8796093022176:=h.mono (by omega)
theorem cGcd (a b : Int) (n : Nat) (ba : Bt a n) (bb : Bt b n) (hn : n ≤ 4147200000000) : Con Tryz.prog AN 130 [encI a,encI b] (encI (Int.gcd a b)):=con2 fun base w v0 v1 hav h0 h1 => by
 obtain ⟨x,rfl,hx⟩:=encI_V h0 (fsm9 ba hn)
 obtain ⟨y,rfl,hy⟩:=encI_V h1 (fsm9 bb hn)
 exact (gcd_any x y a b w hx hy).mono fun e w' ⟨x,h1,h2,h3⟩ => ⟨_,h1,fun _ hav => V_encI h2 hav,h3⟩
theorem cGcdZ (a b : Int) (n : Nat) (ba : Bt a n) (bb : Bt b n) (hn : n ≤ 4147200000000) : Con Tryz.prog AN 136 [encZ a,encZ b] (encZ (Int.gcd a b)):=con2 fun base w v0 v1 hav h0 h1 => by
 obtain ⟨x,rfl,hx⟩:=encZ_V h0 (fsm9 ba hn)
 obtain ⟨y,rfl,hy⟩:=encZ_V h1 (fsm9 bb hn)
 exact (Z4.gcd_any x y a b w hx hy (bt_up ba hn) (bt_up bb hn)).mono fun e w' ⟨x,h1,h2,h3⟩ => ⟨_,h1,fun _ hav => V_encZ h2 hav,h3⟩
theorem cDivI (a b : Int) (n : Nat) (ba : Bt a n) (bb : Bt b n) (hn : n ≤ 4147200000000) (hb : b ≠ 0) : Con Tryz.prog AN 131 [encI a,encI b] (.tup [encI (a / b),encI (a % b),flt 0 0]):=con2 fun base w v0 v1 hav h0 h1 => by
 obtain ⟨x,rfl,hx⟩:=encI_V h0 (fsm9 ba hn)
 obtain ⟨y,rfl,hy⟩:=encI_V h1 (fsm9 bb hn)
 exact (div_any x y a b w hx hy hb).mono fun e w' ⟨p,q,h1,h2,h3,h4⟩ => ⟨_,h1,fun _ hav => tup3_V (V_encI h2 hav) (V_encI h3 hav) (V_flt _ _),h4⟩
theorem cDivZ (a b : Int) (n : Nat) (ba : Bt a n) (bb : Bt b n) (hn : n ≤ 4147200000000) (hb : b ≠ 0) : Con Tryz.prog AN 135 [encZ a,encZ b] (.tup [encZ (a / b),encZ (a % b),flt 0 0]):=con2 fun base w v0 v1 hav h0 h1 => by
 obtain ⟨x,rfl,hx⟩:=encZ_V h0 (fsm9 ba hn)
 obtain ⟨y,rfl,hy⟩:=encZ_V h1 (fsm9 bb hn)
 exact (Z4.div_any x y a b w hx hy hb (bt_up bb hn)).mono fun e w' ⟨p,q,h1,h2,h3,h4⟩ => ⟨_,h1,fun _ hav => tup3_V (V_encZ h2 hav) (V_encZ h3 hav) (V_flt _ _),h4⟩
theorem cZNeg (a : Int) (n : Nat) (ba : Bt a n) (hn : n ≤ 4147200000000) : Con Tryz.prog AN 138 [encZ a] (encZ (-a)):=con1 fun base w v0 hav h0 => by
 obtain ⟨x,rfl,hx⟩:=encZ_V h0 (fsm9 ba hn)
 exact (Z4.neg_any x a w hx).mono fun e w' ⟨x,h1,h2,h3⟩ => ⟨_,h1,fun _ hav => V_encZ h2 hav,h3⟩
set_option maxHeartbeats 2000000 in
theorem qParts (x : Rat) (n : Nat) (hx : Bq n x) (hn : n ≤ 2048000000000) : Con Tryz.prog AN 129 [qI x] (.tup [encI x.num,encI x.den]):=by
 refine fn129.con rfl (by simp) ?_
 simp only [c129,c129_6,c129_1,l129_0,init1,cw,csW,cops,csP,Nat.reduceAdd,reduceCtorEq,Nat.reduceEqDiff]
 refine keep [1,2,3] ?_
 simp only [c129_5,c129_4,l129_2,csW,reduceCtorEq,Nat.reduceEqDiff,cw,cops,csP,Nat.reduceAdd,fold_FI]
 refine ⟨_,cBelow x.num x.den n hx.n hx.d hn,?_⟩
 simp only [l129_3,cops,csW,csP,Nat.reduceLT,Nat.reduceEqDiff,Nat.reduceAdd,Nat.reduceLeDiff,fold_I]
 refine keep [2,3] ?_
 simp only [Ends,resD,resL,resV,csW,Nat.reduceEqDiff,csP,Nat.reduceAdd,fold_I]
set_option maxHeartbeats 2000000 in
theorem cOver (a b : Int) (n : Nat) (ba : Bt a n) (bb : Bt b n) (hn : n ≤ 4147200000000) (hb0 : b ≠ 0) : Con Tryz.prog AN 133 [encI a,encI b] (.tup [qI (Rat.divInt a b),flt 0 0]):=by
 have hs : ¬ sgnZ b = 0:=by unfold sgnZ;(repeat' split) <;> omega
 rw [← qI_of hb0]
 refine fn133.con rfl (by simp) ?_
 simp only [c133,c133_15,c133_1,l133_0,csP,init2,cw,csW,cops,reduceCtorEq,Nat.reduceAdd,Nat.reduceEqDiff]
 refine keep [2,3,4,5] ?_
 simp only [c133_14,c133_9,c133_4,l133_2,csW,reduceCtorEq,Nat.reduceEqDiff,cw,cops,csP,Nat.reduceAdd,fold_I]
 refine ⟨_,cISign b n bb hn,?_⟩
 simp only [l133_3,cops,csW,Nat.reduceEqDiff,hs]
 refine keep [2,3,4,5,8] ?_
 simp only [c133_8,csW,Nat.reduceEqDiff,cw]
 refine keep [2,3,4,5] ?_
 simp only [c133_13,c133_12,l133_10,csW,Nat.reduceEqDiff,cw,cops,csP,Nat.reduceLT,Nat.reduceAdd,fold_I]
 refine ⟨_,cLowest a b n ba bb hn hb0,?_⟩
 simp only [l133_11,cops,csW,csP,Nat.reduceEqDiff,Nat.reduceAdd,fold_FI]
 refine keep [4,5] ?_
 simp only [Ends,resD,resL,resV,csW,Nat.reduceEqDiff,csP,Nat.reduceAdd,fold_FI]
theorem Bq.mul {n m : Nat} {x y : Rat} (hx : Bq n x) (hy : Bq m y) : Bq (n + m) (x * y):=by
 refine ((Db.of_self x).mul (Db.of_self y)).Bq ?_ ?_
 ·rw [Nat.pow_add];exact Nat.mul_lt_mul'' hx.2 hy.2
 ·rw [Nat.pow_add];exact Nat.mul_lt_mul'' hx.1 hy.1
theorem Bq.inv {n : Nat} {x : Rat} (h : Bq n x) : Bq n (1 / x):=by
 have h4:=h.1
 have h5:=h.2
 have e : 1 / x = x⁻¹:=by rw [Rat.div_def,Rat.one_mul]
 rw [e]
 have hp : 0 < 2 ^ n:=Nat.pow_pos (by omega)
 constructor
 ·rw [Rat.num_inv,Int.natAbs_mul]
  rcases Int.lt_trichotomy x.num 0 with h6 | h6 | h6
  ·rw [Int.sign_eq_neg_one_of_neg h6];simp;omega
  ·rw [h6];simp;exact hp
  ·rw [Int.sign_eq_one_of_pos h6];simp;omega
 ·rw [Rat.den_inv]
  split
  ·exact Nat.lt_of_le_of_lt x.den_pos h5
  ·exact h4
end Go.Proofs.YtkidkimjdiichaaGreat.M
end

section
namespace Go.Proofs.YtkidkimjdiichaaGreat.M
open Go.RowKit
set_option linter.unusedSimpArgs false
set_option linter.unusedVariables false
set_option linter.defProp false
def monQ (l : List Rat) : List Rat:=sclQ l (1 / ld l)
theorem mon_nil : monQ [] = []:=rfl
theorem mon_len (l : List Rat) : (monQ l).length ≤ l.length:=scl_len _ _
theorem mon_bl {l : List Rat} {m : Nat} (h : Bl m l) : Bl (m + m) (monQ l):=fun i => by rw [monQ,cf_scl];exact (h i).mul (h _).inv
set_option maxHeartbeats 2000000 in
theorem monic_con (l : List Rat) (m n : Nat) (nl : Nf l) (hl : Bl m l) (hm : 1 < m) (hmn : m + m ≤ n) (hn : n ≤ big) (h1 : l.length ≤ 1000000) : Con Tryz.prog AN 38 [pI l] (pI (monQ l)):=by
 by_cases h0 : l = []
 ·subst h0
  rw [mon_nil]
  refine fn38.con rfl (by simp) ?_
  simp only [c38,c38_21,c38_1,l38_0,init1,cw,csW,cops,reduceCtorEq,Nat.reduceEqDiff]
  refine keep [1,2] ?_
  simp only [c38_20,c38_8,c38_3,l38_2,csW,reduceCtorEq,Nat.reduceEqDiff,cw,cops,csP]
  refine keep [1,2,8] ?_
  simp only [c38_7,csW,Nat.reduceEqDiff,cw]
  simp only [c38_6,c38_5,l38_4,cw,csW,cops,csP,Nat.reduceEqDiff]
  refine keep [2] ?_
  simp only [Ends,resD,resL,resV,csW,Nat.reduceEqDiff,csP]
 ·have hI : ¬ (l.length : Int) = 0:=by have:=List.length_pos_iff.2 h0;omega
  have hld : Bq m (ld l):=hl _
  refine fn38.con rfl (by simp) ?_
  simp only [c38,c38_21,c38_1,l38_0,init1,cw,csW,cops,reduceCtorEq,Nat.reduceEqDiff]
  refine keep [1,2] ?_
  simp only [c38_20,c38_8,c38_3,l38_2,csW,reduceCtorEq,Nat.reduceEqDiff,cw,cops,csP,hI]
  refine keep [1,2,8] ?_
  simp only [c38_7,csW,Nat.reduceEqDiff,cw]
  refine keep [1,2] ?_
  simp only [c38_19,c38_14,l38_9,csW,Nat.reduceEqDiff,cw,cops]
  refine ⟨_,cOf 1 (by omega),?_⟩
  simp only [l38_10,cops,csW,Nat.reduceEqDiff]
  refine ⟨_,qWhole 1 n (bq_one (by omega)).1 hn,?_⟩
  simp only [l38_11,rat_one,cops,csW,Nat.reduceEqDiff,csP]
  refine ⟨_,lead_con l (by omega),?_⟩
  simp only [l38_12,cops,csW,Nat.reduceEqDiff]
  refine ⟨_,qQuo 1 (ld l) n (bq_one (by omega)) (hld.mono (by omega)) hn (ld_ne nl h0),?_⟩
  simp only [l38_13,csP,cops,csW,Nat.reduceEqDiff,Nat.reduceAdd]
  refine keep [1,2,3] ?_
  simp only [c38_18,c38_17,l38_15,csW,Nat.reduceEqDiff,cw,cops,csP,Nat.reduceLT,Nat.reduceAdd]
  refine ⟨_,scale_con l (1 / ld l) n (hl.mono (by omega)) (hld.inv.mono (by omega)) (fun i => ((hl i).mul hld.inv).mono hmn) hn h1,?_⟩
  simp only [l38_16,cops,csW,Nat.reduceEqDiff,csP]
  refine keep [2] ?_
  simp only [Ends,resD,resL,resV,csW,Nat.reduceEqDiff,csP]
  rfl
set_option maxHeartbeats 2000000 in
theorem pmonic_con (l : List Rat) (m n : Nat) (nl : Nf l) (hl : Bl m l) (hm : 1 < m) (hmn : m + m ≤ n) (hn : n ≤ big) (h1 : l.length ≤ 1000000) : Con Tryz.prog AN 39 [LZ l] (LZ (monQ l)):=by
 by_cases h0 : l = []
 ·subst h0
  rw [mon_nil]
  refine fn39.con rfl (by simp) ?_
  simp only [c39,c39_20,c39_1,l39_0,init1,cw,csW,cops,reduceCtorEq]
  refine keep [0] ?_
  simp only [c39_19,c39_8,c39_3,l39_2,csW,reduceCtorEq,cw,cops,Nat.reduceEqDiff]
  refine keep [0,7] ?_
  simp only [c39_7,csW,reduceCtorEq,Nat.reduceEqDiff,cw]
  simp only [c39_6,c39_5,l39_4,cw,csW,cops,reduceCtorEq,Nat.reduceEqDiff]
  refine keep [2] ?_
  simp only [Ends,resD,resL,resV,csW,reduceCtorEq,Nat.reduceEqDiff]
 ·have hI : ¬ (l.length : Int) = 0:=by have:=List.length_pos_iff.2 h0;omega
  have hld : Bq m (ld l):=hl _
  refine fn39.con rfl (by simp) ?_
  simp only [c39,c39_20,c39_1,l39_0,init1,cw,csW,cops,reduceCtorEq]
  refine keep [0] ?_
  simp only [c39_19,c39_8,c39_3,l39_2,csW,reduceCtorEq,cw,cops,Nat.reduceEqDiff,hI]
  refine keep [0,7] ?_
  simp only [c39_7,csW,reduceCtorEq,Nat.reduceEqDiff,cw]
  refine keep [0] ?_
  simp only [c39_18,c39_13,l39_9,csW,reduceCtorEq,cw,cops]
  refine ⟨_,fof_con 1 (by omega),?_⟩
  simp only [l39_10,rat_one,cops,csW,reduceCtorEq,Nat.reduceEqDiff]
  refine ⟨_,plead_con l (by omega),?_⟩
  simp only [l39_11,cops,csW,reduceCtorEq,Nat.reduceEqDiff]
  refine ⟨_,zQuo 1 (ld l) n (bq_one (by omega)) (hld.mono (by omega)) hn (ld_ne nl h0),?_⟩
  simp only [l39_12,csP,cops,csW,reduceCtorEq,Nat.reduceEqDiff,Nat.reduceAdd]
  refine keep [0,3] ?_
  simp only [c39_17,c39_16,l39_14,csW,reduceCtorEq,Nat.reduceEqDiff,cw,cops,csP,Nat.reduceLT,Nat.reduceAdd]
  refine ⟨_,pscale_con l (1 / ld l) n (hl.mono (by omega)) (hld.inv.mono (by omega)) (fun i => ((hl i).mul hld.inv).mono hmn) hn h1,?_⟩
  simp only [l39_15,cops,csW,reduceCtorEq,Nat.reduceEqDiff]
  refine keep [2] ?_
  simp only [Ends,resD,resL,resV,csW,reduceCtorEq,Nat.reduceEqDiff]
  rfl
theorem bq_nat (i n : Nat) (hi : i < 2 ^ n) (hn : 0 < n) : Bq n (((i : Nat) : Int) : Rat):=⟨by simpa using hi,Nat.one_lt_two_pow (by omega)⟩
def dco (l : List Rat) (j : Nat) : Rat:=cf l (j + 1) * (((j : Int) + 1 : Int) : Rat)
theorem dco_der (l : List Rat) : trimQ (tab (l.length - 1) (dco l)) = derQ l:=by
 unfold derQ
 refine congrArg trimQ (tab_ext fun i _ => ?_)
 rw [← Rat.intCast_natCast];rfl
theorem dco_bq {l : List Rat} {m : Nat} (h : Bl m l) {j : Nat} (hj : j < 1000000) : Bq (m + 20) (dco l j):=by
 have h20 : j + 1 < 2 ^ 20:=by omega
 exact (h (j + 1)).mul (bq_nat (j + 1) 20 h20 (by omega))
theorem der_len (l : List Rat) : (derQ l).length ≤ l.length:=by unfold derQ;exact Nat.le_trans (trim_len _) (by rw [tab_len];omega)
theorem der_bl {l : List Rat} {m : Nat} (h : Bl m l) (h1 : l.length ≤ 1000000) : Bl (m + 20) (derQ l):=by
 rw [← dco_der]
 exact (Bl.tab (by omega) fun j hj => dco_bq h (by omega)).trim
set_option maxHeartbeats 4000000 in
theorem derive_con (l : List Rat) (m n : Nat) (hl : Bl m l) (hmn : m + 20 ≤ n) (hn : n ≤ big) (h1 : l.length ≤ 1000000) : Con Tryz.prog AN 40 [pI l] (pI (derQ l)):=by
 rw [← dco_der]
 obtain ⟨N,hN⟩ : ∃ N,N = l.length:=⟨_,rfl⟩
 refine fn40.con rfl (by simp) ?_
 simp only [c40,c40_36,c40_1,l40_0,← hN,init1,cw,csW,cops,reduceCtorEq,Nat.reduceEqDiff]
 refine keep [1,2] ?_
 simp only [c40_35,c40_3,l40_2,csW,reduceCtorEq,Nat.reduceEqDiff,cw,cops]
 refine keep [1,2,3] ?_
 simp only [c40_34,c40_29,c40_5,l40_4,csW,Nat.reduceEqDiff,cw,cops,csP,← hN]
 refine keep [2,3,7,8,9] ?_
 simp only [c40_28,csW,Nat.reduceEqDiff,cw]
 refine loop_of (ι:=Nat × Nat) (fun x => x.1 ≤ N ∧ (x.1 = 0 ∧ x.2 = 0 ∨ x.1 = x.2 + 1)) (fun x => ⟨look [(2,.ptr 2 0 0),(3,.slice 105 0 x.2),(7,.p (LI l)),(8,.p (J N)),(9,.p (J x.1))],
  lookM [(2,⟨25,1,.box zPoly,false⟩),(105,⟨52,4,.row ((tab x.2 (dco l)).map qI),false⟩)]⟩) (fun x => N - x.1) (0,0) ⟨by simp only;omega,by simp⟩ ((Sub.keepG [2,3,7,8,9] [1] (by rfl) (by rfl)).tr (Sub.nilG 3 105 52 4 (by rfl) (by rfl) (by decide) (by rfl) (by rfl))) ?_
 rintro ⟨i,k⟩ ⟨hi,hk⟩
 simp only at hi hk
 by_cases h : i < N
 ·rcases hk with ⟨rfl,rfl⟩ | rfl
  ·have hI : (0 : Int) < (N : Int):=by omega
   have hp : ¬ (0 : Int) < 0:=by omega
   have hil : 0 < l.length:=by omega
   simp only [c40_26,c40_7,l40_6,csW,cw,cops,Nat.reduceEqDiff,hI]
   refine keep [2,3,7,8,9,10] ?_
   simp only [c40_25,c40_8,csW,Nat.reduceEqDiff,cw]
   refine keep [2,3,7,8,9] ?_
   simp only [c40_24,c40_21,c40_20,c40_10,l40_9,csP,csW,Nat.reduceEqDiff,cw,cops,Nat.reduceLT,getD_q hil,Nat.reduceAdd]
   (repeat refine And.intro (by first | omega | (simp;omega)) ?_)
   refine keep [2,3,4,5,7,8,9] ?_
   simp only [c40_19,c40_12,l40_11,csW,Nat.reduceEqDiff,cw,cops,hp]
   refine keep [2,3,4,5,7,8,9,15] ?_
   simp only [c40_18,csW,Nat.reduceEqDiff,cw]
   refine keep [2,3,7,8,9] ?_
   simp only [c40_23,l40_22,csW,Nat.reduceEqDiff,cw,cops]
   (repeat refine And.intro (by first | omega | (simp;omega)) ?_)
   exact ⟨(1,0),⟨by simp only;omega,by simp⟩,(Sub.toG [2,3,7,8,9] [1,5,22] (by rfl) (by rfl) (by rfl) (by rfl)),by simp only;omega⟩
  ·have hI : (k : Int) + 1 < (N : Int):=by omega
   have hp : (0 : Int) < (k : Int) + 1:=by omega
   have hil : k + 1 < l.length:=by omega
   have hit : ((k : Int) + 1).toNat = k + 1:=by omega
   have hb:=bq_nat (k + 1) 20 (by omega) (by omega)
   simp only [c40_26,c40_7,l40_6,csW,cw,cops,Nat.reduceEqDiff,hI]
   refine keep [2,3,7,8,9,10] ?_
   simp only [c40_25,c40_8,csW,Nat.reduceEqDiff,cw]
   refine keep [2,3,7,8,9] ?_
   simp only [c40_24,c40_21,c40_20,c40_10,l40_9,csP,csW,Nat.reduceEqDiff,cw,cops,Nat.reduceLT,hit,getD_q hil,Nat.reduceAdd]
   (repeat refine And.intro (by first | omega | (simp;omega)) ?_)
   refine keep [2,3,4,5,7,8,9] ?_
   simp only [c40_19,c40_12,l40_11,csW,Nat.reduceEqDiff,cw,cops,hp]
   refine keep [2,3,4,5,7,8,9,15] ?_
   simp only [c40_18,csW,Nat.reduceEqDiff,cw]
   simp only [c40_17,l40_13,csW,cw,cops,Nat.reduceEqDiff,csP,Nat.reduceAdd]
   refine ⟨_,cOf ((k : Int) + 1) (by omega),?_⟩
   simp only [l40_14,cops,csW,Nat.reduceEqDiff]
   refine ⟨_,qWhole ((k : Int) + 1) n (hb.mono (by omega)).1 hn,?_⟩
   simp only [l40_15,cops,csW,Nat.reduceEqDiff]
   refine ⟨_,qMul (cf l (k + 1)) _ n ((hl _).mono (by omega)) (hb.mono (by omega)) hn,?_⟩
   simp only [l40_16,csP,cops,csW,Nat.reduceEqDiff,Nat.reduceAdd,Nat.reduceLeDiff]
   (repeat refine And.intro (by first | omega | (simp;omega)) ?_)
   refine keep [2,3,7,8,9] ?_
   simp only [c40_23,l40_22,csW,Nat.reduceEqDiff,cw,cops]
   (repeat refine And.intro (by first | omega | (simp;omega)) ?_)
   exact ⟨(k + 1 + 1,k + 1),⟨by simp only;omega,by simp⟩,by simp only [← tab_succ];exact (Sub.toG [2,3,7,8,9] [1,5,22] (by rfl) (by rfl) (by rfl) (by rfl)),by simp only;omega⟩
 ·have hI : ¬ (i : Int) < (N : Int):=by omega
  have hiN : i = N:=by omega
  have hkl : k = l.length - 1:=by omega
  simp only [c40_26,c40_7,l40_6,cw,csW,cops,Nat.reduceEqDiff,hI]
  refine keep [2,3,7,8,9,10] ?_
  simp only [c40_25,c40_8,csW,Nat.reduceEqDiff,cw]
  have htk : (tab k (dco l)).take k = tab k (dco l):=List.take_of_length_le (by rw [tab_len];omega)
  refine keepF 105 _ [2,3] (by rfl) ?_
  simp only [c40_33,c40_32,l40_30,csW,Nat.reduceEqDiff,cw,cops,Bool.true_or,csP,Nat.le_refl,htk]
  refine ⟨_,made_con (tab k (dco l)) n (Bl.tab (by omega) fun j hj => (dco_bq hl (by omega)).mono hmn) hn (by rw [tab_len];omega),?_⟩
  simp only [l40_31,cops,csW,Nat.reduceEqDiff,csP]
  refine keep [2] ?_
  simp only [Ends,resD,resL,resV,csW,Nat.reduceEqDiff,csP]
  rw [hkl,hN]
set_option maxHeartbeats 4000000 in
theorem pderive_con (l : List Rat) (m n : Nat) (hl : Bl m l) (hmn : m + 20 ≤ n) (hn : n ≤ big) (h1 : l.length ≤ 1000000) : Con Tryz.prog AN 41 [LZ l] (LZ (derQ l)):=by
 rw [← dco_der]
 refine fn41.con rfl (by simp) ?_
 simp only [c41,c41_28,c41_1,l41_0,init1,cw,csW,cops,reduceCtorEq]
 refine keep [0] ?_
 simp only [c41_27,c41_3,l41_2,csW,reduceCtorEq,cw,cops]
 refine keep [0,3] ?_
 simp only [c41_26,c41_21,c41_5,l41_4,csW,reduceCtorEq,cw,cops,Nat.reduceEqDiff]
 refine keep [0,3,4] ?_
 simp only [c41_20,csW,reduceCtorEq,Nat.reduceEqDiff,cw]
 refine loop_of (ι:=Nat) (fun k => k ≤ l.length - 1) (fun k => ⟨look [(0,.p (LZ l)),(3,.slice 105 0 k),(4,.p (J ((k : Int) + 1)))],
  lookM [(105,⟨60,4,.row ((tab k (dco l)).map qZ),false⟩)]⟩) (fun k => l.length - 1 - k) 0 (by omega) (Sub.nilG 3 105 60 4 (by rfl) (by rfl) (by decide) (by rfl) (by rfl)) ?_
 rintro k hk
 by_cases h : k + 1 < l.length
 ·have hI : (k : Int) + 1 < (l.length : Int):=by omega
  have hit : ((k : Int) + 1).toNat = k + 1:=by omega
  have hb:=bq_nat (k + 1) 20 (by omega) (by omega)
  simp only [c41_18,c41_9,c41_7,l41_6,cw,csW,cops,reduceCtorEq,Nat.reduceEqDiff,hI]
  refine keep [0,3,4,8] ?_
  simp only [c41_8,csW,reduceCtorEq,Nat.reduceEqDiff,cw]
  refine keep [0,3,4] ?_
  simp only [c41_17,c41_14,c41_13,l41_10,csW,reduceCtorEq,Nat.reduceEqDiff,cw,cops,csP,Nat.reduceLT,hI,hit,getD_z h,Nat.reduceAdd]
  (repeat refine And.intro (by first | omega | (simp;omega)) ?_)
  refine ⟨_,fof_con ((k : Int) + 1) (by omega),?_⟩
  simp only [l41_11,cops,csW,reduceCtorEq,Nat.reduceEqDiff]
  refine ⟨_,zMul (cf l (k + 1)) _ n ((hl _).mono (by omega)) (hb.mono (by omega)) hn,?_⟩
  simp only [l41_12,cops,csW,Nat.reduceEqDiff,reduceCtorEq,csP,Nat.reduceAdd,Nat.reduceLeDiff]
  (repeat refine And.intro (by first | omega | (simp;omega)) ?_)
  refine keep [0,3,4] ?_
  simp only [c41_16,l41_15,csW,reduceCtorEq,Nat.reduceEqDiff,cw,cops]
  (repeat refine And.intro (by first | omega | (simp;omega)) ?_)
  exact ⟨k + 1,by omega,by rw [← tab_succ];exact (Sub.toG [0,3,4] [19] (by rfl) (by rfl) (by rfl) (by rfl)),by omega⟩
 ·have hI : ¬ (k : Int) + 1 < (l.length : Int):=by omega
  have hkl : k = l.length - 1:=by omega
  simp only [c41_18,c41_9,c41_7,l41_6,cw,csW,cops,reduceCtorEq,Nat.reduceEqDiff,hI]
  refine keep [0,3,4,8] ?_
  simp only [c41_8,csW,reduceCtorEq,Nat.reduceEqDiff,cw]
  have htk : (tab k (dco l)).take k = tab k (dco l):=List.take_of_length_le (by rw [tab_len];omega)
  refine keepF 105 _ [3] (by rfl) ?_
  simp only [c41_25,c41_24,l41_22,csW,reduceCtorEq,Nat.reduceEqDiff,cw,cops,Bool.true_or,csP,Nat.le_refl,htk]
  refine ⟨_,pmade_con (tab k (dco l)) n (Bl.tab (by omega) fun j hj => (dco_bq hl (by omega)).mono hmn) hn (by rw [tab_len];omega),?_⟩
  simp only [l41_23,cops,csW,Nat.reduceEqDiff]
  refine keep [2] ?_
  simp only [Ends,resD,resL,resV,csW,Nat.reduceEqDiff]
  rw [hkl]
end Go.Proofs.YtkidkimjdiichaaGreat.M
end
