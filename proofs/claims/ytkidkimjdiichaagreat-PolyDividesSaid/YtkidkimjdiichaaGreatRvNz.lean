/- Contracts of numbers: greatest divisors, quotients; fractions' parts. Polynomials: monic, the derivative, the value at a point. -/
import Derived.Test.YtkidkimjdiichaaGreatPoCy
import Derived.Test.YtkidkimjdiichaaGreatRvCz
import Derived.Test.YtkidkimjdiichaaGreatPoKy
section
namespace Go.Proofs.YtkidkimjdiichaaGreat.M
open Go.RowKit
set_option linter.unusedSimpArgs false
set_option linter.unusedVariables false
set_option linter.defProp false
theorem nf_scl (a : List Rat) (k : Rat) : Nf (sclQ a k):=nf_trim _
theorem scl_tab {l : List Rat} {k : Rat} (nl : Nf l) (hk : k ≠ 0) : sclQ l k = tab l.length fun i => cf l i * k:=by
 unfold sclQ
 refine trim_nf ?_
 rcases nl with rfl | nl
 ·exact nf_nil
 ·right
  rw [tab_len,cf_tab]
  split
  ·exact fun e => (Rat.mul_eq_zero.1 e).elim nl hk
  ·rename_i h
   exact absurd (cf_ge (l:=l) (by omega)) nl
theorem scl_len_eq {l : List Rat} {k : Rat} (nl : Nf l) (hk : k ≠ 0) : (sclQ l k).length = l.length:=by rw [scl_tab nl hk,tab_len]
theorem Bq.mul {n m : Nat} {x y : Rat} (hx : Bq n x) (hy : Bq m y) : Bq (n + m) (x * y):=by
 refine ((Db.of_self x).mul (Db.of_self y)).Bq ?_ ?_
 ·rw [Nat.pow_add];exact Nat.mul_lt_mul'' hx.2 hy.2
 ·rw [Nat.pow_add];exact Nat.mul_lt_mul'' hx.1 hy.1
theorem Bq.inv {n : Nat} {x : Rat} (h : Bq n x) : Bq n (1 / x):=by
 have h4:=h.1
 have h5:=h.2
 have e : 1 / x = x⁻¹:=by rw [Rat.div_def,Rat.one_mul]
 rw [e]
 have hp : 0 < 2 ^ n:=Nat.pow_pos (by omega)
 constructor
 ·rw [Rat.num_inv,Int.natAbs_mul]
  rcases Int.lt_trichotomy x.num 0 with h6 | h6 | h6
  ·rw [Int.sign_eq_neg_one_of_neg h6];simp;omega
  ·rw [h6];simp;exact hp
  ·rw [Int.sign_eq_one_of_pos h6];simp;omega
 ·rw [Rat.den_inv]
  split
  ·exact Nat.lt_of_le_of_lt x.den_pos h5
  ·exact h4
end Go.Proofs.YtkidkimjdiichaaGreat.M
end

section
namespace Go.Proofs.YtkidkimjdiichaaGreat.M
open Go.RowKit
set_option linter.unusedSimpArgs false
set_option linter.unusedVariables false
set_option linter.defProp false
def monQ (l : List Rat) : List Rat:=sclQ l (1 / ld l)
theorem mon_nil : monQ [] = []:=rfl
theorem nf_mon (l : List Rat) : Nf (monQ l):=nf_scl _ _
theorem mon_len (l : List Rat) : (monQ l).length ≤ l.length:=scl_len _ _
set_option maxHeartbeats 2000000 in
theorem monic_con (l : List Rat) (m n : Nat) (nl : Nf l) (hl : Bl m l) (hm : 1 < m) (hmn : m + m ≤ n) (hn : n ≤ big) (h1 : l.length ≤ 1000000) : Con Tryz.prog AN 38 [pI l] (pI (monQ l)):=by
 by_cases h0 : l = []
 ·subst h0
  rw [mon_nil]
  refine fn38.con rfl (by simp) ?_
  simp only [c38,c38_21,c38_1,l38_0,init1,cw,csW,cops,reduceCtorEq,Nat.reduceEqDiff]
  refine keep [1,2] ?_
  simp only [c38_20,c38_8,c38_3,l38_2,csW,reduceCtorEq,Nat.reduceEqDiff,cw,cops,csP]
  refine keep [1,2,8] ?_
  simp only [c38_7,csW,Nat.reduceEqDiff,cw]
  simp only [c38_6,c38_5,l38_4,cw,csW,cops,csP,Nat.reduceEqDiff]
  refine keep [2] ?_
  simp only [Ends,resD,resL,resV,csW,Nat.reduceEqDiff,csP]
 ·have hI : ¬ (l.length : Int) = 0:=by have:=List.length_pos_iff.2 h0;omega
  have hld : Bq m (ld l):=hl _
  refine fn38.con rfl (by simp) ?_
  simp only [c38,c38_21,c38_1,l38_0,init1,cw,csW,cops,reduceCtorEq,Nat.reduceEqDiff]
  refine keep [1,2] ?_
  simp only [c38_20,c38_8,c38_3,l38_2,csW,reduceCtorEq,Nat.reduceEqDiff,cw,cops,csP,hI]
  refine keep [1,2,8] ?_
  simp only [c38_7,csW,Nat.reduceEqDiff,cw]
  refine keep [1,2] ?_
  simp only [c38_19,c38_14,l38_9,csW,Nat.reduceEqDiff,cw,cops]
  refine ⟨_,cOf 1 (by omega),?_⟩
  simp only [l38_10,cops,csW,Nat.reduceEqDiff]
  refine ⟨_,qWhole 1 n (bq_one (by omega)).1 hn,?_⟩
  simp only [l38_11,rat_one,cops,csW,Nat.reduceEqDiff,csP]
  refine ⟨_,lead_con l (by omega),?_⟩
  simp only [l38_12,cops,csW,Nat.reduceEqDiff]
  refine ⟨_,qQuo 1 (ld l) n (bq_one (by omega)) (hld.mono (by omega)) hn (ld_ne nl h0),?_⟩
  simp only [l38_13,csP,cops,csW,Nat.reduceEqDiff,Nat.reduceAdd]
  refine keep [1,2,3] ?_
  simp only [c38_18,c38_17,l38_15,csW,Nat.reduceEqDiff,cw,cops,csP,Nat.reduceLT,Nat.reduceAdd]
  refine ⟨_,scale_con l (1 / ld l) n (hl.mono (by omega)) (hld.inv.mono (by omega)) (fun i => ((hl i).mul hld.inv).mono hmn) hn h1,?_⟩
  simp only [l38_16,cops,csW,Nat.reduceEqDiff,csP]
  refine keep [2] ?_
  simp only [Ends,resD,resL,resV,csW,Nat.reduceEqDiff,csP]
  rfl
set_option maxHeartbeats 2000000 in
theorem pmonic_con (l : List Rat) (m n : Nat) (nl : Nf l) (hl : Bl m l) (hm : 1 < m) (hmn : m + m ≤ n) (hn : n ≤ big) (h1 : l.length ≤ 1000000) : Con Tryz.prog AN 39 [LZ l] (LZ (monQ l)):=by
 by_cases h0 : l = []
 ·subst h0
  rw [mon_nil]
  refine fn39.con rfl (by simp) ?_
  simp only [c39,c39_20,c39_1,l39_0,init1,cw,csW,cops,reduceCtorEq]
  refine keep [0] ?_
  simp only [c39_19,c39_8,c39_3,l39_2,csW,reduceCtorEq,cw,cops,Nat.reduceEqDiff]
  refine keep [0,7] ?_
  simp only [c39_7,csW,reduceCtorEq,Nat.reduceEqDiff,cw]
  simp only [c39_6,c39_5,l39_4,cw,csW,cops,reduceCtorEq,Nat.reduceEqDiff]
  refine keep [2] ?_
  simp only [Ends,resD,resL,resV,csW,reduceCtorEq,Nat.reduceEqDiff]
 ·have hI : ¬ (l.length : Int) = 0:=by have:=List.length_pos_iff.2 h0;omega
  have hld : Bq m (ld l):=hl _
  refine fn39.con rfl (by simp) ?_
  simp only [c39,c39_20,c39_1,l39_0,init1,cw,csW,cops,reduceCtorEq]
  refine keep [0] ?_
  simp only [c39_19,c39_8,c39_3,l39_2,csW,reduceCtorEq,cw,cops,Nat.reduceEqDiff,hI]
  refine keep [0,7] ?_
  simp only [c39_7,csW,reduceCtorEq,Nat.reduceEqDiff,cw]
  refine keep [0] ?_
  simp only [c39_18,c39_13,l39_9,csW,reduceCtorEq,cw,cops]
  refine ⟨_,fof_con 1 (by omega),?_⟩
  simp only [l39_10,rat_one,cops,csW,reduceCtorEq,Nat.reduceEqDiff]
  refine ⟨_,plead_con l (by omega),?_⟩
  simp only [l39_11,cops,csW,reduceCtorEq,Nat.reduceEqDiff]
  refine ⟨_,zQuo 1 (ld l) n (bq_one (by omega)) (hld.mono (by omega)) hn (ld_ne nl h0),?_⟩
  simp only [l39_12,csP,cops,csW,reduceCtorEq,Nat.reduceEqDiff,Nat.reduceAdd]
  refine keep [0,3] ?_
  simp only [c39_17,c39_16,l39_14,csW,reduceCtorEq,Nat.reduceEqDiff,cw,cops,csP,Nat.reduceLT,Nat.reduceAdd]
  refine ⟨_,pscale_con l (1 / ld l) n (hl.mono (by omega)) (hld.inv.mono (by omega)) (fun i => ((hl i).mul hld.inv).mono hmn) hn h1,?_⟩
  simp only [l39_15,cops,csW,reduceCtorEq,Nat.reduceEqDiff]
  refine keep [2] ?_
  simp only [Ends,resD,resL,resV,csW,reduceCtorEq,Nat.reduceEqDiff]
  rfl
end Go.Proofs.YtkidkimjdiichaaGreat.M
end
