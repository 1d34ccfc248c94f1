/- Polynomials: the reference's powers, and one put into another. -/
import Derived.Test.YtkidkimjdiichaaGreatPoHw
namespace Go.Proofs.YtkidkimjdiichaaGreat.M
open Go.RowKit
set_option linter.unusedSimpArgs false
set_option linter.unusedVariables false
set_option linter.defProp false
def powQ (p:List Rat):Nat→List Rat
 | 0=>[1]
 | n+1=>mulQ (powQ p n) p
theorem pow_nf (p:List Rat):∀ n,Nf (powQ p n)
 | 0 => .inr (by show (1:Rat)≠0;decide)
 | _+1=>nf_mul _ _
theorem ev_pow (p:List Rat) (x:Rat):∀ n,evQ (powQ p n) x=evQ p x^n
 | 0=>by simp only[powQ,evQ,Rat.pow_zero];grind
 | n+1=>by rw[powQ,ev_mul,ev_pow p x n,Rat.pow_succ]
theorem pow_len (p:List Rat):∀ n,(powQ p n).length≤n*(p.length-1)+1
 | 0=>by simp[powQ]
 | n+1=>by
  have h1:=pow_len p n
  have h2:=mul_len_le (powQ p n) p
  rw[powQ,Nat.succ_mul]
  by_cases h:p=[]
  ·subst h;rw[mul_nil_r];simp
  ·have:=List.length_pos_iff.2 h;omega
theorem pow_lb {p:List Rat} {K H L:Nat} (hp:Lb K H p) {N:Nat} (hL:N*(p.length-1)+1≤L):∀ n,n≤N→Lb (K^n) ((L*H)^n) (powQ p n)
 | 0,_=>fun i=>by
  have h1:Db 1 1 (1:Rat):=⟨by omega,1,by decide +kernel,by decide⟩
  rw[Nat.pow_zero,Nat.pow_zero,powQ,cf_cons]
  cases i with
  | zero=>exact h1
  | succ i=>exact Db.zero (by omega) _
 | n+1,hn=>by
  have h1:=(pow_lb hp hL n (by omega)).mul hp
  have h2:=pow_len p n
  have h3:n*(p.length-1)≤N*(p.length-1):=Nat.mul_le_mul_right _ (by omega)
  rw[powQ,Nat.pow_succ,Nat.pow_succ]
  refine h1.mono ?_
  rw[Nat.mul_left_comm]
  exact Nat.mul_le_mul_left _ (Nat.mul_le_mul_right _ (by omega))
theorem rat_one:((1:Int):Rat)=1:=rfl
set_option maxHeartbeats 4000000 in
theorem ppow_con (p:List Rat) (N:Nat) {K H L n:Nat} (hp:Lb K H p) (hL:N*(p.length-1)+1≤L) (hL1:L≤1000) (hH0:0<H) (hK:K^N<2^n) (hH:2*(L*H)^N<2^n) (hb:Bl n p) (hn:n≤big) (h1:p.length≤1000) (h2:N≤1000) :
  Con Tryz.prog AN 54 [LZ p,J N] (LZ (powQ p N)):=by
 have hle:∀ i,i≤N→K^i<2^n∧2*(L*H)^i<2^n:=fun i hi=>⟨Nat.lt_of_le_of_lt (pow_up hp.pos hi) hK,Nat.lt_of_le_of_lt (Nat.mul_le_mul_left _ (pow_up (Nat.mul_pos (by omega) hH0) hi)) hH⟩
 have hbl:∀ i,i≤N→Bl n (powQ p i):=fun i hi=>Bl.ofLb (pow_lb hp hL i hi) (hle i hi).1 (by have:=(hle i hi).2;omega)
 have hll:∀ i,i≤N→(powQ p i).length≤L:=fun i hi=>by
  have h3:=pow_len p i
  have h4:i*(p.length-1)≤N*(p.length-1):=Nat.mul_le_mul_right _ hi
  omega
 refine fn54.con rfl (by simp) ?_
 simp only[c54,c54_27,c54_1,l54_0,init2,cw,csW,cops,reduceCtorEq,Nat.reduceEqDiff]
 refine keep [0,1] ?_
 simp only[c54_26,c54_4,l54_2,csW,reduceCtorEq,Nat.reduceEqDiff,cw,cops]
 refine⟨_,fof_con 1 (by omega),?_⟩
 simp only[l54_3,rat_one,cops,csW,reduceCtorEq,Nat.reduceEqDiff,csP,Nat.reduceAdd]
 refine keep [0,1,5] ?_
 simp only[c54_25,c54_21,c54_6,l54_5,csW,reduceCtorEq,Nat.reduceEqDiff,cw,cops]
 refine keep [0,1,5,6] ?_
 simp only[c54_20,csW,reduceCtorEq,Nat.reduceEqDiff,cw]
 refine loop_of (ι:=Nat) (fun i=>i≤N) (fun i=>⟨look [(0,.p (LZ p)),(1,.p (J N)),(5,.p (LZ (powQ p i))),(6,.p (J i))],lookM []⟩) (fun i=>N-i) 0 (by omega) ((Sub.showG 5 8 _ (LZ [1]) rfl rfl).tr (Sub.toG [0,1,5,6] [8] (by rfl) (by rfl) (by rfl) (by rfl))) ?_
 rintro i hi
 by_cases h:i<N
 ·have hI:(i:Int)<(N:Int):=by omega
  obtain⟨g1,g2⟩:=hle (i+1) (by omega)
  have hprod:∀ a b,Db (K^(i+1)) ((L*H)^i*H) (cf (powQ p i) a*cf p b):=fun a b=>by
   rw[Nat.pow_succ];exact (pow_lb hp hL i (by omega) a).mul (hp b)
  have hpH:((powQ p i).length+1)*((L*H)^i*H)<2^n:=by
   refine Nat.lt_of_le_of_lt ?_ g2
   rw[Nat.pow_succ,Nat.mul_left_comm,Nat.mul_left_comm 2,Nat.mul_left_comm 2]
   refine Nat.mul_le_mul_left _ ?_
   rw[←Nat.mul_assoc]
   exact Nat.mul_le_mul_right _ (by have:=hll i (by omega);omega)
  have hl:=hll i (by omega)
  simp only[c54_18,c54_10,c54_8,l54_7,cw,csW,cops,reduceCtorEq,Nat.reduceEqDiff,hI]
  refine keep [0,1,5,6,11] ?_
  simp only[c54_9,csW,reduceCtorEq,Nat.reduceEqDiff,cw]
  refine keep [0,1,5,6] ?_
  simp only[c54_17,c54_14,c54_13,l54_11,csW,reduceCtorEq,Nat.reduceEqDiff,cw,cops]
  refine⟨_,pmul_con (powQ p i) p _ _ n (hbl i (by omega)) hb hprod g1 hpH hn (by omega) (by omega),?_⟩
  simp only[l54_12,cops,csW,reduceCtorEq,Nat.reduceEqDiff]
  refine keep [0,1,5,6] ?_
  simp only[c54_16,l54_15,csW,reduceCtorEq,Nat.reduceEqDiff,cw,cops]
  (repeat refine And.intro (by first | omega | (simp;omega)) ?_)
  exact⟨i+1,by omega,(Sub.toG [0,1,5,6] [8] (by rfl) (by rfl) (by rfl) (by rfl)),by omega⟩
 ·have hI:¬ (i:Int)<(N:Int):=by omega
  have hiN:i=N:=by omega
  subst hiN
  simp only[c54_18,c54_10,c54_8,l54_7,cw,csW,cops,reduceCtorEq,Nat.reduceEqDiff,hI]
  refine keep [0,1,5,6,11] ?_
  simp only[c54_9,csW,reduceCtorEq,Nat.reduceEqDiff,cw]
  refine keep [5] ?_
  simp only[c54_24,c54_23,l54_22,csW,reduceCtorEq,Nat.reduceEqDiff,cw,cops]
  refine keep [4] ?_
  simp only[Ends,resD,resL,resV,csW,Nat.reduceEqDiff]
end Go.Proofs.YtkidkimjdiichaaGreat.M
