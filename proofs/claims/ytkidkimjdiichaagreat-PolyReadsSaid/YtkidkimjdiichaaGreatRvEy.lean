/- Polynomials: the value at a point: sizes; Horner's way, and power by power. -/
import Derived.Test.YtkidkimjdiichaaGreatRvNy
namespace Go.Proofs.YtkidkimjdiichaaGreat.M
open Go.RowKit
set_option linter.unusedSimpArgs false
set_option linter.unusedVariables false
set_option linter.defProp false
theorem pow_db {x : Rat} {b h A N j : Nat} (hx : Db b h x) (h1 : h ≤ A) (h2 : b ≤ A) (hj : j ≤ N) : Db (b ^ N) (A ^ N) (x ^ j):=by
 have key : ∀ j,Db (b ^ j) (h ^ j) (x ^ j):=by
  intro j
  induction j with
  | zero =>
   have:=db_int 1 (H:=1) (by decide)
   rw [rat_one] at this
   rw [Rat.pow_zero,Nat.pow_zero,Nat.pow_zero];exact this
  | succ j ih => rw [Rat.pow_succ,Nat.pow_succ,Nat.pow_succ];exact ih.mul hx
 have h3:=(key j).up (E:=b ^ (N - j)) (Nat.pow_pos hx.1)
 rw [← Nat.pow_add,show j + (N - j) = N by omega] at h3
 refine h3.mono ?_
 rw [show A ^ N = A ^ j * A ^ (N - j) by rw [← Nat.pow_add];congr 1;omega]
 exact Nat.mul_le_mul (Nat.pow_le_pow_left h1 _) (Nat.pow_le_pow_left h2 _)
structure EvB (l : List Rat) (x : Rat) (n : Nat) : Prop where
 bx : Bq n x
 bl : Bl n l
 p : ∀ j,j ≤ 201 → Bq n (x ^ j)
 t : ∀ i j,j ≤ 201 → Bq n (cf l i * x ^ j)
 s : ∀ i,i ≤ 201 → Bq n (sumQ i fun j => cf l j * x ^ j)
 d : ∀ i,Bq n (evQ (l.drop i) x)
 m : ∀ i,Bq n (evQ (l.drop i) x * x)
 len : l.length ≤ 201
theorem cf_drop (l : List Rat) (i t : Nat) : cf (l.drop i) t = cf l (i + t):=by
 unfold cf;rw [List.getD_eq_getElem?_getD,List.getElem?_drop,List.getD_eq_getElem?_getD]
theorem ev_drop {l : List Rat} {i : Nat} (h : i < l.length) (x : Rat) : evQ (l.drop i) x = evQ (l.drop (i + 1)) x * x + cf l i:=by
 rw [List.drop_eq_getElem_cons h,evQ_cons,show cf l i = l[i] by simp [cf,h]];grind
theorem In.ev {l : List Rat} {K e n : Nat} (hl : In e l K) {x : Rat} {m : Nat} (hx : Bq m x) (hm : m ≤ 4000) (he : 808000 ≤ e) (hn : 2 * e + 1000000 < n) : EvB l x n:=by
 have hlen:=hl.len
 obtain ⟨A,hA⟩ : ∃ A : Nat,A = 2 ^ m:=⟨_,rfl⟩
 have hx0:=Db.of_self x
 have h1 : x.num.natAbs ≤ A:=by rw [hA];exact Nat.le_of_lt hx.1
 have h2 : x.den ≤ A:=by rw [hA];exact Nat.le_of_lt hx.2
 have a1 : A ≤ 2 ^ m:=Nat.le_of_eq hA
 clear hA
 have hAN : A ^ 201 ≤ 2 ^ (m * 201):=pp a1 201
 have hbN : x.den ^ 201 ≤ 2 ^ (m * 201):=pp (Nat.le_trans h2 a1) 201
 have hpj : ∀ j,j ≤ 201 → Db (x.den ^ 201) (A ^ 201) (x ^ j):=fun j hj => pow_db hx0 h1 h2 (by omega)
 have hKb : K * x.den ^ 201 ≤ 2 ^ (e + m * 201):=pm hl.k hbN
 have hHA : 2 ^ e * A ^ 201 ≤ 2 ^ (e + m * 201):=pm (Nat.le_refl _) hAN
 have hcf : ∀ (m : List Rat),Lb K (2 ^ e) m → ∀ i,i ≤ 201 → Db (K * x.den ^ 201) (i * (2 ^ e * A ^ 201)) (sumQ i fun j => cf m j * x ^ j):=fun m hm i hi =>
  Db.sum (Nat.mul_pos hm.pos (Nat.pow_pos x.den_pos)) i _ fun j hj => (hm j).mul (hpj j (by omega))
 have h8 : ∀ i,i ≤ 201 → i ≤ 2 ^ 8:=fun i hi => by omega
 have hdr : ∀ i,Lb K (2 ^ e) (l.drop i):=fun i t => by rw [cf_drop];exact hl.lb _
 have hed : ∀ i,Db (K * x.den ^ 201) (201 * (2 ^ e * A ^ 201)) (evQ (l.drop i) x):=fun i => by
  rw [ev_sum _ x (n:=201) (by rw [List.length_drop];omega)]
  exact hcf _ (hdr i) 201 (by omega)
 refine ⟨hx.mono (by omega),hl.bn (by omega),fun j hj => (hpj j hj).Bq (p2 hbN (by omega)) (p2 hAN (by omega)),fun i j hj => ((hl.lb i).mul (hpj j hj)).Bq (p2 hKb (by omega)) (p2 hHA (by omega)),
  fun i hi => (hcf l hl.lb i hi).Bq (p2 hKb (by omega)) (p2 (pm (h8 i hi) hHA) (by omega)),fun i => (hed i).Bq (p2 hKb (by omega)) (p2 (pm (h8 201 (by omega)) hHA) (by omega)),
  fun i => ((hed i).mul hx0).Bq (p2 (pm hKb (Nat.le_trans h2 a1)) (by omega)) (p2 (pm (pm (h8 201 (by omega)) hHA) (Nat.le_trans h1 a1)) (by omega)),hlen⟩
set_option maxHeartbeats 4000000 in
theorem eval_con (l : List Rat) (x : Rat) (n : Nat) (h : EvB l x n) (hn : n ≤ big) : Con Tryz.prog AN 45 [pI l,qI x] (qI (evQ l x)):=by
 have hlen:=h.len
 refine fn45.con rfl (by simp) ?_
 simp only [c45,c45_27,c45_1,l45_0,csP,init2,cw,csW,cops,reduceCtorEq,Nat.reduceEqDiff,Nat.reduceAdd]
 refine keep [2,3,4] ?_
 simp only [c45_26,c45_3,l45_2,csP,csW,reduceCtorEq,Nat.reduceEqDiff,cw,cops,Nat.reduceAdd]
 refine keep [2,3,4,5] ?_
 simp only [c45_25,c45_21,c45_5,l45_4,csW,Nat.reduceEqDiff,cw,cops,csP]
 (repeat refine And.intro (by first | omega | (simp;omega)) ?_)
 refine keep [2,3,4,5,6] ?_
 simp only [c45_20,csW,Nat.reduceEqDiff,cw]
 refine loop_of (ι:=Nat) (fun i => i ≤ l.length) (fun i => ⟨look [(2,.ptr 2 0 0),(3,.ptr 3 0 0),(4,.ptr 4 0 0),(5,.ptr 5 0 0),(6,.p (J ((i : Int) - 1)))],
  lookM [(2,⟨25,1,.box (.p (pI l)),false⟩),(3,⟨52,4,.box (.p (qI x)),false⟩),(4,⟨52,4,.box (.p (qI 0)),false⟩),(5,⟨52,4,.box (.p (qI (evQ (l.drop i) x))),false⟩)]⟩) (fun i => i) l.length (by omega) (by rw [List.drop_of_length_le (Nat.le_refl _),evQ_nil];exact (Sub.toG [2,3,4,5,6] [] (by rfl) (by rfl) (by rfl) (by rfl))) ?_
 rintro i hi
 rcases i with _ | i
 ·have hJ : ¬ (0 : Int) ≤ 0 - 1:=by omega
  simp only [c45_18,c45_9,c45_7,l45_6,csW,cw,cops,Nat.reduceEqDiff,hJ]
  refine keep [2,3,4,5,6,13] ?_
  simp only [c45_8,csW,Nat.reduceEqDiff,cw]
  refine keep [4,5] ?_
  simp only [c45_24,c45_23,l45_22,csW,Nat.reduceEqDiff,cw,cops,csP,Nat.reduceAdd]
  refine keep [4] ?_
  simp only [Ends,resD,resL,resV,csW,Nat.reduceEqDiff,csP,Nat.reduceAdd]
 ·have hJ : (0 : Int) ≤ (i : Int):=by omega
  have hil : i < l.length:=by omega
  simp only [c45_18,c45_9,c45_7,l45_6,csW,cw,cops,Nat.reduceEqDiff,hJ]
  refine keep [2,3,4,5,6,13] ?_
  simp only [c45_8,csW,Nat.reduceEqDiff,cw]
  refine keep [2,3,4,5,6] ?_
  simp only [c45_17,c45_14,c45_13,l45_10,csW,Nat.reduceEqDiff,cw,cops,csP,Nat.reduceLT,Nat.reduceAdd]
  refine ⟨_,qMul (evQ (l.drop (i + 1)) x) x n (h.d _) h.bx hn,?_⟩
  simp only [l45_11,cops,csW,csP,Nat.reduceLT,Nat.reduceEqDiff,getD_q hil,Nat.reduceAdd]
  (repeat refine And.intro (by first | omega | (simp;omega)) ?_)
  refine ⟨_,qAdd _ (cf l i) n (h.m _) (h.bl i) hn,?_⟩
  simp only [l45_12,cops,csW,Nat.reduceEqDiff,csP,Nat.reduceAdd]
  refine keep [2,3,4,5,6] ?_
  simp only [c45_16,l45_15,csW,Nat.reduceEqDiff,cw,cops]
  (repeat refine And.intro (by first | omega | (simp;omega)) ?_)
  exact ⟨i,by omega,by rw [ev_drop hil];exact (Sub.toG [2,3,4,5,6] [] (by rfl) (by rfl) (by rfl) (by rfl)),by omega⟩
set_option maxHeartbeats 4000000 in
theorem peval_con (l : List Rat) (x : Rat) (n : Nat) (h : EvB l x n) (hn : n ≤ big) : Con Tryz.prog AN 46 [LZ l,qZ x] (qZ (evQ l x)):=by
 have hlen:=h.len
 rw [ev_sum l x (Nat.le_refl _)]
 obtain ⟨f,hf⟩ : ∃ f : Nat → Rat,f = fun j => cf l j * x ^ j:=⟨_,rfl⟩
 rw [← hf]
 have hs : ∀ i,i ≤ 201 → Bq n (sumQ i f):=fun i hi => by rw [hf];exact h.s i hi
 have hfi : ∀ i,cf l i * x ^ i = f i:=fun i => by rw [hf]
 refine fn46.con rfl (by simp) ?_
 simp only [c46,c46_36,c46_1,l46_0,init2,cw,csW,cops,reduceCtorEq,csP,Nat.reduceAdd,Nat.reduceEqDiff]
 refine keep [0,3,4] ?_
 simp only [c46_35,c46_4,l46_2,csW,reduceCtorEq,Nat.reduceEqDiff,cw,cops]
 refine ⟨_,fof_con 0 (by omega),?_⟩
 simp only [l46_3,rat_zero,cops,csW,csP,Nat.reduceEqDiff,reduceCtorEq,Nat.reduceAdd]
 refine keep [0,3,4,5] ?_
 simp only [c46_34,c46_7,l46_5,csW,reduceCtorEq,Nat.reduceEqDiff,cw,cops]
 refine ⟨_,fof_con 1 (by omega),?_⟩
 simp only [l46_6,rat_one,cops,csW,csP,Nat.reduceEqDiff,reduceCtorEq,Nat.reduceAdd]
 refine keep [0,3,4,5,6] ?_
 simp only [c46_33,c46_29,c46_9,l46_8,csW,reduceCtorEq,Nat.reduceEqDiff,cw,cops]
 refine keep [0,3,4,5,6,7] ?_
 simp only [c46_28,csW,reduceCtorEq,Nat.reduceEqDiff,cw]
 refine loop_of (ι:=Nat) (fun i => i ≤ l.length) (fun i => ⟨look [(0,.p (LZ l)),(3,.ptr 3 0 0),(4,.ptr 4 0 0),(5,.ptr 5 0 0),(6,.ptr 6 0 0),(7,.p (J i))],
  lookM [(3,⟨60,4,.box (.p (qZ x)),false⟩),(4,⟨60,4,.box (.p (.agg [.bool false,.list 3 1 [],.bool false,.list 3 1 []])),false⟩),(5,⟨60,4,.box (.p (qZ (sumQ i f))),false⟩),(6,⟨60,4,.box (.p (qZ (x ^ i))),false⟩)]⟩) (fun i => l.length - i) 0 (by omega) (by rw [Rat.pow_zero];exact (Sub.toG [0,3,4,5,6,7] [] (by rfl) (by rfl) (by rfl) (by rfl))) ?_
 rintro i hi
 by_cases h' : i < l.length
 ·have hI : (i : Int) < (l.length : Int):=by omega
  simp only [c46_26,c46_13,c46_11,l46_10,cw,csW,cops,reduceCtorEq,Nat.reduceEqDiff,hI]
  refine keep [0,3,4,5,6,7,13] ?_
  simp only [c46_12,csW,reduceCtorEq,Nat.reduceEqDiff,cw]
  refine keep [0,3,4,5,6,7] ?_
  simp only [c46_25,c46_22,c46_21,c46_17,l46_14,csW,reduceCtorEq,Nat.reduceEqDiff,cw,cops,csP,Nat.reduceLT,Nat.reduceAdd,hI,getD_z h']
  (repeat refine And.intro (by first | omega | (simp;omega)) ?_)
  refine ⟨_,zMul (cf l i) (x ^ i) n (h.bl i) (h.p i (by omega)) hn,?_⟩
  simp only [l46_15,hfi,cops,csW,reduceCtorEq,Nat.reduceEqDiff]
  refine ⟨_,zAdd (sumQ i f) (f i) n (hs i (by omega)) (by rw [← hfi];exact h.t i i (by omega)) hn,?_⟩
  simp only [l46_16,cops,csW,reduceCtorEq,Nat.reduceEqDiff,csP,Nat.reduceAdd]
  refine keep [0,3,4,5,6,7] ?_
  simp only [c46_20,l46_18,csW,reduceCtorEq,Nat.reduceEqDiff,cw,cops,csP,Nat.reduceLT,Nat.reduceAdd]
  refine ⟨_,zMul (x ^ i) x n (h.p i (by omega)) h.bx hn,?_⟩
  simp only [l46_19,cops,csW,reduceCtorEq,Nat.reduceEqDiff,csP,Nat.reduceAdd]
  refine keep [0,3,4,5,6,7] ?_
  simp only [c46_24,l46_23,csW,reduceCtorEq,Nat.reduceEqDiff,cw,cops]
  (repeat refine And.intro (by first | omega | (simp;omega)) ?_)
  exact ⟨i + 1,by omega,by rw [Rat.pow_succ,sumQ];exact (Sub.toG [0,3,4,5,6,7] [] (by rfl) (by rfl) (by rfl) (by rfl)),by omega⟩
 ·have hI : ¬ (i : Int) < (l.length : Int):=by omega
  have hiN : i = l.length:=by omega
  subst hiN
  simp only [c46_26,c46_13,c46_11,l46_10,cw,csW,cops,reduceCtorEq,Nat.reduceEqDiff,hI]
  refine keep [0,3,4,5,6,7,13] ?_
  simp only [c46_12,csW,reduceCtorEq,Nat.reduceEqDiff,cw]
  refine keep [4,5] ?_
  simp only [c46_32,c46_31,l46_30,csW,reduceCtorEq,Nat.reduceEqDiff,cw,cops,csP,Nat.reduceAdd]
  refine keep [4] ?_
  simp only [Ends,resD,resL,resV,csW,Nat.reduceEqDiff,csP,Nat.reduceAdd]
end Go.Proofs.YtkidkimjdiichaaGreat.M
