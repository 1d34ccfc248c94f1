/- Polynomials: one put into another. -/
import Derived.Test.YtkidkimjdiichaaGreatPoGx
namespace Go.Proofs.YtkidkimjdiichaaGreat.M
open Go.RowKit
set_option linter.unusedSimpArgs false
set_option linter.unusedVariables false
set_option linter.defProp false
def comQ : List Rat → List Rat → List Rat
 | [], _ => []
 | a :: l, q => addQ (mulQ (comQ l q) q) (trimQ [a])
theorem com_nf : ∀ (p q : List Rat), Nf (comQ p q)
 | [], _ => nf_nil
 | _ :: _, _ => nf_add _ _
theorem ev_com : ∀ (p q : List Rat) (x : Rat), evQ (comQ p q) x = evQ p (evQ q x)
 | [], _, _ => rfl
 | a :: l, q, x => by
  rw [comQ, ev_add, ev_mul, ev_trim, ev_com l q x, evQ_cons]
  simp only [evQ]; grind
theorem com_len : ∀ (p q : List Rat), (comQ p q).length ≤ (p.length - 1) * (q.length - 1) + 1
 | [], q => by simp [comQ]
 | a :: l, q => by
  have h1 := com_len l q
  have h2 := mul_len_le (comQ l q) q
  have h3 := trim_len [a]
  have h4 := add_len (mulQ (comQ l q) q) (trimQ [a])
  rw [comQ]
  simp only [List.length_cons, List.length_nil, Nat.add_sub_cancel] at *
  cases l with
  | nil =>
   have : comQ [] q = [] := rfl
   rw [this, mul_nil_l] at h4 ⊢
   simp at h4 ⊢
   omega
  | cons b l =>
   simp only [List.length_cons, Nat.add_sub_cancel] at *
   rw [Nat.succ_mul]
   omega
theorem com_lb {p q : List Rat} {K H K' H' L : Nat} (hp : Lb K H p) (hq : Lb K' H' q) (hL : (p.length - 1) * (q.length - 1) + 1 ≤ L) : Lb (K * K' ^ p.length) (H * ((L + 1) * (H' + K')) ^ p.length) (comQ p q) := by
 induction p with
 | nil => exact Lb.nil (Nat.mul_pos hp.pos (Nat.pow_pos hq.pos)) _
 | cons a l ih =>
  have hl : Lb K H l := fun i => by have := hp (i + 1); rwa [cf_cons] at this
  have ha : Db K H a := by have := hp 0; rwa [cf_cons] at this
  have hL' : (l.length - 1) * (q.length - 1) + 1 ≤ L := by
   refine Nat.le_trans (Nat.add_le_add_right (Nat.mul_le_mul_right _ ?_) 1) hL
   simp
  have h1 := ih hl hL'
  have hlen := com_len l q
  have hK' : 0 < K' := hq.pos
  have h2 := h1.mul hq
  intro i
  rw [comQ, cf_add, List.length_cons]
  have e1 : K * K' ^ (l.length + 1) = K * K' ^ l.length * K' := by rw [Nat.pow_succ, Nat.mul_assoc]
  have h3 : Db (K * K' ^ (l.length + 1)) (H * K' ^ (l.length + 1)) (cf (trimQ [a]) i) := by
   rw [cf_trim, cf_cons]
   cases i with
   | zero => exact ha.up (Nat.pow_pos hK')
   | succ i => exact Db.zero (Nat.mul_pos hp.pos (Nat.pow_pos hK')) _
  have h4 := h2 i
  rw [← e1] at h4
  refine (h4.add h3).mono ?_
  have hx : K' ^ l.length ≤ ((L + 1) * (H' + K')) ^ l.length := Nat.pow_le_pow_left (Nat.le_trans (Nat.le_add_left _ _) (Nat.le_mul_of_pos_left _ (by omega))) _
  rw [Nat.pow_succ, Nat.pow_succ]
  have h5 : (comQ l q).length * (H * ((L + 1) * (H' + K')) ^ l.length * H') ≤ H * ((L + 1) * (H' + K')) ^ l.length * (L * H') := by
   rw [Nat.mul_left_comm]
   exact Nat.mul_le_mul_left _ (Nat.mul_le_mul_right _ (by omega))
  have h6 : H * (K' ^ l.length * K') ≤ H * ((L + 1) * (H' + K')) ^ l.length * K' := by
   rw [← Nat.mul_assoc]
   exact Nat.mul_le_mul_right _ (Nat.mul_le_mul_left _ hx)
  refine Nat.le_trans (Nat.add_le_add h5 h6) ?_
  rw [← Nat.mul_add, ← Nat.mul_assoc]
  refine Nat.mul_le_mul_left _ ?_
  rw [Nat.add_mul, Nat.mul_add, Nat.one_mul]
  omega
theorem of_con (l : List Rat) (n : Nat) (hb : Bl n l) (hn : n ≤ big) (h : l.length ≤ 1000000) : Con Tryz.prog AN 115 [LI l] (pI (trimQ l)) := by
 refine fn115.con rfl (by simp) ?_
 simp only [c115, c115_6, c115_1, l115_0, init1, cw, csW, cops, reduceCtorEq]
 refine keep [0, 2] ?_
 simp only [c115_5, c115_4, l115_2, csW, reduceCtorEq, cw, cops, Nat.reduceEqDiff, csP]
 (repeat refine And.intro (by first | omega | (simp; omega)) ?_)
 refine ⟨_, made_con l n hb hn (by omega), ?_⟩
 simp only [l115_3, cops, csW, reduceCtorEq, Nat.reduceEqDiff, csP]
 refine keep [2] ?_
 simp only [Ends, resD, resL, resV, csW, reduceCtorEq, Nat.reduceEqDiff, csP]
theorem drop_cons {l : List Rat} {i : Nat} (h : i < l.length) : l.drop i = cf l i :: l.drop (i + 1) := by
 rw [List.drop_eq_getElem_cons h]; simp [cf, h]
theorem Lb.drop {K H : Nat} {l : List Rat} (h : Lb K H l) (i : Nat) : Lb K H (l.drop i) := fun j => by
 have := h (i + j)
 unfold cf at *
 rw [List.getD_eq_getElem?_getD] at *
 rwa [List.getElem?_drop]
theorem bl_one {n : Nat} {x : Rat} (hn : 0 < n) (h : Bq n x) : Bl n [x] := fun i => by
 rw [cf_cons]; cases i with
 | zero => exact h
 | succ i => exact Bq.zero n hn
set_option maxHeartbeats 4000000 in
theorem comp_con (p q : List Rat) {K H K' H' L n : Nat} (hp : Lb K H p) (hq : Lb K' H' q) (hL : (p.length - 1) * (q.length - 1) + 1 ≤ L) (hL1 : L ≤ 201) (hK : K * K' ^ p.length < 2 ^ n) (hH : H * ((L + 1) * (H' + K')) ^ p.length < 2 ^ n) (hbp : Bl n p) (hbq : Bl n q) (hn : n ≤ big) (h1 : p.length ≤ 1000) (h2 : q.length ≤ 1000) :
  Con Tryz.prog AN 29 [pI p, pI q] (.tup [pI (comQ p q), flt 0 0]) := by
 have hn0 : 0 < n := hbp.pos
 have hK' : 0 < K' := hq.pos
 obtain ⟨dp, hdp⟩ : ∃ dp : Nat, dp = p.length - 1 := ⟨_, rfl⟩
 obtain ⟨dq, hdq⟩ : ∃ dq : Nat, dq = q.length - 1 := ⟨_, rfl⟩
 have e1 : (if (0 : Int) > (p.length : Int) - 1 then (0 : Int) else (p.length : Int) - 1) = (dp : Int) := by split <;> omega
 have e2 : (if (0 : Int) > (q.length : Int) - 1 then (0 : Int) else (q.length : Int) - 1) = (dq : Int) := by split <;> omega
 have hdd : dp * dq ≤ 200 := by rw [hdp, hdq]; omega
 have hddI : ¬ (200 : Int) < (dp : Int) * (dq : Int) := by
  have : (dp : Int) * (dq : Int) = ((dp * dq : Nat) : Int) := by rw [Int.natCast_mul]
  omega
 have hddm : (dp : Int) * (dq : Int) ≤ 200 := by omega
 have hdd0 : (0 : Int) ≤ (dp : Int) * (dq : Int) := Int.mul_nonneg (by omega) (by omega)
 have hcl : ∀ i, (comQ (p.drop i) q).length ≤ L := fun i => Nat.le_trans (com_len _ _) (Nat.le_trans (Nat.add_le_add_right (Nat.mul_le_mul_right _ (by simp; omega)) 1) hL)
 have hlb : ∀ i, Lb (K * K' ^ (p.length - i)) (H * ((L + 1) * (H' + K')) ^ (p.length - i)) (comQ (p.drop i) q) := fun i => by
  have := com_lb (hp.drop i) hq (L := L) (Nat.le_trans (Nat.add_le_add_right (Nat.mul_le_mul_right _ (by simp; omega)) 1) hL)
  rwa [List.length_drop] at this
 have hle : ∀ s, s ≤ p.length → K * K' ^ s < 2 ^ n ∧ H * ((L + 1) * (H' + K')) ^ s < 2 ^ n := fun s hs => by
  have hX : 0 < (L + 1) * (H' + K') := Nat.mul_pos (by omega) (by omega)
  exact ⟨Nat.lt_of_le_of_lt (Nat.mul_le_mul_left _ (pow_up hK' hs)) hK, Nat.lt_of_le_of_lt (Nat.mul_le_mul_left _ (pow_up hX hs)) hH⟩
 have hbl : ∀ i, Bl n (comQ (p.drop i) q) := fun i => by
  obtain ⟨g1, g2⟩ := hle (p.length - i) (by omega)
  exact Bl.ofLb (hlb i) g1 g2
 refine fn29.con rfl (by simp) ?_
 simp only [c29, c29_39, c29_1, l29_0, csP, init2, cw, csW, cops, reduceCtorEq, Nat.reduceEqDiff]
 refine keep [2, 3, 4, 5] ?_
 simp only [c29_38, c29_11, c29_5, l29_2, csW, reduceCtorEq, Nat.reduceEqDiff, cw, cops, csP]
 refine ⟨_, degree_con p (by omega), ?_⟩
 simp only [l29_3, cops, csW, Nat.reduceEqDiff, csP]
 refine ⟨_, degree_con q (by omega), ?_⟩
 simp only [l29_4, cops, csW, Nat.reduceEqDiff, e1, e2, hddI]
 (repeat refine And.intro (by first | omega | (simp; omega)) ?_)
 refine keep [2, 3, 4, 5, 15] ?_
 simp only [c29_10, csW, Nat.reduceEqDiff, cw]
 refine keep [2, 3, 4, 5] ?_
 simp only [c29_37, c29_13, l29_12, csW, Nat.reduceEqDiff, cw, cops, csP]
 refine keep [2, 3, 4, 5, 6] ?_
 simp only [c29_36, c29_32, c29_15, l29_14, csW, Nat.reduceEqDiff, cw, cops, csP]
 (repeat refine And.intro (by first | omega | (simp; omega)) ?_)
 refine keep [2, 3, 4, 5, 6, 7] ?_
 simp only [c29_31, csW, Nat.reduceEqDiff, cw]
 refine loop_of (ι := Nat) (fun i => i ≤ p.length) (fun i => ⟨look [(2, .ptr 2 0 0), (3, .ptr 3 0 0), (4, .ptr 4 0 0), (5, .ptr 5 0 0), (6, .ptr 6 0 0), (7, .p (J ((i : Int) - 1)))],
  lookM [(2, ⟨25, 1, .box (.p (pI p)), false⟩), (3, ⟨25, 1, .box (.p (pI q)), false⟩), (4, ⟨25, 1, .box zPoly, false⟩), (5, ⟨27, 2, .box (.p (flt 0 0)), false⟩), (6, ⟨25, 1, .box (.p (pI (comQ (p.drop i) q))), false⟩)]⟩) (fun i => i) p.length (by omega) (by rw [List.drop_length]; exact (Sub.toG [2, 3, 4, 5, 6, 7] [35] (by rfl) (by rfl) (by rfl) (by rfl))) ?_
 rintro i hi
 rcases i with _ | i
 ·have hJ : ¬ (0 : Int) ≤ 0 - 1 := by omega
  simp only [c29_29, c29_19, c29_17, l29_16, csP, csW, cw, cops, Nat.reduceEqDiff, hJ]
  refine keep [2, 3, 4, 5, 6, 7, 24] ?_
  simp only [c29_18, csW, Nat.reduceEqDiff, cw]
  refine keep [4, 5, 6] ?_
  simp only [c29_35, c29_34, l29_33, csW, Nat.reduceEqDiff, cw, cops, csP, Nat.reduceAdd]
  refine keep [4, 5] ?_
  simp only [Ends, resD, resL, resV, csW, Nat.reduceEqDiff, csP, Nat.reduceAdd]
 ·have hJ : (0 : Int) ≤ (i : Int) := by omega
  have hil : i < p.length := by omega
  have hc : comQ (p.drop i) q = addQ (mulQ (comQ (p.drop (i + 1)) q) q) (trimQ [cf p i]) := by rw [drop_cons hil, comQ]
  have hs : p.length - i = p.length - (i + 1) + 1 := by omega
  obtain ⟨g1, g2⟩ := hle (p.length - i) (by omega)
  have hprod : ∀ a b, Db (K * K' ^ (p.length - i)) (H * ((L + 1) * (H' + K')) ^ (p.length - (i + 1)) * H') (cf (comQ (p.drop (i + 1)) q) a * cf q b) := fun a b => by
   have := (hlb (i + 1) a).mul (hq b)
   rwa [Nat.mul_assoc K, ← Nat.pow_succ, Nat.succ_eq_add_one, ← hs] at this
  have hpH : ((comQ (p.drop (i + 1)) q).length + 1) * (H * ((L + 1) * (H' + K')) ^ (p.length - (i + 1)) * H') < 2 ^ n := by
   refine Nat.lt_of_le_of_lt ?_ g2
   rw [hs, Nat.pow_succ, Nat.mul_left_comm, ← Nat.mul_assoc H, Nat.mul_assoc, Nat.mul_assoc]
   refine Nat.mul_le_mul_left _ (Nat.mul_le_mul_left _ ?_)
   exact Nat.mul_le_mul (by have := hcl (i + 1); omega) (by omega)
  have hmb : Bl n (mulQ (comQ (p.drop (i + 1)) q) q) := fun k => by
   have h := Db.sum (Nat.mul_pos hp.pos (Nat.pow_pos hK')) (min (comQ (p.drop (i + 1)) q).length (k + 1)) (fun j => cf (comQ (p.drop (i + 1)) q) j * cf q (k - j)) fun j _ => hprod j (k - j)
   rw [cf_mul]
   unfold cnv
   rw [sumQ_le (n := min (comQ (p.drop (i + 1)) q).length (k + 1)) (by omega) fun j h1 h2 => by rw [cf_ge (l := comQ (p.drop (i + 1)) q) (by omega)]; grind]
   exact h.Bq g1 (Nat.lt_of_le_of_lt (Nat.mul_le_mul_right _ (by omega)) hpH)
  have hsum : ∀ t, Bq n (cf (mulQ (comQ (p.drop (i + 1)) q) q) t + cf (trimQ [cf p i]) t) := fun t => by
   rw [← cf_add, ← hc]; exact hbl i t
  have hml := mul_len_le (comQ (p.drop (i + 1)) q) q
  have hcl1 := hcl (i + 1)
  have htl := trim_len [cf p i]
  simp only [List.length_cons, List.length_nil] at htl
  simp only [c29_29, c29_19, c29_17, l29_16, csP, csW, cw, cops, Nat.reduceEqDiff, hJ]
  refine keep [2, 3, 4, 5, 6, 7, 24] ?_
  simp only [c29_18, csW, Nat.reduceEqDiff, cw]
  refine keep [2, 3, 4, 5, 6, 7] ?_
  simp only [c29_28, c29_25, c29_24, l29_20, csW, Nat.reduceEqDiff, cw, cops, csP]
  refine ⟨_, mul_con (comQ (p.drop (i + 1)) q) q _ _ n (hbl (i + 1)) hbq hprod g1 hpH hn (by omega) (by omega), ?_⟩
  simp only [l29_21, csP, cops, csW, Nat.reduceLT, Nat.reduceEqDiff, getD_q hil, Nat.reduceAdd]
  (repeat refine And.intro (by first | omega | (simp; omega)) ?_)
  refine ⟨_, of_con [cf p i] n (bl_one hn0 (hbp i)) hn (by simp), ?_⟩
  simp only [l29_22, cops, csW, Nat.reduceEqDiff]
  refine ⟨_, add_con (mulQ (comQ (p.drop (i + 1)) q) q) (trimQ [cf p i]) n hmb (bl_one hn0 (hbp i)).trim hsum hn (by omega) (by omega), ?_⟩
  simp only [l29_23, cops, csW, Nat.reduceEqDiff, csP]
  refine keep [2, 3, 4, 5, 6, 7] ?_
  simp only [c29_27, l29_26, csW, Nat.reduceEqDiff, cw, cops]
  (repeat refine And.intro (by first | omega | (simp; omega)) ?_)
  exact ⟨i, by omega, by rw [hc]; exact (Sub.toG [2, 3, 4, 5, 6, 7] [35] (by rfl) (by rfl) (by rfl) (by rfl)), by omega⟩
set_option maxHeartbeats 4000000 in
theorem compBig_con (p q : List Rat) (hp : 1 < p.length) (hq : 1 < q.length) (hL : 200 < (p.length - 1) * (q.length - 1)) (h1 : p.length ≤ 1000) (h2 : q.length ≤ 1000) :
  Con Tryz.prog AN 29 [pI p, pI q] (.tup [pI [], flt 9 0]) := by
 obtain ⟨dp, hdp⟩ : ∃ dp : Nat, dp = p.length - 1 := ⟨_, rfl⟩
 obtain ⟨dq, hdq⟩ : ∃ dq : Nat, dq = q.length - 1 := ⟨_, rfl⟩
 have e1 : (if (0 : Int) > (p.length : Int) - 1 then (0 : Int) else (p.length : Int) - 1) = (dp : Int) := by split <;> omega
 have e2 : (if (0 : Int) > (q.length : Int) - 1 then (0 : Int) else (q.length : Int) - 1) = (dq : Int) := by split <;> omega
 rw [← hdp, ← hdq] at hL
 have hm : dp * dq ≤ 1000 * 1000 := Nat.mul_le_mul (by omega) (by omega)
 have hcast : (dp : Int) * (dq : Int) = ((dp * dq : Nat) : Int) := by rw [Int.natCast_mul]
 have hddI : (200 : Int) < (dp : Int) * (dq : Int) := by omega
 have hddm : (dp : Int) * (dq : Int) ≤ 1000000 := by omega
 refine fn29.con rfl (by simp) ?_
 simp only [c29, c29_39, c29_1, l29_0, csP, init2, cw, csW, cops, reduceCtorEq, Nat.reduceEqDiff]
 refine keep [2, 3, 4, 5] ?_
 simp only [c29_38, c29_11, c29_5, l29_2, csW, reduceCtorEq, Nat.reduceEqDiff, cw, cops, csP]
 refine ⟨_, degree_con p (by omega), ?_⟩
 simp only [l29_3, cops, csW, Nat.reduceEqDiff, csP]
 refine ⟨_, degree_con q (by omega), ?_⟩
 simp only [l29_4, cops, csW, Nat.reduceEqDiff, e1, e2, hddI]
 (repeat refine And.intro (by first | omega | (simp; omega)) ?_)
 refine keep [2, 3, 4, 5, 15] ?_
 simp only [c29_10, csW, Nat.reduceEqDiff, cw]
 simp only [c29_9, c29_8, l29_6, csW, cw, cops, csP, Nat.reduceEqDiff]
 refine ⟨_, fault_con 9 0, ?_⟩
 simp only [l29_7, csP, cops, csW, Nat.reduceEqDiff, Nat.reduceAdd]
 refine keep [4, 5] ?_
 simp only [Ends, resD, resL, resV, csW, Nat.reduceEqDiff, csP, Nat.reduceAdd]
 rfl
end Go.Proofs.YtkidkimjdiichaaGreat.M
