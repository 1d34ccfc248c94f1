/- Polynomials: division of what is handed in; the law's last part. -/
import Derived.Test.YtkidkimjdiichaaGreatPoKx
namespace Go.Proofs.YtkidkimjdiichaaGreat.M
open Go.RowKit
set_option linter.unusedSimpArgs false
set_option linter.unusedVariables false
set_option linter.defProp false
set_option maxHeartbeats 4000000 in
theorem pdivs_con (p d : List Rat) (np : Nf p) (nd : Nf d) (h : p.length < d.length) (h2 : d.length ≤ 1000000) : Con Tryz.prog AN 28 [LZ p, LZ d] (.tup [LZ (quoQ p d), LZ (remQ p d)]) := by
 have hI : ¬ (d.length : Int) ≤ (p.length : Int) := by omega
 obtain ⟨e1, e2⟩ := nil_div np nd h
 rw [e1, e2]
 refine fn28.con rfl (by simp) ?_
 simp only [c28, c28_58, c28_1, l28_0, init2, cw, csW, cops, reduceCtorEq, Nat.reduceEqDiff]
 refine keep [0, 1] ?_
 simp only [c28_57, c28_3, l28_2, csW, reduceCtorEq, Nat.reduceEqDiff, cw, cops]
 refine keep [0, 1, 6] ?_
 simp only [c28_56, c28_52, csW, reduceCtorEq, Nat.reduceEqDiff, cw]
 refine loop_of (ι := Nat) (fun x => True) (fun x => ⟨look [(0, .p (LZ p)), (1, .p (LZ d)), (6, .p (LZ []))], lookM []⟩) (fun x => x) 0 trivial ((Sub.showG 6 12 _ (LZ []) rfl rfl).tr (Sub.toG [0, 1, 6] [7, 8, 12, 32] (by rfl) (by rfl) (by rfl) (by rfl))) ?_
 rintro i -
 simp only [c28_50, c28_7, c28_5, l28_4, csW, cw, cops, reduceCtorEq, Nat.reduceEqDiff, hI]
 refine keep [0, 1, 6, 17] ?_
 simp only [c28_6, csW, reduceCtorEq, Nat.reduceEqDiff, cw]
 refine keep [0, 6] ?_
 simp only [c28_55, c28_54, l28_53, csW, reduceCtorEq, Nat.reduceEqDiff, cw, cops]
 refine keep [4, 5] ?_
 simp only [Ends, resD, resL, resV, csW, reduceCtorEq, Nat.reduceEqDiff]
theorem In.divs {l m : List Rat} {K K' e n : Nat} (hl : In e l K) (hm : In e m K') (hm0 : m ≠ []) (he : 4000 ≤ e) (hn : 203 * e + 4205 < n) (hb : n ≤ big) :
  Con Tryz.prog AN 25 [pI l, pI m] (.tup [pI (quoQ l m), pI (remQ l m), flt 0 0]) ∧ Con Tryz.prog AN 28 [LZ l, LZ m] (.tup [LZ (quoQ l m), LZ (remQ l m)]) ∧
  Bl n (quoQ l m) ∧ Bl n (remQ l m) ∧ (quoQ l m).length ≤ 201 ∧ (remQ l m).length ≤ 201 := by
 have h1 := hl.len
 have h2 := hm.len
 by_cases hlen : m.length ≤ l.length
 ·have h12 : l.length + 1 - m.length + 2 ≤ 2 ^ 12 := by omega
  have key : ∀ b, 12 ≤ b → l.length + 1 - m.length + 2 ≤ 2 ^ b := fun b hb => pu h12 hb
  obtain ⟨E, hB⟩ := hl.div hm hm0 he hn hb hlen
  obtain ⟨g1, g2, g3, g4⟩ := divB_out hB hm.nf hm0
  refine ⟨div_con l m hm.nf hm0 hB (by omega) (by omega) (by omega), pdiv_con l m hl.nf hm.nf hm0 hB ?_ (by omega) (by omega) (by omega) (by omega), g1, g2, by omega, by omega⟩
  exact key 4000 (by decide)
 ·obtain ⟨e1, e2⟩ := nil_div hl.nf hm.nf (by omega)
  refine ⟨divs_con l m hl.nf hm.nf (by omega) (by omega), pdivs_con l m hl.nf hm.nf (by omega) (by omega), ?_, ?_, ?_, ?_⟩
  ·rw [e1]; exact fun i => by rw [cf_nil]; exact Bq.zero n (by omega)
  ·rw [e2]; exact hl.bn (by omega)
  ·rw [e1]; simp
  ·rw [e2]; exact h1
theorem In.comB {l m : List Rat} {K K' e n : Nat} (hl : In e l K) (hm : In e m K') (hn : 203 * e + 2300 < n) (hL : (l.length - 1) * (m.length - 1) + 1 ≤ 201) : Bl n (comQ l m) :=
 Bl.ofLb (com_lb hl.lb hm.lb hL) (hl.cK hm (by omega)) (hl.cH hm hn)
theorem In.pcX {l m : List Rat} {K K' e n : Nat} (hl : In e l K) (hm : In e m K') (hn : 203 * e + 2300 < n) (h6 : l.length ≤ 6) : l.length * (2 ^ e * (31 * (2 ^ e + K')) ^ l.length) < 2 ^ n ∧ 2 * (31 * (2 ^ e + K')) ^ l.length < 2 ^ n := by
 have h1 := hm.cX 30 (by omega)
 have h2 := pp h1 l.length
 have hmul : (10 + (e + 1)) * l.length ≤ (10 + (e + 1)) * 6 := Nat.mul_le_mul_left _ h6
 constructor
 ·exact p2 (pm (show l.length ≤ 2 ^ 3 by omega) (pm (Nat.le_refl _) h2)) (by omega)
 ·exact p2 (pm (show 2 ≤ 2 ^ 1 by omega) h2) (by omega)
set_option maxHeartbeats 4000000 in
theorem reck_tail2 {l m : List Rat} {K K' e n : Nat} (hl : In e l K) (hm : In e m K') (he : 4000 ≤ e) (hn : 203 * e + 4205 < n) (hb : n ≤ big) (g3 : (l.length - 1) * (m.length - 1) ≤ 200) :
  cw [25, 27] (Con Tryz.prog AN) c3_101 (Ends (.bool true) [(4, none)]) ⟨look [(9, .p (LZ l)), (11, .p (LZ m)), (15, .ptr 15 0 0), (18, .ptr 18 0 0)],
   lookM [(15, ⟨27, 2, .box (.p (flt 0 0)), false⟩), (18, ⟨25, 1, .box (.p (pI (comQ l m))), false⟩)]⟩ := by
 have h1 := hl.len
 have h2 := hm.len
 by_cases k1 : 6 < l.length
 ·have i1 : (6 : Int) < (l.length : Int) := by omega
  simp only [c3_101, c3_95, c3_90, l3_89, csP, cw, csW, cops, Nat.reduceEqDiff, i1]
  refine keep [9, 11, 15, 18, 167] ?_
  simp only [c3_94, csW, Nat.reduceEqDiff, cw]
  simp only [c3_93, c3_92, l3_91, cw, csW, cops, csP, Nat.reduceEqDiff, Nat.reduceAdd, Nat.reduceLeDiff]
  refine keep [4] ?_
  simp only [Ends, resD, resL, resV, csW, Nat.reduceEqDiff]
 ·have i1 : ¬ (6 : Int) < (l.length : Int) := by omega
  by_cases k2 : 6 < m.length
  ·have i2 : (6 : Int) < (m.length : Int) := by omega
   simp only [c3_101, c3_95, c3_90, l3_89, csP, cw, csW, cops, Nat.reduceEqDiff, i1, i2]
   refine keep [9, 11, 15, 18, 167] ?_
   simp only [c3_94, csW, Nat.reduceEqDiff, cw]
   simp only [c3_93, c3_92, l3_91, cw, csW, cops, csP, Nat.reduceEqDiff, Nat.reduceAdd, Nat.reduceLeDiff]
   refine keep [4] ?_
   simp only [Ends, resD, resL, resV, csW, Nat.reduceEqDiff]
  ·have i2 : ¬ (6 : Int) < (m.length : Int) := by omega
   have cb := hl.comB hm (n := n) (by omega) (by omega)
   have cl := com_len l m
   have pc := pcomp_con l m hl.lb hm.lb (L := 31) (n := n) (by have := Nat.mul_le_mul (show l.length ≤ 6 by omega) (show m.length - 1 ≤ 5 by omega); omega) (by omega) (Nat.pow_pos (by omega)) (hl.cK hm (by omega)) (hl.pcX hm (by omega) (by omega)).1 (hl.pcX hm (by omega) (by omega)).2 (hl.bn (by omega)) (hm.bn (by omega)) hb (by omega) (by omega)
   simp only [c3_101, c3_95, c3_90, l3_89, csP, cw, csW, cops, Nat.reduceEqDiff, i1, i2]
   refine keep [9, 11, 15, 18, 167] ?_
   simp only [c3_94, csW, Nat.reduceEqDiff, cw]
   refine keep [9, 11, 15, 18] ?_
   simp only [c3_100, c3_99, l3_96, csW, Nat.reduceEqDiff, cw, cops, csP, Nat.reduceAdd, Nat.reduceLeDiff]
   refine ⟨_, pc, ?_⟩
   simp only [l3_97, cops, csW, Nat.reduceEqDiff]
   refine ⟨_, is_con (comQ l m) n cb hb (by omega), ?_⟩
   simp only [l3_98, cops, csW, Nat.reduceEqDiff]
   refine keep [4] ?_
   simp only [Ends, resD, resL, resV, csW, Nat.reduceEqDiff]
set_option maxHeartbeats 4000000 in
theorem reck_tail {l m : List Rat} {K K' e n : Nat} (hl : In e l K) (hm : In e m K') (he : 4000 ≤ e) (hn : 203 * e + 4205 < n) (hb : n ≤ big) (c a : Int) :
  cw [25, 27] (Con Tryz.prog AN) c3_103 (Ends (.bool true) [(4, none)]) ⟨look [(5, .ptr 5 0 0), (7, .ptr 7 0 0), (9, .p (LZ l)), (11, .p (LZ m)), (15, .ptr 15 0 0)],
   lookM [(5, ⟨25, 1, .box (.p (pI l)), false⟩), (7, ⟨25, 1, .box (.p (pI m)), false⟩), (15, ⟨27, 2, .box (.p (flt c a)), false⟩)]⟩ := by
 have h1 := hl.len
 have h2 := hm.len
 have hmu : (l.length - 1) * (m.length - 1) ≤ 200 * 200 := Nat.mul_le_mul (by omega) (by omega)
 by_cases hbig : 1 < l.length ∧ 1 < m.length ∧ 200 < (l.length - 1) * (m.length - 1)
 ·obtain ⟨g1, g2, g3⟩ := hbig
  have i1 : (1 : Int) < (l.length : Int) := by omega
  have i2 : (1 : Int) < (m.length : Int) := by omega
  have ec : ((l.length : Int) - 1) * ((m.length : Int) - 1) = (((l.length - 1) * (m.length - 1) : Nat) : Int) := by rw [Int.natCast_mul, Int.natCast_sub (by omega), Int.natCast_sub (by omega)]; rfl
  have i3 : (200 : Int) < (((l.length - 1) * (m.length - 1) : Nat) : Int) := by omega
  simp only [c3_103, c3_79, l3_77, csW, csP, cw, cops, Nat.reduceEqDiff]
  refine ⟨_, compBig_con l m g1 g2 g3 (by omega) (by omega), ?_⟩
  simp only [l3_78, csP, cops, csW, Nat.reduceEqDiff, Nat.reduceAdd]
  refine keep [9, 11, 15, 18] ?_
  simp only [c3_102, c3_88, c3_81, l3_80, csW, Nat.reduceEqDiff, cw, cops, i1, i2, ec, i3]
  (repeat refine And.intro (by first | omega | (simp; omega)) ?_)
  refine keep [9, 11, 15, 18, 151] ?_
  simp only [c3_87, csW, Nat.reduceEqDiff, cw]
  simp only [c3_86, c3_85, l3_82, csW, cw, cops, Nat.reduceEqDiff, csP, Nat.reduceAdd]
  refine ⟨_, lfault_con 9 0, ?_⟩
  simp only [l3_83, csP, cops, csW, Nat.reduceEqDiff, intsOf, Nat.reduceAdd]
  refine ⟨_, degree_con [] (by decide), ?_⟩
  simp only [l3_84, csW, cops, Nat.reduceEqDiff]
  refine keep [4] ?_
  simp only [Ends, resD, resL, resV, csW, Nat.reduceEqDiff]
  rfl
 ·have g3 : (l.length - 1) * (m.length - 1) ≤ 200 := by
   by_cases k1 : 1 < l.length
   ·by_cases k2 : 1 < m.length
    ·have := fun x => hbig ⟨k1, k2, x⟩
     omega
    ·rw [show m.length - 1 = 0 by omega, Nat.mul_zero]; omega
   ·rw [show l.length - 1 = 0 by omega, Nat.zero_mul]; omega
  have cc := comp_con l m hl.lb hm.lb (L := 201) (by omega) (by omega) (hl.cK hm (n := n) (by omega)) (hl.cH hm (by omega)) (hl.bn (by omega)) (hm.bn (by omega)) hb (by omega) (by omega)
  have cb := hl.comB hm (n := n) (by omega) (by omega)
  have cl := com_len l m
  by_cases k1 : 1 < l.length
  ·have i1 : (1 : Int) < (l.length : Int) := by omega
   by_cases k2 : 1 < m.length
   ·have i2 : (1 : Int) < (m.length : Int) := by omega
    have ec : ((l.length : Int) - 1) * ((m.length : Int) - 1) = (((l.length - 1) * (m.length - 1) : Nat) : Int) := by rw [Int.natCast_mul, Int.natCast_sub (by omega), Int.natCast_sub (by omega)]; rfl
    have i3 : ¬ (200 : Int) < (((l.length - 1) * (m.length - 1) : Nat) : Int) := by omega
    simp only [c3_103, c3_79, l3_77, csW, csP, cw, cops, Nat.reduceEqDiff]
    refine ⟨_, cc, ?_⟩
    simp only [l3_78, csP, cops, csW, Nat.reduceEqDiff, Nat.reduceAdd]
    refine keep [9, 11, 15, 18] ?_
    simp only [c3_102, c3_88, c3_81, l3_80, csW, Nat.reduceEqDiff, cw, cops, i1, i2, ec, i3]
    (repeat refine And.intro (by first | omega | (simp; omega)) ?_)
    refine keep [9, 11, 15, 18, 151] ?_
    simp only [c3_87, csW, Nat.reduceEqDiff, cw]
    exact ⟨_, (Sub.toG [9, 11, 15, 18] [5, 6, 7, 8, 10, 12, 13, 14] (by rfl) (by rfl) (by rfl) (by rfl)), reck_tail2 hl hm he hn hb g3⟩
   ·have i2 : ¬ (1 : Int) < (m.length : Int) := by omega
    simp only [c3_103, c3_79, l3_77, csW, csP, cw, cops, Nat.reduceEqDiff]
    refine ⟨_, cc, ?_⟩
    simp only [l3_78, csP, cops, csW, Nat.reduceEqDiff, Nat.reduceAdd]
    refine keep [9, 11, 15, 18] ?_
    simp only [c3_102, c3_88, c3_81, l3_80, csW, Nat.reduceEqDiff, cw, cops, i1, i2]
    refine keep [9, 11, 15, 18, 151] ?_
    simp only [c3_87, csW, Nat.reduceEqDiff, cw]
    exact ⟨_, (Sub.toG [9, 11, 15, 18] [5, 6, 7, 8, 10, 12, 13, 14] (by rfl) (by rfl) (by rfl) (by rfl)), reck_tail2 hl hm he hn hb g3⟩
  ·have i1 : ¬ (1 : Int) < (l.length : Int) := by omega
   simp only [c3_103, c3_79, l3_77, csW, csP, cw, cops, Nat.reduceEqDiff]
   refine ⟨_, cc, ?_⟩
   simp only [l3_78, csP, cops, csW, Nat.reduceEqDiff, Nat.reduceAdd]
   refine keep [9, 11, 15, 18] ?_
   simp only [c3_102, c3_88, c3_81, l3_80, csW, Nat.reduceEqDiff, cw, cops, i1]
   refine keep [9, 11, 15, 18, 151] ?_
   simp only [c3_87, csW, Nat.reduceEqDiff, cw]
   exact ⟨_, (Sub.toG [9, 11, 15, 18] [5, 6, 7, 8, 10, 12, 13, 14] (by rfl) (by rfl) (by rfl) (by rfl)), reck_tail2 hl hm he hn hb g3⟩
end Go.Proofs.YtkidkimjdiichaaGreat.M
