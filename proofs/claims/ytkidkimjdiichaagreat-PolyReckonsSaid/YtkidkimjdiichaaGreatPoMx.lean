/- PolyReckons returns true. -/
import Derived.Test.YtkidkimjdiichaaGreatPoLx
namespace Go.Proofs.YtkidkimjdiichaaGreat.M
open Go.RowKit
set_option linter.unusedSimpArgs false
set_option linter.unusedVariables false
set_option linter.defProp false
set_option maxHeartbeats 8000000 in
theorem reck_main (T U : Nat) (a b : List (List UInt8)) (ha : a.length ≤ 9223372036854775807) (hb : b.length ≤ 9223372036854775807) (hsa : ∀ t ∈ a, t.length ≤ 9223372036854775807) (hsb : ∀ t ∈ b, t.length ≤ 9223372036854775807) :
  Con Tryz.prog AN 3 [LS T a, LS U b] (.bool true) := by
 obtain ⟨e, he⟩ : ∃ e : Nat, e = 808000 := ⟨_, rfl⟩
 obtain ⟨n, hn⟩ : ∃ n : Nat, n = 400000000 := ⟨_, rfl⟩
 have hbg : n ≤ big := by subst hn; decide
 obtain ⟨K, hl⟩ := newQ_in a (e := e) (by omega)
 obtain ⟨K', hm⟩ := newQ_in b (e := e) (by omega)
 have na := new_con T a ha hsa
 have nb := new_con U b hb hsb
 have pa := pread_con T a ha hsa
 have pb := pread_con U b hb hsb
 generalize newQ a = qa at hl na pa
 generalize newQ b = qb at hm nb pb
 obtain ⟨l, c1, i1⟩ := qa
 obtain ⟨m, c2, i2⟩ := qb
 replace na : Con Tryz.prog AN 13 [LS T a] (.tup [pI l, flt c1 i1]) := na
 replace nb : Con Tryz.prog AN 13 [LS U b] (.tup [pI m, flt c2 i2]) := nb
 replace pa : Con Tryz.prog AN 14 [LS T a] (.tup [LZ l, flt c1 i1]) := pa
 replace pb : Con Tryz.prog AN 14 [LS U b] (.tup [LZ m, flt c2 i2]) := pb
 replace hl : In e l K := hl
 replace hm : In e m K' := hm
 have h1 := hl.len
 have h2 := hm.len
 have hadd := hl.add hm (n := n) (by omega)
 have hsub := hl.sub hm (n := n) (by omega)
 have bl := hl.bn (n := n) (by omega)
 have bm := hm.bn (n := n) (by omega)
 have hal := add_len l m
 have hsl := sub_len l m
 have hmm := mul_len_le l m
 refine fn3.con rfl (by simp) ?_
 simp only [c3, c3_113, c3_1, l3_0, init2, cw, csW, cops, reduceCtorEq, Nat.reduceEqDiff]
 refine keep [0, 1] ?_
 simp only [c3_112, c3_4, l3_2, csW, reduceCtorEq, Nat.reduceEqDiff, cw, cops]
 refine ⟨_, na, ?_⟩
 simp only [l3_3, csP, cops, csW, reduceCtorEq, Nat.reduceEqDiff, Nat.reduceAdd]
 refine keep [0, 1, 5] ?_
 simp only [c3_111, c3_7, l3_5, csW, reduceCtorEq, Nat.reduceEqDiff, cw, cops]
 refine ⟨_, nb, ?_⟩
 simp only [l3_6, csP, cops, csW, reduceCtorEq, Nat.reduceEqDiff, Nat.reduceAdd]
 refine keep [0, 1, 5, 7] ?_
 simp only [c3_110, c3_10, l3_8, csW, reduceCtorEq, Nat.reduceEqDiff, cw, cops]
 refine ⟨_, pa, ?_⟩
 simp only [l3_9, csP, cops, csW, reduceCtorEq, Nat.reduceEqDiff, Nat.reduceAdd]
 refine keep [1, 5, 7, 9] ?_
 simp only [c3_109, c3_13, l3_11, csW, reduceCtorEq, Nat.reduceEqDiff, cw, cops]
 refine ⟨_, pb, ?_⟩
 simp only [l3_12, csP, cops, csW, Nat.reduceEqDiff, Nat.reduceAdd]
 refine keep [5, 7, 9, 11] ?_
 simp only [c3_108, c3_29, c3_24, l3_14, csW, Nat.reduceEqDiff, cw, cops]
 refine ⟨_, begun_con, ?_⟩
 simp only [l3_15, cops, csW, csP, Nat.reduceEqDiff]
 refine ⟨_, add_con l m n bl bm hadd hbg (by omega) (by omega), ?_⟩
 simp only [l3_16, cops, csW, Nat.reduceEqDiff]
 refine ⟨_, padd_con l m n bl bm hadd hbg (by omega) (by omega), ?_⟩
 simp only [l3_17, cops, csW, Nat.reduceEqDiff]
 refine ⟨_, is_con (addQ l m) n (fun i => by rw [cf_add]; exact hadd i) hbg (by omega), ?_⟩
 simp only [l3_18, cops, csW, csP, Nat.reduceEqDiff]
 refine ⟨_, sub_con l m n bl bm hsub hbg (by omega) (by omega) (by omega), ?_⟩
 simp only [l3_19, cops, csW, Nat.reduceEqDiff]
 refine ⟨_, psub_con l m n bl bm hsub hbg (by omega) (by omega) (by omega), ?_⟩
 simp only [l3_20, cops, csW, Nat.reduceEqDiff]
 refine ⟨_, is_con (subQ l m) n (fun i => by rw [cf_sub]; exact hsub i) hbg (by omega), ?_⟩
 simp only [l3_21, cops, csW, csP, Nat.reduceEqDiff]
 refine ⟨_, same_con l m hl.nf hm.nf n bl bm hsub hbg (by omega) (by omega) (by omega), ?_⟩
 simp only [l3_22, cops, csW, Nat.reduceEqDiff]
 refine ⟨_, psame_con l m hl.nf hm.nf n bl bm hsub hbg (by omega) (by omega) (by omega), ?_⟩
 simp only [l3_23, cops, csW, Nat.reduceEqDiff, beq_self_eq_true]
 refine keep [5, 7, 9, 11, 69] ?_
 simp only [c3_28, csW, Nat.reduceEqDiff, cw]
 have ec : (l.length : Int) * (m.length : Int) = ((l.length * m.length : Nat) : Int) := (Int.natCast_mul _ _).symm
 have hml := Nat.mul_le_mul h1 h2
 by_cases hp : 400 < l.length * m.length
 ·have hpI : (400 : Int) < ((l.length * m.length : Nat) : Int) := by omega
  refine keep [5, 7, 9, 11] ?_
  simp only [c3_107, c3_36, c3_31, l3_30, csW, Nat.reduceEqDiff, cw, cops, ec, hpI]
  (repeat refine And.intro (by first | omega | (simp; omega)) ?_)
  refine keep [5, 7, 9, 11, 75] ?_
  simp only [c3_35, csW, Nat.reduceEqDiff, cw]
  simp only [c3_34, c3_33, l3_32, cw, csW, cops, Nat.reduceEqDiff]
  refine keep [4] ?_
  simp only [Ends, resD, resL, resV, csW, Nat.reduceEqDiff]
 ·have hpI : ¬ (400 : Int) < ((l.length * m.length : Nat) : Int) := by omega
  refine keep [5, 7, 9, 11] ?_
  simp only [c3_107, c3_36, c3_31, l3_30, csW, Nat.reduceEqDiff, cw, cops, ec, hpI]
  (repeat refine And.intro (by first | omega | (simp; omega)) ?_)
  refine keep [5, 7, 9, 11, 75] ?_
  simp only [c3_35, csW, Nat.reduceEqDiff, cw]
  refine keep [5, 7, 9, 11] ?_
  simp only [c3_106, c3_46, c3_41, l3_37, csW, Nat.reduceEqDiff, cw, cops, csP]
  refine ⟨_, mul_con l m _ _ n bl bm (hl.prod hm) (hl.hK hm (by omega)) (hl.hH (by omega)) hbg (by omega) (by omega), ?_⟩
  simp only [l3_38, cops, csW, Nat.reduceEqDiff]
  refine ⟨_, pmul_con l m _ _ n bl bm (hl.prod hm) (hl.hK hm (by omega)) (hl.hH (by omega)) hbg (by omega) (by omega), ?_⟩
  simp only [l3_39, cops, csW, Nat.reduceEqDiff]
  refine ⟨_, is_con (mulQ l m) n (hl.mul hm (by omega)) hbg (by omega), ?_⟩
  simp only [l3_40, cops, csW, Nat.reduceEqDiff]
  refine keep [5, 7, 9, 11, 83] ?_
  simp only [c3_45, csW, Nat.reduceEqDiff, cw]
  refine keep [5, 7, 9, 11] ?_
  simp only [c3_105, c3_49, l3_47, csW, Nat.reduceEqDiff, cw, cops, csP]
  by_cases hm0 : m = []
  ·subst hm0
   have hz : decide ((0 : Int) ≤ -1) = false := rfl
   refine ⟨_, div0_con l, ?_⟩
   simp only [l3_48, csP, cops, csW, Nat.reduceEqDiff, Nat.reduceAdd]
   refine keep [5, 7, 9, 11, 13, 14, 15] ?_
   simp only [c3_104, c3_76, c3_51, l3_50, csW, Nat.reduceEqDiff, cw, cops]
   refine keep [5, 7, 9, 11, 13, 14, 15, 93] ?_
   simp only [c3_75, csW, Nat.reduceEqDiff, cw]
   simp only [c3_61, c3_56, l3_52, csW, cw, cops, Nat.reduceEqDiff, csP, Nat.reduceAdd]
   refine ⟨_, lfault_con 4 0, ?_⟩
   simp only [l3_53, csP, cops, csW, Nat.reduceEqDiff, intsOf, Nat.reduceAdd]
   refine ⟨_, degree_con [] (by decide), ?_⟩
   simp only [l3_54, csW, Int.zero_sub, cops, csP, Nat.reduceEqDiff, hz]
   refine ⟨_, degree_con [] (by decide), ?_⟩
   simp only [l3_55, csW, Int.zero_sub, cops, Nat.reduceEqDiff, hz]
   refine keep [5, 7, 9, 11, 15, 106] ?_
   simp only [c3_60, csW, Nat.reduceEqDiff, cw]
   exact ⟨_, (Sub.toG [5, 7, 9, 11, 15] [6, 8, 10, 12, 13, 14, 18] (by rfl) (by rfl) (by rfl) (by rfl)), reck_tail hl hm (by omega) (by omega) hbg 4 0⟩
  ·obtain ⟨g1, g2, g3, g4, g5, g6⟩ := hl.divs hm (n := n) hm0 (by omega) (by omega) hbg
   have hmI : ¬ (m.length : Int) = 0 := by have := List.length_pos_iff.2 hm0; omega
   refine ⟨_, g1, ?_⟩
   simp only [l3_48, csP, cops, csW, Nat.reduceEqDiff, Nat.reduceAdd]
   refine keep [5, 7, 9, 11, 13, 14, 15] ?_
   simp only [c3_104, c3_76, c3_51, l3_50, csW, Nat.reduceEqDiff, cw, cops, hmI]
   refine keep [5, 7, 9, 11, 13, 14, 15, 93] ?_
   simp only [c3_75, csW, Nat.reduceEqDiff, cw]
   simp only [c3_74, c3_64, l3_62, csW, cw, cops, Nat.reduceEqDiff]
   refine ⟨_, g2, ?_⟩
   simp only [l3_63, cops, csW, Nat.reduceEqDiff]
   refine keep [5, 7, 9, 11, 13, 14, 15, 16, 17] ?_
   simp only [c3_73, c3_68, l3_65, csW, Nat.reduceEqDiff, cw, cops, csP, Nat.reduceAdd, Nat.reduceLeDiff]
   refine ⟨_, is_con (quoQ l m) n g3 hbg (by omega), ?_⟩
   simp only [l3_66, cops, csW, csP, Nat.reduceEqDiff]
   refine ⟨_, is_con (remQ l m) n g4 hbg (by omega), ?_⟩
   simp only [l3_67, cops, csW, Nat.reduceEqDiff]
   refine keep [5, 7, 9, 11, 15, 127] ?_
   simp only [c3_72, csW, Nat.reduceEqDiff, cw]
   exact ⟨_, (Sub.toG [5, 7, 9, 11, 15] [6, 8, 10, 12, 13, 14, 18] (by rfl) (by rfl) (by rfl) (by rfl)), reck_tail hl hm (by omega) (by omega) hbg 0 0⟩
end Go.Proofs.YtkidkimjdiichaaGreat.M
