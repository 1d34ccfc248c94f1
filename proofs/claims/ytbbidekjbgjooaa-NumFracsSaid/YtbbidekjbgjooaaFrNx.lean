/- NumFracs: the law's walk, in the small machine's words. -/
import Derived.Test.YtbbidekjbgjooaaFrMx
namespace Go.Proofs.Ytbbidekjbgjooaa.M
open Go.RowKit
set_option linter.unusedSimpArgs false
set_option linter.unusedVariables false

theorem frD_pos {a b : Int} (h : b ≠ 0) : 0 < frD a b := by
  have hg := gcd_ne0 (a := a) h
  have hd : (Int.gcd a b : Int) * (b / (Int.gcd a b : Int)) = b := Int.mul_ediv_cancel' (Int.gcd_dvd_right ..)
  have hne : b / (Int.gcd a b : Int) ≠ 0 := by
    intro e
    rw [e, Int.mul_zero] at hd
    exact h hd.symm
  unfold frD
  split <;> omega
theorem fracR_ok (t : List UInt8) : 0 < (fracR t).2.1 ∧ Bt (fracR t).1 4000 ∧ Bt (fracR t).2.1 4000 := by
  unfold fracR
  split
  · split
    · rename_i h2
      split
      · rename_i h3
        split
        · exact ⟨frD_pos (tail_ne h2.1 h2.2 h3.2), frN_bt (parseZ_bt _), frD_bt (parseZ_bt _)⟩
        · exact ⟨Int.zero_lt_one, bt_zero _, bt_one⟩
      · exact ⟨Int.zero_lt_one, bt_zero _, bt_one⟩
    · exact ⟨Int.zero_lt_one, bt_zero _, bt_one⟩
  · split
    · split
      · exact ⟨Int.zero_lt_one, parseZ_bt _, bt_one⟩
      · exact ⟨Int.zero_lt_one, bt_zero _, bt_one⟩
    · exact ⟨Int.zero_lt_one, bt_zero _, bt_one⟩
theorem frText_one (a : Int) : frText a 1 = dec a := if_pos rfl

theorem over_both {a b : Int} (ba : Bt a 4000) (bb : Bt b 4000) : ∃ x y c : Int, Con Try.prog AN 45 [encI (a * b), encI a] (.tup [encFI x y, flt c 0]) ∧ Con Try.prog AN 46 [encZ (a * b), encZ a] (.tup [encFZ x y, flt c 0]) ∧ Bt x 9000 ∧ Bt y 9000 := by
  have bm : Bt (a * b) 9000 := (ba.mul bb).mono (by omega)
  have ba' : Bt a 9000 := ba.mono (by omega)
  by_cases h : a = 0
  · rw [h] at bm ⊢
    exact ⟨0, 1, 4, cOver0 _ 9000 bm (by omega), cOverZ0 _ 9000 bm (by omega), bt_zero _, bt_one.mono (by omega)⟩
  · exact ⟨_, _, 0, cOver _ _ 9000 bm ba' (by omega) h, cOverZ _ _ 9000 bm ba' (by omega) h, frN_bt bm, frD_bt ba'⟩
theorem quo_both {a b c d : Int} (ba : Bt a 4000) (bb : Bt b 4000) (bc : Bt c 4000) (bd : Bt d 4000) (hb : 0 < b) : ∃ x y e : Int, Con Try.prog AN 47 [encFI a b, encFI c d] (.tup [encFI x y, flt e 0]) ∧ Con Try.prog AN 48 [encFZ a b, encFZ c d] (.tup [encFZ x y, flt e 0]) ∧ Bt x 9000 ∧ Bt y 9000 := by
  have b1 : Bt (a * d) 9000 := (ba.mul bd).mono (by omega)
  have b2 : Bt (b * c) 9000 := (bb.mul bc).mono (by omega)
  by_cases h : c = 0
  · refine ⟨0, 1, 4, ?_, cQuoZ0 a b c d 4000 ba bb bc bd (by omega) h, bt_zero _, bt_one.mono (by omega)⟩
    rw [h]
    exact cQuo0 a b 0 d 4000 ba bb (bt_zero _) bd (by omega)
  · exact ⟨_, _, 0, cQuo a b c d 4000 ba bb bc bd (by omega) hb h, cQuoZ a b c d 4000 ba bb bc bd (by omega) hb h, frN_bt b1, frD_bt b2⟩

-- more
set_option maxRecDepth 20000 in
set_option maxHeartbeats 20000000 in
theorem fracs_con (t u : List UInt8) (ht : t.length ≤ 9223372036854775807) (hu : u.length ≤ 9223372036854775807) : Con Try.prog AN 8 [.str t, .str u] (.bool true) := by
  have P1 := cParse t ht
  have P2 := cParse u hu
  have Q1 := cFParse t ht
  have Q2 := cFParse u hu
  obtain ⟨hb, ba, bb⟩ := fracR_ok t
  obtain ⟨hd, bc, bd⟩ := fracR_ok u
  generalize fracR t = x at *
  generalize fracR u = y at *
  obtain ⟨a, b, c1, p1⟩ := x
  obtain ⟨c, d, c2, p2⟩ := y
  simp only at P1 P2 Q1 Q2 hb ba bb hd bc bd
  obtain ⟨o1, o2, oc, O1, O2, bo1, bo2⟩ := over_both ba bb
  obtain ⟨q1, q2, qc, U1, U2, bq1, bq2⟩ := quo_both ba bb bc bd hb
  have bbd : Bt (b * d) 9000 := (bb.mul bd).mono (by omega)
  have bad : Bt (a * d + c * b) 9000 := ((ba.mul bd).add (bc.mul bb)).mono (by omega)
  have bsu : Bt (a * d + -c * b) 9000 := ((ba.mul bd).add (bc.neg.mul bb)).mono (by omega)
  have bmu : Bt (a * c) 9000 := (ba.mul bc).mono (by omega)
  have bdi : Bt (a / b) 4000 := bt_ediv _ ba
  have hb0 : b ≠ 0 := by omega
  refine fn8.con rfl (by simp) ?_
  (try simp only [init2, c8, c8_110, c8_1, l8_0, cw, cops, cs0, cs1, cs2, cs3, cs4, cs5, St.put, apOk, reduceIte, Nat.reduceEqDiff, reduceCtorEq, Option.getD_none, forall_const, binD, unD, inK, D.isBool, bounds, Nat.reduceAdd, Nat.reduceLT, Nat.reduceLeDiff, Nat.reduceSub, csN, AV.mk, pureL, AV.pure, fillA, flt, AV.get, AV.part, D.part, partD, csN, AV.mk, pureL, AV.pure, fillA, flt, AV.get, AV.part, D.part, partD, intsOf, frText_one])
  (repeat refine And.intro (by first | omega | (simp; omega)) ?_)
  refine keep [0, 1] ?_
  (try simp only [c8_109, c8_4, l8_2, cw, cops, cs0, cs1, cs2, cs3, cs4, cs5, St.put, apOk, reduceIte, Nat.reduceEqDiff, reduceCtorEq, Option.getD_none, forall_const, binD, unD, inK, D.isBool, bounds, Nat.reduceAdd, Nat.reduceLT, Nat.reduceLeDiff, Nat.reduceSub, csN, AV.mk, pureL, AV.pure, fillA, flt, AV.get, AV.part, D.part, partD, csN, AV.mk, pureL, AV.pure, fillA, flt, AV.get, AV.part, D.part, partD, intsOf, frText_one])
  (repeat refine And.intro (by first | omega | (simp; omega)) ?_)
  -- CALL 39
  refine ⟨_, P1, ?_⟩
  (try simp only [l8_3, cw, cops, cs0, cs1, cs2, cs3, cs4, cs5, St.put, apOk, reduceIte, Nat.reduceEqDiff, reduceCtorEq, Option.getD_none, forall_const, binD, unD, inK, D.isBool, bounds, Nat.reduceAdd, Nat.reduceLT, Nat.reduceLeDiff, Nat.reduceSub, csN, AV.mk, pureL, AV.pure, fillA, flt, AV.get, AV.part, D.part, partD, csN, AV.mk, pureL, AV.pure, fillA, flt, AV.get, AV.part, D.part, partD, intsOf, frText_one])
  (repeat refine And.intro (by first | omega | (simp; omega)) ?_)
  refine keep [0, 1, 5, 6] ?_
  (try simp only [c8_108, c8_7, l8_5, cw, cops, cs0, cs1, cs2, cs3, cs4, cs5, St.put, apOk, reduceIte, Nat.reduceEqDiff, reduceCtorEq, Option.getD_none, forall_const, binD, unD, inK, D.isBool, bounds, Nat.reduceAdd, Nat.reduceLT, Nat.reduceLeDiff, Nat.reduceSub, csN, AV.mk, pureL, AV.pure, fillA, flt, AV.get, AV.part, D.part, partD, csN, AV.mk, pureL, AV.pure, fillA, flt, AV.get, AV.part, D.part, partD, intsOf, frText_one])
  (repeat refine And.intro (by first | omega | (simp; omega)) ?_)
  -- CALL 39
  refine ⟨_, P2, ?_⟩
  (try simp only [l8_6, cw, cops, cs0, cs1, cs2, cs3, cs4, cs5, St.put, apOk, reduceIte, Nat.reduceEqDiff, reduceCtorEq, Option.getD_none, forall_const, binD, unD, inK, D.isBool, bounds, Nat.reduceAdd, Nat.reduceLT, Nat.reduceLeDiff, Nat.reduceSub, csN, AV.mk, pureL, AV.pure, fillA, flt, AV.get, AV.part, D.part, partD, csN, AV.mk, pureL, AV.pure, fillA, flt, AV.get, AV.part, D.part, partD, intsOf, frText_one])
  (repeat refine And.intro (by first | omega | (simp; omega)) ?_)
  refine keep [0, 1, 5, 6, 7, 8] ?_
  (try simp only [c8_107, c8_10, l8_8, cw, cops, cs0, cs1, cs2, cs3, cs4, cs5, St.put, apOk, reduceIte, Nat.reduceEqDiff, reduceCtorEq, Option.getD_none, forall_const, binD, unD, inK, D.isBool, bounds, Nat.reduceAdd, Nat.reduceLT, Nat.reduceLeDiff, Nat.reduceSub, csN, AV.mk, pureL, AV.pure, fillA, flt, AV.get, AV.part, D.part, partD, csN, AV.mk, pureL, AV.pure, fillA, flt, AV.get, AV.part, D.part, partD, intsOf, frText_one])
  (repeat refine And.intro (by first | omega | (simp; omega)) ?_)
  -- CALL 40
  refine ⟨_, Q1, ?_⟩
  (try simp only [l8_9, cw, cops, cs0, cs1, cs2, cs3, cs4, cs5, St.put, apOk, reduceIte, Nat.reduceEqDiff, reduceCtorEq, Option.getD_none, forall_const, binD, unD, inK, D.isBool, bounds, Nat.reduceAdd, Nat.reduceLT, Nat.reduceLeDiff, Nat.reduceSub, csN, AV.mk, pureL, AV.pure, fillA, flt, AV.get, AV.part, D.part, partD, csN, AV.mk, pureL, AV.pure, fillA, flt, AV.get, AV.part, D.part, partD, intsOf, frText_one])
  (repeat refine And.intro (by first | omega | (simp; omega)) ?_)
  refine keep [1, 5, 6, 7, 8, 9, 10] ?_
  (try simp only [c8_106, c8_13, l8_11, cw, cops, cs0, cs1, cs2, cs3, cs4, cs5, St.put, apOk, reduceIte, Nat.reduceEqDiff, reduceCtorEq, Option.getD_none, forall_const, binD, unD, inK, D.isBool, bounds, Nat.reduceAdd, Nat.reduceLT, Nat.reduceLeDiff, Nat.reduceSub, csN, AV.mk, pureL, AV.pure, fillA, flt, AV.get, AV.part, D.part, partD, csN, AV.mk, pureL, AV.pure, fillA, flt, AV.get, AV.part, D.part, partD, intsOf, frText_one])
  (repeat refine And.intro (by first | omega | (simp; omega)) ?_)
  -- CALL 40
  refine ⟨_, Q2, ?_⟩
  (try simp only [l8_12, cw, cops, cs0, cs1, cs2, cs3, cs4, cs5, St.put, apOk, reduceIte, Nat.reduceEqDiff, reduceCtorEq, Option.getD_none, forall_const, binD, unD, inK, D.isBool, bounds, Nat.reduceAdd, Nat.reduceLT, Nat.reduceLeDiff, Nat.reduceSub, csN, AV.mk, pureL, AV.pure, fillA, flt, AV.get, AV.part, D.part, partD, csN, AV.mk, pureL, AV.pure, fillA, flt, AV.get, AV.part, D.part, partD, intsOf, frText_one])
  (repeat refine And.intro (by first | omega | (simp; omega)) ?_)
  refine keep [5, 6, 7, 8, 9, 10, 11, 12] ?_
  (try simp only [c8_105, c8_25, c8_20, l8_14, cw, cops, cs0, cs1, cs2, cs3, cs4, cs5, St.put, apOk, reduceIte, Nat.reduceEqDiff, reduceCtorEq, Option.getD_none, forall_const, binD, unD, inK, D.isBool, bounds, Nat.reduceAdd, Nat.reduceLT, Nat.reduceLeDiff, Nat.reduceSub, csN, AV.mk, pureL, AV.pure, fillA, flt, AV.get, AV.part, D.part, partD, csN, AV.mk, pureL, AV.pure, fillA, flt, AV.get, AV.part, D.part, partD, intsOf, frText_one])
  (repeat refine And.intro (by first | omega | (simp; omega)) ?_)
  -- CALL 11
  refine ⟨_, cBegun, ?_⟩
  (try simp only [l8_15, cw, cops, cs0, cs1, cs2, cs3, cs4, cs5, St.put, apOk, reduceIte, Nat.reduceEqDiff, reduceCtorEq, Option.getD_none, forall_const, binD, unD, inK, D.isBool, bounds, Nat.reduceAdd, Nat.reduceLT, Nat.reduceLeDiff, Nat.reduceSub, csN, AV.mk, pureL, AV.pure, fillA, flt, AV.get, AV.part, D.part, partD, csN, AV.mk, pureL, AV.pure, fillA, flt, AV.get, AV.part, D.part, partD, intsOf, frText_one])
  (repeat refine And.intro (by first | omega | (simp; omega)) ?_)
  -- CALL 41
  refine ⟨_, cText a b 4000 ba bb (by omega), ?_⟩
  (try simp only [l8_16, cw, cops, cs0, cs1, cs2, cs3, cs4, cs5, St.put, apOk, reduceIte, Nat.reduceEqDiff, reduceCtorEq, Option.getD_none, forall_const, binD, unD, inK, D.isBool, bounds, Nat.reduceAdd, Nat.reduceLT, Nat.reduceLeDiff, Nat.reduceSub, csN, AV.mk, pureL, AV.pure, fillA, flt, AV.get, AV.part, D.part, partD, csN, AV.mk, pureL, AV.pure, fillA, flt, AV.get, AV.part, D.part, partD, intsOf, frText_one])
  (repeat refine And.intro (by first | omega | (simp; omega)) ?_)
  -- CALL 42
  refine ⟨_, cTextZ a b 4000 ba bb (by omega), ?_⟩
  (try simp only [l8_17, cw, cops, cs0, cs1, cs2, cs3, cs4, cs5, St.put, apOk, reduceIte, Nat.reduceEqDiff, reduceCtorEq, Option.getD_none, forall_const, binD, unD, inK, D.isBool, bounds, Nat.reduceAdd, Nat.reduceLT, Nat.reduceLeDiff, Nat.reduceSub, csN, AV.mk, pureL, AV.pure, fillA, flt, AV.get, AV.part, D.part, partD, csN, AV.mk, pureL, AV.pure, fillA, flt, AV.get, AV.part, D.part, partD, intsOf, frText_one])
  (repeat refine And.intro (by first | omega | (simp; omega)) ?_)
  -- CALL 41
  refine ⟨_, cText c d 4000 bc bd (by omega), ?_⟩
  (try simp only [l8_18, cw, cops, cs0, cs1, cs2, cs3, cs4, cs5, St.put, apOk, reduceIte, Nat.reduceEqDiff, reduceCtorEq, Option.getD_none, forall_const, binD, unD, inK, D.isBool, bounds, Nat.reduceAdd, Nat.reduceLT, Nat.reduceLeDiff, Nat.reduceSub, csN, AV.mk, pureL, AV.pure, fillA, flt, AV.get, AV.part, D.part, partD, csN, AV.mk, pureL, AV.pure, fillA, flt, AV.get, AV.part, D.part, partD, intsOf, frText_one])
  (repeat refine And.intro (by first | omega | (simp; omega)) ?_)
  -- CALL 42
  refine ⟨_, cTextZ c d 4000 bc bd (by omega), ?_⟩
  (try simp only [l8_19, cw, cops, cs0, cs1, cs2, cs3, cs4, cs5, St.put, apOk, reduceIte, Nat.reduceEqDiff, reduceCtorEq, Option.getD_none, forall_const, binD, unD, inK, D.isBool, bounds, Nat.reduceAdd, Nat.reduceLT, Nat.reduceLeDiff, Nat.reduceSub, csN, AV.mk, pureL, AV.pure, fillA, flt, AV.get, AV.part, D.part, partD, csN, AV.mk, pureL, AV.pure, fillA, flt, AV.get, AV.part, D.part, partD, intsOf, frText_one])
  (repeat refine And.intro (by first | omega | (simp; omega)) ?_)
  refine keep [5, 6, 7, 9, 10, 11, 69] ?_
  (try simp only [c8_24, cw, cops, cs0, cs1, cs2, cs3, cs4, cs5, St.put, apOk, reduceIte, Nat.reduceEqDiff, reduceCtorEq, Option.getD_none, forall_const, binD, unD, inK, D.isBool, bounds, Nat.reduceAdd, Nat.reduceLT, Nat.reduceLeDiff, Nat.reduceSub, csN, AV.mk, pureL, AV.pure, fillA, flt, AV.get, AV.part, D.part, partD, csN, AV.mk, pureL, AV.pure, fillA, flt, AV.get, AV.part, D.part, partD, intsOf, frText_one])
  (repeat refine And.intro (by first | omega | (simp; omega)) ?_)
  -- TEST (.t 69)
  -- skip
  (try simp only [cw, cops, cs0, cs1, cs2, cs3, cs4, cs5, St.put, apOk, reduceIte, Nat.reduceEqDiff, reduceCtorEq, Option.getD_none, forall_const, binD, unD, inK, D.isBool, bounds, Nat.reduceAdd, Nat.reduceLT, Nat.reduceLeDiff, Nat.reduceSub, csN, AV.mk, pureL, AV.pure, fillA, flt, AV.get, AV.part, D.part, partD, csN, AV.mk, pureL, AV.pure, fillA, flt, AV.get, AV.part, D.part, partD, intsOf, frText_one])
  (repeat refine And.intro (by first | omega | (simp; omega)) ?_)
  refine keep [5, 6, 7, 9, 10, 11] ?_
  (try simp only [c8_104, c8_28, l8_26, cw, cops, cs0, cs1, cs2, cs3, cs4, cs5, St.put, apOk, reduceIte, Nat.reduceEqDiff, reduceCtorEq, Option.getD_none, forall_const, binD, unD, inK, D.isBool, bounds, Nat.reduceAdd, Nat.reduceLT, Nat.reduceLeDiff, Nat.reduceSub, csN, AV.mk, pureL, AV.pure, fillA, flt, AV.get, AV.part, D.part, partD, csN, AV.mk, pureL, AV.pure, fillA, flt, AV.get, AV.part, D.part, partD, intsOf, frText_one])
  (repeat refine And.intro (by first | omega | (simp; omega)) ?_)
  -- CALL 43
  refine ⟨_, cParts a b 4000 ba bb (by omega), ?_⟩
  (try simp only [l8_27, cw, cops, cs0, cs1, cs2, cs3, cs4, cs5, St.put, apOk, reduceIte, Nat.reduceEqDiff, reduceCtorEq, Option.getD_none, forall_const, binD, unD, inK, D.isBool, bounds, Nat.reduceAdd, Nat.reduceLT, Nat.reduceLeDiff, Nat.reduceSub, csN, AV.mk, pureL, AV.pure, fillA, flt, AV.get, AV.part, D.part, partD, csN, AV.mk, pureL, AV.pure, fillA, flt, AV.get, AV.part, D.part, partD, intsOf, frText_one])
  (repeat refine And.intro (by first | omega | (simp; omega)) ?_)
  refine keep [5, 6, 7, 9, 10, 11, 13, 14] ?_
  (try simp only [c8_103, c8_42, c8_37, l8_29, cw, cops, cs0, cs1, cs2, cs3, cs4, cs5, St.put, apOk, reduceIte, Nat.reduceEqDiff, reduceCtorEq, Option.getD_none, forall_const, binD, unD, inK, D.isBool, bounds, Nat.reduceAdd, Nat.reduceLT, Nat.reduceLeDiff, Nat.reduceSub, csN, AV.mk, pureL, AV.pure, fillA, flt, AV.get, AV.part, D.part, partD, csN, AV.mk, pureL, AV.pure, fillA, flt, AV.get, AV.part, D.part, partD, intsOf, frText_one])
  (repeat refine And.intro (by first | omega | (simp; omega)) ?_)
  -- CALL 14
  refine ⟨_, cIText a 4000 ba (by omega), ?_⟩
  (try simp only [l8_30, cw, cops, cs0, cs1, cs2, cs3, cs4, cs5, St.put, apOk, reduceIte, Nat.reduceEqDiff, reduceCtorEq, Option.getD_none, forall_const, binD, unD, inK, D.isBool, bounds, Nat.reduceAdd, Nat.reduceLT, Nat.reduceLeDiff, Nat.reduceSub, csN, AV.mk, pureL, AV.pure, fillA, flt, AV.get, AV.part, D.part, partD, csN, AV.mk, pureL, AV.pure, fillA, flt, AV.get, AV.part, D.part, partD, intsOf, frText_one])
  (repeat refine And.intro (by first | omega | (simp; omega)) ?_)
  -- CALL 15
  refine ⟨_, cZText a 4000 ba (by omega), ?_⟩
  (try simp only [l8_31, cw, cops, cs0, cs1, cs2, cs3, cs4, cs5, St.put, apOk, reduceIte, Nat.reduceEqDiff, reduceCtorEq, Option.getD_none, forall_const, binD, unD, inK, D.isBool, bounds, Nat.reduceAdd, Nat.reduceLT, Nat.reduceLeDiff, Nat.reduceSub, csN, AV.mk, pureL, AV.pure, fillA, flt, AV.get, AV.part, D.part, partD, csN, AV.mk, pureL, AV.pure, fillA, flt, AV.get, AV.part, D.part, partD, intsOf, frText_one])
  (repeat refine And.intro (by first | omega | (simp; omega)) ?_)
  -- CALL 14
  refine ⟨_, cIText b 4000 bb (by omega), ?_⟩
  (try simp only [l8_32, cw, cops, cs0, cs1, cs2, cs3, cs4, cs5, St.put, apOk, reduceIte, Nat.reduceEqDiff, reduceCtorEq, Option.getD_none, forall_const, binD, unD, inK, D.isBool, bounds, Nat.reduceAdd, Nat.reduceLT, Nat.reduceLeDiff, Nat.reduceSub, csN, AV.mk, pureL, AV.pure, fillA, flt, AV.get, AV.part, D.part, partD, csN, AV.mk, pureL, AV.pure, fillA, flt, AV.get, AV.part, D.part, partD, intsOf, frText_one])
  (repeat refine And.intro (by first | omega | (simp; omega)) ?_)
  -- CALL 15
  refine ⟨_, cZText b 4000 bb (by omega), ?_⟩
  (try simp only [l8_33, cw, cops, cs0, cs1, cs2, cs3, cs4, cs5, St.put, apOk, reduceIte, Nat.reduceEqDiff, reduceCtorEq, Option.getD_none, forall_const, binD, unD, inK, D.isBool, bounds, Nat.reduceAdd, Nat.reduceLT, Nat.reduceLeDiff, Nat.reduceSub, csN, AV.mk, pureL, AV.pure, fillA, flt, AV.get, AV.part, D.part, partD, csN, AV.mk, pureL, AV.pure, fillA, flt, AV.get, AV.part, D.part, partD, intsOf, frText_one])
  (repeat refine And.intro (by first | omega | (simp; omega)) ?_)
  -- CALL 44
  refine ⟨_, cWhole a 4000 ba (by omega), ?_⟩
  (try simp only [l8_34, cw, cops, cs0, cs1, cs2, cs3, cs4, cs5, St.put, apOk, reduceIte, Nat.reduceEqDiff, reduceCtorEq, Option.getD_none, forall_const, binD, unD, inK, D.isBool, bounds, Nat.reduceAdd, Nat.reduceLT, Nat.reduceLeDiff, Nat.reduceSub, csN, AV.mk, pureL, AV.pure, fillA, flt, AV.get, AV.part, D.part, partD, csN, AV.mk, pureL, AV.pure, fillA, flt, AV.get, AV.part, D.part, partD, intsOf, frText_one])
  (repeat refine And.intro (by first | omega | (simp; omega)) ?_)
  -- CALL 41
  refine ⟨_, cText a 1 4000 ba bt_one (by omega), ?_⟩
  (try simp only [l8_35, cw, cops, cs0, cs1, cs2, cs3, cs4, cs5, St.put, apOk, reduceIte, Nat.reduceEqDiff, reduceCtorEq, Option.getD_none, forall_const, binD, unD, inK, D.isBool, bounds, Nat.reduceAdd, Nat.reduceLT, Nat.reduceLeDiff, Nat.reduceSub, csN, AV.mk, pureL, AV.pure, fillA, flt, AV.get, AV.part, D.part, partD, csN, AV.mk, pureL, AV.pure, fillA, flt, AV.get, AV.part, D.part, partD, intsOf, frText_one])
  (repeat refine And.intro (by first | omega | (simp; omega)) ?_)
  -- CALL 15
  refine ⟨_, cZText a 4000 ba (by omega), ?_⟩
  (try simp only [l8_36, cw, cops, cs0, cs1, cs2, cs3, cs4, cs5, St.put, apOk, reduceIte, Nat.reduceEqDiff, reduceCtorEq, Option.getD_none, forall_const, binD, unD, inK, D.isBool, bounds, Nat.reduceAdd, Nat.reduceLT, Nat.reduceLeDiff, Nat.reduceSub, csN, AV.mk, pureL, AV.pure, fillA, flt, AV.get, AV.part, D.part, partD, csN, AV.mk, pureL, AV.pure, fillA, flt, AV.get, AV.part, D.part, partD, intsOf, frText_one])
  (repeat refine And.intro (by first | omega | (simp; omega)) ?_)
  refine keep [5, 6, 7, 9, 10, 11, 13, 14, 97] ?_
  (try simp only [c8_41, cw, cops, cs0, cs1, cs2, cs3, cs4, cs5, St.put, apOk, reduceIte, Nat.reduceEqDiff, reduceCtorEq, Option.getD_none, forall_const, binD, unD, inK, D.isBool, bounds, Nat.reduceAdd, Nat.reduceLT, Nat.reduceLeDiff, Nat.reduceSub, csN, AV.mk, pureL, AV.pure, fillA, flt, AV.get, AV.part, D.part, partD, csN, AV.mk, pureL, AV.pure, fillA, flt, AV.get, AV.part, D.part, partD, intsOf, frText_one])
  (repeat refine And.intro (by first | omega | (simp; omega)) ?_)
  -- TEST (.t 97)
  -- skip
  (try simp only [cw, cops, cs0, cs1, cs2, cs3, cs4, cs5, St.put, apOk, reduceIte, Nat.reduceEqDiff, reduceCtorEq, Option.getD_none, forall_const, binD, unD, inK, D.isBool, bounds, Nat.reduceAdd, Nat.reduceLT, Nat.reduceLeDiff, Nat.reduceSub, csN, AV.mk, pureL, AV.pure, fillA, flt, AV.get, AV.part, D.part, partD, csN, AV.mk, pureL, AV.pure, fillA, flt, AV.get, AV.part, D.part, partD, intsOf, frText_one])
  (repeat refine And.intro (by first | omega | (simp; omega)) ?_)
  refine keep [5, 6, 7, 9, 10, 11, 13, 14] ?_
  (try simp only [c8_102, c8_46, l8_43, cw, cops, cs0, cs1, cs2, cs3, cs4, cs5, St.put, apOk, reduceIte, Nat.reduceEqDiff, reduceCtorEq, Option.getD_none, forall_const, binD, unD, inK, D.isBool, bounds, Nat.reduceAdd, Nat.reduceLT, Nat.reduceLeDiff, Nat.reduceSub, csN, AV.mk, pureL, AV.pure, fillA, flt, AV.get, AV.part, D.part, partD, csN, AV.mk, pureL, AV.pure, fillA, flt, AV.get, AV.part, D.part, partD, intsOf, frText_one])
  (repeat refine And.intro (by first | omega | (simp; omega)) ?_)
  -- CALL 26
  refine ⟨_, cIMul a b 4000 ba bb (by omega), ?_⟩
  (try simp only [l8_44, cw, cops, cs0, cs1, cs2, cs3, cs4, cs5, St.put, apOk, reduceIte, Nat.reduceEqDiff, reduceCtorEq, Option.getD_none, forall_const, binD, unD, inK, D.isBool, bounds, Nat.reduceAdd, Nat.reduceLT, Nat.reduceLeDiff, Nat.reduceSub, csN, AV.mk, pureL, AV.pure, fillA, flt, AV.get, AV.part, D.part, partD, csN, AV.mk, pureL, AV.pure, fillA, flt, AV.get, AV.part, D.part, partD, intsOf, frText_one])
  (repeat refine And.intro (by first | omega | (simp; omega)) ?_)
  -- CALL 45
  refine ⟨_, O1, ?_⟩
  (try simp only [l8_45, cw, cops, cs0, cs1, cs2, cs3, cs4, cs5, St.put, apOk, reduceIte, Nat.reduceEqDiff, reduceCtorEq, Option.getD_none, forall_const, binD, unD, inK, D.isBool, bounds, Nat.reduceAdd, Nat.reduceLT, Nat.reduceLeDiff, Nat.reduceSub, csN, AV.mk, pureL, AV.pure, fillA, flt, AV.get, AV.part, D.part, partD, csN, AV.mk, pureL, AV.pure, fillA, flt, AV.get, AV.part, D.part, partD, intsOf, frText_one])
  (repeat refine And.intro (by first | omega | (simp; omega)) ?_)
  refine keep [5, 6, 7, 9, 10, 11, 15, 16] ?_
  (try simp only [c8_101, c8_50, l8_47, cw, cops, cs0, cs1, cs2, cs3, cs4, cs5, St.put, apOk, reduceIte, Nat.reduceEqDiff, reduceCtorEq, Option.getD_none, forall_const, binD, unD, inK, D.isBool, bounds, Nat.reduceAdd, Nat.reduceLT, Nat.reduceLeDiff, Nat.reduceSub, csN, AV.mk, pureL, AV.pure, fillA, flt, AV.get, AV.part, D.part, partD, csN, AV.mk, pureL, AV.pure, fillA, flt, AV.get, AV.part, D.part, partD, intsOf, frText_one])
  (repeat refine And.intro (by first | omega | (simp; omega)) ?_)
  -- CALL 27
  refine ⟨_, cZMul a b 4000 ba bb (by omega), ?_⟩
  (try simp only [l8_48, cw, cops, cs0, cs1, cs2, cs3, cs4, cs5, St.put, apOk, reduceIte, Nat.reduceEqDiff, reduceCtorEq, Option.getD_none, forall_const, binD, unD, inK, D.isBool, bounds, Nat.reduceAdd, Nat.reduceLT, Nat.reduceLeDiff, Nat.reduceSub, csN, AV.mk, pureL, AV.pure, fillA, flt, AV.get, AV.part, D.part, partD, csN, AV.mk, pureL, AV.pure, fillA, flt, AV.get, AV.part, D.part, partD, intsOf, frText_one])
  (repeat refine And.intro (by first | omega | (simp; omega)) ?_)
  -- CALL 46
  refine ⟨_, O2, ?_⟩
  (try simp only [l8_49, cw, cops, cs0, cs1, cs2, cs3, cs4, cs5, St.put, apOk, reduceIte, Nat.reduceEqDiff, reduceCtorEq, Option.getD_none, forall_const, binD, unD, inK, D.isBool, bounds, Nat.reduceAdd, Nat.reduceLT, Nat.reduceLeDiff, Nat.reduceSub, csN, AV.mk, pureL, AV.pure, fillA, flt, AV.get, AV.part, D.part, partD, csN, AV.mk, pureL, AV.pure, fillA, flt, AV.get, AV.part, D.part, partD, intsOf, frText_one])
  (repeat refine And.intro (by first | omega | (simp; omega)) ?_)
  refine keep [5, 6, 7, 9, 10, 11, 15, 16, 17, 18] ?_
  (try simp only [c8_100, c8_53, l8_51, cw, cops, cs0, cs1, cs2, cs3, cs4, cs5, St.put, apOk, reduceIte, Nat.reduceEqDiff, reduceCtorEq, Option.getD_none, forall_const, binD, unD, inK, D.isBool, bounds, Nat.reduceAdd, Nat.reduceLT, Nat.reduceLeDiff, Nat.reduceSub, csN, AV.mk, pureL, AV.pure, fillA, flt, AV.get, AV.part, D.part, partD, csN, AV.mk, pureL, AV.pure, fillA, flt, AV.get, AV.part, D.part, partD, intsOf, frText_one])
  (repeat refine And.intro (by first | omega | (simp; omega)) ?_)
  -- CALL 47
  refine ⟨_, U1, ?_⟩
  (try simp only [l8_52, cw, cops, cs0, cs1, cs2, cs3, cs4, cs5, St.put, apOk, reduceIte, Nat.reduceEqDiff, reduceCtorEq, Option.getD_none, forall_const, binD, unD, inK, D.isBool, bounds, Nat.reduceAdd, Nat.reduceLT, Nat.reduceLeDiff, Nat.reduceSub, csN, AV.mk, pureL, AV.pure, fillA, flt, AV.get, AV.part, D.part, partD, csN, AV.mk, pureL, AV.pure, fillA, flt, AV.get, AV.part, D.part, partD, intsOf, frText_one])
  (repeat refine And.intro (by first | omega | (simp; omega)) ?_)
  refine keep [5, 6, 7, 9, 10, 11, 15, 16, 17, 18, 19] ?_
  (try simp only [c8_99, c8_56, l8_54, cw, cops, cs0, cs1, cs2, cs3, cs4, cs5, St.put, apOk, reduceIte, Nat.reduceEqDiff, reduceCtorEq, Option.getD_none, forall_const, binD, unD, inK, D.isBool, bounds, Nat.reduceAdd, Nat.reduceLT, Nat.reduceLeDiff, Nat.reduceSub, csN, AV.mk, pureL, AV.pure, fillA, flt, AV.get, AV.part, D.part, partD, csN, AV.mk, pureL, AV.pure, fillA, flt, AV.get, AV.part, D.part, partD, intsOf, frText_one])
  (repeat refine And.intro (by first | omega | (simp; omega)) ?_)
  -- CALL 48
  refine ⟨_, U2, ?_⟩
  (try simp only [l8_55, cw, cops, cs0, cs1, cs2, cs3, cs4, cs5, St.put, apOk, reduceIte, Nat.reduceEqDiff, reduceCtorEq, Option.getD_none, forall_const, binD, unD, inK, D.isBool, bounds, Nat.reduceAdd, Nat.reduceLT, Nat.reduceLeDiff, Nat.reduceSub, csN, AV.mk, pureL, AV.pure, fillA, flt, AV.get, AV.part, D.part, partD, csN, AV.mk, pureL, AV.pure, fillA, flt, AV.get, AV.part, D.part, partD, intsOf, frText_one])
  (repeat refine And.intro (by first | omega | (simp; omega)) ?_)
  refine keep [5, 6, 7, 9, 10, 11, 15, 16, 17, 18, 19, 20] ?_
  (try simp only [c8_98, c8_59, l8_57, cw, cops, cs0, cs1, cs2, cs3, cs4, cs5, St.put, apOk, reduceIte, Nat.reduceEqDiff, reduceCtorEq, Option.getD_none, forall_const, binD, unD, inK, D.isBool, bounds, Nat.reduceAdd, Nat.reduceLT, Nat.reduceLeDiff, Nat.reduceSub, csN, AV.mk, pureL, AV.pure, fillA, flt, AV.get, AV.part, D.part, partD, csN, AV.mk, pureL, AV.pure, fillA, flt, AV.get, AV.part, D.part, partD, intsOf, frText_one])
  (repeat refine And.intro (by first | omega | (simp; omega)) ?_)
  -- CALL 32
  refine ⟨_, cDivZ a b 4000 ba bb (by omega) hb0, ?_⟩
  (try simp only [l8_58, cw, cops, cs0, cs1, cs2, cs3, cs4, cs5, St.put, apOk, reduceIte, Nat.reduceEqDiff, reduceCtorEq, Option.getD_none, forall_const, binD, unD, inK, D.isBool, bounds, Nat.reduceAdd, Nat.reduceLT, Nat.reduceLeDiff, Nat.reduceSub, csN, AV.mk, pureL, AV.pure, fillA, flt, AV.get, AV.part, D.part, partD, csN, AV.mk, pureL, AV.pure, fillA, flt, AV.get, AV.part, D.part, partD, intsOf, frText_one])
  (repeat refine And.intro (by first | omega | (simp; omega)) ?_)
  refine keep [5, 6, 7, 9, 10, 11, 15, 16, 17, 18, 19, 20, 21] ?_
  (try simp only [c8_97, c8_75, c8_70, l8_60, cw, cops, cs0, cs1, cs2, cs3, cs4, cs5, St.put, apOk, reduceIte, Nat.reduceEqDiff, reduceCtorEq, Option.getD_none, forall_const, binD, unD, inK, D.isBool, bounds, Nat.reduceAdd, Nat.reduceLT, Nat.reduceLeDiff, Nat.reduceSub, csN, AV.mk, pureL, AV.pure, fillA, flt, AV.get, AV.part, D.part, partD, csN, AV.mk, pureL, AV.pure, fillA, flt, AV.get, AV.part, D.part, partD, intsOf, frText_one])
  (repeat refine And.intro (by first | omega | (simp; omega)) ?_)
  -- CALL 41
  refine ⟨_, cText q1 q2 9000 bq1 bq2 (by omega), ?_⟩
  (try simp only [l8_61, cw, cops, cs0, cs1, cs2, cs3, cs4, cs5, St.put, apOk, reduceIte, Nat.reduceEqDiff, reduceCtorEq, Option.getD_none, forall_const, binD, unD, inK, D.isBool, bounds, Nat.reduceAdd, Nat.reduceLT, Nat.reduceLeDiff, Nat.reduceSub, csN, AV.mk, pureL, AV.pure, fillA, flt, AV.get, AV.part, D.part, partD, csN, AV.mk, pureL, AV.pure, fillA, flt, AV.get, AV.part, D.part, partD, intsOf, frText_one])
  (repeat refine And.intro (by first | omega | (simp; omega)) ?_)
  -- CALL 42
  refine ⟨_, cTextZ q1 q2 9000 bq1 bq2 (by omega), ?_⟩
  (try simp only [l8_62, cw, cops, cs0, cs1, cs2, cs3, cs4, cs5, St.put, apOk, reduceIte, Nat.reduceEqDiff, reduceCtorEq, Option.getD_none, forall_const, binD, unD, inK, D.isBool, bounds, Nat.reduceAdd, Nat.reduceLT, Nat.reduceLeDiff, Nat.reduceSub, csN, AV.mk, pureL, AV.pure, fillA, flt, AV.get, AV.part, D.part, partD, csN, AV.mk, pureL, AV.pure, fillA, flt, AV.get, AV.part, D.part, partD, intsOf, frText_one])
  (repeat refine And.intro (by first | omega | (simp; omega)) ?_)
  -- CALL 41
  refine ⟨_, cText o1 o2 9000 bo1 bo2 (by omega), ?_⟩
  (try simp only [l8_63, cw, cops, cs0, cs1, cs2, cs3, cs4, cs5, St.put, apOk, reduceIte, Nat.reduceEqDiff, reduceCtorEq, Option.getD_none, forall_const, binD, unD, inK, D.isBool, bounds, Nat.reduceAdd, Nat.reduceLT, Nat.reduceLeDiff, Nat.reduceSub, csN, AV.mk, pureL, AV.pure, fillA, flt, AV.get, AV.part, D.part, partD, csN, AV.mk, pureL, AV.pure, fillA, flt, AV.get, AV.part, D.part, partD, intsOf, frText_one])
  (repeat refine And.intro (by first | omega | (simp; omega)) ?_)
  -- CALL 42
  refine ⟨_, cTextZ o1 o2 9000 bo1 bo2 (by omega), ?_⟩
  (try simp only [l8_64, cw, cops, cs0, cs1, cs2, cs3, cs4, cs5, St.put, apOk, reduceIte, Nat.reduceEqDiff, reduceCtorEq, Option.getD_none, forall_const, binD, unD, inK, D.isBool, bounds, Nat.reduceAdd, Nat.reduceLT, Nat.reduceLeDiff, Nat.reduceSub, csN, AV.mk, pureL, AV.pure, fillA, flt, AV.get, AV.part, D.part, partD, csN, AV.mk, pureL, AV.pure, fillA, flt, AV.get, AV.part, D.part, partD, intsOf, frText_one])
  (repeat refine And.intro (by first | omega | (simp; omega)) ?_)
  -- CALL 49
  refine ⟨_, cCmp a b c d 4000 ba bb bc bd (by omega), ?_⟩
  (try simp only [l8_65, cw, cops, cs0, cs1, cs2, cs3, cs4, cs5, St.put, apOk, reduceIte, Nat.reduceEqDiff, reduceCtorEq, Option.getD_none, forall_const, binD, unD, inK, D.isBool, bounds, Nat.reduceAdd, Nat.reduceLT, Nat.reduceLeDiff, Nat.reduceSub, csN, AV.mk, pureL, AV.pure, fillA, flt, AV.get, AV.part, D.part, partD, csN, AV.mk, pureL, AV.pure, fillA, flt, AV.get, AV.part, D.part, partD, intsOf, frText_one])
  (repeat refine And.intro (by first | omega | (simp; omega)) ?_)
  -- CALL 50
  refine ⟨_, cCmpZ a b c d 4000 ba bb bc bd (by omega), ?_⟩
  (try simp only [l8_66, cw, cops, cs0, cs1, cs2, cs3, cs4, cs5, St.put, apOk, reduceIte, Nat.reduceEqDiff, reduceCtorEq, Option.getD_none, forall_const, binD, unD, inK, D.isBool, bounds, Nat.reduceAdd, Nat.reduceLT, Nat.reduceLeDiff, Nat.reduceSub, csN, AV.mk, pureL, AV.pure, fillA, flt, AV.get, AV.part, D.part, partD, csN, AV.mk, pureL, AV.pure, fillA, flt, AV.get, AV.part, D.part, partD, intsOf, frText_one])
  (repeat refine And.intro (by first | omega | (simp; omega)) ?_)
  -- CALL 51
  refine ⟨_, cFloor a b 4000 ba bb (by omega) hb, ?_⟩
  (try simp only [l8_67, cw, cops, cs0, cs1, cs2, cs3, cs4, cs5, St.put, apOk, reduceIte, Nat.reduceEqDiff, reduceCtorEq, Option.getD_none, forall_const, binD, unD, inK, D.isBool, bounds, Nat.reduceAdd, Nat.reduceLT, Nat.reduceLeDiff, Nat.reduceSub, csN, AV.mk, pureL, AV.pure, fillA, flt, AV.get, AV.part, D.part, partD, csN, AV.mk, pureL, AV.pure, fillA, flt, AV.get, AV.part, D.part, partD, intsOf, frText_one])
  (repeat refine And.intro (by first | omega | (simp; omega)) ?_)
  -- CALL 14
  refine ⟨_, cIText (a / b) 4000 bdi (by omega), ?_⟩
  (try simp only [l8_68, cw, cops, cs0, cs1, cs2, cs3, cs4, cs5, St.put, apOk, reduceIte, Nat.reduceEqDiff, reduceCtorEq, Option.getD_none, forall_const, binD, unD, inK, D.isBool, bounds, Nat.reduceAdd, Nat.reduceLT, Nat.reduceLeDiff, Nat.reduceSub, csN, AV.mk, pureL, AV.pure, fillA, flt, AV.get, AV.part, D.part, partD, csN, AV.mk, pureL, AV.pure, fillA, flt, AV.get, AV.part, D.part, partD, intsOf, frText_one])
  (repeat refine And.intro (by first | omega | (simp; omega)) ?_)
  -- CALL 15
  refine ⟨_, cZText (a / b) 4000 bdi (by omega), ?_⟩
  (try simp only [l8_69, cw, cops, cs0, cs1, cs2, cs3, cs4, cs5, St.put, apOk, reduceIte, Nat.reduceEqDiff, reduceCtorEq, Option.getD_none, forall_const, binD, unD, inK, D.isBool, bounds, Nat.reduceAdd, Nat.reduceLT, Nat.reduceLeDiff, Nat.reduceSub, csN, AV.mk, pureL, AV.pure, fillA, flt, AV.get, AV.part, D.part, partD, csN, AV.mk, pureL, AV.pure, fillA, flt, AV.get, AV.part, D.part, partD, intsOf, frText_one])
  (repeat refine And.intro (by first | omega | (simp; omega)) ?_)
  refine keep [5, 7, 9, 11, 176] ?_
  (try simp only [c8_74, cw, cops, cs0, cs1, cs2, cs3, cs4, cs5, St.put, apOk, reduceIte, Nat.reduceEqDiff, reduceCtorEq, Option.getD_none, forall_const, binD, unD, inK, D.isBool, bounds, Nat.reduceAdd, Nat.reduceLT, Nat.reduceLeDiff, Nat.reduceSub, csN, AV.mk, pureL, AV.pure, fillA, flt, AV.get, AV.part, D.part, partD, csN, AV.mk, pureL, AV.pure, fillA, flt, AV.get, AV.part, D.part, partD, intsOf, frText_one])
  (repeat refine And.intro (by first | omega | (simp; omega)) ?_)
  -- TEST (.t 176)
  -- skip
  (try simp only [cw, cops, cs0, cs1, cs2, cs3, cs4, cs5, St.put, apOk, reduceIte, Nat.reduceEqDiff, reduceCtorEq, Option.getD_none, forall_const, binD, unD, inK, D.isBool, bounds, Nat.reduceAdd, Nat.reduceLT, Nat.reduceLeDiff, Nat.reduceSub, csN, AV.mk, pureL, AV.pure, fillA, flt, AV.get, AV.part, D.part, partD, csN, AV.mk, pureL, AV.pure, fillA, flt, AV.get, AV.part, D.part, partD, intsOf, frText_one])
  (repeat refine And.intro (by first | omega | (simp; omega)) ?_)
  refine keep [5, 7, 9, 11] ?_
  (try simp only [c8_96, c8_95, l8_76, cw, cops, cs0, cs1, cs2, cs3, cs4, cs5, St.put, apOk, reduceIte, Nat.reduceEqDiff, reduceCtorEq, Option.getD_none, forall_const, binD, unD, inK, D.isBool, bounds, Nat.reduceAdd, Nat.reduceLT, Nat.reduceLeDiff, Nat.reduceSub, csN, AV.mk, pureL, AV.pure, fillA, flt, AV.get, AV.part, D.part, partD, csN, AV.mk, pureL, AV.pure, fillA, flt, AV.get, AV.part, D.part, partD, intsOf, frText_one])
  (repeat refine And.intro (by first | omega | (simp; omega)) ?_)
  -- CALL 52
  refine ⟨_, cAdd a b c d 4000 ba bb bc bd (by omega) hb hd, ?_⟩
  (try simp only [l8_77, cw, cops, cs0, cs1, cs2, cs3, cs4, cs5, St.put, apOk, reduceIte, Nat.reduceEqDiff, reduceCtorEq, Option.getD_none, forall_const, binD, unD, inK, D.isBool, bounds, Nat.reduceAdd, Nat.reduceLT, Nat.reduceLeDiff, Nat.reduceSub, csN, AV.mk, pureL, AV.pure, fillA, flt, AV.get, AV.part, D.part, partD, csN, AV.mk, pureL, AV.pure, fillA, flt, AV.get, AV.part, D.part, partD, intsOf, frText_one])
  (repeat refine And.intro (by first | omega | (simp; omega)) ?_)
  -- CALL 41
  refine ⟨_, cText _ _ 9000 (frN_bt bad) (frD_bt bbd) (by omega), ?_⟩
  (try simp only [l8_78, cw, cops, cs0, cs1, cs2, cs3, cs4, cs5, St.put, apOk, reduceIte, Nat.reduceEqDiff, reduceCtorEq, Option.getD_none, forall_const, binD, unD, inK, D.isBool, bounds, Nat.reduceAdd, Nat.reduceLT, Nat.reduceLeDiff, Nat.reduceSub, csN, AV.mk, pureL, AV.pure, fillA, flt, AV.get, AV.part, D.part, partD, csN, AV.mk, pureL, AV.pure, fillA, flt, AV.get, AV.part, D.part, partD, intsOf, frText_one])
  (repeat refine And.intro (by first | omega | (simp; omega)) ?_)
  -- CALL 53
  refine ⟨_, cAddZ a b c d 4000 ba bb bc bd (by omega) hb hd, ?_⟩
  (try simp only [l8_79, cw, cops, cs0, cs1, cs2, cs3, cs4, cs5, St.put, apOk, reduceIte, Nat.reduceEqDiff, reduceCtorEq, Option.getD_none, forall_const, binD, unD, inK, D.isBool, bounds, Nat.reduceAdd, Nat.reduceLT, Nat.reduceLeDiff, Nat.reduceSub, csN, AV.mk, pureL, AV.pure, fillA, flt, AV.get, AV.part, D.part, partD, csN, AV.mk, pureL, AV.pure, fillA, flt, AV.get, AV.part, D.part, partD, intsOf, frText_one])
  (repeat refine And.intro (by first | omega | (simp; omega)) ?_)
  -- CALL 42
  refine ⟨_, cTextZ _ _ 9000 (frN_bt bad) (frD_bt bbd) (by omega), ?_⟩
  (try simp only [l8_80, cw, cops, cs0, cs1, cs2, cs3, cs4, cs5, St.put, apOk, reduceIte, Nat.reduceEqDiff, reduceCtorEq, Option.getD_none, forall_const, binD, unD, inK, D.isBool, bounds, Nat.reduceAdd, Nat.reduceLT, Nat.reduceLeDiff, Nat.reduceSub, csN, AV.mk, pureL, AV.pure, fillA, flt, AV.get, AV.part, D.part, partD, csN, AV.mk, pureL, AV.pure, fillA, flt, AV.get, AV.part, D.part, partD, intsOf, frText_one])
  (repeat refine And.intro (by first | omega | (simp; omega)) ?_)
  -- CALL 54
  refine ⟨_, cSub a b c d 4000 ba bb bc bd (by omega) hb hd, ?_⟩
  (try simp only [l8_81, cw, cops, cs0, cs1, cs2, cs3, cs4, cs5, St.put, apOk, reduceIte, Nat.reduceEqDiff, reduceCtorEq, Option.getD_none, forall_const, binD, unD, inK, D.isBool, bounds, Nat.reduceAdd, Nat.reduceLT, Nat.reduceLeDiff, Nat.reduceSub, csN, AV.mk, pureL, AV.pure, fillA, flt, AV.get, AV.part, D.part, partD, csN, AV.mk, pureL, AV.pure, fillA, flt, AV.get, AV.part, D.part, partD, intsOf, frText_one])
  (repeat refine And.intro (by first | omega | (simp; omega)) ?_)
  -- CALL 41
  refine ⟨_, cText _ _ 9000 (frN_bt bsu) (frD_bt bbd) (by omega), ?_⟩
  (try simp only [l8_82, cw, cops, cs0, cs1, cs2, cs3, cs4, cs5, St.put, apOk, reduceIte, Nat.reduceEqDiff, reduceCtorEq, Option.getD_none, forall_const, binD, unD, inK, D.isBool, bounds, Nat.reduceAdd, Nat.reduceLT, Nat.reduceLeDiff, Nat.reduceSub, csN, AV.mk, pureL, AV.pure, fillA, flt, AV.get, AV.part, D.part, partD, csN, AV.mk, pureL, AV.pure, fillA, flt, AV.get, AV.part, D.part, partD, intsOf, frText_one])
  (repeat refine And.intro (by first | omega | (simp; omega)) ?_)
  -- CALL 55
  refine ⟨_, cSubZ a b c d 4000 ba bb bc bd (by omega) hb hd, ?_⟩
  (try simp only [l8_83, cw, cops, cs0, cs1, cs2, cs3, cs4, cs5, St.put, apOk, reduceIte, Nat.reduceEqDiff, reduceCtorEq, Option.getD_none, forall_const, binD, unD, inK, D.isBool, bounds, Nat.reduceAdd, Nat.reduceLT, Nat.reduceLeDiff, Nat.reduceSub, csN, AV.mk, pureL, AV.pure, fillA, flt, AV.get, AV.part, D.part, partD, csN, AV.mk, pureL, AV.pure, fillA, flt, AV.get, AV.part, D.part, partD, intsOf, frText_one])
  (repeat refine And.intro (by first | omega | (simp; omega)) ?_)
  -- CALL 42
  refine ⟨_, cTextZ _ _ 9000 (frN_bt bsu) (frD_bt bbd) (by omega), ?_⟩
  (try simp only [l8_84, cw, cops, cs0, cs1, cs2, cs3, cs4, cs5, St.put, apOk, reduceIte, Nat.reduceEqDiff, reduceCtorEq, Option.getD_none, forall_const, binD, unD, inK, D.isBool, bounds, Nat.reduceAdd, Nat.reduceLT, Nat.reduceLeDiff, Nat.reduceSub, csN, AV.mk, pureL, AV.pure, fillA, flt, AV.get, AV.part, D.part, partD, csN, AV.mk, pureL, AV.pure, fillA, flt, AV.get, AV.part, D.part, partD, intsOf, frText_one])
  (repeat refine And.intro (by first | omega | (simp; omega)) ?_)
  -- CALL 56
  refine ⟨_, cMul a b c d 4000 ba bb bc bd (by omega) hb hd, ?_⟩
  (try simp only [l8_85, cw, cops, cs0, cs1, cs2, cs3, cs4, cs5, St.put, apOk, reduceIte, Nat.reduceEqDiff, reduceCtorEq, Option.getD_none, forall_const, binD, unD, inK, D.isBool, bounds, Nat.reduceAdd, Nat.reduceLT, Nat.reduceLeDiff, Nat.reduceSub, csN, AV.mk, pureL, AV.pure, fillA, flt, AV.get, AV.part, D.part, partD, csN, AV.mk, pureL, AV.pure, fillA, flt, AV.get, AV.part, D.part, partD, intsOf, frText_one])
  (repeat refine And.intro (by first | omega | (simp; omega)) ?_)
  -- CALL 41
  refine ⟨_, cText _ _ 9000 (frN_bt bmu) (frD_bt bbd) (by omega), ?_⟩
  (try simp only [l8_86, cw, cops, cs0, cs1, cs2, cs3, cs4, cs5, St.put, apOk, reduceIte, Nat.reduceEqDiff, reduceCtorEq, Option.getD_none, forall_const, binD, unD, inK, D.isBool, bounds, Nat.reduceAdd, Nat.reduceLT, Nat.reduceLeDiff, Nat.reduceSub, csN, AV.mk, pureL, AV.pure, fillA, flt, AV.get, AV.part, D.part, partD, csN, AV.mk, pureL, AV.pure, fillA, flt, AV.get, AV.part, D.part, partD, intsOf, frText_one])
  (repeat refine And.intro (by first | omega | (simp; omega)) ?_)
  -- CALL 57
  refine ⟨_, cMulZ a b c d 4000 ba bb bc bd (by omega) hb hd, ?_⟩
  (try simp only [l8_87, cw, cops, cs0, cs1, cs2, cs3, cs4, cs5, St.put, apOk, reduceIte, Nat.reduceEqDiff, reduceCtorEq, Option.getD_none, forall_const, binD, unD, inK, D.isBool, bounds, Nat.reduceAdd, Nat.reduceLT, Nat.reduceLeDiff, Nat.reduceSub, csN, AV.mk, pureL, AV.pure, fillA, flt, AV.get, AV.part, D.part, partD, csN, AV.mk, pureL, AV.pure, fillA, flt, AV.get, AV.part, D.part, partD, intsOf, frText_one])
  (repeat refine And.intro (by first | omega | (simp; omega)) ?_)
  -- CALL 42
  refine ⟨_, cTextZ _ _ 9000 (frN_bt bmu) (frD_bt bbd) (by omega), ?_⟩
  (try simp only [l8_88, cw, cops, cs0, cs1, cs2, cs3, cs4, cs5, St.put, apOk, reduceIte, Nat.reduceEqDiff, reduceCtorEq, Option.getD_none, forall_const, binD, unD, inK, D.isBool, bounds, Nat.reduceAdd, Nat.reduceLT, Nat.reduceLeDiff, Nat.reduceSub, csN, AV.mk, pureL, AV.pure, fillA, flt, AV.get, AV.part, D.part, partD, csN, AV.mk, pureL, AV.pure, fillA, flt, AV.get, AV.part, D.part, partD, intsOf, frText_one])
  (repeat refine And.intro (by first | omega | (simp; omega)) ?_)
  -- CALL 58
  refine ⟨_, cNeg a b 4000 ba bb (by omega), ?_⟩
  (try simp only [l8_89, cw, cops, cs0, cs1, cs2, cs3, cs4, cs5, St.put, apOk, reduceIte, Nat.reduceEqDiff, reduceCtorEq, Option.getD_none, forall_const, binD, unD, inK, D.isBool, bounds, Nat.reduceAdd, Nat.reduceLT, Nat.reduceLeDiff, Nat.reduceSub, csN, AV.mk, pureL, AV.pure, fillA, flt, AV.get, AV.part, D.part, partD, csN, AV.mk, pureL, AV.pure, fillA, flt, AV.get, AV.part, D.part, partD, intsOf, frText_one])
  (repeat refine And.intro (by first | omega | (simp; omega)) ?_)
  -- CALL 41
  refine ⟨_, cText (-a) b 4000 ba.neg bb (by omega), ?_⟩
  (try simp only [l8_90, cw, cops, cs0, cs1, cs2, cs3, cs4, cs5, St.put, apOk, reduceIte, Nat.reduceEqDiff, reduceCtorEq, Option.getD_none, forall_const, binD, unD, inK, D.isBool, bounds, Nat.reduceAdd, Nat.reduceLT, Nat.reduceLeDiff, Nat.reduceSub, csN, AV.mk, pureL, AV.pure, fillA, flt, AV.get, AV.part, D.part, partD, csN, AV.mk, pureL, AV.pure, fillA, flt, AV.get, AV.part, D.part, partD, intsOf, frText_one])
  (repeat refine And.intro (by first | omega | (simp; omega)) ?_)
  -- CALL 59
  refine ⟨_, cNegZ a b 4000 ba bb (by omega), ?_⟩
  (try simp only [l8_91, cw, cops, cs0, cs1, cs2, cs3, cs4, cs5, St.put, apOk, reduceIte, Nat.reduceEqDiff, reduceCtorEq, Option.getD_none, forall_const, binD, unD, inK, D.isBool, bounds, Nat.reduceAdd, Nat.reduceLT, Nat.reduceLeDiff, Nat.reduceSub, csN, AV.mk, pureL, AV.pure, fillA, flt, AV.get, AV.part, D.part, partD, csN, AV.mk, pureL, AV.pure, fillA, flt, AV.get, AV.part, D.part, partD, intsOf, frText_one])
  (repeat refine And.intro (by first | omega | (simp; omega)) ?_)
  -- CALL 42
  refine ⟨_, cTextZ (-a) b 4000 ba.neg bb (by omega), ?_⟩
  (try simp only [l8_92, cw, cops, cs0, cs1, cs2, cs3, cs4, cs5, St.put, apOk, reduceIte, Nat.reduceEqDiff, reduceCtorEq, Option.getD_none, forall_const, binD, unD, inK, D.isBool, bounds, Nat.reduceAdd, Nat.reduceLT, Nat.reduceLeDiff, Nat.reduceSub, csN, AV.mk, pureL, AV.pure, fillA, flt, AV.get, AV.part, D.part, partD, csN, AV.mk, pureL, AV.pure, fillA, flt, AV.get, AV.part, D.part, partD, intsOf, frText_one])
  (repeat refine And.intro (by first | omega | (simp; omega)) ?_)
  -- CALL 60
  refine ⟨_, cSign a b 4000 ba bb (by omega), ?_⟩
  (try simp only [l8_93, cw, cops, cs0, cs1, cs2, cs3, cs4, cs5, St.put, apOk, reduceIte, Nat.reduceEqDiff, reduceCtorEq, Option.getD_none, forall_const, binD, unD, inK, D.isBool, bounds, Nat.reduceAdd, Nat.reduceLT, Nat.reduceLeDiff, Nat.reduceSub, csN, AV.mk, pureL, AV.pure, fillA, flt, AV.get, AV.part, D.part, partD, csN, AV.mk, pureL, AV.pure, fillA, flt, AV.get, AV.part, D.part, partD, intsOf, frText_one])
  (repeat refine And.intro (by first | omega | (simp; omega)) ?_)
  -- CALL 61
  refine ⟨_, cSignZ a b 4000 ba bb (by omega), ?_⟩
  (try simp only [l8_94, cw, cops, cs0, cs1, cs2, cs3, cs4, cs5, St.put, apOk, reduceIte, Nat.reduceEqDiff, reduceCtorEq, Option.getD_none, forall_const, binD, unD, inK, D.isBool, bounds, Nat.reduceAdd, Nat.reduceLT, Nat.reduceLeDiff, Nat.reduceSub, csN, AV.mk, pureL, AV.pure, fillA, flt, AV.get, AV.part, D.part, partD, csN, AV.mk, pureL, AV.pure, fillA, flt, AV.get, AV.part, D.part, partD, intsOf, frText_one])
  (repeat refine And.intro (by first | omega | (simp; omega)) ?_)
  refine keep [4] ?_
  (try simp only [cw, cops, cs0, cs1, cs2, cs3, cs4, cs5, St.put, apOk, reduceIte, Nat.reduceEqDiff, reduceCtorEq, Option.getD_none, forall_const, binD, unD, inK, D.isBool, bounds, Nat.reduceAdd, Nat.reduceLT, Nat.reduceLeDiff, Nat.reduceSub, csN, AV.mk, pureL, AV.pure, fillA, flt, AV.get, AV.part, D.part, partD, csN, AV.mk, pureL, AV.pure, fillA, flt, AV.get, AV.part, D.part, partD, intsOf, frText_one, Ends, resD, resL, resV])
  (repeat refine And.intro (by first | omega | (simp; omega)) ?_)
  -- RETURN

theorem fracs_any (t u : List UInt8) (w : World) (ht : t.length ≤ 9223372036854775807) (hu : u.length ≤ 9223372036854775807) :
    Calls Try.prog 8 #[.string (bs t), .string (bs u)] w (fun e w' => e = .returned (.bool true) ∧ Ext w w') := by
  refine (fracs_con t u ht hu (fun _ => False) w _ (fun _ h => h.elim) (fun _ h => h.elim) rfl ?_).mono ?_
  · intro i e he
    match i, he with
    | 0, he => simp at he; subst he; exact V_str t
    | 1, he => simp at he; subst he; exact V_str u
    | i + 2, he => simp at he
  · rintro e w' ⟨v, rfl, hv, hext⟩
    rw [bool_V hv]
    exact ⟨rfl, hext⟩

end Go.Proofs.Ytbbidekjbgjooaa.M
