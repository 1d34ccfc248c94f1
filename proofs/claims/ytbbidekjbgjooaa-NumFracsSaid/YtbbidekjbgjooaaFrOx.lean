/- What is reckoned with fractions, in the small machine's words. -/
import Derived.Test.YtbbidekjbgjooaaMZx
import Derived.Test.YtbbidekjbgjooaaFrCCx
namespace Go.Proofs.Ytbbidekjbgjooaa.M
open Go.RowKit
set_option linter.unusedSimpArgs false
set_option linter.unusedVariables false

theorem fold_I (z : Int) : D.agg [hI z, lI z] = encI z := rfl
theorem fold_FI (a b : Int) : D.agg [hI a, lI a, hI (b - 1), lI (b - 1)] = encFI a b := rfl
-- more
set_option maxHeartbeats 2000000 in
theorem cAdd (a b c d : Int) (n : Nat) (ba : Bt a n) (bb : Bt b n) (bc : Bt c n) (bd : Bt d n) (hn : n ≤ 100000000) (hb : 0 < b) (hd : 0 < d) : Con Try.prog AN 52 [encFI a b, encFI c d] (encFI (frN (a * d + c * b) (b * d)) (frD (a * d + c * b) (b * d))) := by
  have h1 : Bt (a * d) (n + n) := ba.mul bd
  have h2 : Bt (c * b) (n + n) := bc.mul bb
  have h3 : Bt (a * d + c * b) (n + n + 1) := h1.add h2
  have h4 : Bt (b * d) (n + n + 1) := (bb.mul bd).mono (by omega)
  have h5 : b * d ≠ 0 := Int.ne_of_gt (Int.mul_pos hb hd)
  refine fn52.con rfl (by simp) ?_
  (try simp only [init2, c52, c52_14, c52_1, l52_0, cw, cops, cs0, cs1, cs2, cs3, cs4, cs5, St.put, apOk, reduceIte, Nat.reduceEqDiff, reduceCtorEq, Option.getD_none, forall_const, binD, unD, inK, D.isBool, bounds, Nat.reduceAdd, Nat.reduceLT, Nat.reduceLeDiff, Nat.reduceSub, csN, AV.mk, pureL, AV.pure, fillA, flt, AV.get, AV.part, D.part, partD, fold_I, fold_FI])
  (repeat refine And.intro (by first | omega | (simp; omega)) ?_)
  refine keep [2, 3, 4] ?_
  (try simp only [c52_13, c52_12, l52_2, cw, cops, cs0, cs1, cs2, cs3, cs4, cs5, St.put, apOk, reduceIte, Nat.reduceEqDiff, reduceCtorEq, Option.getD_none, forall_const, binD, unD, inK, D.isBool, bounds, Nat.reduceAdd, Nat.reduceLT, Nat.reduceLeDiff, Nat.reduceSub, csN, AV.mk, pureL, AV.pure, fillA, flt, AV.get, AV.part, D.part, partD, fold_I, fold_FI])
  (repeat refine And.intro (by first | omega | (simp; omega)) ?_)
  -- CALL 85
  refine ⟨_, cBelow c d n bc bd hn, ?_⟩
  (try simp only [l52_3, cw, cops, cs0, cs1, cs2, cs3, cs4, cs5, St.put, apOk, reduceIte, Nat.reduceEqDiff, reduceCtorEq, Option.getD_none, forall_const, binD, unD, inK, D.isBool, bounds, Nat.reduceAdd, Nat.reduceLT, Nat.reduceLeDiff, Nat.reduceSub, csN, AV.mk, pureL, AV.pure, fillA, flt, AV.get, AV.part, D.part, partD, fold_I, fold_FI])
  (repeat refine And.intro (by first | omega | (simp; omega)) ?_)
  -- CALL 26
  refine ⟨_, cIMul a d n ba bd (by omega), ?_⟩
  (try simp only [l52_4, cw, cops, cs0, cs1, cs2, cs3, cs4, cs5, St.put, apOk, reduceIte, Nat.reduceEqDiff, reduceCtorEq, Option.getD_none, forall_const, binD, unD, inK, D.isBool, bounds, Nat.reduceAdd, Nat.reduceLT, Nat.reduceLeDiff, Nat.reduceSub, csN, AV.mk, pureL, AV.pure, fillA, flt, AV.get, AV.part, D.part, partD, fold_I, fold_FI])
  (repeat refine And.intro (by first | omega | (simp; omega)) ?_)
  -- CALL 85
  refine ⟨_, cBelow a b n ba bb hn, ?_⟩
  (try simp only [l52_5, cw, cops, cs0, cs1, cs2, cs3, cs4, cs5, St.put, apOk, reduceIte, Nat.reduceEqDiff, reduceCtorEq, Option.getD_none, forall_const, binD, unD, inK, D.isBool, bounds, Nat.reduceAdd, Nat.reduceLT, Nat.reduceLeDiff, Nat.reduceSub, csN, AV.mk, pureL, AV.pure, fillA, flt, AV.get, AV.part, D.part, partD, fold_I, fold_FI])
  (repeat refine And.intro (by first | omega | (simp; omega)) ?_)
  -- CALL 26
  refine ⟨_, cIMul c b n bc bb (by omega), ?_⟩
  (try simp only [l52_6, cw, cops, cs0, cs1, cs2, cs3, cs4, cs5, St.put, apOk, reduceIte, Nat.reduceEqDiff, reduceCtorEq, Option.getD_none, forall_const, binD, unD, inK, D.isBool, bounds, Nat.reduceAdd, Nat.reduceLT, Nat.reduceLeDiff, Nat.reduceSub, csN, AV.mk, pureL, AV.pure, fillA, flt, AV.get, AV.part, D.part, partD, fold_I, fold_FI])
  (repeat refine And.intro (by first | omega | (simp; omega)) ?_)
  -- CALL 22
  refine ⟨_, cIAdd _ _ (n + n) h1 h2 (by omega), ?_⟩
  (try simp only [l52_7, cw, cops, cs0, cs1, cs2, cs3, cs4, cs5, St.put, apOk, reduceIte, Nat.reduceEqDiff, reduceCtorEq, Option.getD_none, forall_const, binD, unD, inK, D.isBool, bounds, Nat.reduceAdd, Nat.reduceLT, Nat.reduceLeDiff, Nat.reduceSub, csN, AV.mk, pureL, AV.pure, fillA, flt, AV.get, AV.part, D.part, partD, fold_I, fold_FI])
  (repeat refine And.intro (by first | omega | (simp; omega)) ?_)
  -- CALL 85
  refine ⟨_, cBelow a b n ba bb hn, ?_⟩
  (try simp only [l52_8, cw, cops, cs0, cs1, cs2, cs3, cs4, cs5, St.put, apOk, reduceIte, Nat.reduceEqDiff, reduceCtorEq, Option.getD_none, forall_const, binD, unD, inK, D.isBool, bounds, Nat.reduceAdd, Nat.reduceLT, Nat.reduceLeDiff, Nat.reduceSub, csN, AV.mk, pureL, AV.pure, fillA, flt, AV.get, AV.part, D.part, partD, fold_I, fold_FI])
  (repeat refine And.intro (by first | omega | (simp; omega)) ?_)
  -- CALL 85
  refine ⟨_, cBelow c d n bc bd hn, ?_⟩
  (try simp only [l52_9, cw, cops, cs0, cs1, cs2, cs3, cs4, cs5, St.put, apOk, reduceIte, Nat.reduceEqDiff, reduceCtorEq, Option.getD_none, forall_const, binD, unD, inK, D.isBool, bounds, Nat.reduceAdd, Nat.reduceLT, Nat.reduceLeDiff, Nat.reduceSub, csN, AV.mk, pureL, AV.pure, fillA, flt, AV.get, AV.part, D.part, partD, fold_I, fold_FI])
  (repeat refine And.intro (by first | omega | (simp; omega)) ?_)
  -- CALL 26
  refine ⟨_, cIMul b d n bb bd (by omega), ?_⟩
  (try simp only [l52_10, cw, cops, cs0, cs1, cs2, cs3, cs4, cs5, St.put, apOk, reduceIte, Nat.reduceEqDiff, reduceCtorEq, Option.getD_none, forall_const, binD, unD, inK, D.isBool, bounds, Nat.reduceAdd, Nat.reduceLT, Nat.reduceLeDiff, Nat.reduceSub, csN, AV.mk, pureL, AV.pure, fillA, flt, AV.get, AV.part, D.part, partD, fold_I, fold_FI])
  (repeat refine And.intro (by first | omega | (simp; omega)) ?_)
  -- CALL 83
  refine ⟨_, cLowest _ _ (n + n + 1) h3 h4 (by omega) h5, ?_⟩
  (try simp only [l52_11, cw, cops, cs0, cs1, cs2, cs3, cs4, cs5, St.put, apOk, reduceIte, Nat.reduceEqDiff, reduceCtorEq, Option.getD_none, forall_const, binD, unD, inK, D.isBool, bounds, Nat.reduceAdd, Nat.reduceLT, Nat.reduceLeDiff, Nat.reduceSub, csN, AV.mk, pureL, AV.pure, fillA, flt, AV.get, AV.part, D.part, partD, fold_I, fold_FI])
  (repeat refine And.intro (by first | omega | (simp; omega)) ?_)
  refine keep [4] ?_
  (try simp only [cw, cops, cs0, cs1, cs2, cs3, cs4, cs5, St.put, apOk, reduceIte, Nat.reduceEqDiff, reduceCtorEq, Option.getD_none, forall_const, binD, unD, inK, D.isBool, bounds, Nat.reduceAdd, Nat.reduceLT, Nat.reduceLeDiff, Nat.reduceSub, csN, AV.mk, pureL, AV.pure, fillA, flt, AV.get, AV.part, D.part, partD, fold_I, fold_FI, Ends, resD, resL, resV])
  (repeat refine And.intro (by first | omega | (simp; omega)) ?_)
  -- RETURN

set_option maxHeartbeats 2000000 in
theorem cfover (a b : Int) (n : Nat) (ba : Bt a n) (bb : Bt b n) (hn : n ≤ 1000000000) (hb0 : b ≠ 0) : Con Try.prog AN 84 [encZ a, encZ b] (encFZ (frN a b) (frD a b)) := by
  refine fn84.con rfl (by simp) ?_
  (try simp only [init2, c84, c84_9, c84_1, l84_0, cw, cops, cs0, cs1, cs2, cs3, cs4, cs5, St.put, apOk, reduceIte, Nat.reduceEqDiff, reduceCtorEq, Option.getD_none, forall_const, binD, unD, inK, D.isBool, bounds, Nat.reduceAdd, Nat.reduceLT, Nat.reduceLeDiff, Nat.reduceSub, csN, AV.mk, pureL, AV.pure, fillA, flt, AV.get, AV.part, D.part, partD, fold_I, fold_FI])
  (repeat refine And.intro (by first | omega | (simp; omega)) ?_)
  refine keep [2, 3, 4] ?_
  (try simp only [c84_8, c84_4, l84_2, cw, cops, cs0, cs1, cs2, cs3, cs4, cs5, St.put, apOk, reduceIte, Nat.reduceEqDiff, reduceCtorEq, Option.getD_none, forall_const, binD, unD, inK, D.isBool, bounds, Nat.reduceAdd, Nat.reduceLT, Nat.reduceLeDiff, Nat.reduceSub, csN, AV.mk, pureL, AV.pure, fillA, flt, AV.get, AV.part, D.part, partD, fold_I, fold_FI])
  (repeat refine And.intro (by first | omega | (simp; omega)) ?_)
  -- CALL 46
  refine ⟨_, cOverZ a b n ba bb hn hb0, ?_⟩
  (try simp only [l84_3, cw, cops, cs0, cs1, cs2, cs3, cs4, cs5, St.put, apOk, reduceIte, Nat.reduceEqDiff, reduceCtorEq, Option.getD_none, forall_const, binD, unD, inK, D.isBool, bounds, Nat.reduceAdd, Nat.reduceLT, Nat.reduceLeDiff, Nat.reduceSub, csN, AV.mk, pureL, AV.pure, fillA, flt, AV.get, AV.part, D.part, partD, fold_I, fold_FI])
  (repeat refine And.intro (by first | omega | (simp; omega)) ?_)
  refine keep [4, 5] ?_
  (try simp only [c84_7, c84_6, l84_5, cw, cops, cs0, cs1, cs2, cs3, cs4, cs5, St.put, apOk, reduceIte, Nat.reduceEqDiff, reduceCtorEq, Option.getD_none, forall_const, binD, unD, inK, D.isBool, bounds, Nat.reduceAdd, Nat.reduceLT, Nat.reduceLeDiff, Nat.reduceSub, csN, AV.mk, pureL, AV.pure, fillA, flt, AV.get, AV.part, D.part, partD, fold_I, fold_FI])
  (repeat refine And.intro (by first | omega | (simp; omega)) ?_)
  refine keep [4] ?_
  (try simp only [cw, cops, cs0, cs1, cs2, cs3, cs4, cs5, St.put, apOk, reduceIte, Nat.reduceEqDiff, reduceCtorEq, Option.getD_none, forall_const, binD, unD, inK, D.isBool, bounds, Nat.reduceAdd, Nat.reduceLT, Nat.reduceLeDiff, Nat.reduceSub, csN, AV.mk, pureL, AV.pure, fillA, flt, AV.get, AV.part, D.part, partD, fold_I, fold_FI, Ends, resD, resL, resV])
  (repeat refine And.intro (by first | omega | (simp; omega)) ?_)
  -- RETURN

set_option maxHeartbeats 2000000 in
theorem cAddZ (a b c d : Int) (n : Nat) (ba : Bt a n) (bb : Bt b n) (bc : Bt c n) (bd : Bt d n) (hn : n ≤ 100000000) (hb : 0 < b) (hd : 0 < d) : Con Try.prog AN 53 [encFZ a b, encFZ c d] (encFZ (frN (a * d + c * b) (b * d)) (frD (a * d + c * b) (b * d))) := by
  have h1 : Bt (a * d) (n + n) := ba.mul bd
  have h2 : Bt (c * b) (n + n) := bc.mul bb
  have h3 : Bt (a * d + c * b) (n + n + 1) := h1.add h2
  have h4 : Bt (b * d) (n + n + 1) := (bb.mul bd).mono (by omega)
  have h5 : b * d ≠ 0 := Int.ne_of_gt (Int.mul_pos hb hd)
  refine fn53.con rfl (by simp) ?_
  (try simp only [init2, c53, c53_10, c53_1, l53_0, cw, cops, cs0, cs1, cs2, cs3, cs4, cs5, St.put, apOk, reduceIte, Nat.reduceEqDiff, reduceCtorEq, Option.getD_none, forall_const, binD, unD, inK, D.isBool, bounds, Nat.reduceAdd, Nat.reduceLT, Nat.reduceLeDiff, Nat.reduceSub, csN, AV.mk, pureL, AV.pure, fillA, flt, AV.get, AV.part, D.part, partD, fold_I, fold_FI])
  (repeat refine And.intro (by first | omega | (simp; omega)) ?_)
  refine keep [2, 3, 4] ?_
  (try simp only [c53_9, c53_8, l53_2, cw, cops, cs0, cs1, cs2, cs3, cs4, cs5, St.put, apOk, reduceIte, Nat.reduceEqDiff, reduceCtorEq, Option.getD_none, forall_const, binD, unD, inK, D.isBool, bounds, Nat.reduceAdd, Nat.reduceLT, Nat.reduceLeDiff, Nat.reduceSub, csN, AV.mk, pureL, AV.pure, fillA, flt, AV.get, AV.part, D.part, partD, fold_I, fold_FI])
  (repeat refine And.intro (by first | omega | (simp; omega)) ?_)
  -- CALL 27
  refine ⟨_, cZMul a d n ba bd (by omega), ?_⟩
  (try simp only [l53_3, cw, cops, cs0, cs1, cs2, cs3, cs4, cs5, St.put, apOk, reduceIte, Nat.reduceEqDiff, reduceCtorEq, Option.getD_none, forall_const, binD, unD, inK, D.isBool, bounds, Nat.reduceAdd, Nat.reduceLT, Nat.reduceLeDiff, Nat.reduceSub, csN, AV.mk, pureL, AV.pure, fillA, flt, AV.get, AV.part, D.part, partD, fold_I, fold_FI])
  (repeat refine And.intro (by first | omega | (simp; omega)) ?_)
  -- CALL 27
  refine ⟨_, cZMul c b n bc bb (by omega), ?_⟩
  (try simp only [l53_4, cw, cops, cs0, cs1, cs2, cs3, cs4, cs5, St.put, apOk, reduceIte, Nat.reduceEqDiff, reduceCtorEq, Option.getD_none, forall_const, binD, unD, inK, D.isBool, bounds, Nat.reduceAdd, Nat.reduceLT, Nat.reduceLeDiff, Nat.reduceSub, csN, AV.mk, pureL, AV.pure, fillA, flt, AV.get, AV.part, D.part, partD, fold_I, fold_FI])
  (repeat refine And.intro (by first | omega | (simp; omega)) ?_)
  -- CALL 23
  refine ⟨_, cZAdd _ _ (n + n) h1 h2 (by omega), ?_⟩
  (try simp only [l53_5, cw, cops, cs0, cs1, cs2, cs3, cs4, cs5, St.put, apOk, reduceIte, Nat.reduceEqDiff, reduceCtorEq, Option.getD_none, forall_const, binD, unD, inK, D.isBool, bounds, Nat.reduceAdd, Nat.reduceLT, Nat.reduceLeDiff, Nat.reduceSub, csN, AV.mk, pureL, AV.pure, fillA, flt, AV.get, AV.part, D.part, partD, fold_I, fold_FI])
  (repeat refine And.intro (by first | omega | (simp; omega)) ?_)
  -- CALL 27
  refine ⟨_, cZMul b d n bb bd (by omega), ?_⟩
  (try simp only [l53_6, cw, cops, cs0, cs1, cs2, cs3, cs4, cs5, St.put, apOk, reduceIte, Nat.reduceEqDiff, reduceCtorEq, Option.getD_none, forall_const, binD, unD, inK, D.isBool, bounds, Nat.reduceAdd, Nat.reduceLT, Nat.reduceLeDiff, Nat.reduceSub, csN, AV.mk, pureL, AV.pure, fillA, flt, AV.get, AV.part, D.part, partD, fold_I, fold_FI])
  (repeat refine And.intro (by first | omega | (simp; omega)) ?_)
  -- CALL 84
  refine ⟨_, cfover _ _ (n + n + 1) h3 h4 (by omega) h5, ?_⟩
  (try simp only [l53_7, cw, cops, cs0, cs1, cs2, cs3, cs4, cs5, St.put, apOk, reduceIte, Nat.reduceEqDiff, reduceCtorEq, Option.getD_none, forall_const, binD, unD, inK, D.isBool, bounds, Nat.reduceAdd, Nat.reduceLT, Nat.reduceLeDiff, Nat.reduceSub, csN, AV.mk, pureL, AV.pure, fillA, flt, AV.get, AV.part, D.part, partD, fold_I, fold_FI])
  (repeat refine And.intro (by first | omega | (simp; omega)) ?_)
  refine keep [4] ?_
  (try simp only [cw, cops, cs0, cs1, cs2, cs3, cs4, cs5, St.put, apOk, reduceIte, Nat.reduceEqDiff, reduceCtorEq, Option.getD_none, forall_const, binD, unD, inK, D.isBool, bounds, Nat.reduceAdd, Nat.reduceLT, Nat.reduceLeDiff, Nat.reduceSub, csN, AV.mk, pureL, AV.pure, fillA, flt, AV.get, AV.part, D.part, partD, fold_I, fold_FI, Ends, resD, resL, resV])
  (repeat refine And.intro (by first | omega | (simp; omega)) ?_)
  -- RETURN

set_option maxHeartbeats 2000000 in
theorem cSub (a b c d : Int) (n : Nat) (ba : Bt a n) (bb : Bt b n) (bc : Bt c n) (bd : Bt d n) (hn : n ≤ 100000000) (hb : 0 < b) (hd : 0 < d) : Con Try.prog AN 54 [encFI a b, encFI c d] (encFI (frN (a * d + -c * b) (b * d)) (frD (a * d + -c * b) (b * d))) := by
  refine fn54.con rfl (by simp) ?_
  (try simp only [init2, c54, c54_7, c54_1, l54_0, cw, cops, cs0, cs1, cs2, cs3, cs4, cs5, St.put, apOk, reduceIte, Nat.reduceEqDiff, reduceCtorEq, Option.getD_none, forall_const, binD, unD, inK, D.isBool, bounds, Nat.reduceAdd, Nat.reduceLT, Nat.reduceLeDiff, Nat.reduceSub, csN, AV.mk, pureL, AV.pure, fillA, flt, AV.get, AV.part, D.part, partD, fold_I, fold_FI])
  (repeat refine And.intro (by first | omega | (simp; omega)) ?_)
  refine keep [2, 3, 4] ?_
  (try simp only [c54_6, c54_5, l54_2, cw, cops, cs0, cs1, cs2, cs3, cs4, cs5, St.put, apOk, reduceIte, Nat.reduceEqDiff, reduceCtorEq, Option.getD_none, forall_const, binD, unD, inK, D.isBool, bounds, Nat.reduceAdd, Nat.reduceLT, Nat.reduceLeDiff, Nat.reduceSub, csN, AV.mk, pureL, AV.pure, fillA, flt, AV.get, AV.part, D.part, partD, fold_I, fold_FI])
  (repeat refine And.intro (by first | omega | (simp; omega)) ?_)
  -- CALL 20
  refine ⟨_, cINeg c n bc (by omega), ?_⟩
  (try simp only [l54_3, cw, cops, cs0, cs1, cs2, cs3, cs4, cs5, St.put, apOk, reduceIte, Nat.reduceEqDiff, reduceCtorEq, Option.getD_none, forall_const, binD, unD, inK, D.isBool, bounds, Nat.reduceAdd, Nat.reduceLT, Nat.reduceLeDiff, Nat.reduceSub, csN, AV.mk, pureL, AV.pure, fillA, flt, AV.get, AV.part, D.part, partD, fold_I, fold_FI])
  (repeat refine And.intro (by first | omega | (simp; omega)) ?_)
  -- CALL 52
  refine ⟨_, cAdd a b (-c) d n ba bb bc.neg bd hn hb hd, ?_⟩
  (try simp only [l54_4, cw, cops, cs0, cs1, cs2, cs3, cs4, cs5, St.put, apOk, reduceIte, Nat.reduceEqDiff, reduceCtorEq, Option.getD_none, forall_const, binD, unD, inK, D.isBool, bounds, Nat.reduceAdd, Nat.reduceLT, Nat.reduceLeDiff, Nat.reduceSub, csN, AV.mk, pureL, AV.pure, fillA, flt, AV.get, AV.part, D.part, partD, fold_I, fold_FI])
  (repeat refine And.intro (by first | omega | (simp; omega)) ?_)
  refine keep [4] ?_
  (try simp only [cw, cops, cs0, cs1, cs2, cs3, cs4, cs5, St.put, apOk, reduceIte, Nat.reduceEqDiff, reduceCtorEq, Option.getD_none, forall_const, binD, unD, inK, D.isBool, bounds, Nat.reduceAdd, Nat.reduceLT, Nat.reduceLeDiff, Nat.reduceSub, csN, AV.mk, pureL, AV.pure, fillA, flt, AV.get, AV.part, D.part, partD, fold_I, fold_FI, Ends, resD, resL, resV])
  (repeat refine And.intro (by first | omega | (simp; omega)) ?_)
  -- RETURN

set_option maxHeartbeats 2000000 in
theorem cSubZ (a b c d : Int) (n : Nat) (ba : Bt a n) (bb : Bt b n) (bc : Bt c n) (bd : Bt d n) (hn : n ≤ 100000000) (hb : 0 < b) (hd : 0 < d) : Con Try.prog AN 55 [encFZ a b, encFZ c d] (encFZ (frN (a * d + -c * b) (b * d)) (frD (a * d + -c * b) (b * d))) := by
  refine fn55.con rfl (by simp) ?_
  (try simp only [init2, c55, c55_7, c55_1, l55_0, cw, cops, cs0, cs1, cs2, cs3, cs4, cs5, St.put, apOk, reduceIte, Nat.reduceEqDiff, reduceCtorEq, Option.getD_none, forall_const, binD, unD, inK, D.isBool, bounds, Nat.reduceAdd, Nat.reduceLT, Nat.reduceLeDiff, Nat.reduceSub, csN, AV.mk, pureL, AV.pure, fillA, flt, AV.get, AV.part, D.part, partD, fold_I, fold_FI])
  (repeat refine And.intro (by first | omega | (simp; omega)) ?_)
  refine keep [2, 3, 4] ?_
  (try simp only [c55_6, c55_5, l55_2, cw, cops, cs0, cs1, cs2, cs3, cs4, cs5, St.put, apOk, reduceIte, Nat.reduceEqDiff, reduceCtorEq, Option.getD_none, forall_const, binD, unD, inK, D.isBool, bounds, Nat.reduceAdd, Nat.reduceLT, Nat.reduceLeDiff, Nat.reduceSub, csN, AV.mk, pureL, AV.pure, fillA, flt, AV.get, AV.part, D.part, partD, fold_I, fold_FI])
  (repeat refine And.intro (by first | omega | (simp; omega)) ?_)
  -- CALL 21
  refine ⟨_, cZNeg c n bc (by omega), ?_⟩
  (try simp only [l55_3, cw, cops, cs0, cs1, cs2, cs3, cs4, cs5, St.put, apOk, reduceIte, Nat.reduceEqDiff, reduceCtorEq, Option.getD_none, forall_const, binD, unD, inK, D.isBool, bounds, Nat.reduceAdd, Nat.reduceLT, Nat.reduceLeDiff, Nat.reduceSub, csN, AV.mk, pureL, AV.pure, fillA, flt, AV.get, AV.part, D.part, partD, fold_I, fold_FI])
  (repeat refine And.intro (by first | omega | (simp; omega)) ?_)
  -- CALL 53
  refine ⟨_, cAddZ a b (-c) d n ba bb bc.neg bd hn hb hd, ?_⟩
  (try simp only [l55_4, cw, cops, cs0, cs1, cs2, cs3, cs4, cs5, St.put, apOk, reduceIte, Nat.reduceEqDiff, reduceCtorEq, Option.getD_none, forall_const, binD, unD, inK, D.isBool, bounds, Nat.reduceAdd, Nat.reduceLT, Nat.reduceLeDiff, Nat.reduceSub, csN, AV.mk, pureL, AV.pure, fillA, flt, AV.get, AV.part, D.part, partD, fold_I, fold_FI])
  (repeat refine And.intro (by first | omega | (simp; omega)) ?_)
  refine keep [4] ?_
  (try simp only [cw, cops, cs0, cs1, cs2, cs3, cs4, cs5, St.put, apOk, reduceIte, Nat.reduceEqDiff, reduceCtorEq, Option.getD_none, forall_const, binD, unD, inK, D.isBool, bounds, Nat.reduceAdd, Nat.reduceLT, Nat.reduceLeDiff, Nat.reduceSub, csN, AV.mk, pureL, AV.pure, fillA, flt, AV.get, AV.part, D.part, partD, fold_I, fold_FI, Ends, resD, resL, resV])
  (repeat refine And.intro (by first | omega | (simp; omega)) ?_)
  -- RETURN

set_option maxHeartbeats 2000000 in
theorem cMul (a b c d : Int) (n : Nat) (ba : Bt a n) (bb : Bt b n) (bc : Bt c n) (bd : Bt d n) (hn : n ≤ 100000000) (hb : 0 < b) (hd : 0 < d) : Con Try.prog AN 56 [encFI a b, encFI c d] (encFI (frN (a * c) (b * d)) (frD (a * c) (b * d))) := by
  have h3 : Bt (a * c) (n + n) := ba.mul bc
  have h4 : Bt (b * d) (n + n) := bb.mul bd
  have h5 : b * d ≠ 0 := Int.ne_of_gt (Int.mul_pos hb hd)
  refine fn56.con rfl (by simp) ?_
  (try simp only [init2, c56, c56_10, c56_1, l56_0, cw, cops, cs0, cs1, cs2, cs3, cs4, cs5, St.put, apOk, reduceIte, Nat.reduceEqDiff, reduceCtorEq, Option.getD_none, forall_const, binD, unD, inK, D.isBool, bounds, Nat.reduceAdd, Nat.reduceLT, Nat.reduceLeDiff, Nat.reduceSub, csN, AV.mk, pureL, AV.pure, fillA, flt, AV.get, AV.part, D.part, partD, fold_I, fold_FI])
  (repeat refine And.intro (by first | omega | (simp; omega)) ?_)
  refine keep [2, 3, 4] ?_
  (try simp only [c56_9, c56_8, l56_2, cw, cops, cs0, cs1, cs2, cs3, cs4, cs5, St.put, apOk, reduceIte, Nat.reduceEqDiff, reduceCtorEq, Option.getD_none, forall_const, binD, unD, inK, D.isBool, bounds, Nat.reduceAdd, Nat.reduceLT, Nat.reduceLeDiff, Nat.reduceSub, csN, AV.mk, pureL, AV.pure, fillA, flt, AV.get, AV.part, D.part, partD, fold_I, fold_FI])
  (repeat refine And.intro (by first | omega | (simp; omega)) ?_)
  -- CALL 26
  refine ⟨_, cIMul a c n ba bc (by omega), ?_⟩
  (try simp only [l56_3, cw, cops, cs0, cs1, cs2, cs3, cs4, cs5, St.put, apOk, reduceIte, Nat.reduceEqDiff, reduceCtorEq, Option.getD_none, forall_const, binD, unD, inK, D.isBool, bounds, Nat.reduceAdd, Nat.reduceLT, Nat.reduceLeDiff, Nat.reduceSub, csN, AV.mk, pureL, AV.pure, fillA, flt, AV.get, AV.part, D.part, partD, fold_I, fold_FI])
  (repeat refine And.intro (by first | omega | (simp; omega)) ?_)
  -- CALL 85
  refine ⟨_, cBelow a b n ba bb hn, ?_⟩
  (try simp only [l56_4, cw, cops, cs0, cs1, cs2, cs3, cs4, cs5, St.put, apOk, reduceIte, Nat.reduceEqDiff, reduceCtorEq, Option.getD_none, forall_const, binD, unD, inK, D.isBool, bounds, Nat.reduceAdd, Nat.reduceLT, Nat.reduceLeDiff, Nat.reduceSub, csN, AV.mk, pureL, AV.pure, fillA, flt, AV.get, AV.part, D.part, partD, fold_I, fold_FI])
  (repeat refine And.intro (by first | omega | (simp; omega)) ?_)
  -- CALL 85
  refine ⟨_, cBelow c d n bc bd hn, ?_⟩
  (try simp only [l56_5, cw, cops, cs0, cs1, cs2, cs3, cs4, cs5, St.put, apOk, reduceIte, Nat.reduceEqDiff, reduceCtorEq, Option.getD_none, forall_const, binD, unD, inK, D.isBool, bounds, Nat.reduceAdd, Nat.reduceLT, Nat.reduceLeDiff, Nat.reduceSub, csN, AV.mk, pureL, AV.pure, fillA, flt, AV.get, AV.part, D.part, partD, fold_I, fold_FI])
  (repeat refine And.intro (by first | omega | (simp; omega)) ?_)
  -- CALL 26
  refine ⟨_, cIMul b d n bb bd (by omega), ?_⟩
  (try simp only [l56_6, cw, cops, cs0, cs1, cs2, cs3, cs4, cs5, St.put, apOk, reduceIte, Nat.reduceEqDiff, reduceCtorEq, Option.getD_none, forall_const, binD, unD, inK, D.isBool, bounds, Nat.reduceAdd, Nat.reduceLT, Nat.reduceLeDiff, Nat.reduceSub, csN, AV.mk, pureL, AV.pure, fillA, flt, AV.get, AV.part, D.part, partD, fold_I, fold_FI])
  (repeat refine And.intro (by first | omega | (simp; omega)) ?_)
  -- CALL 83
  refine ⟨_, cLowest _ _ (n + n) h3 h4 (by omega) h5, ?_⟩
  (try simp only [l56_7, cw, cops, cs0, cs1, cs2, cs3, cs4, cs5, St.put, apOk, reduceIte, Nat.reduceEqDiff, reduceCtorEq, Option.getD_none, forall_const, binD, unD, inK, D.isBool, bounds, Nat.reduceAdd, Nat.reduceLT, Nat.reduceLeDiff, Nat.reduceSub, csN, AV.mk, pureL, AV.pure, fillA, flt, AV.get, AV.part, D.part, partD, fold_I, fold_FI])
  (repeat refine And.intro (by first | omega | (simp; omega)) ?_)
  refine keep [4] ?_
  (try simp only [cw, cops, cs0, cs1, cs2, cs3, cs4, cs5, St.put, apOk, reduceIte, Nat.reduceEqDiff, reduceCtorEq, Option.getD_none, forall_const, binD, unD, inK, D.isBool, bounds, Nat.reduceAdd, Nat.reduceLT, Nat.reduceLeDiff, Nat.reduceSub, csN, AV.mk, pureL, AV.pure, fillA, flt, AV.get, AV.part, D.part, partD, fold_I, fold_FI, Ends, resD, resL, resV])
  (repeat refine And.intro (by first | omega | (simp; omega)) ?_)
  -- RETURN

set_option maxHeartbeats 2000000 in
theorem cMulZ (a b c d : Int) (n : Nat) (ba : Bt a n) (bb : Bt b n) (bc : Bt c n) (bd : Bt d n) (hn : n ≤ 100000000) (hb : 0 < b) (hd : 0 < d) : Con Try.prog AN 57 [encFZ a b, encFZ c d] (encFZ (frN (a * c) (b * d)) (frD (a * c) (b * d))) := by
  have h3 : Bt (a * c) (n + n) := ba.mul bc
  have h4 : Bt (b * d) (n + n) := bb.mul bd
  have h5 : b * d ≠ 0 := Int.ne_of_gt (Int.mul_pos hb hd)
  refine fn57.con rfl (by simp) ?_
  (try simp only [init2, c57, c57_8, c57_1, l57_0, cw, cops, cs0, cs1, cs2, cs3, cs4, cs5, St.put, apOk, reduceIte, Nat.reduceEqDiff, reduceCtorEq, Option.getD_none, forall_const, binD, unD, inK, D.isBool, bounds, Nat.reduceAdd, Nat.reduceLT, Nat.reduceLeDiff, Nat.reduceSub, csN, AV.mk, pureL, AV.pure, fillA, flt, AV.get, AV.part, D.part, partD, fold_I, fold_FI])
  (repeat refine And.intro (by first | omega | (simp; omega)) ?_)
  refine keep [2, 3, 4] ?_
  (try simp only [c57_7, c57_6, l57_2, cw, cops, cs0, cs1, cs2, cs3, cs4, cs5, St.put, apOk, reduceIte, Nat.reduceEqDiff, reduceCtorEq, Option.getD_none, forall_const, binD, unD, inK, D.isBool, bounds, Nat.reduceAdd, Nat.reduceLT, Nat.reduceLeDiff, Nat.reduceSub, csN, AV.mk, pureL, AV.pure, fillA, flt, AV.get, AV.part, D.part, partD, fold_I, fold_FI])
  (repeat refine And.intro (by first | omega | (simp; omega)) ?_)
  -- CALL 27
  refine ⟨_, cZMul a c n ba bc (by omega), ?_⟩
  (try simp only [l57_3, cw, cops, cs0, cs1, cs2, cs3, cs4, cs5, St.put, apOk, reduceIte, Nat.reduceEqDiff, reduceCtorEq, Option.getD_none, forall_const, binD, unD, inK, D.isBool, bounds, Nat.reduceAdd, Nat.reduceLT, Nat.reduceLeDiff, Nat.reduceSub, csN, AV.mk, pureL, AV.pure, fillA, flt, AV.get, AV.part, D.part, partD, fold_I, fold_FI])
  (repeat refine And.intro (by first | omega | (simp; omega)) ?_)
  -- CALL 27
  refine ⟨_, cZMul b d n bb bd (by omega), ?_⟩
  (try simp only [l57_4, cw, cops, cs0, cs1, cs2, cs3, cs4, cs5, St.put, apOk, reduceIte, Nat.reduceEqDiff, reduceCtorEq, Option.getD_none, forall_const, binD, unD, inK, D.isBool, bounds, Nat.reduceAdd, Nat.reduceLT, Nat.reduceLeDiff, Nat.reduceSub, csN, AV.mk, pureL, AV.pure, fillA, flt, AV.get, AV.part, D.part, partD, fold_I, fold_FI])
  (repeat refine And.intro (by first | omega | (simp; omega)) ?_)
  -- CALL 84
  refine ⟨_, cfover _ _ (n + n) h3 h4 (by omega) h5, ?_⟩
  (try simp only [l57_5, cw, cops, cs0, cs1, cs2, cs3, cs4, cs5, St.put, apOk, reduceIte, Nat.reduceEqDiff, reduceCtorEq, Option.getD_none, forall_const, binD, unD, inK, D.isBool, bounds, Nat.reduceAdd, Nat.reduceLT, Nat.reduceLeDiff, Nat.reduceSub, csN, AV.mk, pureL, AV.pure, fillA, flt, AV.get, AV.part, D.part, partD, fold_I, fold_FI])
  (repeat refine And.intro (by first | omega | (simp; omega)) ?_)
  refine keep [4] ?_
  (try simp only [cw, cops, cs0, cs1, cs2, cs3, cs4, cs5, St.put, apOk, reduceIte, Nat.reduceEqDiff, reduceCtorEq, Option.getD_none, forall_const, binD, unD, inK, D.isBool, bounds, Nat.reduceAdd, Nat.reduceLT, Nat.reduceLeDiff, Nat.reduceSub, csN, AV.mk, pureL, AV.pure, fillA, flt, AV.get, AV.part, D.part, partD, fold_I, fold_FI, Ends, resD, resL, resV])
  (repeat refine And.intro (by first | omega | (simp; omega)) ?_)
  -- RETURN

set_option maxHeartbeats 2000000 in
theorem cCmp (a b c d : Int) (n : Nat) (ba : Bt a n) (bb : Bt b n) (bc : Bt c n) (bd : Bt d n) (hn : n ≤ 100000000) : Con Try.prog AN 49 [encFI a b, encFI c d] (.int .i64 (cmpZ (a * d) (c * b))) := by
  have h1 : Bt (a * d) (n + n) := ba.mul bd
  have h2 : Bt (c * b) (n + n) := bc.mul bb
  refine fn49.con rfl (by simp) ?_
  (try simp only [init2, c49, c49_10, c49_1, l49_0, cw, cops, cs0, cs1, cs2, cs3, cs4, cs5, St.put, apOk, reduceIte, Nat.reduceEqDiff, reduceCtorEq, Option.getD_none, forall_const, binD, unD, inK, D.isBool, bounds, Nat.reduceAdd, Nat.reduceLT, Nat.reduceLeDiff, Nat.reduceSub, csN, AV.mk, pureL, AV.pure, fillA, flt, AV.get, AV.part, D.part, partD, fold_I, fold_FI])
  (repeat refine And.intro (by first | omega | (simp; omega)) ?_)
  refine keep [2, 3] ?_
  (try simp only [c49_9, c49_8, l49_2, cw, cops, cs0, cs1, cs2, cs3, cs4, cs5, St.put, apOk, reduceIte, Nat.reduceEqDiff, reduceCtorEq, Option.getD_none, forall_const, binD, unD, inK, D.isBool, bounds, Nat.reduceAdd, Nat.reduceLT, Nat.reduceLeDiff, Nat.reduceSub, csN, AV.mk, pureL, AV.pure, fillA, flt, AV.get, AV.part, D.part, partD, fold_I, fold_FI])
  (repeat refine And.intro (by first | omega | (simp; omega)) ?_)
  -- CALL 85
  refine ⟨_, cBelow c d n bc bd hn, ?_⟩
  (try simp only [l49_3, cw, cops, cs0, cs1, cs2, cs3, cs4, cs5, St.put, apOk, reduceIte, Nat.reduceEqDiff, reduceCtorEq, Option.getD_none, forall_const, binD, unD, inK, D.isBool, bounds, Nat.reduceAdd, Nat.reduceLT, Nat.reduceLeDiff, Nat.reduceSub, csN, AV.mk, pureL, AV.pure, fillA, flt, AV.get, AV.part, D.part, partD, fold_I, fold_FI])
  (repeat refine And.intro (by first | omega | (simp; omega)) ?_)
  -- CALL 26
  refine ⟨_, cIMul a d n ba bd (by omega), ?_⟩
  (try simp only [l49_4, cw, cops, cs0, cs1, cs2, cs3, cs4, cs5, St.put, apOk, reduceIte, Nat.reduceEqDiff, reduceCtorEq, Option.getD_none, forall_const, binD, unD, inK, D.isBool, bounds, Nat.reduceAdd, Nat.reduceLT, Nat.reduceLeDiff, Nat.reduceSub, csN, AV.mk, pureL, AV.pure, fillA, flt, AV.get, AV.part, D.part, partD, fold_I, fold_FI])
  (repeat refine And.intro (by first | omega | (simp; omega)) ?_)
  -- CALL 85
  refine ⟨_, cBelow a b n ba bb hn, ?_⟩
  (try simp only [l49_5, cw, cops, cs0, cs1, cs2, cs3, cs4, cs5, St.put, apOk, reduceIte, Nat.reduceEqDiff, reduceCtorEq, Option.getD_none, forall_const, binD, unD, inK, D.isBool, bounds, Nat.reduceAdd, Nat.reduceLT, Nat.reduceLeDiff, Nat.reduceSub, csN, AV.mk, pureL, AV.pure, fillA, flt, AV.get, AV.part, D.part, partD, fold_I, fold_FI])
  (repeat refine And.intro (by first | omega | (simp; omega)) ?_)
  -- CALL 26
  refine ⟨_, cIMul c b n bc bb (by omega), ?_⟩
  (try simp only [l49_6, cw, cops, cs0, cs1, cs2, cs3, cs4, cs5, St.put, apOk, reduceIte, Nat.reduceEqDiff, reduceCtorEq, Option.getD_none, forall_const, binD, unD, inK, D.isBool, bounds, Nat.reduceAdd, Nat.reduceLT, Nat.reduceLeDiff, Nat.reduceSub, csN, AV.mk, pureL, AV.pure, fillA, flt, AV.get, AV.part, D.part, partD, fold_I, fold_FI])
  (repeat refine And.intro (by first | omega | (simp; omega)) ?_)
  -- CALL 28
  refine ⟨_, cICmp _ _ (n + n) h1 h2 (by omega), ?_⟩
  (try simp only [l49_7, cw, cops, cs0, cs1, cs2, cs3, cs4, cs5, St.put, apOk, reduceIte, Nat.reduceEqDiff, reduceCtorEq, Option.getD_none, forall_const, binD, unD, inK, D.isBool, bounds, Nat.reduceAdd, Nat.reduceLT, Nat.reduceLeDiff, Nat.reduceSub, csN, AV.mk, pureL, AV.pure, fillA, flt, AV.get, AV.part, D.part, partD, fold_I, fold_FI])
  (repeat refine And.intro (by first | omega | (simp; omega)) ?_)
  refine keep [4] ?_
  (try simp only [cw, cops, cs0, cs1, cs2, cs3, cs4, cs5, St.put, apOk, reduceIte, Nat.reduceEqDiff, reduceCtorEq, Option.getD_none, forall_const, binD, unD, inK, D.isBool, bounds, Nat.reduceAdd, Nat.reduceLT, Nat.reduceLeDiff, Nat.reduceSub, csN, AV.mk, pureL, AV.pure, fillA, flt, AV.get, AV.part, D.part, partD, fold_I, fold_FI, Ends, resD, resL, resV])
  (repeat refine And.intro (by first | omega | (simp; omega)) ?_)
  -- RETURN

set_option maxHeartbeats 2000000 in
theorem cCmpZ (a b c d : Int) (n : Nat) (ba : Bt a n) (bb : Bt b n) (bc : Bt c n) (bd : Bt d n) (hn : n ≤ 100000000) : Con Try.prog AN 50 [encFZ a b, encFZ c d] (.int .i64 (cmpZ (a * d) (c * b))) := by
  have h1 : Bt (a * d) (n + n) := ba.mul bd
  have h2 : Bt (c * b) (n + n) := bc.mul bb
  refine fn50.con rfl (by simp) ?_
  (try simp only [init2, c50, c50_8, c50_1, l50_0, cw, cops, cs0, cs1, cs2, cs3, cs4, cs5, St.put, apOk, reduceIte, Nat.reduceEqDiff, reduceCtorEq, Option.getD_none, forall_const, binD, unD, inK, D.isBool, bounds, Nat.reduceAdd, Nat.reduceLT, Nat.reduceLeDiff, Nat.reduceSub, csN, AV.mk, pureL, AV.pure, fillA, flt, AV.get, AV.part, D.part, partD, fold_I, fold_FI])
  (repeat refine And.intro (by first | omega | (simp; omega)) ?_)
  refine keep [2, 3] ?_
  (try simp only [c50_7, c50_6, l50_2, cw, cops, cs0, cs1, cs2, cs3, cs4, cs5, St.put, apOk, reduceIte, Nat.reduceEqDiff, reduceCtorEq, Option.getD_none, forall_const, binD, unD, inK, D.isBool, bounds, Nat.reduceAdd, Nat.reduceLT, Nat.reduceLeDiff, Nat.reduceSub, csN, AV.mk, pureL, AV.pure, fillA, flt, AV.get, AV.part, D.part, partD, fold_I, fold_FI])
  (repeat refine And.intro (by first | omega | (simp; omega)) ?_)
  -- CALL 27
  refine ⟨_, cZMul a d n ba bd (by omega), ?_⟩
  (try simp only [l50_3, cw, cops, cs0, cs1, cs2, cs3, cs4, cs5, St.put, apOk, reduceIte, Nat.reduceEqDiff, reduceCtorEq, Option.getD_none, forall_const, binD, unD, inK, D.isBool, bounds, Nat.reduceAdd, Nat.reduceLT, Nat.reduceLeDiff, Nat.reduceSub, csN, AV.mk, pureL, AV.pure, fillA, flt, AV.get, AV.part, D.part, partD, fold_I, fold_FI])
  (repeat refine And.intro (by first | omega | (simp; omega)) ?_)
  -- CALL 27
  refine ⟨_, cZMul c b n bc bb (by omega), ?_⟩
  (try simp only [l50_4, cw, cops, cs0, cs1, cs2, cs3, cs4, cs5, St.put, apOk, reduceIte, Nat.reduceEqDiff, reduceCtorEq, Option.getD_none, forall_const, binD, unD, inK, D.isBool, bounds, Nat.reduceAdd, Nat.reduceLT, Nat.reduceLeDiff, Nat.reduceSub, csN, AV.mk, pureL, AV.pure, fillA, flt, AV.get, AV.part, D.part, partD, fold_I, fold_FI])
  (repeat refine And.intro (by first | omega | (simp; omega)) ?_)
  -- CALL 29
  refine ⟨_, cZCmp _ _ (n + n) h1 h2 (by omega), ?_⟩
  (try simp only [l50_5, cw, cops, cs0, cs1, cs2, cs3, cs4, cs5, St.put, apOk, reduceIte, Nat.reduceEqDiff, reduceCtorEq, Option.getD_none, forall_const, binD, unD, inK, D.isBool, bounds, Nat.reduceAdd, Nat.reduceLT, Nat.reduceLeDiff, Nat.reduceSub, csN, AV.mk, pureL, AV.pure, fillA, flt, AV.get, AV.part, D.part, partD, fold_I, fold_FI])
  (repeat refine And.intro (by first | omega | (simp; omega)) ?_)
  refine keep [4] ?_
  (try simp only [cw, cops, cs0, cs1, cs2, cs3, cs4, cs5, St.put, apOk, reduceIte, Nat.reduceEqDiff, reduceCtorEq, Option.getD_none, forall_const, binD, unD, inK, D.isBool, bounds, Nat.reduceAdd, Nat.reduceLT, Nat.reduceLeDiff, Nat.reduceSub, csN, AV.mk, pureL, AV.pure, fillA, flt, AV.get, AV.part, D.part, partD, fold_I, fold_FI, Ends, resD, resL, resV])
  (repeat refine And.intro (by first | omega | (simp; omega)) ?_)
  -- RETURN

set_option maxHeartbeats 2000000 in
theorem cNeg (a b : Int) (n : Nat) (ba : Bt a n) (bb : Bt b n) (hn : n ≤ 100000000) : Con Try.prog AN 58 [encFI a b] (encFI (-a) b) := by
  refine fn58.con rfl (by simp) ?_
  (try simp only [init1, c58, c58_6, c58_1, l58_0, cw, cops, cs0, cs1, cs2, cs3, cs4, cs5, St.put, apOk, reduceIte, Nat.reduceEqDiff, reduceCtorEq, Option.getD_none, forall_const, binD, unD, inK, D.isBool, bounds, Nat.reduceAdd, Nat.reduceLT, Nat.reduceLeDiff, Nat.reduceSub, csN, AV.mk, pureL, AV.pure, fillA, flt, AV.get, AV.part, D.part, partD, fold_I, fold_FI])
  (repeat refine And.intro (by first | omega | (simp; omega)) ?_)
  refine keep [1, 2] ?_
  (try simp only [c58_5, c58_4, l58_2, cw, cops, cs0, cs1, cs2, cs3, cs4, cs5, St.put, apOk, reduceIte, Nat.reduceEqDiff, reduceCtorEq, Option.getD_none, forall_const, binD, unD, inK, D.isBool, bounds, Nat.reduceAdd, Nat.reduceLT, Nat.reduceLeDiff, Nat.reduceSub, csN, AV.mk, pureL, AV.pure, fillA, flt, AV.get, AV.part, D.part, partD, fold_I, fold_FI])
  (repeat refine And.intro (by first | omega | (simp; omega)) ?_)
  -- CALL 20
  refine ⟨_, cINeg a n ba (by omega), ?_⟩
  (try simp only [l58_3, cw, cops, cs0, cs1, cs2, cs3, cs4, cs5, St.put, apOk, reduceIte, Nat.reduceEqDiff, reduceCtorEq, Option.getD_none, forall_const, binD, unD, inK, D.isBool, bounds, Nat.reduceAdd, Nat.reduceLT, Nat.reduceLeDiff, Nat.reduceSub, csN, AV.mk, pureL, AV.pure, fillA, flt, AV.get, AV.part, D.part, partD, fold_I, fold_FI])
  (repeat refine And.intro (by first | omega | (simp; omega)) ?_)
  refine keep [2] ?_
  (try simp only [cw, cops, cs0, cs1, cs2, cs3, cs4, cs5, St.put, apOk, reduceIte, Nat.reduceEqDiff, reduceCtorEq, Option.getD_none, forall_const, binD, unD, inK, D.isBool, bounds, Nat.reduceAdd, Nat.reduceLT, Nat.reduceLeDiff, Nat.reduceSub, csN, AV.mk, pureL, AV.pure, fillA, flt, AV.get, AV.part, D.part, partD, fold_I, fold_FI, Ends, resD, resL, resV])
  (repeat refine And.intro (by first | omega | (simp; omega)) ?_)
  -- RETURN

set_option maxHeartbeats 2000000 in
theorem cNegZ (a b : Int) (n : Nat) (ba : Bt a n) (bb : Bt b n) (hn : n ≤ 100000000) : Con Try.prog AN 59 [encFZ a b] (encFZ (-a) b) := by
  refine fn59.con rfl (by simp) ?_
  (try simp only [init1, c59, c59_6, c59_1, l59_0, cw, cops, cs0, cs1, cs2, cs3, cs4, cs5, St.put, apOk, reduceIte, Nat.reduceEqDiff, reduceCtorEq, Option.getD_none, forall_const, binD, unD, inK, D.isBool, bounds, Nat.reduceAdd, Nat.reduceLT, Nat.reduceLeDiff, Nat.reduceSub, csN, AV.mk, pureL, AV.pure, fillA, flt, AV.get, AV.part, D.part, partD, fold_I, fold_FI])
  (repeat refine And.intro (by first | omega | (simp; omega)) ?_)
  refine keep [1, 2] ?_
  (try simp only [c59_5, c59_4, l59_2, cw, cops, cs0, cs1, cs2, cs3, cs4, cs5, St.put, apOk, reduceIte, Nat.reduceEqDiff, reduceCtorEq, Option.getD_none, forall_const, binD, unD, inK, D.isBool, bounds, Nat.reduceAdd, Nat.reduceLT, Nat.reduceLeDiff, Nat.reduceSub, csN, AV.mk, pureL, AV.pure, fillA, flt, AV.get, AV.part, D.part, partD, fold_I, fold_FI])
  (repeat refine And.intro (by first | omega | (simp; omega)) ?_)
  -- CALL 21
  refine ⟨_, cZNeg a n ba (by omega), ?_⟩
  (try simp only [l59_3, cw, cops, cs0, cs1, cs2, cs3, cs4, cs5, St.put, apOk, reduceIte, Nat.reduceEqDiff, reduceCtorEq, Option.getD_none, forall_const, binD, unD, inK, D.isBool, bounds, Nat.reduceAdd, Nat.reduceLT, Nat.reduceLeDiff, Nat.reduceSub, csN, AV.mk, pureL, AV.pure, fillA, flt, AV.get, AV.part, D.part, partD, fold_I, fold_FI])
  (repeat refine And.intro (by first | omega | (simp; omega)) ?_)
  refine keep [2] ?_
  (try simp only [cw, cops, cs0, cs1, cs2, cs3, cs4, cs5, St.put, apOk, reduceIte, Nat.reduceEqDiff, reduceCtorEq, Option.getD_none, forall_const, binD, unD, inK, D.isBool, bounds, Nat.reduceAdd, Nat.reduceLT, Nat.reduceLeDiff, Nat.reduceSub, csN, AV.mk, pureL, AV.pure, fillA, flt, AV.get, AV.part, D.part, partD, fold_I, fold_FI, Ends, resD, resL, resV])
  (repeat refine And.intro (by first | omega | (simp; omega)) ?_)
  -- RETURN

set_option maxHeartbeats 2000000 in
theorem cSign (a b : Int) (n : Nat) (ba : Bt a n) (bb : Bt b n) (hn : n ≤ 100000000) : Con Try.prog AN 60 [encFI a b] (.int .i64 (sgnZ a)) := by
  refine fn60.con rfl (by simp) ?_
  (try simp only [init1, c60, c60_6, c60_1, l60_0, cw, cops, cs0, cs1, cs2, cs3, cs4, cs5, St.put, apOk, reduceIte, Nat.reduceEqDiff, reduceCtorEq, Option.getD_none, forall_const, binD, unD, inK, D.isBool, bounds, Nat.reduceAdd, Nat.reduceLT, Nat.reduceLeDiff, Nat.reduceSub, csN, AV.mk, pureL, AV.pure, fillA, flt, AV.get, AV.part, D.part, partD, fold_I, fold_FI])
  (repeat refine And.intro (by first | omega | (simp; omega)) ?_)
  refine keep [1] ?_
  (try simp only [c60_5, c60_4, l60_2, cw, cops, cs0, cs1, cs2, cs3, cs4, cs5, St.put, apOk, reduceIte, Nat.reduceEqDiff, reduceCtorEq, Option.getD_none, forall_const, binD, unD, inK, D.isBool, bounds, Nat.reduceAdd, Nat.reduceLT, Nat.reduceLeDiff, Nat.reduceSub, csN, AV.mk, pureL, AV.pure, fillA, flt, AV.get, AV.part, D.part, partD, fold_I, fold_FI])
  (repeat refine And.intro (by first | omega | (simp; omega)) ?_)
  -- CALL 18
  refine ⟨_, cISign a n ba (by omega), ?_⟩
  (try simp only [l60_3, cw, cops, cs0, cs1, cs2, cs3, cs4, cs5, St.put, apOk, reduceIte, Nat.reduceEqDiff, reduceCtorEq, Option.getD_none, forall_const, binD, unD, inK, D.isBool, bounds, Nat.reduceAdd, Nat.reduceLT, Nat.reduceLeDiff, Nat.reduceSub, csN, AV.mk, pureL, AV.pure, fillA, flt, AV.get, AV.part, D.part, partD, fold_I, fold_FI])
  (repeat refine And.intro (by first | omega | (simp; omega)) ?_)
  refine keep [2] ?_
  (try simp only [cw, cops, cs0, cs1, cs2, cs3, cs4, cs5, St.put, apOk, reduceIte, Nat.reduceEqDiff, reduceCtorEq, Option.getD_none, forall_const, binD, unD, inK, D.isBool, bounds, Nat.reduceAdd, Nat.reduceLT, Nat.reduceLeDiff, Nat.reduceSub, csN, AV.mk, pureL, AV.pure, fillA, flt, AV.get, AV.part, D.part, partD, fold_I, fold_FI, Ends, resD, resL, resV])
  (repeat refine And.intro (by first | omega | (simp; omega)) ?_)
  -- RETURN

set_option maxHeartbeats 2000000 in
theorem cSignZ (a b : Int) (n : Nat) (ba : Bt a n) (bb : Bt b n) (hn : n ≤ 100000000) : Con Try.prog AN 61 [encFZ a b] (.int .i64 (sgnZ a)) := by
  refine fn61.con rfl (by simp) ?_
  (try simp only [init1, c61, c61_6, c61_1, l61_0, cw, cops, cs0, cs1, cs2, cs3, cs4, cs5, St.put, apOk, reduceIte, Nat.reduceEqDiff, reduceCtorEq, Option.getD_none, forall_const, binD, unD, inK, D.isBool, bounds, Nat.reduceAdd, Nat.reduceLT, Nat.reduceLeDiff, Nat.reduceSub, csN, AV.mk, pureL, AV.pure, fillA, flt, AV.get, AV.part, D.part, partD, fold_I, fold_FI])
  (repeat refine And.intro (by first | omega | (simp; omega)) ?_)
  refine keep [1] ?_
  (try simp only [c61_5, c61_4, l61_2, cw, cops, cs0, cs1, cs2, cs3, cs4, cs5, St.put, apOk, reduceIte, Nat.reduceEqDiff, reduceCtorEq, Option.getD_none, forall_const, binD, unD, inK, D.isBool, bounds, Nat.reduceAdd, Nat.reduceLT, Nat.reduceLeDiff, Nat.reduceSub, csN, AV.mk, pureL, AV.pure, fillA, flt, AV.get, AV.part, D.part, partD, fold_I, fold_FI])
  (repeat refine And.intro (by first | omega | (simp; omega)) ?_)
  -- CALL 72
  refine ⟨_, cZSign a n ba (by omega), ?_⟩
  (try simp only [l61_3, cw, cops, cs0, cs1, cs2, cs3, cs4, cs5, St.put, apOk, reduceIte, Nat.reduceEqDiff, reduceCtorEq, Option.getD_none, forall_const, binD, unD, inK, D.isBool, bounds, Nat.reduceAdd, Nat.reduceLT, Nat.reduceLeDiff, Nat.reduceSub, csN, AV.mk, pureL, AV.pure, fillA, flt, AV.get, AV.part, D.part, partD, fold_I, fold_FI])
  (repeat refine And.intro (by first | omega | (simp; omega)) ?_)
  refine keep [2] ?_
  (try simp only [cw, cops, cs0, cs1, cs2, cs3, cs4, cs5, St.put, apOk, reduceIte, Nat.reduceEqDiff, reduceCtorEq, Option.getD_none, forall_const, binD, unD, inK, D.isBool, bounds, Nat.reduceAdd, Nat.reduceLT, Nat.reduceLeDiff, Nat.reduceSub, csN, AV.mk, pureL, AV.pure, fillA, flt, AV.get, AV.part, D.part, partD, fold_I, fold_FI, Ends, resD, resL, resV])
  (repeat refine And.intro (by first | omega | (simp; omega)) ?_)
  -- RETURN

set_option maxHeartbeats 2000000 in
theorem cQuoZ (a b c d : Int) (n : Nat) (ba : Bt a n) (bb : Bt b n) (bc : Bt c n) (bd : Bt d n) (hn : n ≤ 100000000) (hb : 0 < b) (hc : c ≠ 0) : Con Try.prog AN 48 [encFZ a b, encFZ c d] (.tup [encFZ (frN (a * d) (b * c)) (frD (a * d) (b * c)), flt 0 0]) := by
  have h3 : Bt (a * d) (n + n) := ba.mul bd
  have h4 : Bt (b * c) (n + n) := bb.mul bc
  have h5 : b * c ≠ 0 := fun e => by rcases Int.mul_eq_zero.1 e with h | h <;> omega
  refine fn48.con rfl (by simp) ?_
  (try simp only [init2, c48, c48_8, c48_1, l48_0, cw, cops, cs0, cs1, cs2, cs3, cs4, cs5, St.put, apOk, reduceIte, Nat.reduceEqDiff, reduceCtorEq, Option.getD_none, forall_const, binD, unD, inK, D.isBool, bounds, Nat.reduceAdd, Nat.reduceLT, Nat.reduceLeDiff, Nat.reduceSub, csN, AV.mk, pureL, AV.pure, fillA, flt, AV.get, AV.part, D.part, partD, fold_I, fold_FI])
  (repeat refine And.intro (by first | omega | (simp; omega)) ?_)
  refine keep [2, 3, 4, 5] ?_
  (try simp only [c48_7, c48_6, l48_2, cw, cops, cs0, cs1, cs2, cs3, cs4, cs5, St.put, apOk, reduceIte, Nat.reduceEqDiff, reduceCtorEq, Option.getD_none, forall_const, binD, unD, inK, D.isBool, bounds, Nat.reduceAdd, Nat.reduceLT, Nat.reduceLeDiff, Nat.reduceSub, csN, AV.mk, pureL, AV.pure, fillA, flt, AV.get, AV.part, D.part, partD, fold_I, fold_FI])
  (repeat refine And.intro (by first | omega | (simp; omega)) ?_)
  -- CALL 27
  refine ⟨_, cZMul a d n ba bd (by omega), ?_⟩
  (try simp only [l48_3, cw, cops, cs0, cs1, cs2, cs3, cs4, cs5, St.put, apOk, reduceIte, Nat.reduceEqDiff, reduceCtorEq, Option.getD_none, forall_const, binD, unD, inK, D.isBool, bounds, Nat.reduceAdd, Nat.reduceLT, Nat.reduceLeDiff, Nat.reduceSub, csN, AV.mk, pureL, AV.pure, fillA, flt, AV.get, AV.part, D.part, partD, fold_I, fold_FI])
  (repeat refine And.intro (by first | omega | (simp; omega)) ?_)
  -- CALL 27
  refine ⟨_, cZMul b c n bb bc (by omega), ?_⟩
  (try simp only [l48_4, cw, cops, cs0, cs1, cs2, cs3, cs4, cs5, St.put, apOk, reduceIte, Nat.reduceEqDiff, reduceCtorEq, Option.getD_none, forall_const, binD, unD, inK, D.isBool, bounds, Nat.reduceAdd, Nat.reduceLT, Nat.reduceLeDiff, Nat.reduceSub, csN, AV.mk, pureL, AV.pure, fillA, flt, AV.get, AV.part, D.part, partD, fold_I, fold_FI])
  (repeat refine And.intro (by first | omega | (simp; omega)) ?_)
  -- CALL 46
  refine ⟨_, cOverZ _ _ (n + n) h3 h4 (by omega) h5, ?_⟩
  (try simp only [l48_5, cw, cops, cs0, cs1, cs2, cs3, cs4, cs5, St.put, apOk, reduceIte, Nat.reduceEqDiff, reduceCtorEq, Option.getD_none, forall_const, binD, unD, inK, D.isBool, bounds, Nat.reduceAdd, Nat.reduceLT, Nat.reduceLeDiff, Nat.reduceSub, csN, AV.mk, pureL, AV.pure, fillA, flt, AV.get, AV.part, D.part, partD, fold_I, fold_FI])
  (repeat refine And.intro (by first | omega | (simp; omega)) ?_)
  refine keep [4, 5] ?_
  (try simp only [cw, cops, cs0, cs1, cs2, cs3, cs4, cs5, St.put, apOk, reduceIte, Nat.reduceEqDiff, reduceCtorEq, Option.getD_none, forall_const, binD, unD, inK, D.isBool, bounds, Nat.reduceAdd, Nat.reduceLT, Nat.reduceLeDiff, Nat.reduceSub, csN, AV.mk, pureL, AV.pure, fillA, flt, AV.get, AV.part, D.part, partD, fold_I, fold_FI, Ends, resD, resL, resV])
  (repeat refine And.intro (by first | omega | (simp; omega)) ?_)
  -- RETURN

set_option maxHeartbeats 2000000 in
theorem cQuoZ0 (a b c d : Int) (n : Nat) (ba : Bt a n) (bb : Bt b n) (bc : Bt c n) (bd : Bt d n) (hn : n ≤ 100000000) (hc : c = 0) : Con Try.prog AN 48 [encFZ a b, encFZ c d] (.tup [encFZ 0 1, flt 4 0]) := by
  have h3 : Bt (a * d) (n + n) := ba.mul bd
  have h4 : Bt (b * c) (n + n) := bb.mul bc
  have h5 : b * c = 0 := by rw [hc, Int.mul_zero]
  refine fn48.con rfl (by simp) ?_
  (try simp only [init2, c48, c48_8, c48_1, l48_0, cw, cops, cs0, cs1, cs2, cs3, cs4, cs5, St.put, apOk, reduceIte, Nat.reduceEqDiff, reduceCtorEq, Option.getD_none, forall_const, binD, unD, inK, D.isBool, bounds, Nat.reduceAdd, Nat.reduceLT, Nat.reduceLeDiff, Nat.reduceSub, csN, AV.mk, pureL, AV.pure, fillA, flt, AV.get, AV.part, D.part, partD, fold_I, fold_FI])
  (repeat refine And.intro (by first | omega | (simp; omega)) ?_)
  refine keep [2, 3, 4, 5] ?_
  (try simp only [c48_7, c48_6, l48_2, cw, cops, cs0, cs1, cs2, cs3, cs4, cs5, St.put, apOk, reduceIte, Nat.reduceEqDiff, reduceCtorEq, Option.getD_none, forall_const, binD, unD, inK, D.isBool, bounds, Nat.reduceAdd, Nat.reduceLT, Nat.reduceLeDiff, Nat.reduceSub, csN, AV.mk, pureL, AV.pure, fillA, flt, AV.get, AV.part, D.part, partD, fold_I, fold_FI])
  (repeat refine And.intro (by first | omega | (simp; omega)) ?_)
  -- CALL 27
  refine ⟨_, cZMul a d n ba bd (by omega), ?_⟩
  (try simp only [l48_3, cw, cops, cs0, cs1, cs2, cs3, cs4, cs5, St.put, apOk, reduceIte, Nat.reduceEqDiff, reduceCtorEq, Option.getD_none, forall_const, binD, unD, inK, D.isBool, bounds, Nat.reduceAdd, Nat.reduceLT, Nat.reduceLeDiff, Nat.reduceSub, csN, AV.mk, pureL, AV.pure, fillA, flt, AV.get, AV.part, D.part, partD, fold_I, fold_FI])
  (repeat refine And.intro (by first | omega | (simp; omega)) ?_)
  -- CALL 27
  refine ⟨_, cZMul b c n bb bc (by omega), ?_⟩
  (try simp only [l48_4, cw, cops, cs0, cs1, cs2, cs3, cs4, cs5, St.put, apOk, reduceIte, Nat.reduceEqDiff, reduceCtorEq, Option.getD_none, forall_const, binD, unD, inK, D.isBool, bounds, Nat.reduceAdd, Nat.reduceLT, Nat.reduceLeDiff, Nat.reduceSub, csN, AV.mk, pureL, AV.pure, fillA, flt, AV.get, AV.part, D.part, partD, fold_I, fold_FI, h5])
  (repeat refine And.intro (by first | omega | (simp; omega)) ?_)
  -- CALL 46
  refine ⟨_, cOverZ0 _ (n + n) h3 (by omega), ?_⟩
  (try simp only [l48_5, cw, cops, cs0, cs1, cs2, cs3, cs4, cs5, St.put, apOk, reduceIte, Nat.reduceEqDiff, reduceCtorEq, Option.getD_none, forall_const, binD, unD, inK, D.isBool, bounds, Nat.reduceAdd, Nat.reduceLT, Nat.reduceLeDiff, Nat.reduceSub, csN, AV.mk, pureL, AV.pure, fillA, flt, AV.get, AV.part, D.part, partD, fold_I, fold_FI])
  (repeat refine And.intro (by first | omega | (simp; omega)) ?_)
  refine keep [4, 5] ?_
  (try simp only [cw, cops, cs0, cs1, cs2, cs3, cs4, cs5, St.put, apOk, reduceIte, Nat.reduceEqDiff, reduceCtorEq, Option.getD_none, forall_const, binD, unD, inK, D.isBool, bounds, Nat.reduceAdd, Nat.reduceLT, Nat.reduceLeDiff, Nat.reduceSub, csN, AV.mk, pureL, AV.pure, fillA, flt, AV.get, AV.part, D.part, partD, fold_I, fold_FI, Ends, resD, resL, resV])
  (repeat refine And.intro (by first | omega | (simp; omega)) ?_)
  -- RETURN

end Go.Proofs.Ytbbidekjbgjooaa.M
