/- The reference's FParse, in the small machine's words. -/
import Derived.Test.YtbbidekjbgjooaaFrOx
namespace Go.Proofs.Ytbbidekjbgjooaa.M
open Go.RowKit
set_option linter.defProp false
set_option linter.unusedSimpArgs false
set_option linter.unusedVariables false

-- more
set_option maxRecDepth 20000 in
set_option maxHeartbeats 8000000 in
theorem cFParse (t : List UInt8) (ht : t.length ≤ 9223372036854775807) : Con Try.prog AN 40 [.str t] (.tup [encFZ (fracR t).1 (fracR t).2.1, flt (fracR t).2.2.1 (fracR t).2.2.2]) := by
  obtain ⟨n, hn⟩ : ∃ n, n = (numLen true t).1 := ⟨_, rfl⟩
  obtain ⟨ok, hok⟩ : ∃ ok, ok = (numLen true t).2 := ⟨_, rfl⟩
  have hnl : n ≤ t.length := by rw [hn]; exact numLen_le true t
  have hho : ok = true → numOk (t.take n) = true := by rw [hok, hn]; exact head_ok
  have hFn := fracR_no (t := t)
  have hFw := fracR_whole (t := t)
  have hFc := fracR_cut (t := t)
  rw [← hn, ← hok] at hFn hFw hFc
  have hW := cWord t true ht
  rw [← hn, ← hok] at hW
  refine fn40.con rfl (by simp) ?_
  (try simp only [init1, c40, c40_71, c40_1, l40_0, cw, cops, cs0, cs1, cs2, cs3, cs4, cs5, St.put, apOk, reduceIte, Nat.reduceEqDiff, reduceCtorEq, Option.getD_none, forall_const, binD, unD, inK, D.isBool, bounds, Nat.reduceAdd, Nat.reduceLT, Nat.reduceLeDiff, Nat.reduceSub, csN, AV.mk, pureL, AV.pure, fillA, flt, AV.get, AV.part, D.part, partD])
  (repeat refine And.intro (by first | omega | (simp; omega)) ?_)
  refine keep [0, 2, 3] ?_
  (try simp only [c40_70, c40_4, l40_2, cw, cops, cs0, cs1, cs2, cs3, cs4, cs5, St.put, apOk, reduceIte, Nat.reduceEqDiff, reduceCtorEq, Option.getD_none, forall_const, binD, unD, inK, D.isBool, bounds, Nat.reduceAdd, Nat.reduceLT, Nat.reduceLeDiff, Nat.reduceSub, csN, AV.mk, pureL, AV.pure, fillA, flt, AV.get, AV.part, D.part, partD])
  (repeat refine And.intro (by first | omega | (simp; omega)) ?_)
  -- CALL 17
  refine ⟨_, cZOf 1 (by omega), ?_⟩
  (try simp only [l40_3, cw, cops, cs0, cs1, cs2, cs3, cs4, cs5, St.put, apOk, reduceIte, Nat.reduceEqDiff, reduceCtorEq, Option.getD_none, forall_const, binD, unD, inK, D.isBool, bounds, Nat.reduceAdd, Nat.reduceLT, Nat.reduceLeDiff, Nat.reduceSub, csN, AV.mk, pureL, AV.pure, fillA, flt, AV.get, AV.part, D.part, partD])
  (repeat refine And.intro (by first | omega | (simp; omega)) ?_)
  refine keep [0, 2, 3, 4] ?_
  (try simp only [c40_69, c40_7, l40_5, cw, cops, cs0, cs1, cs2, cs3, cs4, cs5, St.put, apOk, reduceIte, Nat.reduceEqDiff, reduceCtorEq, Option.getD_none, forall_const, binD, unD, inK, D.isBool, bounds, Nat.reduceAdd, Nat.reduceLT, Nat.reduceLeDiff, Nat.reduceSub, csN, AV.mk, pureL, AV.pure, fillA, flt, AV.get, AV.part, D.part, partD])
  (repeat refine And.intro (by first | omega | (simp; omega)) ?_)
  -- CALL 66
  -- skip
  cases ok
  · have hF := hFn (.inl rfl)
    refine ⟨_, hW, ?_⟩
    (try simp only [l40_6, cw, cops, cs0, cs1, cs2, cs3, cs4, cs5, St.put, apOk, reduceIte, Nat.reduceEqDiff, reduceCtorEq, Option.getD_none, forall_const, binD, unD, inK, D.isBool, bounds, Nat.reduceAdd, Nat.reduceLT, Nat.reduceLeDiff, Nat.reduceSub, csN, AV.mk, pureL, AV.pure, fillA, flt, AV.get, AV.part, D.part, partD])
    (repeat refine And.intro (by first | omega | (simp; omega)) ?_)
    refine keep [0, 2, 3, 4, 5, 6] ?_
    (try simp only [c40_68, c40_9, l40_8, cw, cops, cs0, cs1, cs2, cs3, cs4, cs5, St.put, apOk, reduceIte, Nat.reduceEqDiff, reduceCtorEq, Option.getD_none, forall_const, binD, unD, inK, D.isBool, bounds, Nat.reduceAdd, Nat.reduceLT, Nat.reduceLeDiff, Nat.reduceSub, csN, AV.mk, pureL, AV.pure, fillA, flt, AV.get, AV.part, D.part, partD])
    (repeat refine And.intro (by first | omega | (simp; omega)) ?_)
    refine keep [0, 2, 3, 4, 5, 6, 7] ?_
    (try simp only [c40_67, c40_22, c40_11, l40_10, cw, cops, cs0, cs1, cs2, cs3, cs4, cs5, St.put, apOk, reduceIte, Nat.reduceEqDiff, reduceCtorEq, Option.getD_none, forall_const, binD, unD, inK, D.isBool, bounds, Nat.reduceAdd, Nat.reduceLT, Nat.reduceLeDiff, Nat.reduceSub, csN, AV.mk, pureL, AV.pure, fillA, flt, AV.get, AV.part, D.part, partD])
    (repeat refine And.intro (by first | omega | (simp; omega)) ?_)
    refine keep [0, 2, 3, 4, 5, 6, 7, 32] ?_
    (try simp only [c40_21, cw, cops, cs0, cs1, cs2, cs3, cs4, cs5, St.put, apOk, reduceIte, Nat.reduceEqDiff, reduceCtorEq, Option.getD_none, forall_const, binD, unD, inK, D.isBool, bounds, Nat.reduceAdd, Nat.reduceLT, Nat.reduceLeDiff, Nat.reduceSub, csN, AV.mk, pureL, AV.pure, fillA, flt, AV.get, AV.part, D.part, partD])
    (repeat refine And.intro (by first | omega | (simp; omega)) ?_)
    -- TEST (.t 32)
    -- skip
    (try simp only [cw, cops, cs0, cs1, cs2, cs3, cs4, cs5, St.put, apOk, reduceIte, Nat.reduceEqDiff, reduceCtorEq, Option.getD_none, forall_const, binD, unD, inK, D.isBool, bounds, Nat.reduceAdd, Nat.reduceLT, Nat.reduceLeDiff, Nat.reduceSub, csN, AV.mk, pureL, AV.pure, fillA, flt, AV.get, AV.part, D.part, partD])
    (repeat refine And.intro (by first | omega | (simp; omega)) ?_)
    refine keep [0, 2, 3, 4, 5, 6, 7] ?_
    (try simp only [c40_66, c40_29, c40_24, l40_23, cw, cops, cs0, cs1, cs2, cs3, cs4, cs5, St.put, apOk, reduceIte, Nat.reduceEqDiff, reduceCtorEq, Option.getD_none, forall_const, binD, unD, inK, D.isBool, bounds, Nat.reduceAdd, Nat.reduceLT, Nat.reduceLeDiff, Nat.reduceSub, csN, AV.mk, pureL, AV.pure, fillA, flt, AV.get, AV.part, D.part, partD])
    (repeat refine And.intro (by first | omega | (simp; omega)) ?_)
    refine keep [0, 2, 3, 4, 5, 7, 53] ?_
    (try simp only [c40_28, cw, cops, cs0, cs1, cs2, cs3, cs4, cs5, St.put, apOk, reduceIte, Nat.reduceEqDiff, reduceCtorEq, Option.getD_none, forall_const, binD, unD, inK, D.isBool, bounds, Nat.reduceAdd, Nat.reduceLT, Nat.reduceLeDiff, Nat.reduceSub, csN, AV.mk, pureL, AV.pure, fillA, flt, AV.get, AV.part, D.part, partD])
    (repeat refine And.intro (by first | omega | (simp; omega)) ?_)
    -- TEST (.t 53)
    (try simp only [c40_27, c40_26, l40_25, cw, cops, cs0, cs1, cs2, cs3, cs4, cs5, St.put, apOk, reduceIte, Nat.reduceEqDiff, reduceCtorEq, Option.getD_none, forall_const, binD, unD, inK, D.isBool, bounds, Nat.reduceAdd, Nat.reduceLT, Nat.reduceLeDiff, Nat.reduceSub, csN, AV.mk, pureL, AV.pure, fillA, flt, AV.get, AV.part, D.part, partD])
    (repeat refine And.intro (by first | omega | (simp; omega)) ?_)
    refine keep [2, 3] ?_
    (try simp only [cw, cops, cs0, cs1, cs2, cs3, cs4, cs5, St.put, apOk, reduceIte, Nat.reduceEqDiff, reduceCtorEq, Option.getD_none, forall_const, binD, unD, inK, D.isBool, bounds, Nat.reduceAdd, Nat.reduceLT, Nat.reduceLeDiff, Nat.reduceSub, csN, AV.mk, pureL, AV.pure, fillA, flt, AV.get, AV.part, D.part, partD, Ends, resD, resL, resV])
    (repeat refine And.intro (by first | omega | (simp; omega)) ?_)
    -- RETURN
    rw [hF]
  · have hho2 := hho rfl
    by_cases hlt : n < t.length
    · have hltI : (n : Int) < (t.length : Int) := by omega
      by_cases h47 : byt t n = 47
      · have hF := hFc rfl hlt h47
        have h47I : (byt t n : Int) = 47 := by omega
        obtain ⟨k, hk⟩ : ∃ k, k = (numLen false (t.drop (n + 1))).1 := ⟨_, rfl⟩
        obtain ⟨more, hmore⟩ : ∃ more, more = (numLen false (t.drop (n + 1))).2 := ⟨_, rfl⟩
        have hul : (t.drop (n + 1)).length = t.length - (n + 1) := List.length_drop
        have hW2 := cWord (t.drop (n + 1)) false (by omega)
        have hku : k ≤ (t.drop (n + 1)).length := by rw [hk]; exact numLen_le false _
        rw [← hk, ← hmore] at hF hW2
        have hun := fun h : more = true => tail_ne (u := t.drop (n + 1)) (hmore.symm.trans h)
        have hut := fun h : more = true => tail_ok (u := t.drop (n + 1)) (hmore.symm.trans h)
        rw [← hk] at hun hut
        have hnt2 : (t.take n).length ≤ 9223372036854775807 := by simp; omega
        -- skip
        refine ⟨_, hW, ?_⟩
        (try simp only [l40_6, cw, cops, cs0, cs1, cs2, cs3, cs4, cs5, St.put, apOk, reduceIte, Nat.reduceEqDiff, reduceCtorEq, Option.getD_none, forall_const, binD, unD, inK, D.isBool, bounds, Nat.reduceAdd, Nat.reduceLT, Nat.reduceLeDiff, Nat.reduceSub, csN, AV.mk, pureL, AV.pure, fillA, flt, AV.get, AV.part, D.part, partD, hltI, h47I])
        (repeat refine And.intro (by first | omega | (simp; omega)) ?_)
        refine keep [0, 2, 3, 4, 5, 6] ?_
        (try simp only [c40_68, c40_9, l40_8, cw, cops, cs0, cs1, cs2, cs3, cs4, cs5, St.put, apOk, reduceIte, Nat.reduceEqDiff, reduceCtorEq, Option.getD_none, forall_const, binD, unD, inK, D.isBool, bounds, Nat.reduceAdd, Nat.reduceLT, Nat.reduceLeDiff, Nat.reduceSub, csN, AV.mk, pureL, AV.pure, fillA, flt, AV.get, AV.part, D.part, partD, hltI, h47I])
        (repeat refine And.intro (by first | omega | (simp; omega)) ?_)
        refine keep [0, 2, 3, 4, 5, 6, 7] ?_
        (try simp only [c40_67, c40_22, c40_11, l40_10, cw, cops, cs0, cs1, cs2, cs3, cs4, cs5, St.put, apOk, reduceIte, Nat.reduceEqDiff, reduceCtorEq, Option.getD_none, forall_const, binD, unD, inK, D.isBool, bounds, Nat.reduceAdd, Nat.reduceLT, Nat.reduceLeDiff, Nat.reduceSub, csN, AV.mk, pureL, AV.pure, fillA, flt, AV.get, AV.part, D.part, partD, hltI, h47I])
        (repeat refine And.intro (by first | omega | (simp; omega)) ?_)
        refine keep [0, 2, 3, 4, 5, 6, 7, 32] ?_
        (try simp only [c40_21, cw, cops, cs0, cs1, cs2, cs3, cs4, cs5, St.put, apOk, reduceIte, Nat.reduceEqDiff, reduceCtorEq, Option.getD_none, forall_const, binD, unD, inK, D.isBool, bounds, Nat.reduceAdd, Nat.reduceLT, Nat.reduceLeDiff, Nat.reduceSub, csN, AV.mk, pureL, AV.pure, fillA, flt, AV.get, AV.part, D.part, partD, hltI, h47I])
        (repeat refine And.intro (by first | omega | (simp; omega)) ?_)
        -- TEST (.t 32)
        -- skip
        (try simp only [c40_20, c40_14, l40_12, cw, cops, cs0, cs1, cs2, cs3, cs4, cs5, St.put, apOk, reduceIte, Nat.reduceEqDiff, reduceCtorEq, Option.getD_none, forall_const, binD, unD, inK, D.isBool, bounds, Nat.reduceAdd, Nat.reduceLT, Nat.reduceLeDiff, Nat.reduceSub, csN, AV.mk, pureL, AV.pure, fillA, flt, AV.get, AV.part, D.part, partD])
        (repeat refine And.intro (by first | omega | (simp; omega)) ?_)
        -- CALL 66
        -- skip
        cases more
        · rw [if_neg (by simp)] at hF
          refine ⟨_, hW2, ?_⟩
          (try simp only [l40_13, cw, cops, cs0, cs1, cs2, cs3, cs4, cs5, St.put, apOk, reduceIte, Nat.reduceEqDiff, reduceCtorEq, Option.getD_none, forall_const, binD, unD, inK, D.isBool, bounds, Nat.reduceAdd, Nat.reduceLT, Nat.reduceLeDiff, Nat.reduceSub, csN, AV.mk, pureL, AV.pure, fillA, flt, AV.get, AV.part, D.part, partD])
          (repeat refine And.intro (by first | omega | (simp; omega)) ?_)
          refine keep [0, 2, 3, 4, 5, 8, 9] ?_
          (try simp only [c40_19, c40_16, l40_15, cw, cops, cs0, cs1, cs2, cs3, cs4, cs5, St.put, apOk, reduceIte, Nat.reduceEqDiff, reduceCtorEq, Option.getD_none, forall_const, binD, unD, inK, D.isBool, bounds, Nat.reduceAdd, Nat.reduceLT, Nat.reduceLeDiff, Nat.reduceSub, csN, AV.mk, pureL, AV.pure, fillA, flt, AV.get, AV.part, D.part, partD])
          (repeat refine And.intro (by first | omega | (simp; omega)) ?_)
          refine keep [0, 2, 3, 4, 5, 7, 9] ?_
          (try simp only [c40_18, l40_17, cw, cops, cs0, cs1, cs2, cs3, cs4, cs5, St.put, apOk, reduceIte, Nat.reduceEqDiff, reduceCtorEq, Option.getD_none, forall_const, binD, unD, inK, D.isBool, bounds, Nat.reduceAdd, Nat.reduceLT, Nat.reduceLeDiff, Nat.reduceSub, csN, AV.mk, pureL, AV.pure, fillA, flt, AV.get, AV.part, D.part, partD])
          (repeat refine And.intro (by first | omega | (simp; omega)) ?_)
          refine keep [0, 2, 3, 4, 5, 6, 7] ?_
          (try simp only [c40_66, c40_29, c40_24, l40_23, cw, cops, cs0, cs1, cs2, cs3, cs4, cs5, St.put, apOk, reduceIte, Nat.reduceEqDiff, reduceCtorEq, Option.getD_none, forall_const, binD, unD, inK, D.isBool, bounds, Nat.reduceAdd, Nat.reduceLT, Nat.reduceLeDiff, Nat.reduceSub, csN, AV.mk, pureL, AV.pure, fillA, flt, AV.get, AV.part, D.part, partD])
          (repeat refine And.intro (by first | omega | (simp; omega)) ?_)
          refine keep [0, 2, 3, 4, 5, 7, 53] ?_
          (try simp only [c40_28, cw, cops, cs0, cs1, cs2, cs3, cs4, cs5, St.put, apOk, reduceIte, Nat.reduceEqDiff, reduceCtorEq, Option.getD_none, forall_const, binD, unD, inK, D.isBool, bounds, Nat.reduceAdd, Nat.reduceLT, Nat.reduceLeDiff, Nat.reduceSub, csN, AV.mk, pureL, AV.pure, fillA, flt, AV.get, AV.part, D.part, partD])
          (repeat refine And.intro (by first | omega | (simp; omega)) ?_)
          -- TEST (.t 53)
          (try simp only [c40_27, c40_26, l40_25, cw, cops, cs0, cs1, cs2, cs3, cs4, cs5, St.put, apOk, reduceIte, Nat.reduceEqDiff, reduceCtorEq, Option.getD_none, forall_const, binD, unD, inK, D.isBool, bounds, Nat.reduceAdd, Nat.reduceLT, Nat.reduceLeDiff, Nat.reduceSub, csN, AV.mk, pureL, AV.pure, fillA, flt, AV.get, AV.part, D.part, partD])
          (repeat refine And.intro (by first | omega | (simp; omega)) ?_)
          refine keep [2, 3] ?_
          (try simp only [cw, cops, cs0, cs1, cs2, cs3, cs4, cs5, St.put, apOk, reduceIte, Nat.reduceEqDiff, reduceCtorEq, Option.getD_none, forall_const, binD, unD, inK, D.isBool, bounds, Nat.reduceAdd, Nat.reduceLT, Nat.reduceLeDiff, Nat.reduceSub, csN, AV.mk, pureL, AV.pure, fillA, flt, AV.get, AV.part, D.part, partD, Ends, resD, resL, resV])
          (repeat refine And.intro (by first | omega | (simp; omega)) ?_)
          -- RETURN
          rw [hF]
        · by_cases hkl : n + 1 + k < t.length
          · rw [if_neg (by rintro ⟨_, h⟩; omega)] at hF
            have hkI : (n : Int) + 1 + (k : Int) < (t.length : Int) := by omega
            -- skip
            refine ⟨_, hW2, ?_⟩
            (try simp only [l40_13, cw, cops, cs0, cs1, cs2, cs3, cs4, cs5, St.put, apOk, reduceIte, Nat.reduceEqDiff, reduceCtorEq, Option.getD_none, forall_const, binD, unD, inK, D.isBool, bounds, Nat.reduceAdd, Nat.reduceLT, Nat.reduceLeDiff, Nat.reduceSub, csN, AV.mk, pureL, AV.pure, fillA, flt, AV.get, AV.part, D.part, partD, hkI])
            (repeat refine And.intro (by first | omega | (simp; omega)) ?_)
            refine keep [0, 2, 3, 4, 5, 8, 9] ?_
            (try simp only [c40_19, c40_16, l40_15, cw, cops, cs0, cs1, cs2, cs3, cs4, cs5, St.put, apOk, reduceIte, Nat.reduceEqDiff, reduceCtorEq, Option.getD_none, forall_const, binD, unD, inK, D.isBool, bounds, Nat.reduceAdd, Nat.reduceLT, Nat.reduceLeDiff, Nat.reduceSub, csN, AV.mk, pureL, AV.pure, fillA, flt, AV.get, AV.part, D.part, partD, hkI])
            (repeat refine And.intro (by first | omega | (simp; omega)) ?_)
            refine keep [0, 2, 3, 4, 5, 7, 9] ?_
            (try simp only [c40_18, l40_17, cw, cops, cs0, cs1, cs2, cs3, cs4, cs5, St.put, apOk, reduceIte, Nat.reduceEqDiff, reduceCtorEq, Option.getD_none, forall_const, binD, unD, inK, D.isBool, bounds, Nat.reduceAdd, Nat.reduceLT, Nat.reduceLeDiff, Nat.reduceSub, csN, AV.mk, pureL, AV.pure, fillA, flt, AV.get, AV.part, D.part, partD, hkI])
            (repeat refine And.intro (by first | omega | (simp; omega)) ?_)
            refine keep [0, 2, 3, 4, 5, 6, 7] ?_
            (try simp only [c40_66, c40_29, c40_24, l40_23, cw, cops, cs0, cs1, cs2, cs3, cs4, cs5, St.put, apOk, reduceIte, Nat.reduceEqDiff, reduceCtorEq, Option.getD_none, forall_const, binD, unD, inK, D.isBool, bounds, Nat.reduceAdd, Nat.reduceLT, Nat.reduceLeDiff, Nat.reduceSub, csN, AV.mk, pureL, AV.pure, fillA, flt, AV.get, AV.part, D.part, partD, hkI])
            (repeat refine And.intro (by first | omega | (simp; omega)) ?_)
            refine keep [0, 2, 3, 4, 5, 7, 53] ?_
            (try simp only [c40_28, cw, cops, cs0, cs1, cs2, cs3, cs4, cs5, St.put, apOk, reduceIte, Nat.reduceEqDiff, reduceCtorEq, Option.getD_none, forall_const, binD, unD, inK, D.isBool, bounds, Nat.reduceAdd, Nat.reduceLT, Nat.reduceLeDiff, Nat.reduceSub, csN, AV.mk, pureL, AV.pure, fillA, flt, AV.get, AV.part, D.part, partD, hkI])
            (repeat refine And.intro (by first | omega | (simp; omega)) ?_)
            -- TEST (.t 53)
            (try simp only [c40_27, c40_26, l40_25, cw, cops, cs0, cs1, cs2, cs3, cs4, cs5, St.put, apOk, reduceIte, Nat.reduceEqDiff, reduceCtorEq, Option.getD_none, forall_const, binD, unD, inK, D.isBool, bounds, Nat.reduceAdd, Nat.reduceLT, Nat.reduceLeDiff, Nat.reduceSub, csN, AV.mk, pureL, AV.pure, fillA, flt, AV.get, AV.part, D.part, partD])
            (repeat refine And.intro (by first | omega | (simp; omega)) ?_)
            refine keep [2, 3] ?_
            (try simp only [cw, cops, cs0, cs1, cs2, cs3, cs4, cs5, St.put, apOk, reduceIte, Nat.reduceEqDiff, reduceCtorEq, Option.getD_none, forall_const, binD, unD, inK, D.isBool, bounds, Nat.reduceAdd, Nat.reduceLT, Nat.reduceLeDiff, Nat.reduceSub, csN, AV.mk, pureL, AV.pure, fillA, flt, AV.get, AV.part, D.part, partD, Ends, resD, resL, resV])
            (repeat refine And.intro (by first | omega | (simp; omega)) ?_)
            -- RETURN
            rw [hF]
          · have hkI : ¬ (n : Int) + 1 + (k : Int) < (t.length : Int) := by omega
            have hkk : k = (t.drop (n + 1)).length := by omega
            rw [if_pos ⟨rfl, by omega⟩] at hF
            -- skip
            refine ⟨_, hW2, ?_⟩
            (try simp only [l40_13, cw, cops, cs0, cs1, cs2, cs3, cs4, cs5, St.put, apOk, reduceIte, Nat.reduceEqDiff, reduceCtorEq, Option.getD_none, forall_const, binD, unD, inK, D.isBool, bounds, Nat.reduceAdd, Nat.reduceLT, Nat.reduceLeDiff, Nat.reduceSub, csN, AV.mk, pureL, AV.pure, fillA, flt, AV.get, AV.part, D.part, partD, hkI])
            (repeat refine And.intro (by first | omega | (simp; omega)) ?_)
            refine keep [0, 2, 3, 4, 5, 8, 9] ?_
            (try simp only [c40_19, c40_16, l40_15, cw, cops, cs0, cs1, cs2, cs3, cs4, cs5, St.put, apOk, reduceIte, Nat.reduceEqDiff, reduceCtorEq, Option.getD_none, forall_const, binD, unD, inK, D.isBool, bounds, Nat.reduceAdd, Nat.reduceLT, Nat.reduceLeDiff, Nat.reduceSub, csN, AV.mk, pureL, AV.pure, fillA, flt, AV.get, AV.part, D.part, partD, hkI])
            (repeat refine And.intro (by first | omega | (simp; omega)) ?_)
            refine keep [0, 2, 3, 4, 5, 7, 9] ?_
            (try simp only [c40_18, l40_17, cw, cops, cs0, cs1, cs2, cs3, cs4, cs5, St.put, apOk, reduceIte, Nat.reduceEqDiff, reduceCtorEq, Option.getD_none, forall_const, binD, unD, inK, D.isBool, bounds, Nat.reduceAdd, Nat.reduceLT, Nat.reduceLeDiff, Nat.reduceSub, csN, AV.mk, pureL, AV.pure, fillA, flt, AV.get, AV.part, D.part, partD, hkI])
            (repeat refine And.intro (by first | omega | (simp; omega)) ?_)
            refine keep [0, 2, 3, 4, 5, 6, 7] ?_
            (try simp only [c40_66, c40_29, c40_24, l40_23, cw, cops, cs0, cs1, cs2, cs3, cs4, cs5, St.put, apOk, reduceIte, Nat.reduceEqDiff, reduceCtorEq, Option.getD_none, forall_const, binD, unD, inK, D.isBool, bounds, Nat.reduceAdd, Nat.reduceLT, Nat.reduceLeDiff, Nat.reduceSub, csN, AV.mk, pureL, AV.pure, fillA, flt, AV.get, AV.part, D.part, partD, hkI])
            (repeat refine And.intro (by first | omega | (simp; omega)) ?_)
            refine keep [0, 2, 3, 4, 5, 7, 53] ?_
            (try simp only [c40_28, cw, cops, cs0, cs1, cs2, cs3, cs4, cs5, St.put, apOk, reduceIte, Nat.reduceEqDiff, reduceCtorEq, Option.getD_none, forall_const, binD, unD, inK, D.isBool, bounds, Nat.reduceAdd, Nat.reduceLT, Nat.reduceLeDiff, Nat.reduceSub, csN, AV.mk, pureL, AV.pure, fillA, flt, AV.get, AV.part, D.part, partD, hkI])
            (repeat refine And.intro (by first | omega | (simp; omega)) ?_)
            -- TEST (.t 53)
            -- skip
            (try simp only [cw, cops, cs0, cs1, cs2, cs3, cs4, cs5, St.put, apOk, reduceIte, Nat.reduceEqDiff, reduceCtorEq, Option.getD_none, forall_const, binD, unD, inK, D.isBool, bounds, Nat.reduceAdd, Nat.reduceLT, Nat.reduceLeDiff, Nat.reduceSub, csN, AV.mk, pureL, AV.pure, fillA, flt, AV.get, AV.part, D.part, partD])
            (repeat refine And.intro (by first | omega | (simp; omega)) ?_)
            refine keep [0, 2, 3, 4, 5, 7] ?_
            (try simp only [c40_65, c40_37, c40_32, l40_30, cw, cops, cs0, cs1, cs2, cs3, cs4, cs5, St.put, apOk, reduceIte, Nat.reduceEqDiff, reduceCtorEq, Option.getD_none, forall_const, binD, unD, inK, D.isBool, bounds, Nat.reduceAdd, Nat.reduceLT, Nat.reduceLeDiff, Nat.reduceSub, csN, AV.mk, pureL, AV.pure, fillA, flt, AV.get, AV.part, D.part, partD])
            (repeat refine And.intro (by first | omega | (simp; omega)) ?_)
            -- CALL 67
            -- skip
            by_cases hb1 : (body (t.take n)).length ≤ 1000
            · have hb1I : ¬ (1000 : Int) < ((body (t.take n)).length : Int) := by omega
              by_cases hb2 : (t.drop (n + 1)).length ≤ 1000
              · have hb2I : ¬ (1000 : Int) < (n : Int) + 1 + (k : Int) - (n : Int) - 1 := by omega
                rw [if_pos ⟨hb1, hb2⟩] at hF
                have hmn : (n : Int) < (n : Int) + 1 + (k : Int) := by omega
                have hut2 := hut rfl (by omega)
                have hbu : (body (t.drop (n + 1))).length ≤ 1000 := by rw [body_length]; omega
                have hunz := hun rfl (by omega) hb2
                -- skip
                refine ⟨_, cDigs (t.take n) hnt2, ?_⟩
                (try simp only [l40_31, cw, cops, cs0, cs1, cs2, cs3, cs4, cs5, St.put, apOk, reduceIte, Nat.reduceEqDiff, reduceCtorEq, Option.getD_none, forall_const, binD, unD, inK, D.isBool, bounds, Nat.reduceAdd, Nat.reduceLT, Nat.reduceLeDiff, Nat.reduceSub, csN, AV.mk, pureL, AV.pure, fillA, flt, AV.get, AV.part, D.part, partD, hb1I, hb2I])
                (repeat refine And.intro (by first | omega | (simp; omega)) ?_)
                refine keep [0, 2, 3, 4, 5, 7, 68] ?_
                (try simp only [c40_36, cw, cops, cs0, cs1, cs2, cs3, cs4, cs5, St.put, apOk, reduceIte, Nat.reduceEqDiff, reduceCtorEq, Option.getD_none, forall_const, binD, unD, inK, D.isBool, bounds, Nat.reduceAdd, Nat.reduceLT, Nat.reduceLeDiff, Nat.reduceSub, csN, AV.mk, pureL, AV.pure, fillA, flt, AV.get, AV.part, D.part, partD, hb1I, hb2I])
                (repeat refine And.intro (by first | omega | (simp; omega)) ?_)
                -- TEST (.t 68)
                -- skip
                (try simp only [cw, cops, cs0, cs1, cs2, cs3, cs4, cs5, St.put, apOk, reduceIte, Nat.reduceEqDiff, reduceCtorEq, Option.getD_none, forall_const, binD, unD, inK, D.isBool, bounds, Nat.reduceAdd, Nat.reduceLT, Nat.reduceLeDiff, Nat.reduceSub, csN, AV.mk, pureL, AV.pure, fillA, flt, AV.get, AV.part, D.part, partD])
                (repeat refine And.intro (by first | omega | (simp; omega)) ?_)
                refine keep [0, 2, 3, 4, 5, 7] ?_
                (try simp only [c40_64, c40_41, l40_38, cw, cops, cs0, cs1, cs2, cs3, cs4, cs5, St.put, apOk, reduceIte, Nat.reduceEqDiff, reduceCtorEq, Option.getD_none, forall_const, binD, unD, inK, D.isBool, bounds, Nat.reduceAdd, Nat.reduceLT, Nat.reduceLeDiff, Nat.reduceSub, csN, AV.mk, pureL, AV.pure, fillA, flt, AV.get, AV.part, D.part, partD])
                (repeat refine And.intro (by first | omega | (simp; omega)) ?_)
                -- CALL 68
                refine ⟨_, cRead (t.take n) hho2 hb1, ?_⟩
                (try simp only [l40_39, cw, cops, cs0, cs1, cs2, cs3, cs4, cs5, St.put, apOk, reduceIte, Nat.reduceEqDiff, reduceCtorEq, Option.getD_none, forall_const, binD, unD, inK, D.isBool, bounds, Nat.reduceAdd, Nat.reduceLT, Nat.reduceLeDiff, Nat.reduceSub, csN, AV.mk, pureL, AV.pure, fillA, flt, AV.get, AV.part, D.part, partD])
                (repeat refine And.intro (by first | omega | (simp; omega)) ?_)
                -- CALL 17
                refine ⟨_, cZOf 1 (by omega), ?_⟩
                (try simp only [l40_40, cw, cops, cs0, cs1, cs2, cs3, cs4, cs5, St.put, apOk, reduceIte, Nat.reduceEqDiff, reduceCtorEq, Option.getD_none, forall_const, binD, unD, inK, D.isBool, bounds, Nat.reduceAdd, Nat.reduceLT, Nat.reduceLeDiff, Nat.reduceSub, csN, AV.mk, pureL, AV.pure, fillA, flt, AV.get, AV.part, D.part, partD, hmn])
                (repeat refine And.intro (by first | omega | (simp; omega)) ?_)
                refine keep [0, 2, 3, 4, 5, 7, 10] ?_
                (try simp only [c40_63, c40_50, c40_43, l40_42, cw, cops, cs0, cs1, cs2, cs3, cs4, cs5, St.put, apOk, reduceIte, Nat.reduceEqDiff, reduceCtorEq, Option.getD_none, forall_const, binD, unD, inK, D.isBool, bounds, Nat.reduceAdd, Nat.reduceLT, Nat.reduceLeDiff, Nat.reduceSub, csN, AV.mk, pureL, AV.pure, fillA, flt, AV.get, AV.part, D.part, partD, hmn])
                (repeat refine And.intro (by first | omega | (simp; omega)) ?_)
                refine keep [0, 2, 3, 4, 5, 10, 79] ?_
                (try simp only [c40_49, cw, cops, cs0, cs1, cs2, cs3, cs4, cs5, St.put, apOk, reduceIte, Nat.reduceEqDiff, reduceCtorEq, Option.getD_none, forall_const, binD, unD, inK, D.isBool, bounds, Nat.reduceAdd, Nat.reduceLT, Nat.reduceLeDiff, Nat.reduceSub, csN, AV.mk, pureL, AV.pure, fillA, flt, AV.get, AV.part, D.part, partD, hmn])
                (repeat refine And.intro (by first | omega | (simp; omega)) ?_)
                -- TEST (.t 79)
                (try simp only [c40_48, l40_44, cw, cops, cs0, cs1, cs2, cs3, cs4, cs5, St.put, apOk, reduceIte, Nat.reduceEqDiff, reduceCtorEq, Option.getD_none, forall_const, binD, unD, inK, D.isBool, bounds, Nat.reduceAdd, Nat.reduceLT, Nat.reduceLeDiff, Nat.reduceSub, csN, AV.mk, pureL, AV.pure, fillA, flt, AV.get, AV.part, D.part, partD])
                (repeat refine And.intro (by first | omega | (simp; omega)) ?_)
                -- CALL 68
                refine ⟨_, cRead (t.take n) hho2 hb1, ?_⟩
                (try simp only [l40_45, cw, cops, cs0, cs1, cs2, cs3, cs4, cs5, St.put, apOk, reduceIte, Nat.reduceEqDiff, reduceCtorEq, Option.getD_none, forall_const, binD, unD, inK, D.isBool, bounds, Nat.reduceAdd, Nat.reduceLT, Nat.reduceLeDiff, Nat.reduceSub, csN, AV.mk, pureL, AV.pure, fillA, flt, AV.get, AV.part, D.part, partD])
                (repeat refine And.intro (by first | omega | (simp; omega)) ?_)
                -- CALL 68
                refine ⟨_, cRead (t.drop (n + 1)) hut2.1 hbu, ?_⟩
                (try simp only [l40_46, cw, cops, cs0, cs1, cs2, cs3, cs4, cs5, St.put, apOk, reduceIte, Nat.reduceEqDiff, reduceCtorEq, Option.getD_none, forall_const, binD, unD, inK, D.isBool, bounds, Nat.reduceAdd, Nat.reduceLT, Nat.reduceLeDiff, Nat.reduceSub, csN, AV.mk, pureL, AV.pure, fillA, flt, AV.get, AV.part, D.part, partD])
                (repeat refine And.intro (by first | omega | (simp; omega)) ?_)
                -- CALL 84
                refine ⟨_, cfover _ _ 4000 (parseZ_bt _) (parseZ_bt _) (by omega) hunz, ?_⟩
                (try simp only [l40_47, cw, cops, cs0, cs1, cs2, cs3, cs4, cs5, St.put, apOk, reduceIte, Nat.reduceEqDiff, reduceCtorEq, Option.getD_none, forall_const, binD, unD, inK, D.isBool, bounds, Nat.reduceAdd, Nat.reduceLT, Nat.reduceLeDiff, Nat.reduceSub, csN, AV.mk, pureL, AV.pure, fillA, flt, AV.get, AV.part, D.part, partD])
                (repeat refine And.intro (by first | omega | (simp; omega)) ?_)
                refine keep [0, 2, 3, 4, 10] ?_
                (try simp only [c40_62, c40_58, c40_53, l40_51, cw, cops, cs0, cs1, cs2, cs3, cs4, cs5, St.put, apOk, reduceIte, Nat.reduceEqDiff, reduceCtorEq, Option.getD_none, forall_const, binD, unD, inK, D.isBool, bounds, Nat.reduceAdd, Nat.reduceLT, Nat.reduceLeDiff, Nat.reduceSub, csN, AV.mk, pureL, AV.pure, fillA, flt, AV.get, AV.part, D.part, partD])
                (repeat refine And.intro (by first | omega | (simp; omega)) ?_)
                -- CALL 42
                -- skip
                by_cases heq : frText (frN (parseZ (t.take n)) (parseZ (t.drop (n + 1)))) (frD (parseZ (t.take n)) (parseZ (t.drop (n + 1)))) = t
                · rw [if_pos heq] at hF
                  refine ⟨_, cTextZ _ _ 4000 (frN_bt (parseZ_bt _)) (frD_bt (parseZ_bt _)) (by omega), ?_⟩
                  (try simp only [l40_52, cw, cops, cs0, cs1, cs2, cs3, cs4, cs5, St.put, apOk, reduceIte, Nat.reduceEqDiff, reduceCtorEq, Option.getD_none, forall_const, binD, unD, inK, D.isBool, bounds, Nat.reduceAdd, Nat.reduceLT, Nat.reduceLeDiff, Nat.reduceSub, csN, AV.mk, pureL, AV.pure, fillA, flt, AV.get, AV.part, D.part, partD, heq])
                  (repeat refine And.intro (by first | omega | (simp; omega)) ?_)
                  refine keep [2, 3, 4, 10, 93] ?_
                  (try simp only [c40_57, cw, cops, cs0, cs1, cs2, cs3, cs4, cs5, St.put, apOk, reduceIte, Nat.reduceEqDiff, reduceCtorEq, Option.getD_none, forall_const, binD, unD, inK, D.isBool, bounds, Nat.reduceAdd, Nat.reduceLT, Nat.reduceLeDiff, Nat.reduceSub, csN, AV.mk, pureL, AV.pure, fillA, flt, AV.get, AV.part, D.part, partD, heq])
                  (repeat refine And.intro (by first | omega | (simp; omega)) ?_)
                  -- TEST (.t 93)
                  -- skip
                  (try simp only [cw, cops, cs0, cs1, cs2, cs3, cs4, cs5, St.put, apOk, reduceIte, Nat.reduceEqDiff, reduceCtorEq, Option.getD_none, forall_const, binD, unD, inK, D.isBool, bounds, Nat.reduceAdd, Nat.reduceLT, Nat.reduceLeDiff, Nat.reduceSub, csN, AV.mk, pureL, AV.pure, fillA, flt, AV.get, AV.part, D.part, partD])
                  (repeat refine And.intro (by first | omega | (simp; omega)) ?_)
                  refine keep [2, 3, 10] ?_
                  (try simp only [c40_61, c40_60, l40_59, cw, cops, cs0, cs1, cs2, cs3, cs4, cs5, St.put, apOk, reduceIte, Nat.reduceEqDiff, reduceCtorEq, Option.getD_none, forall_const, binD, unD, inK, D.isBool, bounds, Nat.reduceAdd, Nat.reduceLT, Nat.reduceLeDiff, Nat.reduceSub, csN, AV.mk, pureL, AV.pure, fillA, flt, AV.get, AV.part, D.part, partD])
                  (repeat refine And.intro (by first | omega | (simp; omega)) ?_)
                  refine keep [2, 3] ?_
                  (try simp only [cw, cops, cs0, cs1, cs2, cs3, cs4, cs5, St.put, apOk, reduceIte, Nat.reduceEqDiff, reduceCtorEq, Option.getD_none, forall_const, binD, unD, inK, D.isBool, bounds, Nat.reduceAdd, Nat.reduceLT, Nat.reduceLeDiff, Nat.reduceSub, csN, AV.mk, pureL, AV.pure, fillA, flt, AV.get, AV.part, D.part, partD, Ends, resD, resL, resV])
                  (repeat refine And.intro (by first | omega | (simp; omega)) ?_)
                  -- RETURN
                  rw [hF]
                · rw [if_neg heq] at hF
                  -- skip
                  refine ⟨_, cTextZ _ _ 4000 (frN_bt (parseZ_bt _)) (frD_bt (parseZ_bt _)) (by omega), ?_⟩
                  (try simp only [l40_52, cw, cops, cs0, cs1, cs2, cs3, cs4, cs5, St.put, apOk, reduceIte, Nat.reduceEqDiff, reduceCtorEq, Option.getD_none, forall_const, binD, unD, inK, D.isBool, bounds, Nat.reduceAdd, Nat.reduceLT, Nat.reduceLeDiff, Nat.reduceSub, csN, AV.mk, pureL, AV.pure, fillA, flt, AV.get, AV.part, D.part, partD, heq])
                  (repeat refine And.intro (by first | omega | (simp; omega)) ?_)
                  refine keep [2, 3, 4, 10, 93] ?_
                  (try simp only [c40_57, cw, cops, cs0, cs1, cs2, cs3, cs4, cs5, St.put, apOk, reduceIte, Nat.reduceEqDiff, reduceCtorEq, Option.getD_none, forall_const, binD, unD, inK, D.isBool, bounds, Nat.reduceAdd, Nat.reduceLT, Nat.reduceLeDiff, Nat.reduceSub, csN, AV.mk, pureL, AV.pure, fillA, flt, AV.get, AV.part, D.part, partD, heq])
                  (repeat refine And.intro (by first | omega | (simp; omega)) ?_)
                  -- TEST (.t 93)
                  (try simp only [c40_56, c40_55, l40_54, cw, cops, cs0, cs1, cs2, cs3, cs4, cs5, St.put, apOk, reduceIte, Nat.reduceEqDiff, reduceCtorEq, Option.getD_none, forall_const, binD, unD, inK, D.isBool, bounds, Nat.reduceAdd, Nat.reduceLT, Nat.reduceLeDiff, Nat.reduceSub, csN, AV.mk, pureL, AV.pure, fillA, flt, AV.get, AV.part, D.part, partD])
                  (repeat refine And.intro (by first | omega | (simp; omega)) ?_)
                  refine keep [2, 3] ?_
                  (try simp only [cw, cops, cs0, cs1, cs2, cs3, cs4, cs5, St.put, apOk, reduceIte, Nat.reduceEqDiff, reduceCtorEq, Option.getD_none, forall_const, binD, unD, inK, D.isBool, bounds, Nat.reduceAdd, Nat.reduceLT, Nat.reduceLeDiff, Nat.reduceSub, csN, AV.mk, pureL, AV.pure, fillA, flt, AV.get, AV.part, D.part, partD, Ends, resD, resL, resV])
                  (repeat refine And.intro (by first | omega | (simp; omega)) ?_)
                  -- RETURN
                  rw [hF]
              · have hb2I : (1000 : Int) < (n : Int) + 1 + (k : Int) - (n : Int) - 1 := by omega
                rw [if_neg (fun h => hb2 h.2)] at hF
                -- skip
                refine ⟨_, cDigs (t.take n) hnt2, ?_⟩
                (try simp only [l40_31, cw, cops, cs0, cs1, cs2, cs3, cs4, cs5, St.put, apOk, reduceIte, Nat.reduceEqDiff, reduceCtorEq, Option.getD_none, forall_const, binD, unD, inK, D.isBool, bounds, Nat.reduceAdd, Nat.reduceLT, Nat.reduceLeDiff, Nat.reduceSub, csN, AV.mk, pureL, AV.pure, fillA, flt, AV.get, AV.part, D.part, partD, hb1I, hb2I])
                (repeat refine And.intro (by first | omega | (simp; omega)) ?_)
                refine keep [0, 2, 3, 4, 5, 7, 68] ?_
                (try simp only [c40_36, cw, cops, cs0, cs1, cs2, cs3, cs4, cs5, St.put, apOk, reduceIte, Nat.reduceEqDiff, reduceCtorEq, Option.getD_none, forall_const, binD, unD, inK, D.isBool, bounds, Nat.reduceAdd, Nat.reduceLT, Nat.reduceLeDiff, Nat.reduceSub, csN, AV.mk, pureL, AV.pure, fillA, flt, AV.get, AV.part, D.part, partD, hb1I, hb2I])
                (repeat refine And.intro (by first | omega | (simp; omega)) ?_)
                -- TEST (.t 68)
                (try simp only [c40_35, c40_34, l40_33, cw, cops, cs0, cs1, cs2, cs3, cs4, cs5, St.put, apOk, reduceIte, Nat.reduceEqDiff, reduceCtorEq, Option.getD_none, forall_const, binD, unD, inK, D.isBool, bounds, Nat.reduceAdd, Nat.reduceLT, Nat.reduceLeDiff, Nat.reduceSub, csN, AV.mk, pureL, AV.pure, fillA, flt, AV.get, AV.part, D.part, partD])
                (repeat refine And.intro (by first | omega | (simp; omega)) ?_)
                refine keep [2, 3] ?_
                (try simp only [cw, cops, cs0, cs1, cs2, cs3, cs4, cs5, St.put, apOk, reduceIte, Nat.reduceEqDiff, reduceCtorEq, Option.getD_none, forall_const, binD, unD, inK, D.isBool, bounds, Nat.reduceAdd, Nat.reduceLT, Nat.reduceLeDiff, Nat.reduceSub, csN, AV.mk, pureL, AV.pure, fillA, flt, AV.get, AV.part, D.part, partD, Ends, resD, resL, resV])
                (repeat refine And.intro (by first | omega | (simp; omega)) ?_)
                -- RETURN
                rw [hF]
            · have hb1I : (1000 : Int) < ((body (t.take n)).length : Int) := by omega
              rw [if_neg (fun h => hb1 h.1)] at hF
              -- skip
              refine ⟨_, cDigs (t.take n) hnt2, ?_⟩
              (try simp only [l40_31, cw, cops, cs0, cs1, cs2, cs3, cs4, cs5, St.put, apOk, reduceIte, Nat.reduceEqDiff, reduceCtorEq, Option.getD_none, forall_const, binD, unD, inK, D.isBool, bounds, Nat.reduceAdd, Nat.reduceLT, Nat.reduceLeDiff, Nat.reduceSub, csN, AV.mk, pureL, AV.pure, fillA, flt, AV.get, AV.part, D.part, partD, hb1I])
              (repeat refine And.intro (by first | omega | (simp; omega)) ?_)
              refine keep [0, 2, 3, 4, 5, 7, 68] ?_
              (try simp only [c40_36, cw, cops, cs0, cs1, cs2, cs3, cs4, cs5, St.put, apOk, reduceIte, Nat.reduceEqDiff, reduceCtorEq, Option.getD_none, forall_const, binD, unD, inK, D.isBool, bounds, Nat.reduceAdd, Nat.reduceLT, Nat.reduceLeDiff, Nat.reduceSub, csN, AV.mk, pureL, AV.pure, fillA, flt, AV.get, AV.part, D.part, partD, hb1I])
              (repeat refine And.intro (by first | omega | (simp; omega)) ?_)
              -- TEST (.t 68)
              (try simp only [c40_35, c40_34, l40_33, cw, cops, cs0, cs1, cs2, cs3, cs4, cs5, St.put, apOk, reduceIte, Nat.reduceEqDiff, reduceCtorEq, Option.getD_none, forall_const, binD, unD, inK, D.isBool, bounds, Nat.reduceAdd, Nat.reduceLT, Nat.reduceLeDiff, Nat.reduceSub, csN, AV.mk, pureL, AV.pure, fillA, flt, AV.get, AV.part, D.part, partD])
              (repeat refine And.intro (by first | omega | (simp; omega)) ?_)
              refine keep [2, 3] ?_
              (try simp only [cw, cops, cs0, cs1, cs2, cs3, cs4, cs5, St.put, apOk, reduceIte, Nat.reduceEqDiff, reduceCtorEq, Option.getD_none, forall_const, binD, unD, inK, D.isBool, bounds, Nat.reduceAdd, Nat.reduceLT, Nat.reduceLeDiff, Nat.reduceSub, csN, AV.mk, pureL, AV.pure, fillA, flt, AV.get, AV.part, D.part, partD, Ends, resD, resL, resV])
              (repeat refine And.intro (by first | omega | (simp; omega)) ?_)
              -- RETURN
              rw [hF]
      · have hF := hFn (.inr ⟨hlt, h47⟩)
        have h47I : ¬ (byt t n : Int) = 47 := by omega
        -- skip
        refine ⟨_, hW, ?_⟩
        (try simp only [l40_6, cw, cops, cs0, cs1, cs2, cs3, cs4, cs5, St.put, apOk, reduceIte, Nat.reduceEqDiff, reduceCtorEq, Option.getD_none, forall_const, binD, unD, inK, D.isBool, bounds, Nat.reduceAdd, Nat.reduceLT, Nat.reduceLeDiff, Nat.reduceSub, csN, AV.mk, pureL, AV.pure, fillA, flt, AV.get, AV.part, D.part, partD, hltI, h47I])
        (repeat refine And.intro (by first | omega | (simp; omega)) ?_)
        refine keep [0, 2, 3, 4, 5, 6] ?_
        (try simp only [c40_68, c40_9, l40_8, cw, cops, cs0, cs1, cs2, cs3, cs4, cs5, St.put, apOk, reduceIte, Nat.reduceEqDiff, reduceCtorEq, Option.getD_none, forall_const, binD, unD, inK, D.isBool, bounds, Nat.reduceAdd, Nat.reduceLT, Nat.reduceLeDiff, Nat.reduceSub, csN, AV.mk, pureL, AV.pure, fillA, flt, AV.get, AV.part, D.part, partD, hltI, h47I])
        (repeat refine And.intro (by first | omega | (simp; omega)) ?_)
        refine keep [0, 2, 3, 4, 5, 6, 7] ?_
        (try simp only [c40_67, c40_22, c40_11, l40_10, cw, cops, cs0, cs1, cs2, cs3, cs4, cs5, St.put, apOk, reduceIte, Nat.reduceEqDiff, reduceCtorEq, Option.getD_none, forall_const, binD, unD, inK, D.isBool, bounds, Nat.reduceAdd, Nat.reduceLT, Nat.reduceLeDiff, Nat.reduceSub, csN, AV.mk, pureL, AV.pure, fillA, flt, AV.get, AV.part, D.part, partD, hltI, h47I])
        (repeat refine And.intro (by first | omega | (simp; omega)) ?_)
        refine keep [0, 2, 3, 4, 5, 6, 7, 32] ?_
        (try simp only [c40_21, cw, cops, cs0, cs1, cs2, cs3, cs4, cs5, St.put, apOk, reduceIte, Nat.reduceEqDiff, reduceCtorEq, Option.getD_none, forall_const, binD, unD, inK, D.isBool, bounds, Nat.reduceAdd, Nat.reduceLT, Nat.reduceLeDiff, Nat.reduceSub, csN, AV.mk, pureL, AV.pure, fillA, flt, AV.get, AV.part, D.part, partD, hltI, h47I])
        (repeat refine And.intro (by first | omega | (simp; omega)) ?_)
        -- TEST (.t 32)
        -- skip
        (try simp only [cw, cops, cs0, cs1, cs2, cs3, cs4, cs5, St.put, apOk, reduceIte, Nat.reduceEqDiff, reduceCtorEq, Option.getD_none, forall_const, binD, unD, inK, D.isBool, bounds, Nat.reduceAdd, Nat.reduceLT, Nat.reduceLeDiff, Nat.reduceSub, csN, AV.mk, pureL, AV.pure, fillA, flt, AV.get, AV.part, D.part, partD, hltI])
        (repeat refine And.intro (by first | omega | (simp; omega)) ?_)
        refine keep [0, 2, 3, 4, 5, 6, 7] ?_
        (try simp only [c40_66, c40_29, c40_24, l40_23, cw, cops, cs0, cs1, cs2, cs3, cs4, cs5, St.put, apOk, reduceIte, Nat.reduceEqDiff, reduceCtorEq, Option.getD_none, forall_const, binD, unD, inK, D.isBool, bounds, Nat.reduceAdd, Nat.reduceLT, Nat.reduceLeDiff, Nat.reduceSub, csN, AV.mk, pureL, AV.pure, fillA, flt, AV.get, AV.part, D.part, partD, hltI])
        (repeat refine And.intro (by first | omega | (simp; omega)) ?_)
        refine keep [0, 2, 3, 4, 5, 7, 53] ?_
        (try simp only [c40_28, cw, cops, cs0, cs1, cs2, cs3, cs4, cs5, St.put, apOk, reduceIte, Nat.reduceEqDiff, reduceCtorEq, Option.getD_none, forall_const, binD, unD, inK, D.isBool, bounds, Nat.reduceAdd, Nat.reduceLT, Nat.reduceLeDiff, Nat.reduceSub, csN, AV.mk, pureL, AV.pure, fillA, flt, AV.get, AV.part, D.part, partD, hltI])
        (repeat refine And.intro (by first | omega | (simp; omega)) ?_)
        -- TEST (.t 53)
        (try simp only [c40_27, c40_26, l40_25, cw, cops, cs0, cs1, cs2, cs3, cs4, cs5, St.put, apOk, reduceIte, Nat.reduceEqDiff, reduceCtorEq, Option.getD_none, forall_const, binD, unD, inK, D.isBool, bounds, Nat.reduceAdd, Nat.reduceLT, Nat.reduceLeDiff, Nat.reduceSub, csN, AV.mk, pureL, AV.pure, fillA, flt, AV.get, AV.part, D.part, partD])
        (repeat refine And.intro (by first | omega | (simp; omega)) ?_)
        refine keep [2, 3] ?_
        (try simp only [cw, cops, cs0, cs1, cs2, cs3, cs4, cs5, St.put, apOk, reduceIte, Nat.reduceEqDiff, reduceCtorEq, Option.getD_none, forall_const, binD, unD, inK, D.isBool, bounds, Nat.reduceAdd, Nat.reduceLT, Nat.reduceLeDiff, Nat.reduceSub, csN, AV.mk, pureL, AV.pure, fillA, flt, AV.get, AV.part, D.part, partD, Ends, resD, resL, resV])
        (repeat refine And.intro (by first | omega | (simp; omega)) ?_)
        -- RETURN
        rw [hF]
    · have hltI : ¬ (n : Int) < (t.length : Int) := by omega
      have hF := hFw rfl (by omega)
      have hnn : n = t.length := by omega
      have hnt : t.take n = t := List.take_of_length_le (by omega)
      have hnt2 : (t.take n).length ≤ 9223372036854775807 := by simp; omega
      -- skip
      refine ⟨_, hW, ?_⟩
      (try simp only [l40_6, cw, cops, cs0, cs1, cs2, cs3, cs4, cs5, St.put, apOk, reduceIte, Nat.reduceEqDiff, reduceCtorEq, Option.getD_none, forall_const, binD, unD, inK, D.isBool, bounds, Nat.reduceAdd, Nat.reduceLT, Nat.reduceLeDiff, Nat.reduceSub, csN, AV.mk, pureL, AV.pure, fillA, flt, AV.get, AV.part, D.part, partD, hltI])
      (repeat refine And.intro (by first | omega | (simp; omega)) ?_)
      refine keep [0, 2, 3, 4, 5, 6] ?_
      (try simp only [c40_68, c40_9, l40_8, cw, cops, cs0, cs1, cs2, cs3, cs4, cs5, St.put, apOk, reduceIte, Nat.reduceEqDiff, reduceCtorEq, Option.getD_none, forall_const, binD, unD, inK, D.isBool, bounds, Nat.reduceAdd, Nat.reduceLT, Nat.reduceLeDiff, Nat.reduceSub, csN, AV.mk, pureL, AV.pure, fillA, flt, AV.get, AV.part, D.part, partD, hltI])
      (repeat refine And.intro (by first | omega | (simp; omega)) ?_)
      refine keep [0, 2, 3, 4, 5, 6, 7] ?_
      (try simp only [c40_67, c40_22, c40_11, l40_10, cw, cops, cs0, cs1, cs2, cs3, cs4, cs5, St.put, apOk, reduceIte, Nat.reduceEqDiff, reduceCtorEq, Option.getD_none, forall_const, binD, unD, inK, D.isBool, bounds, Nat.reduceAdd, Nat.reduceLT, Nat.reduceLeDiff, Nat.reduceSub, csN, AV.mk, pureL, AV.pure, fillA, flt, AV.get, AV.part, D.part, partD, hltI])
      (repeat refine And.intro (by first | omega | (simp; omega)) ?_)
      refine keep [0, 2, 3, 4, 5, 6, 7, 32] ?_
      (try simp only [c40_21, cw, cops, cs0, cs1, cs2, cs3, cs4, cs5, St.put, apOk, reduceIte, Nat.reduceEqDiff, reduceCtorEq, Option.getD_none, forall_const, binD, unD, inK, D.isBool, bounds, Nat.reduceAdd, Nat.reduceLT, Nat.reduceLeDiff, Nat.reduceSub, csN, AV.mk, pureL, AV.pure, fillA, flt, AV.get, AV.part, D.part, partD, hltI])
      (repeat refine And.intro (by first | omega | (simp; omega)) ?_)
      -- TEST (.t 32)
      -- skip
      (try simp only [cw, cops, cs0, cs1, cs2, cs3, cs4, cs5, St.put, apOk, reduceIte, Nat.reduceEqDiff, reduceCtorEq, Option.getD_none, forall_const, binD, unD, inK, D.isBool, bounds, Nat.reduceAdd, Nat.reduceLT, Nat.reduceLeDiff, Nat.reduceSub, csN, AV.mk, pureL, AV.pure, fillA, flt, AV.get, AV.part, D.part, partD, hltI])
      (repeat refine And.intro (by first | omega | (simp; omega)) ?_)
      refine keep [0, 2, 3, 4, 5, 6, 7] ?_
      (try simp only [c40_66, c40_29, c40_24, l40_23, cw, cops, cs0, cs1, cs2, cs3, cs4, cs5, St.put, apOk, reduceIte, Nat.reduceEqDiff, reduceCtorEq, Option.getD_none, forall_const, binD, unD, inK, D.isBool, bounds, Nat.reduceAdd, Nat.reduceLT, Nat.reduceLeDiff, Nat.reduceSub, csN, AV.mk, pureL, AV.pure, fillA, flt, AV.get, AV.part, D.part, partD, hltI])
      (repeat refine And.intro (by first | omega | (simp; omega)) ?_)
      refine keep [0, 2, 3, 4, 5, 7, 53] ?_
      (try simp only [c40_28, cw, cops, cs0, cs1, cs2, cs3, cs4, cs5, St.put, apOk, reduceIte, Nat.reduceEqDiff, reduceCtorEq, Option.getD_none, forall_const, binD, unD, inK, D.isBool, bounds, Nat.reduceAdd, Nat.reduceLT, Nat.reduceLeDiff, Nat.reduceSub, csN, AV.mk, pureL, AV.pure, fillA, flt, AV.get, AV.part, D.part, partD, hltI])
      (repeat refine And.intro (by first | omega | (simp; omega)) ?_)
      -- TEST (.t 53)
      -- skip
      (try simp only [cw, cops, cs0, cs1, cs2, cs3, cs4, cs5, St.put, apOk, reduceIte, Nat.reduceEqDiff, reduceCtorEq, Option.getD_none, forall_const, binD, unD, inK, D.isBool, bounds, Nat.reduceAdd, Nat.reduceLT, Nat.reduceLeDiff, Nat.reduceSub, csN, AV.mk, pureL, AV.pure, fillA, flt, AV.get, AV.part, D.part, partD, hltI])
      (repeat refine And.intro (by first | omega | (simp; omega)) ?_)
      refine keep [0, 2, 3, 4, 5, 7] ?_
      (try simp only [c40_65, c40_37, c40_32, l40_30, cw, cops, cs0, cs1, cs2, cs3, cs4, cs5, St.put, apOk, reduceIte, Nat.reduceEqDiff, reduceCtorEq, Option.getD_none, forall_const, binD, unD, inK, D.isBool, bounds, Nat.reduceAdd, Nat.reduceLT, Nat.reduceLeDiff, Nat.reduceSub, csN, AV.mk, pureL, AV.pure, fillA, flt, AV.get, AV.part, D.part, partD, hltI])
      (repeat refine And.intro (by first | omega | (simp; omega)) ?_)
      -- CALL 67
      -- skip
      by_cases hb : (body t).length ≤ 1000
      · rw [if_pos hb] at hF
        have hb1I : ¬ (1000 : Int) < ((body t).length : Int) := by omega
        have hb2I : ¬ (1000 : Int) < 0 - 1 := by omega
        have hmn : ¬ (n : Int) < (n : Int) := by omega
        rw [hnt] at hho2
        have hpc : parseC t = 0 := by unfold parseC; rw [if_pos hho2, if_pos hb]
        have htx : frText (parseZ t) 1 = t := by unfold frText; rw [if_pos rfl]; exact parse_dec hpc
        rw [hnt]
        refine ⟨_, cDigs t (by omega), ?_⟩
        (try simp only [l40_31, cw, cops, cs0, cs1, cs2, cs3, cs4, cs5, St.put, apOk, reduceIte, Nat.reduceEqDiff, reduceCtorEq, Option.getD_none, forall_const, binD, unD, inK, D.isBool, bounds, Nat.reduceAdd, Nat.reduceLT, Nat.reduceLeDiff, Nat.reduceSub, csN, AV.mk, pureL, AV.pure, fillA, flt, AV.get, AV.part, D.part, partD, hb1I, hb2I, Int.sub_self])
        (repeat refine And.intro (by first | omega | (simp; omega)) ?_)
        refine keep [0, 2, 3, 4, 5, 7, 68] ?_
        (try simp only [c40_36, cw, cops, cs0, cs1, cs2, cs3, cs4, cs5, St.put, apOk, reduceIte, Nat.reduceEqDiff, reduceCtorEq, Option.getD_none, forall_const, binD, unD, inK, D.isBool, bounds, Nat.reduceAdd, Nat.reduceLT, Nat.reduceLeDiff, Nat.reduceSub, csN, AV.mk, pureL, AV.pure, fillA, flt, AV.get, AV.part, D.part, partD, hb1I, hb2I, Int.sub_self])
        (repeat refine And.intro (by first | omega | (simp; omega)) ?_)
        -- TEST (.t 68)
        -- skip
        (try simp only [cw, cops, cs0, cs1, cs2, cs3, cs4, cs5, St.put, apOk, reduceIte, Nat.reduceEqDiff, reduceCtorEq, Option.getD_none, forall_const, binD, unD, inK, D.isBool, bounds, Nat.reduceAdd, Nat.reduceLT, Nat.reduceLeDiff, Nat.reduceSub, csN, AV.mk, pureL, AV.pure, fillA, flt, AV.get, AV.part, D.part, partD, hnt])
        (repeat refine And.intro (by first | omega | (simp; omega)) ?_)
        refine keep [0, 2, 3, 4, 5, 7] ?_
        (try simp only [c40_64, c40_41, l40_38, cw, cops, cs0, cs1, cs2, cs3, cs4, cs5, St.put, apOk, reduceIte, Nat.reduceEqDiff, reduceCtorEq, Option.getD_none, forall_const, binD, unD, inK, D.isBool, bounds, Nat.reduceAdd, Nat.reduceLT, Nat.reduceLeDiff, Nat.reduceSub, csN, AV.mk, pureL, AV.pure, fillA, flt, AV.get, AV.part, D.part, partD, hnt])
        (repeat refine And.intro (by first | omega | (simp; omega)) ?_)
        -- CALL 68
        refine ⟨_, cRead t hho2 hb, ?_⟩
        (try simp only [l40_39, cw, cops, cs0, cs1, cs2, cs3, cs4, cs5, St.put, apOk, reduceIte, Nat.reduceEqDiff, reduceCtorEq, Option.getD_none, forall_const, binD, unD, inK, D.isBool, bounds, Nat.reduceAdd, Nat.reduceLT, Nat.reduceLeDiff, Nat.reduceSub, csN, AV.mk, pureL, AV.pure, fillA, flt, AV.get, AV.part, D.part, partD])
        (repeat refine And.intro (by first | omega | (simp; omega)) ?_)
        -- CALL 17
        refine ⟨_, cZOf 1 (by omega), ?_⟩
        (try simp only [l40_40, cw, cops, cs0, cs1, cs2, cs3, cs4, cs5, St.put, apOk, reduceIte, Nat.reduceEqDiff, reduceCtorEq, Option.getD_none, forall_const, binD, unD, inK, D.isBool, bounds, Nat.reduceAdd, Nat.reduceLT, Nat.reduceLeDiff, Nat.reduceSub, csN, AV.mk, pureL, AV.pure, fillA, flt, AV.get, AV.part, D.part, partD, hmn, Int.lt_irrefl])
        (repeat refine And.intro (by first | omega | (simp; omega)) ?_)
        refine keep [0, 2, 3, 4, 5, 7, 10] ?_
        (try simp only [c40_63, c40_50, c40_43, l40_42, cw, cops, cs0, cs1, cs2, cs3, cs4, cs5, St.put, apOk, reduceIte, Nat.reduceEqDiff, reduceCtorEq, Option.getD_none, forall_const, binD, unD, inK, D.isBool, bounds, Nat.reduceAdd, Nat.reduceLT, Nat.reduceLeDiff, Nat.reduceSub, csN, AV.mk, pureL, AV.pure, fillA, flt, AV.get, AV.part, D.part, partD, hmn, Int.lt_irrefl])
        (repeat refine And.intro (by first | omega | (simp; omega)) ?_)
        refine keep [0, 2, 3, 4, 5, 10, 79] ?_
        (try simp only [c40_49, cw, cops, cs0, cs1, cs2, cs3, cs4, cs5, St.put, apOk, reduceIte, Nat.reduceEqDiff, reduceCtorEq, Option.getD_none, forall_const, binD, unD, inK, D.isBool, bounds, Nat.reduceAdd, Nat.reduceLT, Nat.reduceLeDiff, Nat.reduceSub, csN, AV.mk, pureL, AV.pure, fillA, flt, AV.get, AV.part, D.part, partD, hmn, Int.lt_irrefl])
        (repeat refine And.intro (by first | omega | (simp; omega)) ?_)
        -- TEST (.t 79)
        -- skip
        (try simp only [cw, cops, cs0, cs1, cs2, cs3, cs4, cs5, St.put, apOk, reduceIte, Nat.reduceEqDiff, reduceCtorEq, Option.getD_none, forall_const, binD, unD, inK, D.isBool, bounds, Nat.reduceAdd, Nat.reduceLT, Nat.reduceLeDiff, Nat.reduceSub, csN, AV.mk, pureL, AV.pure, fillA, flt, AV.get, AV.part, D.part, partD])
        (repeat refine And.intro (by first | omega | (simp; omega)) ?_)
        refine keep [0, 2, 3, 4, 10] ?_
        (try simp only [c40_62, c40_58, c40_53, l40_51, cw, cops, cs0, cs1, cs2, cs3, cs4, cs5, St.put, apOk, reduceIte, Nat.reduceEqDiff, reduceCtorEq, Option.getD_none, forall_const, binD, unD, inK, D.isBool, bounds, Nat.reduceAdd, Nat.reduceLT, Nat.reduceLeDiff, Nat.reduceSub, csN, AV.mk, pureL, AV.pure, fillA, flt, AV.get, AV.part, D.part, partD])
        (repeat refine And.intro (by first | omega | (simp; omega)) ?_)
        -- CALL 42
        refine ⟨_, cTextZ _ _ 4000 (parseZ_bt _) (bt_one) (by omega), ?_⟩
        (try simp only [l40_52, cw, cops, cs0, cs1, cs2, cs3, cs4, cs5, St.put, apOk, reduceIte, Nat.reduceEqDiff, reduceCtorEq, Option.getD_none, forall_const, binD, unD, inK, D.isBool, bounds, Nat.reduceAdd, Nat.reduceLT, Nat.reduceLeDiff, Nat.reduceSub, csN, AV.mk, pureL, AV.pure, fillA, flt, AV.get, AV.part, D.part, partD, htx])
        (repeat refine And.intro (by first | omega | (simp; omega)) ?_)
        refine keep [2, 3, 4, 10, 93] ?_
        (try simp only [c40_57, cw, cops, cs0, cs1, cs2, cs3, cs4, cs5, St.put, apOk, reduceIte, Nat.reduceEqDiff, reduceCtorEq, Option.getD_none, forall_const, binD, unD, inK, D.isBool, bounds, Nat.reduceAdd, Nat.reduceLT, Nat.reduceLeDiff, Nat.reduceSub, csN, AV.mk, pureL, AV.pure, fillA, flt, AV.get, AV.part, D.part, partD, htx])
        (repeat refine And.intro (by first | omega | (simp; omega)) ?_)
        -- TEST (.t 93)
        -- skip
        (try simp only [cw, cops, cs0, cs1, cs2, cs3, cs4, cs5, St.put, apOk, reduceIte, Nat.reduceEqDiff, reduceCtorEq, Option.getD_none, forall_const, binD, unD, inK, D.isBool, bounds, Nat.reduceAdd, Nat.reduceLT, Nat.reduceLeDiff, Nat.reduceSub, csN, AV.mk, pureL, AV.pure, fillA, flt, AV.get, AV.part, D.part, partD])
        (repeat refine And.intro (by first | omega | (simp; omega)) ?_)
        refine keep [2, 3, 10] ?_
        (try simp only [c40_61, c40_60, l40_59, cw, cops, cs0, cs1, cs2, cs3, cs4, cs5, St.put, apOk, reduceIte, Nat.reduceEqDiff, reduceCtorEq, Option.getD_none, forall_const, binD, unD, inK, D.isBool, bounds, Nat.reduceAdd, Nat.reduceLT, Nat.reduceLeDiff, Nat.reduceSub, csN, AV.mk, pureL, AV.pure, fillA, flt, AV.get, AV.part, D.part, partD])
        (repeat refine And.intro (by first | omega | (simp; omega)) ?_)
        refine keep [2, 3] ?_
        (try simp only [cw, cops, cs0, cs1, cs2, cs3, cs4, cs5, St.put, apOk, reduceIte, Nat.reduceEqDiff, reduceCtorEq, Option.getD_none, forall_const, binD, unD, inK, D.isBool, bounds, Nat.reduceAdd, Nat.reduceLT, Nat.reduceLeDiff, Nat.reduceSub, csN, AV.mk, pureL, AV.pure, fillA, flt, AV.get, AV.part, D.part, partD, Ends, resD, resL, resV])
        (repeat refine And.intro (by first | omega | (simp; omega)) ?_)
        -- RETURN
        rw [hF]
      · rw [if_neg hb] at hF
        have hb1I : (1000 : Int) < ((body t).length : Int) := by omega
        rw [hnt]
        -- skip
        refine ⟨_, cDigs t (by omega), ?_⟩
        (try simp only [l40_31, cw, cops, cs0, cs1, cs2, cs3, cs4, cs5, St.put, apOk, reduceIte, Nat.reduceEqDiff, reduceCtorEq, Option.getD_none, forall_const, binD, unD, inK, D.isBool, bounds, Nat.reduceAdd, Nat.reduceLT, Nat.reduceLeDiff, Nat.reduceSub, csN, AV.mk, pureL, AV.pure, fillA, flt, AV.get, AV.part, D.part, partD, hb1I])
        (repeat refine And.intro (by first | omega | (simp; omega)) ?_)
        refine keep [0, 2, 3, 4, 5, 7, 68] ?_
        (try simp only [c40_36, cw, cops, cs0, cs1, cs2, cs3, cs4, cs5, St.put, apOk, reduceIte, Nat.reduceEqDiff, reduceCtorEq, Option.getD_none, forall_const, binD, unD, inK, D.isBool, bounds, Nat.reduceAdd, Nat.reduceLT, Nat.reduceLeDiff, Nat.reduceSub, csN, AV.mk, pureL, AV.pure, fillA, flt, AV.get, AV.part, D.part, partD, hb1I])
        (repeat refine And.intro (by first | omega | (simp; omega)) ?_)
        -- TEST (.t 68)
        (try simp only [c40_35, c40_34, l40_33, cw, cops, cs0, cs1, cs2, cs3, cs4, cs5, St.put, apOk, reduceIte, Nat.reduceEqDiff, reduceCtorEq, Option.getD_none, forall_const, binD, unD, inK, D.isBool, bounds, Nat.reduceAdd, Nat.reduceLT, Nat.reduceLeDiff, Nat.reduceSub, csN, AV.mk, pureL, AV.pure, fillA, flt, AV.get, AV.part, D.part, partD])
        (repeat refine And.intro (by first | omega | (simp; omega)) ?_)
        refine keep [2, 3] ?_
        (try simp only [cw, cops, cs0, cs1, cs2, cs3, cs4, cs5, St.put, apOk, reduceIte, Nat.reduceEqDiff, reduceCtorEq, Option.getD_none, forall_const, binD, unD, inK, D.isBool, bounds, Nat.reduceAdd, Nat.reduceLT, Nat.reduceLeDiff, Nat.reduceSub, csN, AV.mk, pureL, AV.pure, fillA, flt, AV.get, AV.part, D.part, partD, Ends, resD, resL, resV])
        (repeat refine And.intro (by first | omega | (simp; omega)) ?_)
        -- RETURN
        rw [hF]

end Go.Proofs.Ytbbidekjbgjooaa.M
