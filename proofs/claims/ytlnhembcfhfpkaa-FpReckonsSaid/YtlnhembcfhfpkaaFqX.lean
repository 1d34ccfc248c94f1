/- FpReckons: the law walked, where a polynomial has a fault or the divisor is 0. -/
import Derived.Test.YtlnhembcfhfpkaaFqW
namespace Go.Proofs.Ytlnhembcfhfpkaa.M
open Go.RowKit
set_option linter.unusedSimpArgs false
set_option linter.unusedVariables false

-- more
theorem copsC (G : FuncId → List D → D → Prop) (c : COp) (l : List COp) (K : St → Prop) (s : St) : cops G (c :: l) K s = gstep G c (cops G l K) s := rfl
theorem copsN (G : FuncId → List D → D → Prop) (K : St → Prop) (s : St) : cops G [] K s = K s := rfl
set_option maxRecDepth 20000 in
set_option maxHeartbeats 4000000 in
theorem reckons_zero (T T' : Nat) (f g : List Int) (n p : Int) (hn : n ≤ 9223372036854775807) (hf1 : Gp f p) (hg1 : Gp g p) (hg0 : g = []) : Con Try.prog [] 6 [LT T f, LT T' g, I n, I p] (.bool true) := by
  have hcz := hf1.chk
  have hgz := hg1.chk
  have hll : f.length ≤ 65 := hf1.len
  have hlg' : g.length ≤ 65 := hg1.len
  have hlf2 : f.length ≤ 9223372036854775807 := by omega
  have hlg2 : g.length ≤ 9223372036854775807 := by omega
  have hk0 : chk2 f g p = (0, 0) := by unfold chk2; rw [hcz, if_pos rfl, hgz]
  have hk1 : (chk2 f g p).1 = 0 := by rw [hk0]
  have hml : (mulP f g p).length ≤ 9223372036854775807 := by
    have := mulP_len (f := f) (g := g) (p := p); omega
  have cM : Con Try.prog [] 14 [L f, L g, I p] (.tup [L (mulP f g p), flt 0 0]) := by
    have := eMul_con (T := 3) (T' := 3) f g p
    rwa [hk0, if_pos rfl] at this
  · have hgl : (g.length : Int) = 0 := by simp [hg0]
    have cD : Con Try.prog [] 17 [L f, L g, I p] (.tup [L [], L [], flt 4 0]) := by
      have := eDiv_con (T := 3) (T' := 3) f g p
      have hd : divF f g p = (4, 0) := by unfold divF; rw [if_pos hk1, if_pos hg0]
      rwa [hd, if_neg (by decide), if_neg (by decide)] at this
    by_cases hn0 : n < 0
    · have cP : Con Try.prog [] 16 [L f, I n, L g, I p] (.tup [L [], flt 7 0]) := by
        have := ePower_con (T := 3) (T' := 3) f g n p hn
        have hd : powF f g n p = (7, 0) := by unfold powF; rw [if_pos hk1, if_pos hn0]
        rwa [hd, if_neg (by decide)] at this
      refine fn6.con rfl (by simp) ?_
      -- fz
      (try simp only [init4, c6, c6_126, c6_1, l6_0, cw, cops, csW, csL,  reduceIte, Nat.reduceEqDiff, reduceCtorEq, Nat.reduceAdd, Nat.reduceLT, Nat.reduceLeDiff, Nat.reduceSub, csE, Int.add_zero])
      (repeat refine And.intro (by first | omega | (simp; omega)) ?_)
      refine keep [0, 1, 2, 3] ?_
      (try simp only [c6_125, c6_3, l6_2, cw, cops, csW, csL,  reduceIte, Nat.reduceEqDiff, reduceCtorEq, Nat.reduceAdd, Nat.reduceLT, Nat.reduceLeDiff, Nat.reduceSub, csE, Int.add_zero])
      (repeat refine And.intro (by first | omega | (simp; omega)) ?_)
      refine keep [0, 1, 2, 3, 9] ?_
      (try simp only [c6_124, c6_5, l6_4, cw, cops, csW, csL,  reduceIte, Nat.reduceEqDiff, reduceCtorEq, Nat.reduceAdd, Nat.reduceLT, Nat.reduceLeDiff, Nat.reduceSub, csE, Int.add_zero])
      (repeat refine And.intro (by first | omega | (simp; omega)) ?_)
      refine keepF2 20 _ 22 _ [0, 1, 2, 3, 9, 10] (by rfl) (by rfl) ?_
      (try simp only [c6_123, c6_8, l6_6, cw, cops, csW, csL,  reduceIte, Nat.reduceEqDiff, reduceCtorEq, Nat.reduceAdd, Nat.reduceLT, Nat.reduceLeDiff, Nat.reduceSub, csE, Int.add_zero])
      (repeat refine And.intro (by first | omega | (simp; omega)) ?_)
      -- CALL 9
      refine ⟨_, cx (checkMod_con f p), ?_⟩
      (try simp only [l6_7, cw, cops, csW, csL,  reduceIte, Nat.reduceEqDiff, reduceCtorEq, Nat.reduceAdd, Nat.reduceLT, Nat.reduceLeDiff, Nat.reduceSub, csE, Int.add_zero, hcz, Bool.true_or])
      (repeat refine And.intro (by first | omega | (simp; omega)) ?_)
      refine keep [0, 1, 2, 3, 9, 10, 11] ?_
      (try simp only [c6_122, c6_11, l6_9, cw, cops, csW, csL,  reduceIte, Nat.reduceEqDiff, reduceCtorEq, Nat.reduceAdd, Nat.reduceLT, Nat.reduceLeDiff, Nat.reduceSub, csE, Int.add_zero, hcz, Bool.true_or])
      (repeat refine And.intro (by first | omega | (simp; omega)) ?_)
      -- CALL 14
      refine ⟨_, cx (cM), ?_⟩
      (try simp only [l6_10, cw, cops, csW, csL,  reduceIte, Nat.reduceEqDiff, reduceCtorEq, Nat.reduceAdd, Nat.reduceLT, Nat.reduceLeDiff, Nat.reduceSub, csE, Int.add_zero, hcz, Bool.true_or])
      (repeat refine And.intro (by first | omega | (simp; omega)) ?_)
      refine keep [0, 1, 2, 3, 9, 10, 11, 12, 13] ?_
      (try simp only [c6_121, c6_14, l6_12, cw, cops, csW, csL,  reduceIte, Nat.reduceEqDiff, reduceCtorEq, Nat.reduceAdd, Nat.reduceLT, Nat.reduceLeDiff, Nat.reduceSub, csE, Int.add_zero, hcz, Bool.true_or])
      (repeat refine And.intro (by first | omega | (simp; omega)) ?_)
      -- CALL 17
      refine ⟨_, cx (cD), ?_⟩
      (try simp only [l6_13, cw, cops, csW, csL,  reduceIte, Nat.reduceEqDiff, reduceCtorEq, Nat.reduceAdd, Nat.reduceLT, Nat.reduceLeDiff, Nat.reduceSub, csE, Int.add_zero, hcz, Bool.true_or])
      (repeat refine And.intro (by first | omega | (simp; omega)) ?_)
      refine keep [0, 1, 2, 3, 9, 10, 11, 12, 13, 14, 15, 16] ?_
      (try simp only [c6_120, c6_17, l6_15, cw, cops, csW, csL,  reduceIte, Nat.reduceEqDiff, reduceCtorEq, Nat.reduceAdd, Nat.reduceLT, Nat.reduceLeDiff, Nat.reduceSub, csE, Int.add_zero, hcz, Bool.true_or])
      (repeat refine And.intro (by first | omega | (simp; omega)) ?_)
      -- CALL 16
      refine ⟨_, cx (cP), ?_⟩
      (try simp only [l6_16, cw, cops, csW, csL,  reduceIte, Nat.reduceEqDiff, reduceCtorEq, Nat.reduceAdd, Nat.reduceLT, Nat.reduceLeDiff, Nat.reduceSub, csE, Int.add_zero, hcz, Bool.true_or])
      (repeat refine And.intro (by first | omega | (simp; omega)) ?_)
      refine keep [0, 1, 2, 3, 9, 10, 11, 12, 13, 14, 15, 16, 17, 18] ?_
      (try simp only [c6_119, c6_26, c6_21, l6_18, cw, cops, csW, csL,  reduceIte, Nat.reduceEqDiff, reduceCtorEq, Nat.reduceAdd, Nat.reduceLT, Nat.reduceLeDiff, Nat.reduceSub, csE, Int.add_zero, hcz, Bool.true_or])
      (repeat refine And.intro (by first | omega | (simp; omega)) ?_)
      -- CALL 10
      refine ⟨_, cx (fpBegun_con), ?_⟩
      (try simp only [l6_19, cw, cops, csW, csL,  reduceIte, Nat.reduceEqDiff, reduceCtorEq, Nat.reduceAdd, Nat.reduceLT, Nat.reduceLeDiff, Nat.reduceSub, csE, Int.add_zero, Bool.true_or])
      (repeat refine And.intro (by first | omega | (simp; omega)) ?_)
      -- CALL 18
      refine ⟨_, cx (check_con (T := 3) f p), ?_⟩
      (try simp only [l6_20, cw, cops, csW, csL,  reduceIte, Nat.reduceEqDiff, reduceCtorEq, Nat.reduceAdd, Nat.reduceLT, Nat.reduceLeDiff, Nat.reduceSub, csE, Int.add_zero, hcz])
      (repeat refine And.intro (by first | omega | (simp; omega)) ?_)
      refine keep [0, 1, 2, 3, 9, 10, 11, 12, 13, 14, 15, 16, 17, 18, 57] ?_
      (try simp only [c6_25, cw, cops, csW, csL,  reduceIte, Nat.reduceEqDiff, reduceCtorEq, Nat.reduceAdd, Nat.reduceLT, Nat.reduceLeDiff, Nat.reduceSub, csE, Int.add_zero, hcz])
      (repeat refine And.intro (by first | omega | (simp; omega)) ?_)
      -- TEST (.t 57)
      -- skip
      (try simp only [cw, cops, csW, csL,  reduceIte, Nat.reduceEqDiff, reduceCtorEq, Nat.reduceAdd, Nat.reduceLT, Nat.reduceLeDiff, Nat.reduceSub, csE, Int.add_zero, hcz])
      (repeat refine And.intro (by first | omega | (simp; omega)) ?_)
      refine keep [0, 1, 2, 3, 9, 10, 11, 12, 13, 14, 15, 16, 17, 18] ?_
      (try simp only [c6_118, c6_33, c6_28, l6_27, cw, cops, csW, csL,  reduceIte, Nat.reduceEqDiff, reduceCtorEq, Nat.reduceAdd, Nat.reduceLT, Nat.reduceLeDiff, Nat.reduceSub, csE, Int.add_zero, hcz])
      (repeat refine And.intro (by first | omega | (simp; omega)) ?_)
      refine keep [0, 1, 2, 3, 9, 10, 11, 12, 13, 14, 15, 16, 17, 18, 60] ?_
      (try simp only [c6_32, cw, cops, csW, csL,  reduceIte, Nat.reduceEqDiff, reduceCtorEq, Nat.reduceAdd, Nat.reduceLT, Nat.reduceLeDiff, Nat.reduceSub, csE, Int.add_zero, hcz])
      (repeat refine And.intro (by first | omega | (simp; omega)) ?_)
      -- TEST (.t 60)
      (try simp only [c6_31, l6_29, cw, cops, csW, csL,  reduceIte, Nat.reduceEqDiff, reduceCtorEq, Nat.reduceAdd, Nat.reduceLT, Nat.reduceLeDiff, Nat.reduceSub, csE, Int.add_zero])
      (repeat refine And.intro (by first | omega | (simp; omega)) ?_)
      -- CALL 9
      refine ⟨_, cx (checkMod_con g p), ?_⟩
      (try simp only [l6_30, cw, cops, csW, csL,  reduceIte, Nat.reduceEqDiff, reduceCtorEq, Nat.reduceAdd, Nat.reduceLT, Nat.reduceLeDiff, Nat.reduceSub, csE, Int.add_zero, hgz, Bool.true_or])
      (repeat refine And.intro (by first | omega | (simp; omega)) ?_)
      refine keep [0, 1, 2, 3, 9, 10, 11, 12, 13, 14, 15, 16, 17, 18] ?_
      (try simp only [c6_117, c6_42, c6_37, l6_34, cw, cops, csW, csL,  reduceIte, Nat.reduceEqDiff, reduceCtorEq, Nat.reduceAdd, Nat.reduceLT, Nat.reduceLeDiff, Nat.reduceSub, csE, Int.add_zero, hgz, Bool.true_or])
      (repeat refine And.intro (by first | omega | (simp; omega)) ?_)
      -- CALL 11
      refine ⟨_, cx (same_con (T := 3) f f hlf2), ?_⟩
      (try simp only [l6_35, cw, cops, csW, csL,  reduceIte, Nat.reduceEqDiff, reduceCtorEq, Nat.reduceAdd, Nat.reduceLT, Nat.reduceLeDiff, Nat.reduceSub, csE, Int.add_zero, Bool.true_or])
      (repeat refine And.intro (by first | omega | (simp; omega)) ?_)
      -- CALL 11
      refine ⟨_, cx (same_con (T := 3) g g hlg2), ?_⟩
      (try simp only [l6_36, cw, cops, csW, csL,  reduceIte, Nat.reduceEqDiff, reduceCtorEq, Nat.reduceAdd, Nat.reduceLT, Nat.reduceLeDiff, Nat.reduceSub, csE, Int.add_zero, Bool.true_or])
      (repeat refine And.intro (by first | omega | (simp; omega)) ?_)
      refine keep [0, 1, 2, 3, 11, 12, 14, 15, 16, 17, 18, 78] ?_
      (try simp only [c6_41, cw, cops, csW, csL,  reduceIte, Nat.reduceEqDiff, reduceCtorEq, Nat.reduceAdd, Nat.reduceLT, Nat.reduceLeDiff, Nat.reduceSub, csE, Int.add_zero, Bool.true_or])
      (repeat refine And.intro (by first | omega | (simp; omega)) ?_)
      -- TEST (.t 78)
      -- skip
      (try simp only [cw, cops, csW, csL,  reduceIte, Nat.reduceEqDiff, reduceCtorEq, Nat.reduceAdd, Nat.reduceLT, Nat.reduceLeDiff, Nat.reduceSub, csE, Int.add_zero])
      (repeat refine And.intro (by first | omega | (simp; omega)) ?_)
      refine keep [0, 1, 2, 3, 11, 12, 14, 15, 16, 17, 18] ?_
      (try simp only [c6_116, c6_49, c6_44, l6_43, cw, cops, csW, csL,  reduceIte, Nat.reduceEqDiff, reduceCtorEq, Nat.reduceAdd, Nat.reduceLT, Nat.reduceLeDiff, Nat.reduceSub, csE, Int.add_zero])
      (repeat refine And.intro (by first | omega | (simp; omega)) ?_)
      refine keep [0, 1, 2, 3, 11, 12, 14, 15, 16, 17, 18, 81] ?_
      (try simp only [c6_48, cw, cops, csW, csL,  reduceIte, Nat.reduceEqDiff, reduceCtorEq, Nat.reduceAdd, Nat.reduceLT, Nat.reduceLeDiff, Nat.reduceSub, csE, Int.add_zero])
      (repeat refine And.intro (by first | omega | (simp; omega)) ?_)
      -- TEST (.t 81)
      -- skip
      (try simp only [cw, cops, csW, csL,  reduceIte, Nat.reduceEqDiff, reduceCtorEq, Nat.reduceAdd, Nat.reduceLT, Nat.reduceLeDiff, Nat.reduceSub, csE, Int.add_zero])
      (repeat refine And.intro (by first | omega | (simp; omega)) ?_)
      refine keep [0, 1, 2, 3, 12, 14, 15, 16, 17, 18] ?_
      (try simp only [c6_115, c6_56, c6_51, l6_50, cw, cops, csW, csL,  reduceIte, Nat.reduceEqDiff, reduceCtorEq, Nat.reduceAdd, Nat.reduceLT, Nat.reduceLeDiff, Nat.reduceSub, csE, Int.add_zero])
      (repeat refine And.intro (by first | omega | (simp; omega)) ?_)
      refine keep [0, 1, 2, 3, 12, 14, 15, 16, 17, 18, 105] ?_
      (try simp only [c6_55, cw, cops, csW, csL,  reduceIte, Nat.reduceEqDiff, reduceCtorEq, Nat.reduceAdd, Nat.reduceLT, Nat.reduceLeDiff, Nat.reduceSub, csE, Int.add_zero])
      (repeat refine And.intro (by first | omega | (simp; omega)) ?_)
      -- TEST (.t 105)
      -- skip
      refine ⟨fun _ => ?_, fun _ => ?_⟩
      · (try simp only [c6_54, c6_53, l6_52, cw, cops, csW, csL,  reduceIte, Nat.reduceEqDiff, reduceCtorEq, Nat.reduceAdd, Nat.reduceLT, Nat.reduceLeDiff, Nat.reduceSub, csE, Int.add_zero])
        (repeat refine And.intro (by first | omega | (simp; omega)) ?_)
        refine keep [8] ?_
        (try simp only [cw, cops, csW, csL,  reduceIte, Nat.reduceEqDiff, reduceCtorEq, Nat.reduceAdd, Nat.reduceLT, Nat.reduceLeDiff, Nat.reduceSub, csE, Int.add_zero, Ends, resD, resL, resV])
        (repeat refine And.intro (by first | omega | (simp; omega)) ?_)
        -- RETURN
      · (try simp only [cw, cops, csW, csL,  reduceIte, Nat.reduceEqDiff, reduceCtorEq, Nat.reduceAdd, Nat.reduceLT, Nat.reduceLeDiff, Nat.reduceSub, csE, Int.add_zero])
        (repeat refine And.intro (by first | omega | (simp; omega)) ?_)
        refine keep [0, 1, 2, 3, 12, 14, 15, 16, 17, 18] ?_
        (try simp only [c6_114, c6_65, c6_60, l6_57, cw, cops, csW, csL,  reduceIte, Nat.reduceEqDiff, reduceCtorEq, Nat.reduceAdd, Nat.reduceLT, Nat.reduceLeDiff, Nat.reduceSub, csE, Int.add_zero])
        (repeat refine And.intro (by first | omega | (simp; omega)) ?_)
        -- CALL 19
        refine ⟨_, cx (mmul_con f g p hf1.pr.pos hf1.rg hg1.rg (by omega) (by omega)), ?_⟩
        (try simp only [l6_58, cw, cops, csW, csL,  reduceIte, Nat.reduceEqDiff, reduceCtorEq, Nat.reduceAdd, Nat.reduceLT, Nat.reduceLeDiff, Nat.reduceSub, csE, Int.add_zero])
        (repeat refine And.intro (by first | omega | (simp; omega)) ?_)
        -- CALL 11
        refine ⟨_, cx (same_con _ _ hml), ?_⟩
        (try simp only [l6_59, cw, cops, csW, csL,  reduceIte, Nat.reduceEqDiff, reduceCtorEq, Nat.reduceAdd, Nat.reduceLT, Nat.reduceLeDiff, Nat.reduceSub, csE, Int.add_zero])
        (repeat refine And.intro (by first | omega | (simp; omega)) ?_)
        refine keep [0, 1, 2, 3, 14, 15, 16, 17, 18, 112] ?_
        (try simp only [c6_64, cw, cops, csW, csL,  reduceIte, Nat.reduceEqDiff, reduceCtorEq, Nat.reduceAdd, Nat.reduceLT, Nat.reduceLeDiff, Nat.reduceSub, csE, Int.add_zero])
        (repeat refine And.intro (by first | omega | (simp; omega)) ?_)
        -- TEST (.t 112)
        -- skip
        (try simp only [cw, cops, csW, csL,  reduceIte, Nat.reduceEqDiff, reduceCtorEq, Nat.reduceAdd, Nat.reduceLT, Nat.reduceLeDiff, Nat.reduceSub, csE, Int.add_zero, hn0])
        (repeat refine And.intro (by first | omega | (simp; omega)) ?_)
        refine keep [0, 1, 2, 3, 14, 15, 16, 17, 18] ?_
        (try simp only [c6_113, c6_77, c6_67, l6_66, cw, cops, csW, csL,  reduceIte, Nat.reduceEqDiff, reduceCtorEq, Nat.reduceAdd, Nat.reduceLT, Nat.reduceLeDiff, Nat.reduceSub, csE, Int.add_zero, hn0])
        (repeat refine And.intro (by first | omega | (simp; omega)) ?_)
        refine keep [0, 1, 2, 3, 14, 15, 16, 17, 18, 114] ?_
        (try simp only [c6_76, cw, cops, csW, csL,  reduceIte, Nat.reduceEqDiff, reduceCtorEq, Nat.reduceAdd, Nat.reduceLT, Nat.reduceLeDiff, Nat.reduceSub, csE, Int.add_zero, hn0])
        (repeat refine And.intro (by first | omega | (simp; omega)) ?_)
        -- TEST (.t 114)
        (try simp only [c6_75, c6_70, l6_68, cw, cops, csW, csL,  reduceIte, Nat.reduceEqDiff, reduceCtorEq, Nat.reduceAdd, Nat.reduceLT, Nat.reduceLeDiff, Nat.reduceSub, csE, Int.add_zero, hn0])
        (repeat refine And.intro (by first | omega | (simp; omega)) ?_)
        -- CALL 20
        refine ⟨_, cx (lfault_con 7 0), ?_⟩
        (try simp only [l6_69, cw, cops, csW, csL,  reduceIte, Nat.reduceEqDiff, reduceCtorEq, Nat.reduceAdd, Nat.reduceLT, Nat.reduceLeDiff, Nat.reduceSub, csE, Int.add_zero])
        (repeat refine And.intro (by first | omega | (simp; omega)) ?_)
        refine keep [0, 1, 2, 3, 14, 15, 16, 17, 18, 122] ?_
        (try simp only [c6_74, cw, cops, csW, csL,  reduceIte, Nat.reduceEqDiff, reduceCtorEq, Nat.reduceAdd, Nat.reduceLT, Nat.reduceLeDiff, Nat.reduceSub, csE, Int.add_zero])
        (repeat refine And.intro (by first | omega | (simp; omega)) ?_)
        -- TEST (.t 122)
        -- skip
        (try simp only [cw, cops, csW, csL,  reduceIte, Nat.reduceEqDiff, reduceCtorEq, Nat.reduceAdd, Nat.reduceLT, Nat.reduceLeDiff, Nat.reduceSub, csE, Int.add_zero, hgl])
        (repeat refine And.intro (by first | omega | (simp; omega)) ?_)
        refine keep [0, 1, 2, 3, 14, 15, 16, 17, 18] ?_
        (try simp only [c6_112, c6_85, c6_79, l6_78, cw, cops, csW, csL,  reduceIte, Nat.reduceEqDiff, reduceCtorEq, Nat.reduceAdd, Nat.reduceLT, Nat.reduceLeDiff, Nat.reduceSub, csE, Int.add_zero, hgl])
        (repeat refine And.intro (by first | omega | (simp; omega)) ?_)
        refine keep [0, 1, 2, 3, 14, 15, 16, 17, 18, 125] ?_
        (try simp only [c6_84, cw, cops, csW, csL,  reduceIte, Nat.reduceEqDiff, reduceCtorEq, Nat.reduceAdd, Nat.reduceLT, Nat.reduceLeDiff, Nat.reduceSub, csE, Int.add_zero, hgl])
        (repeat refine And.intro (by first | omega | (simp; omega)) ?_)
        -- TEST (.t 125)
        (try simp only [c6_83, c6_82, l6_80, cw, cops, csW, csL,  reduceIte, Nat.reduceEqDiff, reduceCtorEq, Nat.reduceAdd, Nat.reduceLT, Nat.reduceLeDiff, Nat.reduceSub, csE, Int.add_zero, hgl])
        (repeat refine And.intro (by first | omega | (simp; omega)) ?_)
        -- CALL 20
        -- slow
        refine ⟨_, cx (lfault_con 4 0), ?_⟩
        (try rw [cops_app])
        unfold l6_81
        repeat (rw [copsC]; (try simp only [cw, csW, csL,  reduceIte, Nat.reduceEqDiff, reduceCtorEq, Nat.reduceAdd, Nat.reduceLT, Nat.reduceLeDiff, Nat.reduceSub, csE, Int.add_zero, hn0]); (repeat refine And.intro (by first | omega | (simp; omega)) ?_))
        (try rw [copsN])
        (try simp only [cw, cops, csW, csL,  reduceIte, Nat.reduceEqDiff, reduceCtorEq, Nat.reduceAdd, Nat.reduceLT, Nat.reduceLeDiff, Nat.reduceSub, csE, Int.add_zero, hn0])
        (repeat refine And.intro (by first | omega | (simp; omega)) ?_)
        refine keep [8] ?_
        (try simp only [cw, cops, csW, csL,  reduceIte, Nat.reduceEqDiff, reduceCtorEq, Nat.reduceAdd, Nat.reduceLT, Nat.reduceLeDiff, Nat.reduceSub, csE, Int.add_zero, Ends, resD, resL, resV, hn0])
        (repeat refine And.intro (by first | omega | (simp; omega)) ?_)
        -- RETURN
        -- slow

    · have cP : Con Try.prog [] 16 [L f, I n, L g, I p] (.tup [L [], flt 4 0]) := by
        have := ePower_con (T := 3) (T' := 3) f g n p hn
        have hd : powF f g n p = (4, 0) := by unfold powF; rw [if_pos hk1, if_neg hn0, if_pos hg0]
        rwa [hd, if_neg (by decide)] at this
      refine fn6.con rfl (by simp) ?_
      -- fz
      (try simp only [init4, c6, c6_126, c6_1, l6_0, cw, cops, csW, csL,  reduceIte, Nat.reduceEqDiff, reduceCtorEq, Nat.reduceAdd, Nat.reduceLT, Nat.reduceLeDiff, Nat.reduceSub, csE, Int.add_zero])
      (repeat refine And.intro (by first | omega | (simp; omega)) ?_)
      refine keep [0, 1, 2, 3] ?_
      (try simp only [c6_125, c6_3, l6_2, cw, cops, csW, csL,  reduceIte, Nat.reduceEqDiff, reduceCtorEq, Nat.reduceAdd, Nat.reduceLT, Nat.reduceLeDiff, Nat.reduceSub, csE, Int.add_zero])
      (repeat refine And.intro (by first | omega | (simp; omega)) ?_)
      refine keep [0, 1, 2, 3, 9] ?_
      (try simp only [c6_124, c6_5, l6_4, cw, cops, csW, csL,  reduceIte, Nat.reduceEqDiff, reduceCtorEq, Nat.reduceAdd, Nat.reduceLT, Nat.reduceLeDiff, Nat.reduceSub, csE, Int.add_zero])
      (repeat refine And.intro (by first | omega | (simp; omega)) ?_)
      refine keepF2 20 _ 22 _ [0, 1, 2, 3, 9, 10] (by rfl) (by rfl) ?_
      (try simp only [c6_123, c6_8, l6_6, cw, cops, csW, csL,  reduceIte, Nat.reduceEqDiff, reduceCtorEq, Nat.reduceAdd, Nat.reduceLT, Nat.reduceLeDiff, Nat.reduceSub, csE, Int.add_zero])
      (repeat refine And.intro (by first | omega | (simp; omega)) ?_)
      -- CALL 9
      refine ⟨_, cx (checkMod_con f p), ?_⟩
      (try simp only [l6_7, cw, cops, csW, csL,  reduceIte, Nat.reduceEqDiff, reduceCtorEq, Nat.reduceAdd, Nat.reduceLT, Nat.reduceLeDiff, Nat.reduceSub, csE, Int.add_zero, hcz, Bool.true_or])
      (repeat refine And.intro (by first | omega | (simp; omega)) ?_)
      refine keep [0, 1, 2, 3, 9, 10, 11] ?_
      (try simp only [c6_122, c6_11, l6_9, cw, cops, csW, csL,  reduceIte, Nat.reduceEqDiff, reduceCtorEq, Nat.reduceAdd, Nat.reduceLT, Nat.reduceLeDiff, Nat.reduceSub, csE, Int.add_zero, hcz, Bool.true_or])
      (repeat refine And.intro (by first | omega | (simp; omega)) ?_)
      -- CALL 14
      refine ⟨_, cx (cM), ?_⟩
      (try simp only [l6_10, cw, cops, csW, csL,  reduceIte, Nat.reduceEqDiff, reduceCtorEq, Nat.reduceAdd, Nat.reduceLT, Nat.reduceLeDiff, Nat.reduceSub, csE, Int.add_zero, hcz, Bool.true_or])
      (repeat refine And.intro (by first | omega | (simp; omega)) ?_)
      refine keep [0, 1, 2, 3, 9, 10, 11, 12, 13] ?_
      (try simp only [c6_121, c6_14, l6_12, cw, cops, csW, csL,  reduceIte, Nat.reduceEqDiff, reduceCtorEq, Nat.reduceAdd, Nat.reduceLT, Nat.reduceLeDiff, Nat.reduceSub, csE, Int.add_zero, hcz, Bool.true_or])
      (repeat refine And.intro (by first | omega | (simp; omega)) ?_)
      -- CALL 17
      refine ⟨_, cx (cD), ?_⟩
      (try simp only [l6_13, cw, cops, csW, csL,  reduceIte, Nat.reduceEqDiff, reduceCtorEq, Nat.reduceAdd, Nat.reduceLT, Nat.reduceLeDiff, Nat.reduceSub, csE, Int.add_zero, hcz, Bool.true_or])
      (repeat refine And.intro (by first | omega | (simp; omega)) ?_)
      refine keep [0, 1, 2, 3, 9, 10, 11, 12, 13, 14, 15, 16] ?_
      (try simp only [c6_120, c6_17, l6_15, cw, cops, csW, csL,  reduceIte, Nat.reduceEqDiff, reduceCtorEq, Nat.reduceAdd, Nat.reduceLT, Nat.reduceLeDiff, Nat.reduceSub, csE, Int.add_zero, hcz, Bool.true_or])
      (repeat refine And.intro (by first | omega | (simp; omega)) ?_)
      -- CALL 16
      refine ⟨_, cx (cP), ?_⟩
      (try simp only [l6_16, cw, cops, csW, csL,  reduceIte, Nat.reduceEqDiff, reduceCtorEq, Nat.reduceAdd, Nat.reduceLT, Nat.reduceLeDiff, Nat.reduceSub, csE, Int.add_zero, hcz, Bool.true_or])
      (repeat refine And.intro (by first | omega | (simp; omega)) ?_)
      refine keep [0, 1, 2, 3, 9, 10, 11, 12, 13, 14, 15, 16, 17, 18] ?_
      (try simp only [c6_119, c6_26, c6_21, l6_18, cw, cops, csW, csL,  reduceIte, Nat.reduceEqDiff, reduceCtorEq, Nat.reduceAdd, Nat.reduceLT, Nat.reduceLeDiff, Nat.reduceSub, csE, Int.add_zero, hcz, Bool.true_or])
      (repeat refine And.intro (by first | omega | (simp; omega)) ?_)
      -- CALL 10
      refine ⟨_, cx (fpBegun_con), ?_⟩
      (try simp only [l6_19, cw, cops, csW, csL,  reduceIte, Nat.reduceEqDiff, reduceCtorEq, Nat.reduceAdd, Nat.reduceLT, Nat.reduceLeDiff, Nat.reduceSub, csE, Int.add_zero, Bool.true_or])
      (repeat refine And.intro (by first | omega | (simp; omega)) ?_)
      -- CALL 18
      refine ⟨_, cx (check_con (T := 3) f p), ?_⟩
      (try simp only [l6_20, cw, cops, csW, csL,  reduceIte, Nat.reduceEqDiff, reduceCtorEq, Nat.reduceAdd, Nat.reduceLT, Nat.reduceLeDiff, Nat.reduceSub, csE, Int.add_zero, hcz])
      (repeat refine And.intro (by first | omega | (simp; omega)) ?_)
      refine keep [0, 1, 2, 3, 9, 10, 11, 12, 13, 14, 15, 16, 17, 18, 57] ?_
      (try simp only [c6_25, cw, cops, csW, csL,  reduceIte, Nat.reduceEqDiff, reduceCtorEq, Nat.reduceAdd, Nat.reduceLT, Nat.reduceLeDiff, Nat.reduceSub, csE, Int.add_zero, hcz])
      (repeat refine And.intro (by first | omega | (simp; omega)) ?_)
      -- TEST (.t 57)
      -- skip
      (try simp only [cw, cops, csW, csL,  reduceIte, Nat.reduceEqDiff, reduceCtorEq, Nat.reduceAdd, Nat.reduceLT, Nat.reduceLeDiff, Nat.reduceSub, csE, Int.add_zero, hcz])
      (repeat refine And.intro (by first | omega | (simp; omega)) ?_)
      refine keep [0, 1, 2, 3, 9, 10, 11, 12, 13, 14, 15, 16, 17, 18] ?_
      (try simp only [c6_118, c6_33, c6_28, l6_27, cw, cops, csW, csL,  reduceIte, Nat.reduceEqDiff, reduceCtorEq, Nat.reduceAdd, Nat.reduceLT, Nat.reduceLeDiff, Nat.reduceSub, csE, Int.add_zero, hcz])
      (repeat refine And.intro (by first | omega | (simp; omega)) ?_)
      refine keep [0, 1, 2, 3, 9, 10, 11, 12, 13, 14, 15, 16, 17, 18, 60] ?_
      (try simp only [c6_32, cw, cops, csW, csL,  reduceIte, Nat.reduceEqDiff, reduceCtorEq, Nat.reduceAdd, Nat.reduceLT, Nat.reduceLeDiff, Nat.reduceSub, csE, Int.add_zero, hcz])
      (repeat refine And.intro (by first | omega | (simp; omega)) ?_)
      -- TEST (.t 60)
      (try simp only [c6_31, l6_29, cw, cops, csW, csL,  reduceIte, Nat.reduceEqDiff, reduceCtorEq, Nat.reduceAdd, Nat.reduceLT, Nat.reduceLeDiff, Nat.reduceSub, csE, Int.add_zero])
      (repeat refine And.intro (by first | omega | (simp; omega)) ?_)
      -- CALL 9
      refine ⟨_, cx (checkMod_con g p), ?_⟩
      (try simp only [l6_30, cw, cops, csW, csL,  reduceIte, Nat.reduceEqDiff, reduceCtorEq, Nat.reduceAdd, Nat.reduceLT, Nat.reduceLeDiff, Nat.reduceSub, csE, Int.add_zero, hgz, Bool.true_or])
      (repeat refine And.intro (by first | omega | (simp; omega)) ?_)
      refine keep [0, 1, 2, 3, 9, 10, 11, 12, 13, 14, 15, 16, 17, 18] ?_
      (try simp only [c6_117, c6_42, c6_37, l6_34, cw, cops, csW, csL,  reduceIte, Nat.reduceEqDiff, reduceCtorEq, Nat.reduceAdd, Nat.reduceLT, Nat.reduceLeDiff, Nat.reduceSub, csE, Int.add_zero, hgz, Bool.true_or])
      (repeat refine And.intro (by first | omega | (simp; omega)) ?_)
      -- CALL 11
      refine ⟨_, cx (same_con (T := 3) f f hlf2), ?_⟩
      (try simp only [l6_35, cw, cops, csW, csL,  reduceIte, Nat.reduceEqDiff, reduceCtorEq, Nat.reduceAdd, Nat.reduceLT, Nat.reduceLeDiff, Nat.reduceSub, csE, Int.add_zero, Bool.true_or])
      (repeat refine And.intro (by first | omega | (simp; omega)) ?_)
      -- CALL 11
      refine ⟨_, cx (same_con (T := 3) g g hlg2), ?_⟩
      (try simp only [l6_36, cw, cops, csW, csL,  reduceIte, Nat.reduceEqDiff, reduceCtorEq, Nat.reduceAdd, Nat.reduceLT, Nat.reduceLeDiff, Nat.reduceSub, csE, Int.add_zero, Bool.true_or])
      (repeat refine And.intro (by first | omega | (simp; omega)) ?_)
      refine keep [0, 1, 2, 3, 11, 12, 14, 15, 16, 17, 18, 78] ?_
      (try simp only [c6_41, cw, cops, csW, csL,  reduceIte, Nat.reduceEqDiff, reduceCtorEq, Nat.reduceAdd, Nat.reduceLT, Nat.reduceLeDiff, Nat.reduceSub, csE, Int.add_zero, Bool.true_or])
      (repeat refine And.intro (by first | omega | (simp; omega)) ?_)
      -- TEST (.t 78)
      -- skip
      (try simp only [cw, cops, csW, csL,  reduceIte, Nat.reduceEqDiff, reduceCtorEq, Nat.reduceAdd, Nat.reduceLT, Nat.reduceLeDiff, Nat.reduceSub, csE, Int.add_zero])
      (repeat refine And.intro (by first | omega | (simp; omega)) ?_)
      refine keep [0, 1, 2, 3, 11, 12, 14, 15, 16, 17, 18] ?_
      (try simp only [c6_116, c6_49, c6_44, l6_43, cw, cops, csW, csL,  reduceIte, Nat.reduceEqDiff, reduceCtorEq, Nat.reduceAdd, Nat.reduceLT, Nat.reduceLeDiff, Nat.reduceSub, csE, Int.add_zero])
      (repeat refine And.intro (by first | omega | (simp; omega)) ?_)
      refine keep [0, 1, 2, 3, 11, 12, 14, 15, 16, 17, 18, 81] ?_
      (try simp only [c6_48, cw, cops, csW, csL,  reduceIte, Nat.reduceEqDiff, reduceCtorEq, Nat.reduceAdd, Nat.reduceLT, Nat.reduceLeDiff, Nat.reduceSub, csE, Int.add_zero])
      (repeat refine And.intro (by first | omega | (simp; omega)) ?_)
      -- TEST (.t 81)
      -- skip
      (try simp only [cw, cops, csW, csL,  reduceIte, Nat.reduceEqDiff, reduceCtorEq, Nat.reduceAdd, Nat.reduceLT, Nat.reduceLeDiff, Nat.reduceSub, csE, Int.add_zero])
      (repeat refine And.intro (by first | omega | (simp; omega)) ?_)
      refine keep [0, 1, 2, 3, 12, 14, 15, 16, 17, 18] ?_
      (try simp only [c6_115, c6_56, c6_51, l6_50, cw, cops, csW, csL,  reduceIte, Nat.reduceEqDiff, reduceCtorEq, Nat.reduceAdd, Nat.reduceLT, Nat.reduceLeDiff, Nat.reduceSub, csE, Int.add_zero])
      (repeat refine And.intro (by first | omega | (simp; omega)) ?_)
      refine keep [0, 1, 2, 3, 12, 14, 15, 16, 17, 18, 105] ?_
      (try simp only [c6_55, cw, cops, csW, csL,  reduceIte, Nat.reduceEqDiff, reduceCtorEq, Nat.reduceAdd, Nat.reduceLT, Nat.reduceLeDiff, Nat.reduceSub, csE, Int.add_zero])
      (repeat refine And.intro (by first | omega | (simp; omega)) ?_)
      -- TEST (.t 105)
      -- skip
      refine ⟨fun _ => ?_, fun _ => ?_⟩
      · (try simp only [c6_54, c6_53, l6_52, cw, cops, csW, csL,  reduceIte, Nat.reduceEqDiff, reduceCtorEq, Nat.reduceAdd, Nat.reduceLT, Nat.reduceLeDiff, Nat.reduceSub, csE, Int.add_zero])
        (repeat refine And.intro (by first | omega | (simp; omega)) ?_)
        refine keep [8] ?_
        (try simp only [cw, cops, csW, csL,  reduceIte, Nat.reduceEqDiff, reduceCtorEq, Nat.reduceAdd, Nat.reduceLT, Nat.reduceLeDiff, Nat.reduceSub, csE, Int.add_zero, Ends, resD, resL, resV])
        (repeat refine And.intro (by first | omega | (simp; omega)) ?_)
        -- RETURN
      · (try simp only [cw, cops, csW, csL,  reduceIte, Nat.reduceEqDiff, reduceCtorEq, Nat.reduceAdd, Nat.reduceLT, Nat.reduceLeDiff, Nat.reduceSub, csE, Int.add_zero])
        (repeat refine And.intro (by first | omega | (simp; omega)) ?_)
        refine keep [0, 1, 2, 3, 12, 14, 15, 16, 17, 18] ?_
        (try simp only [c6_114, c6_65, c6_60, l6_57, cw, cops, csW, csL,  reduceIte, Nat.reduceEqDiff, reduceCtorEq, Nat.reduceAdd, Nat.reduceLT, Nat.reduceLeDiff, Nat.reduceSub, csE, Int.add_zero])
        (repeat refine And.intro (by first | omega | (simp; omega)) ?_)
        -- CALL 19
        refine ⟨_, cx (mmul_con f g p hf1.pr.pos hf1.rg hg1.rg (by omega) (by omega)), ?_⟩
        (try simp only [l6_58, cw, cops, csW, csL,  reduceIte, Nat.reduceEqDiff, reduceCtorEq, Nat.reduceAdd, Nat.reduceLT, Nat.reduceLeDiff, Nat.reduceSub, csE, Int.add_zero])
        (repeat refine And.intro (by first | omega | (simp; omega)) ?_)
        -- CALL 11
        refine ⟨_, cx (same_con _ _ hml), ?_⟩
        (try simp only [l6_59, cw, cops, csW, csL,  reduceIte, Nat.reduceEqDiff, reduceCtorEq, Nat.reduceAdd, Nat.reduceLT, Nat.reduceLeDiff, Nat.reduceSub, csE, Int.add_zero])
        (repeat refine And.intro (by first | omega | (simp; omega)) ?_)
        refine keep [0, 1, 2, 3, 14, 15, 16, 17, 18, 112] ?_
        (try simp only [c6_64, cw, cops, csW, csL,  reduceIte, Nat.reduceEqDiff, reduceCtorEq, Nat.reduceAdd, Nat.reduceLT, Nat.reduceLeDiff, Nat.reduceSub, csE, Int.add_zero])
        (repeat refine And.intro (by first | omega | (simp; omega)) ?_)
        -- TEST (.t 112)
        -- skip
        (try simp only [cw, cops, csW, csL,  reduceIte, Nat.reduceEqDiff, reduceCtorEq, Nat.reduceAdd, Nat.reduceLT, Nat.reduceLeDiff, Nat.reduceSub, csE, Int.add_zero, hn0])
        (repeat refine And.intro (by first | omega | (simp; omega)) ?_)
        refine keep [0, 1, 2, 3, 14, 15, 16, 17, 18] ?_
        (try simp only [c6_113, c6_77, c6_67, l6_66, cw, cops, csW, csL,  reduceIte, Nat.reduceEqDiff, reduceCtorEq, Nat.reduceAdd, Nat.reduceLT, Nat.reduceLeDiff, Nat.reduceSub, csE, Int.add_zero, hn0])
        (repeat refine And.intro (by first | omega | (simp; omega)) ?_)
        refine keep [0, 1, 2, 3, 14, 15, 16, 17, 18, 114] ?_
        (try simp only [c6_76, cw, cops, csW, csL,  reduceIte, Nat.reduceEqDiff, reduceCtorEq, Nat.reduceAdd, Nat.reduceLT, Nat.reduceLeDiff, Nat.reduceSub, csE, Int.add_zero, hn0])
        (repeat refine And.intro (by first | omega | (simp; omega)) ?_)
        -- TEST (.t 114)
        -- skip
        (try simp only [cw, cops, csW, csL,  reduceIte, Nat.reduceEqDiff, reduceCtorEq, Nat.reduceAdd, Nat.reduceLT, Nat.reduceLeDiff, Nat.reduceSub, csE, Int.add_zero, hgl])
        (repeat refine And.intro (by first | omega | (simp; omega)) ?_)
        refine keep [0, 1, 2, 3, 14, 15, 16, 17, 18] ?_
        (try simp only [c6_112, c6_85, c6_79, l6_78, cw, cops, csW, csL,  reduceIte, Nat.reduceEqDiff, reduceCtorEq, Nat.reduceAdd, Nat.reduceLT, Nat.reduceLeDiff, Nat.reduceSub, csE, Int.add_zero, hgl])
        (repeat refine And.intro (by first | omega | (simp; omega)) ?_)
        refine keep [0, 1, 2, 3, 14, 15, 16, 17, 18, 125] ?_
        (try simp only [c6_84, cw, cops, csW, csL,  reduceIte, Nat.reduceEqDiff, reduceCtorEq, Nat.reduceAdd, Nat.reduceLT, Nat.reduceLeDiff, Nat.reduceSub, csE, Int.add_zero, hgl])
        (repeat refine And.intro (by first | omega | (simp; omega)) ?_)
        -- TEST (.t 125)
        (try simp only [c6_83, c6_82, l6_80, cw, cops, csW, csL,  reduceIte, Nat.reduceEqDiff, reduceCtorEq, Nat.reduceAdd, Nat.reduceLT, Nat.reduceLeDiff, Nat.reduceSub, csE, Int.add_zero, hgl])
        (repeat refine And.intro (by first | omega | (simp; omega)) ?_)
        -- CALL 20
        -- slow
        refine ⟨_, cx (lfault_con 4 0), ?_⟩
        (try rw [cops_app])
        unfold l6_81
        repeat (rw [copsC]; (try simp only [cw, csW, csL,  reduceIte, Nat.reduceEqDiff, reduceCtorEq, Nat.reduceAdd, Nat.reduceLT, Nat.reduceLeDiff, Nat.reduceSub, csE, Int.add_zero, hn0]); (repeat refine And.intro (by first | omega | (simp; omega)) ?_))
        (try rw [copsN])
        (try simp only [cw, cops, csW, csL,  reduceIte, Nat.reduceEqDiff, reduceCtorEq, Nat.reduceAdd, Nat.reduceLT, Nat.reduceLeDiff, Nat.reduceSub, csE, Int.add_zero, hn0])
        (repeat refine And.intro (by first | omega | (simp; omega)) ?_)
        refine keep [8] ?_
        (try simp only [cw, cops, csW, csL,  reduceIte, Nat.reduceEqDiff, reduceCtorEq, Nat.reduceAdd, Nat.reduceLT, Nat.reduceLeDiff, Nat.reduceSub, csE, Int.add_zero, Ends, resD, resL, resV, hn0])
        (repeat refine And.intro (by first | omega | (simp; omega)) ?_)
        -- RETURN
        -- slow



set_option maxRecDepth 20000 in
set_option maxHeartbeats 4000000 in
theorem reckons_con (T T' : Nat) (f g : List Int) (n p : Int) (hn : n ≤ 9223372036854775807) (hlf : f.length ≤ 17592186044416) (hlg : g.length ≤ 17592186044416) : Con Try.prog [] 6 [LT T f, LT T' g, I n, I p] (.bool true) := by
  have hlf2 : f.length ≤ 9223372036854775807 := by omega
  have hlg2 : g.length ≤ 9223372036854775807 := by omega
  by_cases hk : (chk2 f g p).1 = 0
  · obtain ⟨h1, h2⟩ := chk2_good hk
    by_cases hg0 : g = []
    · exact reckons_zero T T' f g n p hn h1 h2 hg0
    · exact reckons_div T T' f g n p hn h1 h2 hg0
  have cM : Con Try.prog [] 14 [L f, L g, I p] (.tup [L [], flt (chk2 f g p).1 (chk2 f g p).2]) := by
    have := eMul_con (T := 3) (T' := 3) f g p
    rwa [if_neg hk] at this
  have hdv : divF f g p = chk2 f g p := by unfold divF; rw [if_neg hk]
  have hpw : powF f g n p = chk2 f g p := by unfold powF; rw [if_neg hk]
  have cD : Con Try.prog [] 17 [L f, L g, I p] (.tup [L [], L [], flt (chk2 f g p).1 (chk2 f g p).2]) := by
    have := eDiv_con (T := 3) (T' := 3) f g p
    rwa [hdv, if_neg hk, if_neg hk] at this
  have cP : Con Try.prog [] 16 [L f, I n, L g, I p] (.tup [L [], flt (chk2 f g p).1 (chk2 f g p).2]) := by
    have := ePower_con (T := 3) (T' := 3) f g n p hn
    rwa [hpw, if_neg hk] at this
  by_cases hc : (chk f p).1 = 0
  · have hcz := (chk_good hc).chk
    have he : chk2 f g p = chk g p := by unfold chk2; rw [if_pos hc]
    rw [he] at cM cD cP hk
    refine fn6.con rfl (by simp) ?_
    -- fz
    (try simp only [init4, c6, c6_126, c6_1, l6_0, cw, cops, csW, csL,  reduceIte, Nat.reduceEqDiff, reduceCtorEq, Nat.reduceAdd, Nat.reduceLT, Nat.reduceLeDiff, Nat.reduceSub, csE, Int.add_zero])
    (repeat refine And.intro (by first | omega | (simp; omega)) ?_)
    refine keep [0, 1, 2, 3] ?_
    (try simp only [c6_125, c6_3, l6_2, cw, cops, csW, csL,  reduceIte, Nat.reduceEqDiff, reduceCtorEq, Nat.reduceAdd, Nat.reduceLT, Nat.reduceLeDiff, Nat.reduceSub, csE, Int.add_zero])
    (repeat refine And.intro (by first | omega | (simp; omega)) ?_)
    refine keep [0, 1, 2, 3, 9] ?_
    (try simp only [c6_124, c6_5, l6_4, cw, cops, csW, csL,  reduceIte, Nat.reduceEqDiff, reduceCtorEq, Nat.reduceAdd, Nat.reduceLT, Nat.reduceLeDiff, Nat.reduceSub, csE, Int.add_zero])
    (repeat refine And.intro (by first | omega | (simp; omega)) ?_)
    refine keepF2 20 _ 22 _ [0, 1, 2, 3, 9, 10] (by rfl) (by rfl) ?_
    (try simp only [c6_123, c6_8, l6_6, cw, cops, csW, csL,  reduceIte, Nat.reduceEqDiff, reduceCtorEq, Nat.reduceAdd, Nat.reduceLT, Nat.reduceLeDiff, Nat.reduceSub, csE, Int.add_zero])
    (repeat refine And.intro (by first | omega | (simp; omega)) ?_)
    -- CALL 9
    refine ⟨_, cx (checkMod_con f p), ?_⟩
    (try simp only [l6_7, cw, cops, csW, csL,  reduceIte, Nat.reduceEqDiff, reduceCtorEq, Nat.reduceAdd, Nat.reduceLT, Nat.reduceLeDiff, Nat.reduceSub, csE, Int.add_zero, hcz, Bool.true_or])
    (repeat refine And.intro (by first | omega | (simp; omega)) ?_)
    refine keep [0, 1, 2, 3, 9, 10, 11] ?_
    (try simp only [c6_122, c6_11, l6_9, cw, cops, csW, csL,  reduceIte, Nat.reduceEqDiff, reduceCtorEq, Nat.reduceAdd, Nat.reduceLT, Nat.reduceLeDiff, Nat.reduceSub, csE, Int.add_zero, hcz, Bool.true_or])
    (repeat refine And.intro (by first | omega | (simp; omega)) ?_)
    -- CALL 14
    refine ⟨_, cx (cM), ?_⟩
    (try simp only [l6_10, cw, cops, csW, csL,  reduceIte, Nat.reduceEqDiff, reduceCtorEq, Nat.reduceAdd, Nat.reduceLT, Nat.reduceLeDiff, Nat.reduceSub, csE, Int.add_zero, hcz, Bool.true_or])
    (repeat refine And.intro (by first | omega | (simp; omega)) ?_)
    refine keep [0, 1, 2, 3, 9, 10, 11, 12, 13] ?_
    (try simp only [c6_121, c6_14, l6_12, cw, cops, csW, csL,  reduceIte, Nat.reduceEqDiff, reduceCtorEq, Nat.reduceAdd, Nat.reduceLT, Nat.reduceLeDiff, Nat.reduceSub, csE, Int.add_zero, hcz, Bool.true_or])
    (repeat refine And.intro (by first | omega | (simp; omega)) ?_)
    -- CALL 17
    refine ⟨_, cx (cD), ?_⟩
    (try simp only [l6_13, cw, cops, csW, csL,  reduceIte, Nat.reduceEqDiff, reduceCtorEq, Nat.reduceAdd, Nat.reduceLT, Nat.reduceLeDiff, Nat.reduceSub, csE, Int.add_zero, hcz, Bool.true_or])
    (repeat refine And.intro (by first | omega | (simp; omega)) ?_)
    refine keep [0, 1, 2, 3, 9, 10, 11, 12, 13, 14, 15, 16] ?_
    (try simp only [c6_120, c6_17, l6_15, cw, cops, csW, csL,  reduceIte, Nat.reduceEqDiff, reduceCtorEq, Nat.reduceAdd, Nat.reduceLT, Nat.reduceLeDiff, Nat.reduceSub, csE, Int.add_zero, hcz, Bool.true_or])
    (repeat refine And.intro (by first | omega | (simp; omega)) ?_)
    -- CALL 16
    refine ⟨_, cx (cP), ?_⟩
    (try simp only [l6_16, cw, cops, csW, csL,  reduceIte, Nat.reduceEqDiff, reduceCtorEq, Nat.reduceAdd, Nat.reduceLT, Nat.reduceLeDiff, Nat.reduceSub, csE, Int.add_zero, hcz, Bool.true_or])
    (repeat refine And.intro (by first | omega | (simp; omega)) ?_)
    refine keep [0, 1, 2, 3, 9, 10, 11, 12, 13, 14, 15, 16, 17, 18] ?_
    (try simp only [c6_119, c6_26, c6_21, l6_18, cw, cops, csW, csL,  reduceIte, Nat.reduceEqDiff, reduceCtorEq, Nat.reduceAdd, Nat.reduceLT, Nat.reduceLeDiff, Nat.reduceSub, csE, Int.add_zero, hcz, Bool.true_or])
    (repeat refine And.intro (by first | omega | (simp; omega)) ?_)
    -- CALL 10
    refine ⟨_, cx (fpBegun_con), ?_⟩
    (try simp only [l6_19, cw, cops, csW, csL,  reduceIte, Nat.reduceEqDiff, reduceCtorEq, Nat.reduceAdd, Nat.reduceLT, Nat.reduceLeDiff, Nat.reduceSub, csE, Int.add_zero, Bool.true_or])
    (repeat refine And.intro (by first | omega | (simp; omega)) ?_)
    -- CALL 18
    refine ⟨_, cx (check_con (T := 3) f p), ?_⟩
    (try simp only [l6_20, cw, cops, csW, csL,  reduceIte, Nat.reduceEqDiff, reduceCtorEq, Nat.reduceAdd, Nat.reduceLT, Nat.reduceLeDiff, Nat.reduceSub, csE, Int.add_zero, hcz])
    (repeat refine And.intro (by first | omega | (simp; omega)) ?_)
    refine keep [0, 1, 2, 3, 9, 10, 11, 12, 13, 14, 15, 16, 17, 18, 57] ?_
    (try simp only [c6_25, cw, cops, csW, csL,  reduceIte, Nat.reduceEqDiff, reduceCtorEq, Nat.reduceAdd, Nat.reduceLT, Nat.reduceLeDiff, Nat.reduceSub, csE, Int.add_zero, hcz])
    (repeat refine And.intro (by first | omega | (simp; omega)) ?_)
    -- TEST (.t 57)
    -- skip
    (try simp only [cw, cops, csW, csL,  reduceIte, Nat.reduceEqDiff, reduceCtorEq, Nat.reduceAdd, Nat.reduceLT, Nat.reduceLeDiff, Nat.reduceSub, csE, Int.add_zero, hcz])
    (repeat refine And.intro (by first | omega | (simp; omega)) ?_)
    refine keep [0, 1, 2, 3, 9, 10, 11, 12, 13, 14, 15, 16, 17, 18] ?_
    (try simp only [c6_118, c6_33, c6_28, l6_27, cw, cops, csW, csL,  reduceIte, Nat.reduceEqDiff, reduceCtorEq, Nat.reduceAdd, Nat.reduceLT, Nat.reduceLeDiff, Nat.reduceSub, csE, Int.add_zero, hcz])
    (repeat refine And.intro (by first | omega | (simp; omega)) ?_)
    refine keep [0, 1, 2, 3, 9, 10, 11, 12, 13, 14, 15, 16, 17, 18, 60] ?_
    (try simp only [c6_32, cw, cops, csW, csL,  reduceIte, Nat.reduceEqDiff, reduceCtorEq, Nat.reduceAdd, Nat.reduceLT, Nat.reduceLeDiff, Nat.reduceSub, csE, Int.add_zero, hcz])
    (repeat refine And.intro (by first | omega | (simp; omega)) ?_)
    -- TEST (.t 60)
    (try simp only [c6_31, l6_29, cw, cops, csW, csL,  reduceIte, Nat.reduceEqDiff, reduceCtorEq, Nat.reduceAdd, Nat.reduceLT, Nat.reduceLeDiff, Nat.reduceSub, csE, Int.add_zero])
    (repeat refine And.intro (by first | omega | (simp; omega)) ?_)
    -- CALL 9
    refine ⟨_, cx (checkMod_con g p), ?_⟩
    (try simp only [l6_30, cw, cops, csW, csL,  reduceIte, Nat.reduceEqDiff, reduceCtorEq, Nat.reduceAdd, Nat.reduceLT, Nat.reduceLeDiff, Nat.reduceSub, csE, Int.add_zero, Bool.true_or])
    (repeat refine And.intro (by first | omega | (simp; omega)) ?_)
    refine keep [0, 1, 2, 3, 9, 10, 11, 12, 13, 14, 15, 16, 17, 18] ?_
    (try simp only [c6_117, c6_42, c6_37, l6_34, cw, cops, csW, csL,  reduceIte, Nat.reduceEqDiff, reduceCtorEq, Nat.reduceAdd, Nat.reduceLT, Nat.reduceLeDiff, Nat.reduceSub, csE, Int.add_zero, Bool.true_or])
    (repeat refine And.intro (by first | omega | (simp; omega)) ?_)
    -- CALL 11
    refine ⟨_, cx (same_con (T := 3) f f hlf2), ?_⟩
    (try simp only [l6_35, cw, cops, csW, csL,  reduceIte, Nat.reduceEqDiff, reduceCtorEq, Nat.reduceAdd, Nat.reduceLT, Nat.reduceLeDiff, Nat.reduceSub, csE, Int.add_zero, Bool.true_or])
    (repeat refine And.intro (by first | omega | (simp; omega)) ?_)
    -- CALL 11
    refine ⟨_, cx (same_con (T := 3) g g hlg2), ?_⟩
    (try simp only [l6_36, cw, cops, csW, csL,  reduceIte, Nat.reduceEqDiff, reduceCtorEq, Nat.reduceAdd, Nat.reduceLT, Nat.reduceLeDiff, Nat.reduceSub, csE, Int.add_zero, Bool.true_or])
    (repeat refine And.intro (by first | omega | (simp; omega)) ?_)
    refine keep [0, 1, 2, 3, 11, 12, 14, 15, 16, 17, 18, 78] ?_
    (try simp only [c6_41, cw, cops, csW, csL,  reduceIte, Nat.reduceEqDiff, reduceCtorEq, Nat.reduceAdd, Nat.reduceLT, Nat.reduceLeDiff, Nat.reduceSub, csE, Int.add_zero, Bool.true_or])
    (repeat refine And.intro (by first | omega | (simp; omega)) ?_)
    -- TEST (.t 78)
    -- skip
    (try simp only [cw, cops, csW, csL,  reduceIte, Nat.reduceEqDiff, reduceCtorEq, Nat.reduceAdd, Nat.reduceLT, Nat.reduceLeDiff, Nat.reduceSub, csE, Int.add_zero, hk])
    (repeat refine And.intro (by first | omega | (simp; omega)) ?_)
    refine keep [0, 1, 2, 3, 11, 12, 14, 15, 16, 17, 18] ?_
    (try simp only [c6_116, c6_49, c6_44, l6_43, cw, cops, csW, csL,  reduceIte, Nat.reduceEqDiff, reduceCtorEq, Nat.reduceAdd, Nat.reduceLT, Nat.reduceLeDiff, Nat.reduceSub, csE, Int.add_zero, hk])
    (repeat refine And.intro (by first | omega | (simp; omega)) ?_)
    refine keep [0, 1, 2, 3, 11, 12, 14, 15, 16, 17, 18, 81] ?_
    (try simp only [c6_48, cw, cops, csW, csL,  reduceIte, Nat.reduceEqDiff, reduceCtorEq, Nat.reduceAdd, Nat.reduceLT, Nat.reduceLeDiff, Nat.reduceSub, csE, Int.add_zero, hk])
    (repeat refine And.intro (by first | omega | (simp; omega)) ?_)
    -- TEST (.t 81)
    -- slow
    (try simp only [c6_47, c6_46, cw, cops, csW, csL,  reduceIte, Nat.reduceEqDiff, reduceCtorEq, Nat.reduceAdd, Nat.reduceLT, Nat.reduceLeDiff, Nat.reduceSub, csE, Int.add_zero])
    (repeat refine And.intro (by first | omega | (simp; omega)) ?_)
    (try rw [cops_app])
    unfold l6_45
    repeat (rw [copsC]; (try simp only [cw, csW, csL,  reduceIte, Nat.reduceEqDiff, reduceCtorEq, Nat.reduceAdd, Nat.reduceLT, Nat.reduceLeDiff, Nat.reduceSub, csE, Int.add_zero]); (repeat refine And.intro (by first | omega | (simp; omega)) ?_))
    (try rw [copsN])
    (try simp only [cw, cops, csW, csL,  reduceIte, Nat.reduceEqDiff, reduceCtorEq, Nat.reduceAdd, Nat.reduceLT, Nat.reduceLeDiff, Nat.reduceSub, csE, Int.add_zero])
    (repeat refine And.intro (by first | omega | (simp; omega)) ?_)
    refine keep [8] ?_
    (try simp only [cw, cops, csW, csL,  reduceIte, Nat.reduceEqDiff, reduceCtorEq, Nat.reduceAdd, Nat.reduceLT, Nat.reduceLeDiff, Nat.reduceSub, csE, Int.add_zero, Ends, resD, resL, resV])
    (repeat refine And.intro (by first | omega | (simp; omega)) ?_)
    -- RETURN
    -- slow

  · have he : chk2 f g p = chk f p := by unfold chk2; rw [if_neg hc]
    rw [he] at cM cD cP
    refine fn6.con rfl (by simp) ?_
    -- fz
    (try simp only [init4, c6, c6_126, c6_1, l6_0, cw, cops, csW, csL,  reduceIte, Nat.reduceEqDiff, reduceCtorEq, Nat.reduceAdd, Nat.reduceLT, Nat.reduceLeDiff, Nat.reduceSub, csE, Int.add_zero])
    (repeat refine And.intro (by first | omega | (simp; omega)) ?_)
    refine keep [0, 1, 2, 3] ?_
    (try simp only [c6_125, c6_3, l6_2, cw, cops, csW, csL,  reduceIte, Nat.reduceEqDiff, reduceCtorEq, Nat.reduceAdd, Nat.reduceLT, Nat.reduceLeDiff, Nat.reduceSub, csE, Int.add_zero])
    (repeat refine And.intro (by first | omega | (simp; omega)) ?_)
    refine keep [0, 1, 2, 3, 9] ?_
    (try simp only [c6_124, c6_5, l6_4, cw, cops, csW, csL,  reduceIte, Nat.reduceEqDiff, reduceCtorEq, Nat.reduceAdd, Nat.reduceLT, Nat.reduceLeDiff, Nat.reduceSub, csE, Int.add_zero])
    (repeat refine And.intro (by first | omega | (simp; omega)) ?_)
    refine keepF2 20 _ 22 _ [0, 1, 2, 3, 9, 10] (by rfl) (by rfl) ?_
    (try simp only [c6_123, c6_8, l6_6, cw, cops, csW, csL,  reduceIte, Nat.reduceEqDiff, reduceCtorEq, Nat.reduceAdd, Nat.reduceLT, Nat.reduceLeDiff, Nat.reduceSub, csE, Int.add_zero])
    (repeat refine And.intro (by first | omega | (simp; omega)) ?_)
    -- CALL 9
    refine ⟨_, cx (checkMod_con f p), ?_⟩
    (try simp only [l6_7, cw, cops, csW, csL,  reduceIte, Nat.reduceEqDiff, reduceCtorEq, Nat.reduceAdd, Nat.reduceLT, Nat.reduceLeDiff, Nat.reduceSub, csE, Int.add_zero, Bool.true_or])
    (repeat refine And.intro (by first | omega | (simp; omega)) ?_)
    refine keep [0, 1, 2, 3, 9, 10, 11] ?_
    (try simp only [c6_122, c6_11, l6_9, cw, cops, csW, csL,  reduceIte, Nat.reduceEqDiff, reduceCtorEq, Nat.reduceAdd, Nat.reduceLT, Nat.reduceLeDiff, Nat.reduceSub, csE, Int.add_zero, Bool.true_or])
    (repeat refine And.intro (by first | omega | (simp; omega)) ?_)
    -- CALL 14
    refine ⟨_, cx (cM), ?_⟩
    (try simp only [l6_10, cw, cops, csW, csL,  reduceIte, Nat.reduceEqDiff, reduceCtorEq, Nat.reduceAdd, Nat.reduceLT, Nat.reduceLeDiff, Nat.reduceSub, csE, Int.add_zero, Bool.true_or])
    (repeat refine And.intro (by first | omega | (simp; omega)) ?_)
    refine keep [0, 1, 2, 3, 9, 10, 11, 12, 13] ?_
    (try simp only [c6_121, c6_14, l6_12, cw, cops, csW, csL,  reduceIte, Nat.reduceEqDiff, reduceCtorEq, Nat.reduceAdd, Nat.reduceLT, Nat.reduceLeDiff, Nat.reduceSub, csE, Int.add_zero, Bool.true_or])
    (repeat refine And.intro (by first | omega | (simp; omega)) ?_)
    -- CALL 17
    refine ⟨_, cx (cD), ?_⟩
    (try simp only [l6_13, cw, cops, csW, csL,  reduceIte, Nat.reduceEqDiff, reduceCtorEq, Nat.reduceAdd, Nat.reduceLT, Nat.reduceLeDiff, Nat.reduceSub, csE, Int.add_zero, Bool.true_or])
    (repeat refine And.intro (by first | omega | (simp; omega)) ?_)
    refine keep [0, 1, 2, 3, 9, 10, 11, 12, 13, 14, 15, 16] ?_
    (try simp only [c6_120, c6_17, l6_15, cw, cops, csW, csL,  reduceIte, Nat.reduceEqDiff, reduceCtorEq, Nat.reduceAdd, Nat.reduceLT, Nat.reduceLeDiff, Nat.reduceSub, csE, Int.add_zero, Bool.true_or])
    (repeat refine And.intro (by first | omega | (simp; omega)) ?_)
    -- CALL 16
    refine ⟨_, cx (cP), ?_⟩
    (try simp only [l6_16, cw, cops, csW, csL,  reduceIte, Nat.reduceEqDiff, reduceCtorEq, Nat.reduceAdd, Nat.reduceLT, Nat.reduceLeDiff, Nat.reduceSub, csE, Int.add_zero, Bool.true_or])
    (repeat refine And.intro (by first | omega | (simp; omega)) ?_)
    refine keep [0, 1, 2, 3, 9, 10, 11, 12, 13, 14, 15, 16, 17, 18] ?_
    (try simp only [c6_119, c6_26, c6_21, l6_18, cw, cops, csW, csL,  reduceIte, Nat.reduceEqDiff, reduceCtorEq, Nat.reduceAdd, Nat.reduceLT, Nat.reduceLeDiff, Nat.reduceSub, csE, Int.add_zero, Bool.true_or])
    (repeat refine And.intro (by first | omega | (simp; omega)) ?_)
    -- CALL 10
    refine ⟨_, cx (fpBegun_con), ?_⟩
    (try simp only [l6_19, cw, cops, csW, csL,  reduceIte, Nat.reduceEqDiff, reduceCtorEq, Nat.reduceAdd, Nat.reduceLT, Nat.reduceLeDiff, Nat.reduceSub, csE, Int.add_zero, Bool.true_or])
    (repeat refine And.intro (by first | omega | (simp; omega)) ?_)
    -- CALL 18
    refine ⟨_, cx (check_con (T := 3) f p), ?_⟩
    (try simp only [l6_20, cw, cops, csW, csL,  reduceIte, Nat.reduceEqDiff, reduceCtorEq, Nat.reduceAdd, Nat.reduceLT, Nat.reduceLeDiff, Nat.reduceSub, csE, Int.add_zero, hc])
    (repeat refine And.intro (by first | omega | (simp; omega)) ?_)
    refine keep [0, 1, 2, 3, 9, 10, 11, 12, 13, 14, 15, 16, 17, 18, 57] ?_
    (try simp only [c6_25, cw, cops, csW, csL,  reduceIte, Nat.reduceEqDiff, reduceCtorEq, Nat.reduceAdd, Nat.reduceLT, Nat.reduceLeDiff, Nat.reduceSub, csE, Int.add_zero, hc])
    (repeat refine And.intro (by first | omega | (simp; omega)) ?_)
    -- TEST (.t 57)
    -- skip
    (try simp only [cw, cops, csW, csL,  reduceIte, Nat.reduceEqDiff, reduceCtorEq, Nat.reduceAdd, Nat.reduceLT, Nat.reduceLeDiff, Nat.reduceSub, csE, Int.add_zero, hc])
    (repeat refine And.intro (by first | omega | (simp; omega)) ?_)
    refine keep [0, 1, 2, 3, 9, 10, 11, 12, 13, 14, 15, 16, 17, 18] ?_
    (try simp only [c6_118, c6_33, c6_28, l6_27, cw, cops, csW, csL,  reduceIte, Nat.reduceEqDiff, reduceCtorEq, Nat.reduceAdd, Nat.reduceLT, Nat.reduceLeDiff, Nat.reduceSub, csE, Int.add_zero, hc])
    (repeat refine And.intro (by first | omega | (simp; omega)) ?_)
    refine keep [0, 1, 2, 3, 9, 10, 11, 12, 13, 14, 15, 16, 17, 18, 60] ?_
    (try simp only [c6_32, cw, cops, csW, csL,  reduceIte, Nat.reduceEqDiff, reduceCtorEq, Nat.reduceAdd, Nat.reduceLT, Nat.reduceLeDiff, Nat.reduceSub, csE, Int.add_zero, hc])
    (repeat refine And.intro (by first | omega | (simp; omega)) ?_)
    -- TEST (.t 60)
    -- skip
    (try simp only [cw, cops, csW, csL,  reduceIte, Nat.reduceEqDiff, reduceCtorEq, Nat.reduceAdd, Nat.reduceLT, Nat.reduceLeDiff, Nat.reduceSub, csE, Int.add_zero, hc])
    (repeat refine And.intro (by first | omega | (simp; omega)) ?_)
    refine keep [0, 1, 2, 3, 9, 10, 11, 12, 13, 14, 15, 16, 17, 18] ?_
    (try simp only [c6_117, c6_42, c6_37, l6_34, cw, cops, csW, csL,  reduceIte, Nat.reduceEqDiff, reduceCtorEq, Nat.reduceAdd, Nat.reduceLT, Nat.reduceLeDiff, Nat.reduceSub, csE, Int.add_zero, hc])
    (repeat refine And.intro (by first | omega | (simp; omega)) ?_)
    -- CALL 11
    refine ⟨_, cx (same_con (T := 3) f f hlf2), ?_⟩
    (try simp only [l6_35, cw, cops, csW, csL,  reduceIte, Nat.reduceEqDiff, reduceCtorEq, Nat.reduceAdd, Nat.reduceLT, Nat.reduceLeDiff, Nat.reduceSub, csE, Int.add_zero, Bool.true_or])
    (repeat refine And.intro (by first | omega | (simp; omega)) ?_)
    -- CALL 11
    refine ⟨_, cx (same_con (T := 3) g g hlg2), ?_⟩
    (try simp only [l6_36, cw, cops, csW, csL,  reduceIte, Nat.reduceEqDiff, reduceCtorEq, Nat.reduceAdd, Nat.reduceLT, Nat.reduceLeDiff, Nat.reduceSub, csE, Int.add_zero, Bool.true_or])
    (repeat refine And.intro (by first | omega | (simp; omega)) ?_)
    refine keep [0, 1, 2, 3, 11, 12, 14, 15, 16, 17, 18, 78] ?_
    (try simp only [c6_41, cw, cops, csW, csL,  reduceIte, Nat.reduceEqDiff, reduceCtorEq, Nat.reduceAdd, Nat.reduceLT, Nat.reduceLeDiff, Nat.reduceSub, csE, Int.add_zero, Bool.true_or])
    (repeat refine And.intro (by first | omega | (simp; omega)) ?_)
    -- TEST (.t 78)
    -- skip
    (try simp only [cw, cops, csW, csL,  reduceIte, Nat.reduceEqDiff, reduceCtorEq, Nat.reduceAdd, Nat.reduceLT, Nat.reduceLeDiff, Nat.reduceSub, csE, Int.add_zero, hc])
    (repeat refine And.intro (by first | omega | (simp; omega)) ?_)
    refine keep [0, 1, 2, 3, 11, 12, 14, 15, 16, 17, 18] ?_
    (try simp only [c6_116, c6_49, c6_44, l6_43, cw, cops, csW, csL,  reduceIte, Nat.reduceEqDiff, reduceCtorEq, Nat.reduceAdd, Nat.reduceLT, Nat.reduceLeDiff, Nat.reduceSub, csE, Int.add_zero, hc])
    (repeat refine And.intro (by first | omega | (simp; omega)) ?_)
    refine keep [0, 1, 2, 3, 11, 12, 14, 15, 16, 17, 18, 81] ?_
    (try simp only [c6_48, cw, cops, csW, csL,  reduceIte, Nat.reduceEqDiff, reduceCtorEq, Nat.reduceAdd, Nat.reduceLT, Nat.reduceLeDiff, Nat.reduceSub, csE, Int.add_zero, hc])
    (repeat refine And.intro (by first | omega | (simp; omega)) ?_)
    -- TEST (.t 81)
    -- slow
    (try simp only [c6_47, c6_46, cw, cops, csW, csL,  reduceIte, Nat.reduceEqDiff, reduceCtorEq, Nat.reduceAdd, Nat.reduceLT, Nat.reduceLeDiff, Nat.reduceSub, csE, Int.add_zero])
    (repeat refine And.intro (by first | omega | (simp; omega)) ?_)
    (try rw [cops_app])
    unfold l6_45
    repeat (rw [copsC]; (try simp only [cw, csW, csL,  reduceIte, Nat.reduceEqDiff, reduceCtorEq, Nat.reduceAdd, Nat.reduceLT, Nat.reduceLeDiff, Nat.reduceSub, csE, Int.add_zero]); (repeat refine And.intro (by first | omega | (simp; omega)) ?_))
    (try rw [copsN])
    (try simp only [cw, cops, csW, csL,  reduceIte, Nat.reduceEqDiff, reduceCtorEq, Nat.reduceAdd, Nat.reduceLT, Nat.reduceLeDiff, Nat.reduceSub, csE, Int.add_zero])
    (repeat refine And.intro (by first | omega | (simp; omega)) ?_)
    refine keep [8] ?_
    (try simp only [cw, cops, csW, csL,  reduceIte, Nat.reduceEqDiff, reduceCtorEq, Nat.reduceAdd, Nat.reduceLT, Nat.reduceLeDiff, Nat.reduceSub, csE, Int.add_zero, Ends, resD, resL, resV])
    (repeat refine And.intro (by first | omega | (simp; omega)) ?_)
    -- RETURN
    -- slow

end Go.Proofs.Ytlnhembcfhfpkaa.M
