/- FpReckons: the law walked. -/
import Derived.Test.YtlnhembcfhfpkaaFqV
namespace Go.Proofs.Ytlnhembcfhfpkaa.M
open Go.RowKit
set_option linter.unusedSimpArgs false
set_option linter.unusedVariables false

-- more
theorem quo_gp {f g : List Int} {p : Int} (hf : Gp f p) (hg : Gp g p) (hg0 : g ≠ []) : Gp (quo f g p) p :=
  ⟨hf.pr, Nat.le_trans (quoP_len (List.length_pos_iff.2 hg0)) hf.len, quoP_rg hf.pr.pos.1, quoP_td⟩
theorem rem_gp {f g : List Int} {p : Int} (hf : Gp f p) (hg : Gp g p) (hg0 : g ≠ []) : Gp (rem f g p) p := by
  have := (rem_pl hf.pr hf.pl hg.pl hg0).1
  exact ⟨hf.pr, this.len, this.rg, this.td⟩
theorem pow_len {f m : List Int} {p : Int} (hf : Gp f p) (hm : Gp m p) (hm0 : m ≠ []) (n : Nat) : (powP f n m p).length ≤ 65 := by
  have key : ∀ k a b, Pl p 65 a → Pl p 65 b → (powL m p a b k).length ≤ 65 := by
    intro k
    induction k using Nat.strongRecOn with
    | _ k ih =>
      intro a b ha hb
      by_cases h0 : k = 0
      · rw [h0, powL_0]; exact ha.len
      · rw [powL_s h0]
        have h2 := (rem_pl hf.pr (mul_pl hf.pr hb hb (k := 1000) (by omega)) hm.pl hm0).1
        refine ih (k / 2) (by omega) _ _ ?_ h2
        split
        · exact (rem_pl hf.pr (mul_pl hf.pr ha hb (k := 1000) (by omega)) hm.pl hm0).1
        · exact ha
  exact key n _ _ (rem_pl hf.pr (pl_one hf.pr) hm.pl hm0).1 (rem_pl hf.pr hf.pl hm.pl hm0).1

set_option maxRecDepth 20000 in
set_option maxHeartbeats 4000000 in
theorem reckons_div (T T' : Nat) (f g : List Int) (n p : Int) (hn : n ≤ 9223372036854775807) (hf1 : Gp f p) (hg1 : Gp g p) (hg0 : g ≠ []) : Con Try.prog [] 6 [LT T f, LT T' g, I n, I p] (.bool true) := by
  have hcz := hf1.chk
  have hgz := hg1.chk
  have hll : f.length ≤ 65 := hf1.len
  have hlg' : g.length ≤ 65 := hg1.len
  have hlf2 : f.length ≤ 9223372036854775807 := by omega
  have hlg2 : g.length ≤ 9223372036854775807 := by omega
  have hk0 : chk2 f g p = (0, 0) := by unfold chk2; rw [hcz, if_pos rfl, hgz]
  have hk1 : (chk2 f g p).1 = 0 := by rw [hk0]
  have hml : (mulP f g p).length ≤ 9223372036854775807 := by
    have := mulP_len (f := f) (g := g) (p := p); omega
  have cM : Con Try.prog [] 14 [L f, L g, I p] (.tup [L (mulP f g p), flt 0 0]) := by
    have := eMul_con (T := 3) (T' := 3) f g p
    rwa [hk0, if_pos rfl] at this
  · have hgl : ¬ (g.length : Int) = 0 := by have := List.length_pos_iff.2 hg0; omega
    have hq1 := quo_gp hf1 hg1 hg0
    have hr1 := rem_gp hf1 hg1 hg0
    have hqz := hq1.chk
    have hrz := hr1.chk
    have hlaw := div_law hf1.pr hf1.pl hg1.pl hg0
    have hlt : ¬ (g.length : Int) ≤ ((rem f g p).length : Int) := by have := (rem_pl hf1.pr hf1.pl hg1.pl hg0).2; omega
    have cD : Con Try.prog [] 17 [L f, L g, I p] (.tup [L (quo f g p), L (rem f g p), flt 0 0]) := by
      have := eDiv_con (T := 3) (T' := 3) f g p
      have hd : divF f g p = (0, 0) := by unfold divF; rw [if_pos hk1, if_neg hg0]
      rwa [hd, if_pos rfl, if_pos rfl] at this
    by_cases hn0 : n < 0
    · have cP : Con Try.prog [] 16 [L f, I n, L g, I p] (.tup [L [], flt 7 0]) := by
        have := ePower_con (T := 3) (T' := 3) f g n p hn
        have hd : powF f g n p = (7, 0) := by unfold powF; rw [if_pos hk1, if_pos hn0]
        rwa [hd, if_neg (by decide)] at this
      refine fn6.con rfl (by simp) ?_
      -- fz
      (try simp only [init4, c6, c6_126, c6_1, l6_0, cw, cops, csW, csL,  reduceIte, Nat.reduceEqDiff, reduceCtorEq, Nat.reduceAdd, Nat.reduceLT, Nat.reduceLeDiff, Nat.reduceSub, csE])
      (repeat refine And.intro (by first | omega | (simp; omega)) ?_)
      refine keep [0, 1, 2, 3] ?_
      (try simp only [c6_125, c6_3, l6_2, cw, cops, csW, csL,  reduceIte, Nat.reduceEqDiff, reduceCtorEq, Nat.reduceAdd, Nat.reduceLT, Nat.reduceLeDiff, Nat.reduceSub, csE])
      (repeat refine And.intro (by first | omega | (simp; omega)) ?_)
      refine keep [0, 1, 2, 3, 9] ?_
      (try simp only [c6_124, c6_5, l6_4, cw, cops, csW, csL,  reduceIte, Nat.reduceEqDiff, reduceCtorEq, Nat.reduceAdd, Nat.reduceLT, Nat.reduceLeDiff, Nat.reduceSub, csE])
      (repeat refine And.intro (by first | omega | (simp; omega)) ?_)
      refine keepF2 20 _ 22 _ [0, 1, 2, 3, 9, 10] (by rfl) (by rfl) ?_
      (try simp only [c6_123, c6_8, l6_6, cw, cops, csW, csL,  reduceIte, Nat.reduceEqDiff, reduceCtorEq, Nat.reduceAdd, Nat.reduceLT, Nat.reduceLeDiff, Nat.reduceSub, csE])
      (repeat refine And.intro (by first | omega | (simp; omega)) ?_)
      -- CALL 9
      refine ⟨_, cx (checkMod_con f p), ?_⟩
      (try simp only [l6_7, cw, cops, csW, csL,  reduceIte, Nat.reduceEqDiff, reduceCtorEq, Nat.reduceAdd, Nat.reduceLT, Nat.reduceLeDiff, Nat.reduceSub, csE, hcz, Bool.true_or])
      (repeat refine And.intro (by first | omega | (simp; omega)) ?_)
      refine keep [0, 1, 2, 3, 9, 10, 11] ?_
      (try simp only [c6_122, c6_11, l6_9, cw, cops, csW, csL,  reduceIte, Nat.reduceEqDiff, reduceCtorEq, Nat.reduceAdd, Nat.reduceLT, Nat.reduceLeDiff, Nat.reduceSub, csE, hcz, Bool.true_or])
      (repeat refine And.intro (by first | omega | (simp; omega)) ?_)
      -- CALL 14
      refine ⟨_, cx (cM), ?_⟩
      (try simp only [l6_10, cw, cops, csW, csL,  reduceIte, Nat.reduceEqDiff, reduceCtorEq, Nat.reduceAdd, Nat.reduceLT, Nat.reduceLeDiff, Nat.reduceSub, csE, hcz, Bool.true_or])
      (repeat refine And.intro (by first | omega | (simp; omega)) ?_)
      refine keep [0, 1, 2, 3, 9, 10, 11, 12, 13] ?_
      (try simp only [c6_121, c6_14, l6_12, cw, cops, csW, csL,  reduceIte, Nat.reduceEqDiff, reduceCtorEq, Nat.reduceAdd, Nat.reduceLT, Nat.reduceLeDiff, Nat.reduceSub, csE, hcz, Bool.true_or])
      (repeat refine And.intro (by first | omega | (simp; omega)) ?_)
      -- CALL 17
      refine ⟨_, cx (cD), ?_⟩
      (try simp only [l6_13, cw, cops, csW, csL,  reduceIte, Nat.reduceEqDiff, reduceCtorEq, Nat.reduceAdd, Nat.reduceLT, Nat.reduceLeDiff, Nat.reduceSub, csE, hcz, Bool.true_or])
      (repeat refine And.intro (by first | omega | (simp; omega)) ?_)
      refine keep [0, 1, 2, 3, 9, 10, 11, 12, 13, 14, 15, 16] ?_
      (try simp only [c6_120, c6_17, l6_15, cw, cops, csW, csL,  reduceIte, Nat.reduceEqDiff, reduceCtorEq, Nat.reduceAdd, Nat.reduceLT, Nat.reduceLeDiff, Nat.reduceSub, csE, hcz, Bool.true_or])
      (repeat refine And.intro (by first | omega | (simp; omega)) ?_)
      -- CALL 16
      refine ⟨_, cx (cP), ?_⟩
      (try simp only [l6_16, cw, cops, csW, csL,  reduceIte, Nat.reduceEqDiff, reduceCtorEq, Nat.reduceAdd, Nat.reduceLT, Nat.reduceLeDiff, Nat.reduceSub, csE, hcz, Bool.true_or])
      (repeat refine And.intro (by first | omega | (simp; omega)) ?_)
      refine keep [0, 1, 2, 3, 9, 10, 11, 12, 13, 14, 15, 16, 17, 18] ?_
      (try simp only [c6_119, c6_26, c6_21, l6_18, cw, cops, csW, csL,  reduceIte, Nat.reduceEqDiff, reduceCtorEq, Nat.reduceAdd, Nat.reduceLT, Nat.reduceLeDiff, Nat.reduceSub, csE, hcz, Bool.true_or])
      (repeat refine And.intro (by first | omega | (simp; omega)) ?_)
      -- CALL 10
      refine ⟨_, cx (fpBegun_con), ?_⟩
      (try simp only [l6_19, cw, cops, csW, csL,  reduceIte, Nat.reduceEqDiff, reduceCtorEq, Nat.reduceAdd, Nat.reduceLT, Nat.reduceLeDiff, Nat.reduceSub, csE, Bool.true_or])
      (repeat refine And.intro (by first | omega | (simp; omega)) ?_)
      -- CALL 18
      refine ⟨_, cx (check_con (T := 3) f p), ?_⟩
      (try simp only [l6_20, cw, cops, csW, csL,  reduceIte, Nat.reduceEqDiff, reduceCtorEq, Nat.reduceAdd, Nat.reduceLT, Nat.reduceLeDiff, Nat.reduceSub, csE, hcz])
      (repeat refine And.intro (by first | omega | (simp; omega)) ?_)
      refine keep [0, 1, 2, 3, 9, 10, 11, 12, 13, 14, 15, 16, 17, 18, 57] ?_
      (try simp only [c6_25, cw, cops, csW, csL,  reduceIte, Nat.reduceEqDiff, reduceCtorEq, Nat.reduceAdd, Nat.reduceLT, Nat.reduceLeDiff, Nat.reduceSub, csE, hcz])
      (repeat refine And.intro (by first | omega | (simp; omega)) ?_)
      -- TEST (.t 57)
      -- skip
      (try simp only [cw, cops, csW, csL,  reduceIte, Nat.reduceEqDiff, reduceCtorEq, Nat.reduceAdd, Nat.reduceLT, Nat.reduceLeDiff, Nat.reduceSub, csE, hcz])
      (repeat refine And.intro (by first | omega | (simp; omega)) ?_)
      refine keep [0, 1, 2, 3, 9, 10, 11, 12, 13, 14, 15, 16, 17, 18] ?_
      (try simp only [c6_118, c6_33, c6_28, l6_27, cw, cops, csW, csL,  reduceIte, Nat.reduceEqDiff, reduceCtorEq, Nat.reduceAdd, Nat.reduceLT, Nat.reduceLeDiff, Nat.reduceSub, csE, hcz])
      (repeat refine And.intro (by first | omega | (simp; omega)) ?_)
      refine keep [0, 1, 2, 3, 9, 10, 11, 12, 13, 14, 15, 16, 17, 18, 60] ?_
      (try simp only [c6_32, cw, cops, csW, csL,  reduceIte, Nat.reduceEqDiff, reduceCtorEq, Nat.reduceAdd, Nat.reduceLT, Nat.reduceLeDiff, Nat.reduceSub, csE, hcz])
      (repeat refine And.intro (by first | omega | (simp; omega)) ?_)
      -- TEST (.t 60)
      (try simp only [c6_31, l6_29, cw, cops, csW, csL,  reduceIte, Nat.reduceEqDiff, reduceCtorEq, Nat.reduceAdd, Nat.reduceLT, Nat.reduceLeDiff, Nat.reduceSub, csE])
      (repeat refine And.intro (by first | omega | (simp; omega)) ?_)
      -- CALL 9
      refine ⟨_, cx (checkMod_con g p), ?_⟩
      (try simp only [l6_30, cw, cops, csW, csL,  reduceIte, Nat.reduceEqDiff, reduceCtorEq, Nat.reduceAdd, Nat.reduceLT, Nat.reduceLeDiff, Nat.reduceSub, csE, hgz, Bool.true_or])
      (repeat refine And.intro (by first | omega | (simp; omega)) ?_)
      refine keep [0, 1, 2, 3, 9, 10, 11, 12, 13, 14, 15, 16, 17, 18] ?_
      (try simp only [c6_117, c6_42, c6_37, l6_34, cw, cops, csW, csL,  reduceIte, Nat.reduceEqDiff, reduceCtorEq, Nat.reduceAdd, Nat.reduceLT, Nat.reduceLeDiff, Nat.reduceSub, csE, hgz, Bool.true_or])
      (repeat refine And.intro (by first | omega | (simp; omega)) ?_)
      -- CALL 11
      refine ⟨_, cx (same_con (T := 3) f f hlf2), ?_⟩
      (try simp only [l6_35, cw, cops, csW, csL,  reduceIte, Nat.reduceEqDiff, reduceCtorEq, Nat.reduceAdd, Nat.reduceLT, Nat.reduceLeDiff, Nat.reduceSub, csE, Bool.true_or])
      (repeat refine And.intro (by first | omega | (simp; omega)) ?_)
      -- CALL 11
      refine ⟨_, cx (same_con (T := 3) g g hlg2), ?_⟩
      (try simp only [l6_36, cw, cops, csW, csL,  reduceIte, Nat.reduceEqDiff, reduceCtorEq, Nat.reduceAdd, Nat.reduceLT, Nat.reduceLeDiff, Nat.reduceSub, csE, Bool.true_or])
      (repeat refine And.intro (by first | omega | (simp; omega)) ?_)
      refine keep [0, 1, 2, 3, 11, 12, 14, 15, 16, 17, 18, 78] ?_
      (try simp only [c6_41, cw, cops, csW, csL,  reduceIte, Nat.reduceEqDiff, reduceCtorEq, Nat.reduceAdd, Nat.reduceLT, Nat.reduceLeDiff, Nat.reduceSub, csE, Bool.true_or])
      (repeat refine And.intro (by first | omega | (simp; omega)) ?_)
      -- TEST (.t 78)
      -- skip
      (try simp only [cw, cops, csW, csL,  reduceIte, Nat.reduceEqDiff, reduceCtorEq, Nat.reduceAdd, Nat.reduceLT, Nat.reduceLeDiff, Nat.reduceSub, csE])
      (repeat refine And.intro (by first | omega | (simp; omega)) ?_)
      refine keep [0, 1, 2, 3, 11, 12, 14, 15, 16, 17, 18] ?_
      (try simp only [c6_116, c6_49, c6_44, l6_43, cw, cops, csW, csL,  reduceIte, Nat.reduceEqDiff, reduceCtorEq, Nat.reduceAdd, Nat.reduceLT, Nat.reduceLeDiff, Nat.reduceSub, csE])
      (repeat refine And.intro (by first | omega | (simp; omega)) ?_)
      refine keep [0, 1, 2, 3, 11, 12, 14, 15, 16, 17, 18, 81] ?_
      (try simp only [c6_48, cw, cops, csW, csL,  reduceIte, Nat.reduceEqDiff, reduceCtorEq, Nat.reduceAdd, Nat.reduceLT, Nat.reduceLeDiff, Nat.reduceSub, csE])
      (repeat refine And.intro (by first | omega | (simp; omega)) ?_)
      -- TEST (.t 81)
      -- skip
      (try simp only [cw, cops, csW, csL,  reduceIte, Nat.reduceEqDiff, reduceCtorEq, Nat.reduceAdd, Nat.reduceLT, Nat.reduceLeDiff, Nat.reduceSub, csE])
      (repeat refine And.intro (by first | omega | (simp; omega)) ?_)
      refine keep [0, 1, 2, 3, 12, 14, 15, 16, 17, 18] ?_
      (try simp only [c6_115, c6_56, c6_51, l6_50, cw, cops, csW, csL,  reduceIte, Nat.reduceEqDiff, reduceCtorEq, Nat.reduceAdd, Nat.reduceLT, Nat.reduceLeDiff, Nat.reduceSub, csE])
      (repeat refine And.intro (by first | omega | (simp; omega)) ?_)
      refine keep [0, 1, 2, 3, 12, 14, 15, 16, 17, 18, 105] ?_
      (try simp only [c6_55, cw, cops, csW, csL,  reduceIte, Nat.reduceEqDiff, reduceCtorEq, Nat.reduceAdd, Nat.reduceLT, Nat.reduceLeDiff, Nat.reduceSub, csE])
      (repeat refine And.intro (by first | omega | (simp; omega)) ?_)
      -- TEST (.t 105)
      -- skip
      refine ⟨fun _ => ?_, fun _ => ?_⟩
      · (try simp only [c6_54, c6_53, l6_52, cw, cops, csW, csL,  reduceIte, Nat.reduceEqDiff, reduceCtorEq, Nat.reduceAdd, Nat.reduceLT, Nat.reduceLeDiff, Nat.reduceSub, csE])
        (repeat refine And.intro (by first | omega | (simp; omega)) ?_)
        refine keep [8] ?_
        (try simp only [cw, cops, csW, csL,  reduceIte, Nat.reduceEqDiff, reduceCtorEq, Nat.reduceAdd, Nat.reduceLT, Nat.reduceLeDiff, Nat.reduceSub, csE, Ends, resD, resL, resV])
        (repeat refine And.intro (by first | omega | (simp; omega)) ?_)
        -- RETURN
      · (try simp only [cw, cops, csW, csL,  reduceIte, Nat.reduceEqDiff, reduceCtorEq, Nat.reduceAdd, Nat.reduceLT, Nat.reduceLeDiff, Nat.reduceSub, csE])
        (repeat refine And.intro (by first | omega | (simp; omega)) ?_)
        refine keep [0, 1, 2, 3, 12, 14, 15, 16, 17, 18] ?_
        (try simp only [c6_114, c6_65, c6_60, l6_57, cw, cops, csW, csL,  reduceIte, Nat.reduceEqDiff, reduceCtorEq, Nat.reduceAdd, Nat.reduceLT, Nat.reduceLeDiff, Nat.reduceSub, csE])
        (repeat refine And.intro (by first | omega | (simp; omega)) ?_)
        -- CALL 19
        refine ⟨_, cx (mmul_con f g p hf1.pr.pos hf1.rg hg1.rg (by omega) (by omega)), ?_⟩
        (try simp only [l6_58, cw, cops, csW, csL,  reduceIte, Nat.reduceEqDiff, reduceCtorEq, Nat.reduceAdd, Nat.reduceLT, Nat.reduceLeDiff, Nat.reduceSub, csE])
        (repeat refine And.intro (by first | omega | (simp; omega)) ?_)
        -- CALL 11
        refine ⟨_, cx (same_con _ _ hml), ?_⟩
        (try simp only [l6_59, cw, cops, csW, csL,  reduceIte, Nat.reduceEqDiff, reduceCtorEq, Nat.reduceAdd, Nat.reduceLT, Nat.reduceLeDiff, Nat.reduceSub, csE])
        (repeat refine And.intro (by first | omega | (simp; omega)) ?_)
        refine keep [0, 1, 2, 3, 14, 15, 16, 17, 18, 112] ?_
        (try simp only [c6_64, cw, cops, csW, csL,  reduceIte, Nat.reduceEqDiff, reduceCtorEq, Nat.reduceAdd, Nat.reduceLT, Nat.reduceLeDiff, Nat.reduceSub, csE])
        (repeat refine And.intro (by first | omega | (simp; omega)) ?_)
        -- TEST (.t 112)
        -- skip
        (try simp only [cw, cops, csW, csL,  reduceIte, Nat.reduceEqDiff, reduceCtorEq, Nat.reduceAdd, Nat.reduceLT, Nat.reduceLeDiff, Nat.reduceSub, csE, hn0])
        (repeat refine And.intro (by first | omega | (simp; omega)) ?_)
        refine keep [0, 1, 2, 3, 14, 15, 16, 17, 18] ?_
        (try simp only [c6_113, c6_77, c6_67, l6_66, cw, cops, csW, csL,  reduceIte, Nat.reduceEqDiff, reduceCtorEq, Nat.reduceAdd, Nat.reduceLT, Nat.reduceLeDiff, Nat.reduceSub, csE, hn0])
        (repeat refine And.intro (by first | omega | (simp; omega)) ?_)
        refine keep [0, 1, 2, 3, 14, 15, 16, 17, 18, 114] ?_
        (try simp only [c6_76, cw, cops, csW, csL,  reduceIte, Nat.reduceEqDiff, reduceCtorEq, Nat.reduceAdd, Nat.reduceLT, Nat.reduceLeDiff, Nat.reduceSub, csE, hn0])
        (repeat refine And.intro (by first | omega | (simp; omega)) ?_)
        -- TEST (.t 114)
        (try simp only [c6_75, c6_70, l6_68, cw, cops, csW, csL,  reduceIte, Nat.reduceEqDiff, reduceCtorEq, Nat.reduceAdd, Nat.reduceLT, Nat.reduceLeDiff, Nat.reduceSub, csE, hn0])
        (repeat refine And.intro (by first | omega | (simp; omega)) ?_)
        -- CALL 20
        refine ⟨_, cx (lfault_con 7 0), ?_⟩
        (try simp only [l6_69, cw, cops, csW, csL,  reduceIte, Nat.reduceEqDiff, reduceCtorEq, Nat.reduceAdd, Nat.reduceLT, Nat.reduceLeDiff, Nat.reduceSub, csE])
        (repeat refine And.intro (by first | omega | (simp; omega)) ?_)
        refine keep [0, 1, 2, 3, 14, 15, 16, 17, 18, 122] ?_
        (try simp only [c6_74, cw, cops, csW, csL,  reduceIte, Nat.reduceEqDiff, reduceCtorEq, Nat.reduceAdd, Nat.reduceLT, Nat.reduceLeDiff, Nat.reduceSub, csE])
        (repeat refine And.intro (by first | omega | (simp; omega)) ?_)
        -- TEST (.t 122)
        -- skip
        (try simp only [cw, cops, csW, csL,  reduceIte, Nat.reduceEqDiff, reduceCtorEq, Nat.reduceAdd, Nat.reduceLT, Nat.reduceLeDiff, Nat.reduceSub, csE, hgl])
        (repeat refine And.intro (by first | omega | (simp; omega)) ?_)
        refine keep [0, 1, 2, 3, 14, 15, 16, 17, 18] ?_
        (try simp only [c6_112, c6_85, c6_79, l6_78, cw, cops, csW, csL,  reduceIte, Nat.reduceEqDiff, reduceCtorEq, Nat.reduceAdd, Nat.reduceLT, Nat.reduceLeDiff, Nat.reduceSub, csE, hgl])
        (repeat refine And.intro (by first | omega | (simp; omega)) ?_)
        refine keep [0, 1, 2, 3, 14, 15, 16, 17, 18, 125] ?_
        (try simp only [c6_84, cw, cops, csW, csL,  reduceIte, Nat.reduceEqDiff, reduceCtorEq, Nat.reduceAdd, Nat.reduceLT, Nat.reduceLeDiff, Nat.reduceSub, csE, hgl])
        (repeat refine And.intro (by first | omega | (simp; omega)) ?_)
        -- TEST (.t 125)
        -- skip
        (try simp only [cw, cops, csW, csL,  reduceIte, Nat.reduceEqDiff, reduceCtorEq, Nat.reduceAdd, Nat.reduceLT, Nat.reduceLeDiff, Nat.reduceSub, csE, hgl, hlt])
        (repeat refine And.intro (by first | omega | (simp; omega)) ?_)
        refine keep [0, 1, 2, 3, 14, 15, 16, 17, 18] ?_
        (try simp only [c6_111, c6_97, c6_92, l6_86, cw, cops, csW, csL,  reduceIte, Nat.reduceEqDiff, reduceCtorEq, Nat.reduceAdd, Nat.reduceLT, Nat.reduceLeDiff, Nat.reduceSub, csE, hgl, hlt])
        (repeat refine And.intro (by first | omega | (simp; omega)) ?_)
        -- CALL 19
        refine ⟨_, cx (mmul_con (quo f g p) g p hf1.pr.pos hq1.rg hg1.rg (by have := hq1.len; omega) (by omega)), ?_⟩
        (try simp only [l6_87, cw, cops, csW, csL,  reduceIte, Nat.reduceEqDiff, reduceCtorEq, Nat.reduceAdd, Nat.reduceLT, Nat.reduceLeDiff, Nat.reduceSub, csE, hlt])
        (repeat refine And.intro (by first | omega | (simp; omega)) ?_)
        -- CALL 21
        refine ⟨_, cx (madd_con (mulP (quo f g p) g p) (rem f g p) p hf1.pr.pos (mulP_rg hf1.pr.pos.1 _ _) hr1.rg (by have := mulP_len (f := quo f g p) (g := g) (p := p); have := hq1.len; omega) (by have := hr1.len; omega)), ?_⟩
        (try simp only [l6_88, cw, cops, csW, csL,  reduceIte, Nat.reduceEqDiff, reduceCtorEq, Nat.reduceAdd, Nat.reduceLT, Nat.reduceLeDiff, Nat.reduceSub, csE, hlaw])
        (repeat refine And.intro (by first | omega | (simp; omega)) ?_)
        -- CALL 11
        refine ⟨_, cx (same_con f f hlf2), ?_⟩
        (try simp only [l6_89, cw, cops, csW, csL,  reduceIte, Nat.reduceEqDiff, reduceCtorEq, Nat.reduceAdd, Nat.reduceLT, Nat.reduceLeDiff, Nat.reduceSub, csE])
        (repeat refine And.intro (by first | omega | (simp; omega)) ?_)
        -- CALL 9
        refine ⟨_, cx (checkMod_con (quo f g p) p), ?_⟩
        (try simp only [l6_90, cw, cops, csW, csL,  reduceIte, Nat.reduceEqDiff, reduceCtorEq, Nat.reduceAdd, Nat.reduceLT, Nat.reduceLeDiff, Nat.reduceSub, csE, hqz])
        (repeat refine And.intro (by first | omega | (simp; omega)) ?_)
        -- CALL 9
        refine ⟨_, cx (checkMod_con (rem f g p) p), ?_⟩
        (try simp only [l6_91, cw, cops, csW, csL,  reduceIte, Nat.reduceEqDiff, reduceCtorEq, Nat.reduceAdd, Nat.reduceLT, Nat.reduceLeDiff, Nat.reduceSub, csE, hrz])
        (repeat refine And.intro (by first | omega | (simp; omega)) ?_)
        refine keep [0, 1, 2, 3, 17, 18, 186] ?_
        (try simp only [c6_96, cw, cops, csW, csL,  reduceIte, Nat.reduceEqDiff, reduceCtorEq, Nat.reduceAdd, Nat.reduceLT, Nat.reduceLeDiff, Nat.reduceSub, csE, hrz])
        (repeat refine And.intro (by first | omega | (simp; omega)) ?_)
        -- TEST (.t 186)
        -- skip
        (try simp only [cw, cops, csW, csL,  reduceIte, Nat.reduceEqDiff, reduceCtorEq, Nat.reduceAdd, Nat.reduceLT, Nat.reduceLeDiff, Nat.reduceSub, csE, hn0])
        (repeat refine And.intro (by first | omega | (simp; omega)) ?_)
        refine keep [0, 1, 2, 3, 17, 18] ?_
        (try simp only [c6_110, c6_104, c6_99, l6_98, cw, cops, csW, csL,  reduceIte, Nat.reduceEqDiff, reduceCtorEq, Nat.reduceAdd, Nat.reduceLT, Nat.reduceLeDiff, Nat.reduceSub, csE, hn0])
        (repeat refine And.intro (by first | omega | (simp; omega)) ?_)
        refine keep [0, 1, 2, 3, 17, 18, 188] ?_
        (try simp only [c6_103, cw, cops, csW, csL,  reduceIte, Nat.reduceEqDiff, reduceCtorEq, Nat.reduceAdd, Nat.reduceLT, Nat.reduceLeDiff, Nat.reduceSub, csE, hn0])
        (repeat refine And.intro (by first | omega | (simp; omega)) ?_)
        -- TEST (.t 188)
        (try simp only [c6_102, c6_101, l6_100, cw, cops, csW, csL,  reduceIte, Nat.reduceEqDiff, reduceCtorEq, Nat.reduceAdd, Nat.reduceLT, Nat.reduceLeDiff, Nat.reduceSub, csE])
        (repeat refine And.intro (by first | omega | (simp; omega)) ?_)
        refine keep [8] ?_
        (try simp only [cw, cops, csW, csL,  reduceIte, Nat.reduceEqDiff, reduceCtorEq, Nat.reduceAdd, Nat.reduceLT, Nat.reduceLeDiff, Nat.reduceSub, csE, Ends, resD, resL, resV])
        (repeat refine And.intro (by first | omega | (simp; omega)) ?_)
        -- RETURN

    · obtain ⟨k, rfl⟩ := Int.eq_ofNat_of_zero_le (show 0 ≤ n by omega)
      have hpl := pow_len hf1 hg1 hg0 k
      have cP : Con Try.prog [] 16 [L f, I (k : Int), L g, I p] (.tup [L (powP f k g p), flt 0 0]) := by
        have := ePower_con (T := 3) (T' := 3) f g (k : Int) p hn
        have hd : powF f g (k : Int) p = (0, 0) := by unfold powF; rw [if_pos hk1, if_neg hn0, if_neg hg0]
        rw [hd, if_pos rfl] at this
        exact this
      refine fn6.con rfl (by simp) ?_
      -- fz
      (try simp only [init4, c6, c6_126, c6_1, l6_0, cw, cops, csW, csL,  reduceIte, Nat.reduceEqDiff, reduceCtorEq, Nat.reduceAdd, Nat.reduceLT, Nat.reduceLeDiff, Nat.reduceSub, csE])
      (repeat refine And.intro (by first | omega | (simp; omega)) ?_)
      refine keep [0, 1, 2, 3] ?_
      (try simp only [c6_125, c6_3, l6_2, cw, cops, csW, csL,  reduceIte, Nat.reduceEqDiff, reduceCtorEq, Nat.reduceAdd, Nat.reduceLT, Nat.reduceLeDiff, Nat.reduceSub, csE])
      (repeat refine And.intro (by first | omega | (simp; omega)) ?_)
      refine keep [0, 1, 2, 3, 9] ?_
      (try simp only [c6_124, c6_5, l6_4, cw, cops, csW, csL,  reduceIte, Nat.reduceEqDiff, reduceCtorEq, Nat.reduceAdd, Nat.reduceLT, Nat.reduceLeDiff, Nat.reduceSub, csE])
      (repeat refine And.intro (by first | omega | (simp; omega)) ?_)
      refine keepF2 20 _ 22 _ [0, 1, 2, 3, 9, 10] (by rfl) (by rfl) ?_
      (try simp only [c6_123, c6_8, l6_6, cw, cops, csW, csL,  reduceIte, Nat.reduceEqDiff, reduceCtorEq, Nat.reduceAdd, Nat.reduceLT, Nat.reduceLeDiff, Nat.reduceSub, csE])
      (repeat refine And.intro (by first | omega | (simp; omega)) ?_)
      -- CALL 9
      refine ⟨_, cx (checkMod_con f p), ?_⟩
      (try simp only [l6_7, cw, cops, csW, csL,  reduceIte, Nat.reduceEqDiff, reduceCtorEq, Nat.reduceAdd, Nat.reduceLT, Nat.reduceLeDiff, Nat.reduceSub, csE, hcz, Bool.true_or])
      (repeat refine And.intro (by first | omega | (simp; omega)) ?_)
      refine keep [0, 1, 2, 3, 9, 10, 11] ?_
      (try simp only [c6_122, c6_11, l6_9, cw, cops, csW, csL,  reduceIte, Nat.reduceEqDiff, reduceCtorEq, Nat.reduceAdd, Nat.reduceLT, Nat.reduceLeDiff, Nat.reduceSub, csE, hcz, Bool.true_or])
      (repeat refine And.intro (by first | omega | (simp; omega)) ?_)
      -- CALL 14
      refine ⟨_, cx (cM), ?_⟩
      (try simp only [l6_10, cw, cops, csW, csL,  reduceIte, Nat.reduceEqDiff, reduceCtorEq, Nat.reduceAdd, Nat.reduceLT, Nat.reduceLeDiff, Nat.reduceSub, csE, hcz, Bool.true_or])
      (repeat refine And.intro (by first | omega | (simp; omega)) ?_)
      refine keep [0, 1, 2, 3, 9, 10, 11, 12, 13] ?_
      (try simp only [c6_121, c6_14, l6_12, cw, cops, csW, csL,  reduceIte, Nat.reduceEqDiff, reduceCtorEq, Nat.reduceAdd, Nat.reduceLT, Nat.reduceLeDiff, Nat.reduceSub, csE, hcz, Bool.true_or])
      (repeat refine And.intro (by first | omega | (simp; omega)) ?_)
      -- CALL 17
      refine ⟨_, cx (cD), ?_⟩
      (try simp only [l6_13, cw, cops, csW, csL,  reduceIte, Nat.reduceEqDiff, reduceCtorEq, Nat.reduceAdd, Nat.reduceLT, Nat.reduceLeDiff, Nat.reduceSub, csE, hcz, Bool.true_or])
      (repeat refine And.intro (by first | omega | (simp; omega)) ?_)
      refine keep [0, 1, 2, 3, 9, 10, 11, 12, 13, 14, 15, 16] ?_
      (try simp only [c6_120, c6_17, l6_15, cw, cops, csW, csL,  reduceIte, Nat.reduceEqDiff, reduceCtorEq, Nat.reduceAdd, Nat.reduceLT, Nat.reduceLeDiff, Nat.reduceSub, csE, hcz, Bool.true_or])
      (repeat refine And.intro (by first | omega | (simp; omega)) ?_)
      -- CALL 16
      refine ⟨_, cx (cP), ?_⟩
      (try simp only [l6_16, cw, cops, csW, csL,  reduceIte, Nat.reduceEqDiff, reduceCtorEq, Nat.reduceAdd, Nat.reduceLT, Nat.reduceLeDiff, Nat.reduceSub, csE, hcz, Bool.true_or])
      (repeat refine And.intro (by first | omega | (simp; omega)) ?_)
      refine keep [0, 1, 2, 3, 9, 10, 11, 12, 13, 14, 15, 16, 17, 18] ?_
      (try simp only [c6_119, c6_26, c6_21, l6_18, cw, cops, csW, csL,  reduceIte, Nat.reduceEqDiff, reduceCtorEq, Nat.reduceAdd, Nat.reduceLT, Nat.reduceLeDiff, Nat.reduceSub, csE, hcz, Bool.true_or])
      (repeat refine And.intro (by first | omega | (simp; omega)) ?_)
      -- CALL 10
      refine ⟨_, cx (fpBegun_con), ?_⟩
      (try simp only [l6_19, cw, cops, csW, csL,  reduceIte, Nat.reduceEqDiff, reduceCtorEq, Nat.reduceAdd, Nat.reduceLT, Nat.reduceLeDiff, Nat.reduceSub, csE, Bool.true_or])
      (repeat refine And.intro (by first | omega | (simp; omega)) ?_)
      -- CALL 18
      refine ⟨_, cx (check_con (T := 3) f p), ?_⟩
      (try simp only [l6_20, cw, cops, csW, csL,  reduceIte, Nat.reduceEqDiff, reduceCtorEq, Nat.reduceAdd, Nat.reduceLT, Nat.reduceLeDiff, Nat.reduceSub, csE, hcz])
      (repeat refine And.intro (by first | omega | (simp; omega)) ?_)
      refine keep [0, 1, 2, 3, 9, 10, 11, 12, 13, 14, 15, 16, 17, 18, 57] ?_
      (try simp only [c6_25, cw, cops, csW, csL,  reduceIte, Nat.reduceEqDiff, reduceCtorEq, Nat.reduceAdd, Nat.reduceLT, Nat.reduceLeDiff, Nat.reduceSub, csE, hcz])
      (repeat refine And.intro (by first | omega | (simp; omega)) ?_)
      -- TEST (.t 57)
      -- skip
      (try simp only [cw, cops, csW, csL,  reduceIte, Nat.reduceEqDiff, reduceCtorEq, Nat.reduceAdd, Nat.reduceLT, Nat.reduceLeDiff, Nat.reduceSub, csE, hcz])
      (repeat refine And.intro (by first | omega | (simp; omega)) ?_)
      refine keep [0, 1, 2, 3, 9, 10, 11, 12, 13, 14, 15, 16, 17, 18] ?_
      (try simp only [c6_118, c6_33, c6_28, l6_27, cw, cops, csW, csL,  reduceIte, Nat.reduceEqDiff, reduceCtorEq, Nat.reduceAdd, Nat.reduceLT, Nat.reduceLeDiff, Nat.reduceSub, csE, hcz])
      (repeat refine And.intro (by first | omega | (simp; omega)) ?_)
      refine keep [0, 1, 2, 3, 9, 10, 11, 12, 13, 14, 15, 16, 17, 18, 60] ?_
      (try simp only [c6_32, cw, cops, csW, csL,  reduceIte, Nat.reduceEqDiff, reduceCtorEq, Nat.reduceAdd, Nat.reduceLT, Nat.reduceLeDiff, Nat.reduceSub, csE, hcz])
      (repeat refine And.intro (by first | omega | (simp; omega)) ?_)
      -- TEST (.t 60)
      (try simp only [c6_31, l6_29, cw, cops, csW, csL,  reduceIte, Nat.reduceEqDiff, reduceCtorEq, Nat.reduceAdd, Nat.reduceLT, Nat.reduceLeDiff, Nat.reduceSub, csE])
      (repeat refine And.intro (by first | omega | (simp; omega)) ?_)
      -- CALL 9
      refine ⟨_, cx (checkMod_con g p), ?_⟩
      (try simp only [l6_30, cw, cops, csW, csL,  reduceIte, Nat.reduceEqDiff, reduceCtorEq, Nat.reduceAdd, Nat.reduceLT, Nat.reduceLeDiff, Nat.reduceSub, csE, hgz, Bool.true_or])
      (repeat refine And.intro (by first | omega | (simp; omega)) ?_)
      refine keep [0, 1, 2, 3, 9, 10, 11, 12, 13, 14, 15, 16, 17, 18] ?_
      (try simp only [c6_117, c6_42, c6_37, l6_34, cw, cops, csW, csL,  reduceIte, Nat.reduceEqDiff, reduceCtorEq, Nat.reduceAdd, Nat.reduceLT, Nat.reduceLeDiff, Nat.reduceSub, csE, hgz, Bool.true_or])
      (repeat refine And.intro (by first | omega | (simp; omega)) ?_)
      -- CALL 11
      refine ⟨_, cx (same_con (T := 3) f f hlf2), ?_⟩
      (try simp only [l6_35, cw, cops, csW, csL,  reduceIte, Nat.reduceEqDiff, reduceCtorEq, Nat.reduceAdd, Nat.reduceLT, Nat.reduceLeDiff, Nat.reduceSub, csE, Bool.true_or])
      (repeat refine And.intro (by first | omega | (simp; omega)) ?_)
      -- CALL 11
      refine ⟨_, cx (same_con (T := 3) g g hlg2), ?_⟩
      (try simp only [l6_36, cw, cops, csW, csL,  reduceIte, Nat.reduceEqDiff, reduceCtorEq, Nat.reduceAdd, Nat.reduceLT, Nat.reduceLeDiff, Nat.reduceSub, csE, Bool.true_or])
      (repeat refine And.intro (by first | omega | (simp; omega)) ?_)
      refine keep [0, 1, 2, 3, 11, 12, 14, 15, 16, 17, 18, 78] ?_
      (try simp only [c6_41, cw, cops, csW, csL,  reduceIte, Nat.reduceEqDiff, reduceCtorEq, Nat.reduceAdd, Nat.reduceLT, Nat.reduceLeDiff, Nat.reduceSub, csE, Bool.true_or])
      (repeat refine And.intro (by first | omega | (simp; omega)) ?_)
      -- TEST (.t 78)
      -- skip
      (try simp only [cw, cops, csW, csL,  reduceIte, Nat.reduceEqDiff, reduceCtorEq, Nat.reduceAdd, Nat.reduceLT, Nat.reduceLeDiff, Nat.reduceSub, csE])
      (repeat refine And.intro (by first | omega | (simp; omega)) ?_)
      refine keep [0, 1, 2, 3, 11, 12, 14, 15, 16, 17, 18] ?_
      (try simp only [c6_116, c6_49, c6_44, l6_43, cw, cops, csW, csL,  reduceIte, Nat.reduceEqDiff, reduceCtorEq, Nat.reduceAdd, Nat.reduceLT, Nat.reduceLeDiff, Nat.reduceSub, csE])
      (repeat refine And.intro (by first | omega | (simp; omega)) ?_)
      refine keep [0, 1, 2, 3, 11, 12, 14, 15, 16, 17, 18, 81] ?_
      (try simp only [c6_48, cw, cops, csW, csL,  reduceIte, Nat.reduceEqDiff, reduceCtorEq, Nat.reduceAdd, Nat.reduceLT, Nat.reduceLeDiff, Nat.reduceSub, csE])
      (repeat refine And.intro (by first | omega | (simp; omega)) ?_)
      -- TEST (.t 81)
      -- skip
      (try simp only [cw, cops, csW, csL,  reduceIte, Nat.reduceEqDiff, reduceCtorEq, Nat.reduceAdd, Nat.reduceLT, Nat.reduceLeDiff, Nat.reduceSub, csE])
      (repeat refine And.intro (by first | omega | (simp; omega)) ?_)
      refine keep [0, 1, 2, 3, 12, 14, 15, 16, 17, 18] ?_
      (try simp only [c6_115, c6_56, c6_51, l6_50, cw, cops, csW, csL,  reduceIte, Nat.reduceEqDiff, reduceCtorEq, Nat.reduceAdd, Nat.reduceLT, Nat.reduceLeDiff, Nat.reduceSub, csE])
      (repeat refine And.intro (by first | omega | (simp; omega)) ?_)
      refine keep [0, 1, 2, 3, 12, 14, 15, 16, 17, 18, 105] ?_
      (try simp only [c6_55, cw, cops, csW, csL,  reduceIte, Nat.reduceEqDiff, reduceCtorEq, Nat.reduceAdd, Nat.reduceLT, Nat.reduceLeDiff, Nat.reduceSub, csE])
      (repeat refine And.intro (by first | omega | (simp; omega)) ?_)
      -- TEST (.t 105)
      -- skip
      refine ⟨fun _ => ?_, fun _ => ?_⟩
      · (try simp only [c6_54, c6_53, l6_52, cw, cops, csW, csL,  reduceIte, Nat.reduceEqDiff, reduceCtorEq, Nat.reduceAdd, Nat.reduceLT, Nat.reduceLeDiff, Nat.reduceSub, csE])
        (repeat refine And.intro (by first | omega | (simp; omega)) ?_)
        refine keep [8] ?_
        (try simp only [cw, cops, csW, csL,  reduceIte, Nat.reduceEqDiff, reduceCtorEq, Nat.reduceAdd, Nat.reduceLT, Nat.reduceLeDiff, Nat.reduceSub, csE, Ends, resD, resL, resV])
        (repeat refine And.intro (by first | omega | (simp; omega)) ?_)
        -- RETURN
      · (try simp only [cw, cops, csW, csL,  reduceIte, Nat.reduceEqDiff, reduceCtorEq, Nat.reduceAdd, Nat.reduceLT, Nat.reduceLeDiff, Nat.reduceSub, csE])
        (repeat refine And.intro (by first | omega | (simp; omega)) ?_)
        refine keep [0, 1, 2, 3, 12, 14, 15, 16, 17, 18] ?_
        (try simp only [c6_114, c6_65, c6_60, l6_57, cw, cops, csW, csL,  reduceIte, Nat.reduceEqDiff, reduceCtorEq, Nat.reduceAdd, Nat.reduceLT, Nat.reduceLeDiff, Nat.reduceSub, csE])
        (repeat refine And.intro (by first | omega | (simp; omega)) ?_)
        -- CALL 19
        refine ⟨_, cx (mmul_con f g p hf1.pr.pos hf1.rg hg1.rg (by omega) (by omega)), ?_⟩
        (try simp only [l6_58, cw, cops, csW, csL,  reduceIte, Nat.reduceEqDiff, reduceCtorEq, Nat.reduceAdd, Nat.reduceLT, Nat.reduceLeDiff, Nat.reduceSub, csE])
        (repeat refine And.intro (by first | omega | (simp; omega)) ?_)
        -- CALL 11
        refine ⟨_, cx (same_con _ _ hml), ?_⟩
        (try simp only [l6_59, cw, cops, csW, csL,  reduceIte, Nat.reduceEqDiff, reduceCtorEq, Nat.reduceAdd, Nat.reduceLT, Nat.reduceLeDiff, Nat.reduceSub, csE])
        (repeat refine And.intro (by first | omega | (simp; omega)) ?_)
        refine keep [0, 1, 2, 3, 14, 15, 16, 17, 18, 112] ?_
        (try simp only [c6_64, cw, cops, csW, csL,  reduceIte, Nat.reduceEqDiff, reduceCtorEq, Nat.reduceAdd, Nat.reduceLT, Nat.reduceLeDiff, Nat.reduceSub, csE])
        (repeat refine And.intro (by first | omega | (simp; omega)) ?_)
        -- TEST (.t 112)
        -- skip
        (try simp only [cw, cops, csW, csL,  reduceIte, Nat.reduceEqDiff, reduceCtorEq, Nat.reduceAdd, Nat.reduceLT, Nat.reduceLeDiff, Nat.reduceSub, csE, hn0])
        (repeat refine And.intro (by first | omega | (simp; omega)) ?_)
        refine keep [0, 1, 2, 3, 14, 15, 16, 17, 18] ?_
        (try simp only [c6_113, c6_77, c6_67, l6_66, cw, cops, csW, csL,  reduceIte, Nat.reduceEqDiff, reduceCtorEq, Nat.reduceAdd, Nat.reduceLT, Nat.reduceLeDiff, Nat.reduceSub, csE, hn0])
        (repeat refine And.intro (by first | omega | (simp; omega)) ?_)
        refine keep [0, 1, 2, 3, 14, 15, 16, 17, 18, 114] ?_
        (try simp only [c6_76, cw, cops, csW, csL,  reduceIte, Nat.reduceEqDiff, reduceCtorEq, Nat.reduceAdd, Nat.reduceLT, Nat.reduceLeDiff, Nat.reduceSub, csE, hn0])
        (repeat refine And.intro (by first | omega | (simp; omega)) ?_)
        -- TEST (.t 114)
        -- skip
        (try simp only [cw, cops, csW, csL,  reduceIte, Nat.reduceEqDiff, reduceCtorEq, Nat.reduceAdd, Nat.reduceLT, Nat.reduceLeDiff, Nat.reduceSub, csE, hgl])
        (repeat refine And.intro (by first | omega | (simp; omega)) ?_)
        refine keep [0, 1, 2, 3, 14, 15, 16, 17, 18] ?_
        (try simp only [c6_112, c6_85, c6_79, l6_78, cw, cops, csW, csL,  reduceIte, Nat.reduceEqDiff, reduceCtorEq, Nat.reduceAdd, Nat.reduceLT, Nat.reduceLeDiff, Nat.reduceSub, csE, hgl])
        (repeat refine And.intro (by first | omega | (simp; omega)) ?_)
        refine keep [0, 1, 2, 3, 14, 15, 16, 17, 18, 125] ?_
        (try simp only [c6_84, cw, cops, csW, csL,  reduceIte, Nat.reduceEqDiff, reduceCtorEq, Nat.reduceAdd, Nat.reduceLT, Nat.reduceLeDiff, Nat.reduceSub, csE, hgl])
        (repeat refine And.intro (by first | omega | (simp; omega)) ?_)
        -- TEST (.t 125)
        -- skip
        (try simp only [cw, cops, csW, csL,  reduceIte, Nat.reduceEqDiff, reduceCtorEq, Nat.reduceAdd, Nat.reduceLT, Nat.reduceLeDiff, Nat.reduceSub, csE, hgl, hlt])
        (repeat refine And.intro (by first | omega | (simp; omega)) ?_)
        refine keep [0, 1, 2, 3, 14, 15, 16, 17, 18] ?_
        (try simp only [c6_111, c6_97, c6_92, l6_86, cw, cops, csW, csL,  reduceIte, Nat.reduceEqDiff, reduceCtorEq, Nat.reduceAdd, Nat.reduceLT, Nat.reduceLeDiff, Nat.reduceSub, csE, hgl, hlt])
        (repeat refine And.intro (by first | omega | (simp; omega)) ?_)
        -- CALL 19
        refine ⟨_, cx (mmul_con (quo f g p) g p hf1.pr.pos hq1.rg hg1.rg (by have := hq1.len; omega) (by omega)), ?_⟩
        (try simp only [l6_87, cw, cops, csW, csL,  reduceIte, Nat.reduceEqDiff, reduceCtorEq, Nat.reduceAdd, Nat.reduceLT, Nat.reduceLeDiff, Nat.reduceSub, csE, hlt])
        (repeat refine And.intro (by first | omega | (simp; omega)) ?_)
        -- CALL 21
        refine ⟨_, cx (madd_con (mulP (quo f g p) g p) (rem f g p) p hf1.pr.pos (mulP_rg hf1.pr.pos.1 _ _) hr1.rg (by have := mulP_len (f := quo f g p) (g := g) (p := p); have := hq1.len; omega) (by have := hr1.len; omega)), ?_⟩
        (try simp only [l6_88, cw, cops, csW, csL,  reduceIte, Nat.reduceEqDiff, reduceCtorEq, Nat.reduceAdd, Nat.reduceLT, Nat.reduceLeDiff, Nat.reduceSub, csE, hlaw])
        (repeat refine And.intro (by first | omega | (simp; omega)) ?_)
        -- CALL 11
        refine ⟨_, cx (same_con f f hlf2), ?_⟩
        (try simp only [l6_89, cw, cops, csW, csL,  reduceIte, Nat.reduceEqDiff, reduceCtorEq, Nat.reduceAdd, Nat.reduceLT, Nat.reduceLeDiff, Nat.reduceSub, csE])
        (repeat refine And.intro (by first | omega | (simp; omega)) ?_)
        -- CALL 9
        refine ⟨_, cx (checkMod_con (quo f g p) p), ?_⟩
        (try simp only [l6_90, cw, cops, csW, csL,  reduceIte, Nat.reduceEqDiff, reduceCtorEq, Nat.reduceAdd, Nat.reduceLT, Nat.reduceLeDiff, Nat.reduceSub, csE, hqz])
        (repeat refine And.intro (by first | omega | (simp; omega)) ?_)
        -- CALL 9
        refine ⟨_, cx (checkMod_con (rem f g p) p), ?_⟩
        (try simp only [l6_91, cw, cops, csW, csL,  reduceIte, Nat.reduceEqDiff, reduceCtorEq, Nat.reduceAdd, Nat.reduceLT, Nat.reduceLeDiff, Nat.reduceSub, csE, hrz])
        (repeat refine And.intro (by first | omega | (simp; omega)) ?_)
        refine keep [0, 1, 2, 3, 17, 18, 186] ?_
        (try simp only [c6_96, cw, cops, csW, csL,  reduceIte, Nat.reduceEqDiff, reduceCtorEq, Nat.reduceAdd, Nat.reduceLT, Nat.reduceLeDiff, Nat.reduceSub, csE, hrz])
        (repeat refine And.intro (by first | omega | (simp; omega)) ?_)
        -- TEST (.t 186)
        -- skip
        (try simp only [cw, cops, csW, csL,  reduceIte, Nat.reduceEqDiff, reduceCtorEq, Nat.reduceAdd, Nat.reduceLT, Nat.reduceLeDiff, Nat.reduceSub, csE, hn0])
        (repeat refine And.intro (by first | omega | (simp; omega)) ?_)
        refine keep [0, 1, 2, 3, 17, 18] ?_
        (try simp only [c6_110, c6_104, c6_99, l6_98, cw, cops, csW, csL,  reduceIte, Nat.reduceEqDiff, reduceCtorEq, Nat.reduceAdd, Nat.reduceLT, Nat.reduceLeDiff, Nat.reduceSub, csE, hn0])
        (repeat refine And.intro (by first | omega | (simp; omega)) ?_)
        refine keep [0, 1, 2, 3, 17, 18, 188] ?_
        (try simp only [c6_103, cw, cops, csW, csL,  reduceIte, Nat.reduceEqDiff, reduceCtorEq, Nat.reduceAdd, Nat.reduceLT, Nat.reduceLeDiff, Nat.reduceSub, csE, hn0])
        (repeat refine And.intro (by first | omega | (simp; omega)) ?_)
        -- TEST (.t 188)
        -- skip
        (try simp only [cw, cops, csW, csL,  reduceIte, Nat.reduceEqDiff, reduceCtorEq, Nat.reduceAdd, Nat.reduceLT, Nat.reduceLeDiff, Nat.reduceSub, csE])
        (repeat refine And.intro (by first | omega | (simp; omega)) ?_)
        refine keep [0, 1, 2, 3, 17, 18] ?_
        (try simp only [c6_109, c6_108, l6_105, cw, cops, csW, csL,  reduceIte, Nat.reduceEqDiff, reduceCtorEq, Nat.reduceAdd, Nat.reduceLT, Nat.reduceLeDiff, Nat.reduceSub, csE])
        (repeat refine And.intro (by first | omega | (simp; omega)) ?_)
        -- CALL 22
        refine ⟨_, cx (mpower_con f g k p hf1.pr hf1.pl hg1.pl hg0 (by omega)), ?_⟩
        (try simp only [l6_106, cw, cops, csW, csL,  reduceIte, Nat.reduceEqDiff, reduceCtorEq, Nat.reduceAdd, Nat.reduceLT, Nat.reduceLeDiff, Nat.reduceSub, csE])
        (repeat refine And.intro (by first | omega | (simp; omega)) ?_)
        -- CALL 11
        refine ⟨_, cx (same_con _ _ (Nat.le_trans hpl (by decide))), ?_⟩
        (try simp only [l6_107, cw, cops, csW, csL,  reduceIte, Nat.reduceEqDiff, reduceCtorEq, Nat.reduceAdd, Nat.reduceLT, Nat.reduceLeDiff, Nat.reduceSub, csE])
        (repeat refine And.intro (by first | omega | (simp; omega)) ?_)
        refine keep [8] ?_
        (try simp only [cw, cops, csW, csL,  reduceIte, Nat.reduceEqDiff, reduceCtorEq, Nat.reduceAdd, Nat.reduceLT, Nat.reduceLeDiff, Nat.reduceSub, csE, Ends, resD, resL, resV])
        (repeat refine And.intro (by first | omega | (simp; omega)) ?_)
        -- RETURN

end Go.Proofs.Ytlnhembcfhfpkaa.M
