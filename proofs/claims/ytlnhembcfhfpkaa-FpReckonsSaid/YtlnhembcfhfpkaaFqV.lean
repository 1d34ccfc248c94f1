/- FpGcds: the law walked. -/
import Derived.Test.YtlnhembcfhfpkaaFqU
import Derived.Test.YtlnhembcfhfpkaaFqI
namespace Go.Proofs.Ytlnhembcfhfpkaa.M
open Go.RowKit
set_option linter.unusedSimpArgs false
set_option linter.unusedVariables false
set_option linter.defProp false

def csE := And.intro csF (And.intro @intsOf.eq_1 (And.intro @intsOf.eq_2 (And.intro @Option.map_some.{0,0} (And.intro @toD_p @eq_self.{1}))))
-- more
set_option maxRecDepth 20000 in
set_option maxHeartbeats 1000000 in
theorem gcdsT_con (T T' : Nat) (f g : List Int) (p : Int) (hlf : f.length ≤ 9223372036854775807) (hlg : g.length ≤ 9223372036854775807) : Con Try.prog [] 3 [LT T f, LT T' g, I p] (.bool true) := by
  by_cases hc : (chk f p).1 = 0
  · have hk : chk2 f g p = chk g p := by unfold chk2; rw [if_pos hc]
    by_cases hg : (chk g p).1 = 0
    · have hf1 := chk_good hc
      have hg1 := chk_good hg
      have hcz := hf1.chk
      have hgz := hg1.chk
      have hlen : (gcdP p g.length f g).length ≤ 9223372036854775807 := by
        have key : ∀ n a b, Pl p 65 a → Pl p 65 b → (gcdP p n a b).length ≤ 65 := by
          intro n
          induction n with
          | zero => intro a b ha hb; rw [gcdP, monP_len]; exact ha.len
          | succ n ih =>
            intro a b ha hb
            rw [gcdP]
            split
            · rw [monP_len]; exact ha.len
            · rename_i h0; exact ih b _ hb (rem_pl hf1.pr ha hb h0).1
        have := key g.length f g hf1.pl hg1.pl
        omega
      by_cases hp : 5000 < p
      · refine fn3.con rfl (by simp) ?_
        (try simp only [init3, c3, c3_40, c3_1, l3_0, cw, cops, csW, csL,  reduceIte, Nat.reduceEqDiff, reduceCtorEq, Nat.reduceAdd, Nat.reduceLT, Nat.reduceLeDiff, Nat.reduceSub, csE])
        (repeat refine And.intro (by first | omega | (simp; omega)) ?_)
        refine keep [0, 1, 2] ?_
        (try simp only [c3_39, c3_4, l3_2, cw, cops, csW, csL,  reduceIte, Nat.reduceEqDiff, reduceCtorEq, Nat.reduceAdd, Nat.reduceLT, Nat.reduceLeDiff, Nat.reduceSub, csE])
        (repeat refine And.intro (by first | omega | (simp; omega)) ?_)
        -- CALL 8
        refine ⟨_, cx (eGcd_con f g p), ?_⟩
        (try simp only [l3_3, cw, cops, csW, csL,  reduceIte, Nat.reduceEqDiff, reduceCtorEq, Nat.reduceAdd, Nat.reduceLT, Nat.reduceLeDiff, Nat.reduceSub, csE, hk, hgz])
        (repeat refine And.intro (by first | omega | (simp; omega)) ?_)
        refine keep [0, 1, 2, 7, 8] ?_
        (try simp only [c3_38, c3_7, l3_5, cw, cops, csW, csL,  reduceIte, Nat.reduceEqDiff, reduceCtorEq, Nat.reduceAdd, Nat.reduceLT, Nat.reduceLeDiff, Nat.reduceSub, csE, hk, hgz])
        (repeat refine And.intro (by first | omega | (simp; omega)) ?_)
        -- CALL 9
        refine ⟨_, cx (checkMod_con f p), ?_⟩
        (try simp only [l3_6, cw, cops, csW, csL,  reduceIte, Nat.reduceEqDiff, reduceCtorEq, Nat.reduceAdd, Nat.reduceLT, Nat.reduceLeDiff, Nat.reduceSub, csE, hcz])
        (repeat refine And.intro (by first | omega | (simp; omega)) ?_)
        refine keep [0, 1, 2, 7, 8, 9] ?_
        (try simp only [c3_37, c3_14, c3_9, l3_8, cw, cops, csW, csL,  reduceIte, Nat.reduceEqDiff, reduceCtorEq, Nat.reduceAdd, Nat.reduceLT, Nat.reduceLeDiff, Nat.reduceSub, csE, hcz])
        (repeat refine And.intro (by first | omega | (simp; omega)) ?_)
        refine keep [0, 1, 2, 7, 8, 9, 22] ?_
        (try simp only [c3_13, cw, cops, csW, csL,  reduceIte, Nat.reduceEqDiff, reduceCtorEq, Nat.reduceAdd, Nat.reduceLT, Nat.reduceLeDiff, Nat.reduceSub, csE, hcz])
        (repeat refine And.intro (by first | omega | (simp; omega)) ?_)
        -- TEST (.t 22)
        (try simp only [c3_12, l3_10, cw, cops, csW, csL,  reduceIte, Nat.reduceEqDiff, reduceCtorEq, Nat.reduceAdd, Nat.reduceLT, Nat.reduceLeDiff, Nat.reduceSub, csE])
        (repeat refine And.intro (by first | omega | (simp; omega)) ?_)
        -- CALL 9
        refine ⟨_, cx (checkMod_con g p), ?_⟩
        (try simp only [l3_11, cw, cops, csW, csL,  reduceIte, Nat.reduceEqDiff, reduceCtorEq, Nat.reduceAdd, Nat.reduceLT, Nat.reduceLeDiff, Nat.reduceSub, csE, hgz])
        (repeat refine And.intro (by first | omega | (simp; omega)) ?_)
        refine keep [0, 1, 2, 7, 8, 9] ?_
        (try simp only [c3_36, c3_22, c3_17, l3_15, cw, cops, csW, csL,  reduceIte, Nat.reduceEqDiff, reduceCtorEq, Nat.reduceAdd, Nat.reduceLT, Nat.reduceLeDiff, Nat.reduceSub, csE, hgz])
        (repeat refine And.intro (by first | omega | (simp; omega)) ?_)
        -- CALL 10
        refine ⟨_, cx (fpBegun_con), ?_⟩
        (try simp only [l3_16, cw, cops, csW, csL,  reduceIte, Nat.reduceEqDiff, reduceCtorEq, Nat.reduceAdd, Nat.reduceLT, Nat.reduceLeDiff, Nat.reduceSub, csE])
        (repeat refine And.intro (by first | omega | (simp; omega)) ?_)
        refine keep [0, 1, 2, 7, 8, 32] ?_
        (try simp only [c3_21, cw, cops, csW, csL,  reduceIte, Nat.reduceEqDiff, reduceCtorEq, Nat.reduceAdd, Nat.reduceLT, Nat.reduceLeDiff, Nat.reduceSub, csE])
        (repeat refine And.intro (by first | omega | (simp; omega)) ?_)
        -- TEST (.t 32)
        -- skip
        (try simp only [cw, cops, csW, csL,  reduceIte, Nat.reduceEqDiff, reduceCtorEq, Nat.reduceAdd, Nat.reduceLT, Nat.reduceLeDiff, Nat.reduceSub, csE])
        (repeat refine And.intro (by first | omega | (simp; omega)) ?_)
        refine keep [0, 1, 2, 7, 8] ?_
        (try simp only [c3_35, c3_29, c3_24, l3_23, cw, cops, csW, csL,  reduceIte, Nat.reduceEqDiff, reduceCtorEq, Nat.reduceAdd, Nat.reduceLT, Nat.reduceLeDiff, Nat.reduceSub, csE])
        (repeat refine And.intro (by first | omega | (simp; omega)) ?_)
        refine keep [0, 1, 2, 7, 35] ?_
        (try simp only [c3_28, cw, cops, csW, csL,  reduceIte, Nat.reduceEqDiff, reduceCtorEq, Nat.reduceAdd, Nat.reduceLT, Nat.reduceLeDiff, Nat.reduceSub, csE])
        (repeat refine And.intro (by first | omega | (simp; omega)) ?_)
        -- TEST (.t 35)
        -- skip
        (try simp only [cw, cops, csW, csL,  reduceIte, Nat.reduceEqDiff, reduceCtorEq, Nat.reduceAdd, Nat.reduceLT, Nat.reduceLeDiff, Nat.reduceSub, csE, hp])
        (repeat refine And.intro (by first | omega | (simp; omega)) ?_)
        refine keep [0, 1, 2, 7] ?_
        (try simp only [c3_34, c3_33, l3_30, cw, cops, csW, csL,  reduceIte, Nat.reduceEqDiff, reduceCtorEq, Nat.reduceAdd, Nat.reduceLT, Nat.reduceLeDiff, Nat.reduceSub, csE, hp])
        (repeat refine And.intro (by first | omega | (simp; omega)) ?_)
        -- CALL 12
        (try simp only [l3_31, cw, cops, csW, csL,  reduceIte, Nat.reduceEqDiff, reduceCtorEq, Nat.reduceAdd, Nat.reduceLT, Nat.reduceLeDiff, Nat.reduceSub, csE, hp])
        (repeat refine And.intro (by first | omega | (simp; omega)) ?_)
        -- CALL 11
        (try simp only [l3_32, cw, cops, csW, csL,  reduceIte, Nat.reduceEqDiff, reduceCtorEq, Nat.reduceAdd, Nat.reduceLT, Nat.reduceLeDiff, Nat.reduceSub, csE, hp])
        (repeat refine And.intro (by first | omega | (simp; omega)) ?_)
        refine keep [6] ?_
        (try simp only [cw, cops, csW, csL,  reduceIte, Nat.reduceEqDiff, reduceCtorEq, Nat.reduceAdd, Nat.reduceLT, Nat.reduceLeDiff, Nat.reduceSub, csE, Ends, resD, resL, resV, hp])
        (repeat refine And.intro (by first | omega | (simp; omega)) ?_)
        -- RETURN
      · refine fn3.con rfl (by simp) ?_
        (try simp only [init3, c3, c3_40, c3_1, l3_0, cw, cops, csW, csL,  reduceIte, Nat.reduceEqDiff, reduceCtorEq, Nat.reduceAdd, Nat.reduceLT, Nat.reduceLeDiff, Nat.reduceSub, csE])
        (repeat refine And.intro (by first | omega | (simp; omega)) ?_)
        refine keep [0, 1, 2] ?_
        (try simp only [c3_39, c3_4, l3_2, cw, cops, csW, csL,  reduceIte, Nat.reduceEqDiff, reduceCtorEq, Nat.reduceAdd, Nat.reduceLT, Nat.reduceLeDiff, Nat.reduceSub, csE])
        (repeat refine And.intro (by first | omega | (simp; omega)) ?_)
        -- CALL 8
        refine ⟨_, cx (eGcd_con f g p), ?_⟩
        (try simp only [l3_3, cw, cops, csW, csL,  reduceIte, Nat.reduceEqDiff, reduceCtorEq, Nat.reduceAdd, Nat.reduceLT, Nat.reduceLeDiff, Nat.reduceSub, csE, hk, hgz])
        (repeat refine And.intro (by first | omega | (simp; omega)) ?_)
        refine keep [0, 1, 2, 7, 8] ?_
        (try simp only [c3_38, c3_7, l3_5, cw, cops, csW, csL,  reduceIte, Nat.reduceEqDiff, reduceCtorEq, Nat.reduceAdd, Nat.reduceLT, Nat.reduceLeDiff, Nat.reduceSub, csE, hk, hgz])
        (repeat refine And.intro (by first | omega | (simp; omega)) ?_)
        -- CALL 9
        refine ⟨_, cx (checkMod_con f p), ?_⟩
        (try simp only [l3_6, cw, cops, csW, csL,  reduceIte, Nat.reduceEqDiff, reduceCtorEq, Nat.reduceAdd, Nat.reduceLT, Nat.reduceLeDiff, Nat.reduceSub, csE, hcz])
        (repeat refine And.intro (by first | omega | (simp; omega)) ?_)
        refine keep [0, 1, 2, 7, 8, 9] ?_
        (try simp only [c3_37, c3_14, c3_9, l3_8, cw, cops, csW, csL,  reduceIte, Nat.reduceEqDiff, reduceCtorEq, Nat.reduceAdd, Nat.reduceLT, Nat.reduceLeDiff, Nat.reduceSub, csE, hcz])
        (repeat refine And.intro (by first | omega | (simp; omega)) ?_)
        refine keep [0, 1, 2, 7, 8, 9, 22] ?_
        (try simp only [c3_13, cw, cops, csW, csL,  reduceIte, Nat.reduceEqDiff, reduceCtorEq, Nat.reduceAdd, Nat.reduceLT, Nat.reduceLeDiff, Nat.reduceSub, csE, hcz])
        (repeat refine And.intro (by first | omega | (simp; omega)) ?_)
        -- TEST (.t 22)
        (try simp only [c3_12, l3_10, cw, cops, csW, csL,  reduceIte, Nat.reduceEqDiff, reduceCtorEq, Nat.reduceAdd, Nat.reduceLT, Nat.reduceLeDiff, Nat.reduceSub, csE])
        (repeat refine And.intro (by first | omega | (simp; omega)) ?_)
        -- CALL 9
        refine ⟨_, cx (checkMod_con g p), ?_⟩
        (try simp only [l3_11, cw, cops, csW, csL,  reduceIte, Nat.reduceEqDiff, reduceCtorEq, Nat.reduceAdd, Nat.reduceLT, Nat.reduceLeDiff, Nat.reduceSub, csE, hgz])
        (repeat refine And.intro (by first | omega | (simp; omega)) ?_)
        refine keep [0, 1, 2, 7, 8, 9] ?_
        (try simp only [c3_36, c3_22, c3_17, l3_15, cw, cops, csW, csL,  reduceIte, Nat.reduceEqDiff, reduceCtorEq, Nat.reduceAdd, Nat.reduceLT, Nat.reduceLeDiff, Nat.reduceSub, csE, hgz])
        (repeat refine And.intro (by first | omega | (simp; omega)) ?_)
        -- CALL 10
        refine ⟨_, cx (fpBegun_con), ?_⟩
        (try simp only [l3_16, cw, cops, csW, csL,  reduceIte, Nat.reduceEqDiff, reduceCtorEq, Nat.reduceAdd, Nat.reduceLT, Nat.reduceLeDiff, Nat.reduceSub, csE])
        (repeat refine And.intro (by first | omega | (simp; omega)) ?_)
        refine keep [0, 1, 2, 7, 8, 32] ?_
        (try simp only [c3_21, cw, cops, csW, csL,  reduceIte, Nat.reduceEqDiff, reduceCtorEq, Nat.reduceAdd, Nat.reduceLT, Nat.reduceLeDiff, Nat.reduceSub, csE])
        (repeat refine And.intro (by first | omega | (simp; omega)) ?_)
        -- TEST (.t 32)
        -- skip
        (try simp only [cw, cops, csW, csL,  reduceIte, Nat.reduceEqDiff, reduceCtorEq, Nat.reduceAdd, Nat.reduceLT, Nat.reduceLeDiff, Nat.reduceSub, csE])
        (repeat refine And.intro (by first | omega | (simp; omega)) ?_)
        refine keep [0, 1, 2, 7, 8] ?_
        (try simp only [c3_35, c3_29, c3_24, l3_23, cw, cops, csW, csL,  reduceIte, Nat.reduceEqDiff, reduceCtorEq, Nat.reduceAdd, Nat.reduceLT, Nat.reduceLeDiff, Nat.reduceSub, csE])
        (repeat refine And.intro (by first | omega | (simp; omega)) ?_)
        refine keep [0, 1, 2, 7, 35] ?_
        (try simp only [c3_28, cw, cops, csW, csL,  reduceIte, Nat.reduceEqDiff, reduceCtorEq, Nat.reduceAdd, Nat.reduceLT, Nat.reduceLeDiff, Nat.reduceSub, csE])
        (repeat refine And.intro (by first | omega | (simp; omega)) ?_)
        -- TEST (.t 35)
        -- skip
        (try simp only [cw, cops, csW, csL,  reduceIte, Nat.reduceEqDiff, reduceCtorEq, Nat.reduceAdd, Nat.reduceLT, Nat.reduceLeDiff, Nat.reduceSub, csE, hp])
        (repeat refine And.intro (by first | omega | (simp; omega)) ?_)
        refine keep [0, 1, 2, 7] ?_
        (try simp only [c3_34, c3_33, l3_30, cw, cops, csW, csL,  reduceIte, Nat.reduceEqDiff, reduceCtorEq, Nat.reduceAdd, Nat.reduceLT, Nat.reduceLeDiff, Nat.reduceSub, csE, hp])
        (repeat refine And.intro (by first | omega | (simp; omega)) ?_)
        -- CALL 12
        refine ⟨_, cx (mgcd_con f g p hf1.pr (hf1.pl.mono (by omega)) (hg1.pl.mono (by omega))), ?_⟩
        (try simp only [l3_31, cw, cops, csW, csL,  reduceIte, Nat.reduceEqDiff, reduceCtorEq, Nat.reduceAdd, Nat.reduceLT, Nat.reduceLeDiff, Nat.reduceSub, csE, hp])
        (repeat refine And.intro (by first | omega | (simp; omega)) ?_)
        -- CALL 11
        refine ⟨_, cx (same_con _ _ hlen), ?_⟩
        (try simp only [l3_32, cw, cops, csW, csL,  reduceIte, Nat.reduceEqDiff, reduceCtorEq, Nat.reduceAdd, Nat.reduceLT, Nat.reduceLeDiff, Nat.reduceSub, csE, hp])
        (repeat refine And.intro (by first | omega | (simp; omega)) ?_)
        refine keep [6] ?_
        (try simp only [cw, cops, csW, csL,  reduceIte, Nat.reduceEqDiff, reduceCtorEq, Nat.reduceAdd, Nat.reduceLT, Nat.reduceLeDiff, Nat.reduceSub, csE, Ends, resD, resL, resV, hp])
        (repeat refine And.intro (by first | omega | (simp; omega)) ?_)
        -- RETURN
    · refine fn3.con rfl (by simp) ?_
      (try simp only [init3, c3, c3_40, c3_1, l3_0, cw, cops, csW, csL,  reduceIte, Nat.reduceEqDiff, reduceCtorEq, Nat.reduceAdd, Nat.reduceLT, Nat.reduceLeDiff, Nat.reduceSub, csE])
      (repeat refine And.intro (by first | omega | (simp; omega)) ?_)
      refine keep [0, 1, 2] ?_
      (try simp only [c3_39, c3_4, l3_2, cw, cops, csW, csL,  reduceIte, Nat.reduceEqDiff, reduceCtorEq, Nat.reduceAdd, Nat.reduceLT, Nat.reduceLeDiff, Nat.reduceSub, csE])
      (repeat refine And.intro (by first | omega | (simp; omega)) ?_)
      -- CALL 8
      refine ⟨_, cx (eGcd_con f g p), ?_⟩
      (try simp only [l3_3, cw, cops, csW, csL,  reduceIte, Nat.reduceEqDiff, reduceCtorEq, Nat.reduceAdd, Nat.reduceLT, Nat.reduceLeDiff, Nat.reduceSub, csE, hk, hg])
      (repeat refine And.intro (by first | omega | (simp; omega)) ?_)
      refine keep [0, 1, 2, 7, 8] ?_
      (try simp only [c3_38, c3_7, l3_5, cw, cops, csW, csL,  reduceIte, Nat.reduceEqDiff, reduceCtorEq, Nat.reduceAdd, Nat.reduceLT, Nat.reduceLeDiff, Nat.reduceSub, csE, hk, hg])
      (repeat refine And.intro (by first | omega | (simp; omega)) ?_)
      -- CALL 9
      refine ⟨_, cx (checkMod_con f p), ?_⟩
      (try simp only [l3_6, cw, cops, csW, csL,  reduceIte, Nat.reduceEqDiff, reduceCtorEq, Nat.reduceAdd, Nat.reduceLT, Nat.reduceLeDiff, Nat.reduceSub, csE, hc])
      (repeat refine And.intro (by first | omega | (simp; omega)) ?_)
      refine keep [0, 1, 2, 7, 8, 9] ?_
      (try simp only [c3_37, c3_14, c3_9, l3_8, cw, cops, csW, csL,  reduceIte, Nat.reduceEqDiff, reduceCtorEq, Nat.reduceAdd, Nat.reduceLT, Nat.reduceLeDiff, Nat.reduceSub, csE, hc])
      (repeat refine And.intro (by first | omega | (simp; omega)) ?_)
      refine keep [0, 1, 2, 7, 8, 9, 22] ?_
      (try simp only [c3_13, cw, cops, csW, csL,  reduceIte, Nat.reduceEqDiff, reduceCtorEq, Nat.reduceAdd, Nat.reduceLT, Nat.reduceLeDiff, Nat.reduceSub, csE, hc])
      (repeat refine And.intro (by first | omega | (simp; omega)) ?_)
      -- TEST (.t 22)
      (try simp only [c3_12, l3_10, cw, cops, csW, csL,  reduceIte, Nat.reduceEqDiff, reduceCtorEq, Nat.reduceAdd, Nat.reduceLT, Nat.reduceLeDiff, Nat.reduceSub, csE])
      (repeat refine And.intro (by first | omega | (simp; omega)) ?_)
      -- CALL 9
      refine ⟨_, cx (checkMod_con g p), ?_⟩
      (try simp only [l3_11, cw, cops, csW, csL,  reduceIte, Nat.reduceEqDiff, reduceCtorEq, Nat.reduceAdd, Nat.reduceLT, Nat.reduceLeDiff, Nat.reduceSub, csE])
      (repeat refine And.intro (by first | omega | (simp; omega)) ?_)
      refine keep [0, 1, 2, 7, 8, 9] ?_
      (try simp only [c3_36, c3_22, c3_17, l3_15, cw, cops, csW, csL,  reduceIte, Nat.reduceEqDiff, reduceCtorEq, Nat.reduceAdd, Nat.reduceLT, Nat.reduceLeDiff, Nat.reduceSub, csE])
      (repeat refine And.intro (by first | omega | (simp; omega)) ?_)
      -- CALL 10
      refine ⟨_, cx (fpBegun_con), ?_⟩
      (try simp only [l3_16, cw, cops, csW, csL,  reduceIte, Nat.reduceEqDiff, reduceCtorEq, Nat.reduceAdd, Nat.reduceLT, Nat.reduceLeDiff, Nat.reduceSub, csE])
      (repeat refine And.intro (by first | omega | (simp; omega)) ?_)
      refine keep [0, 1, 2, 7, 8, 32] ?_
      (try simp only [c3_21, cw, cops, csW, csL,  reduceIte, Nat.reduceEqDiff, reduceCtorEq, Nat.reduceAdd, Nat.reduceLT, Nat.reduceLeDiff, Nat.reduceSub, csE])
      (repeat refine And.intro (by first | omega | (simp; omega)) ?_)
      -- TEST (.t 32)
      -- skip
      (try simp only [cw, cops, csW, csL,  reduceIte, Nat.reduceEqDiff, reduceCtorEq, Nat.reduceAdd, Nat.reduceLT, Nat.reduceLeDiff, Nat.reduceSub, csE, hg])
      (repeat refine And.intro (by first | omega | (simp; omega)) ?_)
      refine keep [0, 1, 2, 7, 8] ?_
      (try simp only [c3_35, c3_29, c3_24, l3_23, cw, cops, csW, csL,  reduceIte, Nat.reduceEqDiff, reduceCtorEq, Nat.reduceAdd, Nat.reduceLT, Nat.reduceLeDiff, Nat.reduceSub, csE, hg])
      (repeat refine And.intro (by first | omega | (simp; omega)) ?_)
      refine keep [0, 1, 2, 7, 35] ?_
      (try simp only [c3_28, cw, cops, csW, csL,  reduceIte, Nat.reduceEqDiff, reduceCtorEq, Nat.reduceAdd, Nat.reduceLT, Nat.reduceLeDiff, Nat.reduceSub, csE, hg])
      (repeat refine And.intro (by first | omega | (simp; omega)) ?_)
      -- TEST (.t 35)
      (try simp only [c3_27, c3_26, l3_25, cw, cops, csW, csL,  reduceIte, Nat.reduceEqDiff, reduceCtorEq, Nat.reduceAdd, Nat.reduceLT, Nat.reduceLeDiff, Nat.reduceSub, csE])
      (repeat refine And.intro (by first | omega | (simp; omega)) ?_)
      refine keep [6] ?_
      (try simp only [cw, cops, csW, csL,  reduceIte, Nat.reduceEqDiff, reduceCtorEq, Nat.reduceAdd, Nat.reduceLT, Nat.reduceLeDiff, Nat.reduceSub, csE, Ends, resD, resL, resV])
      (repeat refine And.intro (by first | omega | (simp; omega)) ?_)
      -- RETURN
  · have hk : chk2 f g p = chk f p := by unfold chk2; rw [if_neg hc]
    refine fn3.con rfl (by simp) ?_
    (try simp only [init3, c3, c3_40, c3_1, l3_0, cw, cops, csW, csL,  reduceIte, Nat.reduceEqDiff, reduceCtorEq, Nat.reduceAdd, Nat.reduceLT, Nat.reduceLeDiff, Nat.reduceSub, csE])
    (repeat refine And.intro (by first | omega | (simp; omega)) ?_)
    refine keep [0, 1, 2] ?_
    (try simp only [c3_39, c3_4, l3_2, cw, cops, csW, csL,  reduceIte, Nat.reduceEqDiff, reduceCtorEq, Nat.reduceAdd, Nat.reduceLT, Nat.reduceLeDiff, Nat.reduceSub, csE])
    (repeat refine And.intro (by first | omega | (simp; omega)) ?_)
    -- CALL 8
    refine ⟨_, cx (eGcd_con f g p), ?_⟩
    (try simp only [l3_3, cw, cops, csW, csL,  reduceIte, Nat.reduceEqDiff, reduceCtorEq, Nat.reduceAdd, Nat.reduceLT, Nat.reduceLeDiff, Nat.reduceSub, csE, hk, hc])
    (repeat refine And.intro (by first | omega | (simp; omega)) ?_)
    refine keep [0, 1, 2, 7, 8] ?_
    (try simp only [c3_38, c3_7, l3_5, cw, cops, csW, csL,  reduceIte, Nat.reduceEqDiff, reduceCtorEq, Nat.reduceAdd, Nat.reduceLT, Nat.reduceLeDiff, Nat.reduceSub, csE, hk, hc])
    (repeat refine And.intro (by first | omega | (simp; omega)) ?_)
    -- CALL 9
    refine ⟨_, cx (checkMod_con f p), ?_⟩
    (try simp only [l3_6, cw, cops, csW, csL,  reduceIte, Nat.reduceEqDiff, reduceCtorEq, Nat.reduceAdd, Nat.reduceLT, Nat.reduceLeDiff, Nat.reduceSub, csE, hc])
    (repeat refine And.intro (by first | omega | (simp; omega)) ?_)
    refine keep [0, 1, 2, 7, 8, 9] ?_
    (try simp only [c3_37, c3_14, c3_9, l3_8, cw, cops, csW, csL,  reduceIte, Nat.reduceEqDiff, reduceCtorEq, Nat.reduceAdd, Nat.reduceLT, Nat.reduceLeDiff, Nat.reduceSub, csE, hc])
    (repeat refine And.intro (by first | omega | (simp; omega)) ?_)
    refine keep [0, 1, 2, 7, 8, 9, 22] ?_
    (try simp only [c3_13, cw, cops, csW, csL,  reduceIte, Nat.reduceEqDiff, reduceCtorEq, Nat.reduceAdd, Nat.reduceLT, Nat.reduceLeDiff, Nat.reduceSub, csE, hc])
    (repeat refine And.intro (by first | omega | (simp; omega)) ?_)
    -- TEST (.t 22)
    -- skip
    (try simp only [cw, cops, csW, csL,  reduceIte, Nat.reduceEqDiff, reduceCtorEq, Nat.reduceAdd, Nat.reduceLT, Nat.reduceLeDiff, Nat.reduceSub, csE])
    (repeat refine And.intro (by first | omega | (simp; omega)) ?_)
    refine keep [0, 1, 2, 7, 8, 9] ?_
    (try simp only [c3_36, c3_22, c3_17, l3_15, cw, cops, csW, csL,  reduceIte, Nat.reduceEqDiff, reduceCtorEq, Nat.reduceAdd, Nat.reduceLT, Nat.reduceLeDiff, Nat.reduceSub, csE])
    (repeat refine And.intro (by first | omega | (simp; omega)) ?_)
    -- CALL 10
    refine ⟨_, cx (fpBegun_con), ?_⟩
    (try simp only [l3_16, cw, cops, csW, csL,  reduceIte, Nat.reduceEqDiff, reduceCtorEq, Nat.reduceAdd, Nat.reduceLT, Nat.reduceLeDiff, Nat.reduceSub, csE])
    (repeat refine And.intro (by first | omega | (simp; omega)) ?_)
    refine keep [0, 1, 2, 7, 8, 32] ?_
    (try simp only [c3_21, cw, cops, csW, csL,  reduceIte, Nat.reduceEqDiff, reduceCtorEq, Nat.reduceAdd, Nat.reduceLT, Nat.reduceLeDiff, Nat.reduceSub, csE])
    (repeat refine And.intro (by first | omega | (simp; omega)) ?_)
    -- TEST (.t 32)
    -- skip
    (try simp only [cw, cops, csW, csL,  reduceIte, Nat.reduceEqDiff, reduceCtorEq, Nat.reduceAdd, Nat.reduceLT, Nat.reduceLeDiff, Nat.reduceSub, csE, hc])
    (repeat refine And.intro (by first | omega | (simp; omega)) ?_)
    refine keep [0, 1, 2, 7, 8] ?_
    (try simp only [c3_35, c3_29, c3_24, l3_23, cw, cops, csW, csL,  reduceIte, Nat.reduceEqDiff, reduceCtorEq, Nat.reduceAdd, Nat.reduceLT, Nat.reduceLeDiff, Nat.reduceSub, csE, hc])
    (repeat refine And.intro (by first | omega | (simp; omega)) ?_)
    refine keep [0, 1, 2, 7, 35] ?_
    (try simp only [c3_28, cw, cops, csW, csL,  reduceIte, Nat.reduceEqDiff, reduceCtorEq, Nat.reduceAdd, Nat.reduceLT, Nat.reduceLeDiff, Nat.reduceSub, csE, hc])
    (repeat refine And.intro (by first | omega | (simp; omega)) ?_)
    -- TEST (.t 35)
    (try simp only [c3_27, c3_26, l3_25, cw, cops, csW, csL,  reduceIte, Nat.reduceEqDiff, reduceCtorEq, Nat.reduceAdd, Nat.reduceLT, Nat.reduceLeDiff, Nat.reduceSub, csE])
    (repeat refine And.intro (by first | omega | (simp; omega)) ?_)
    refine keep [6] ?_
    (try simp only [cw, cops, csW, csL,  reduceIte, Nat.reduceEqDiff, reduceCtorEq, Nat.reduceAdd, Nat.reduceLT, Nat.reduceLeDiff, Nat.reduceSub, csE, Ends, resD, resL, resV])
    (repeat refine And.intro (by first | omega | (simp; omega)) ?_)
    -- RETURN
theorem bool_V {w : World} {N : Nat → Prop} {v : Value} {b : Bool} (h : V w N v (.bool b)) : v = .bool b := by
  generalize he : D.bool b = e at h
  cases h with
  | bool b => injection he with h1; subst h1; rfl
  | _ => cases he
end Go.Proofs.Ytlnhembcfhfpkaa.M
