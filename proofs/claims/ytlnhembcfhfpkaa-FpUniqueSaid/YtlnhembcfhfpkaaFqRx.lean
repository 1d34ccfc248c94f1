/- Polynomials modulo a prime: the reference's small functions walked. -/
import Derived.Test.YtlnhembcfhfpkaaFqGx
namespace Go.Proofs.Ytlnhembcfhfpkaa.M
open Go.RowKit
set_option linter.unusedSimpArgs false
set_option linter.unusedVariables false
set_option maxRecDepth 20000 in
set_option maxHeartbeats 400000 in
theorem same_con {T T' : Nat} (a b : List Int) (ha : a.length ≤ 9223372036854775807) : Con Try.prog [] 11 [LT T a, LT T' b] (.bool (decide (a = b))) := by
  by_cases hl : a.length = b.length
  · have hlI : (a.length : Int) = (b.length : Int) := by omega
    refine fn11.con rfl (by simp) ?_
    (try simp only [init2, c11, c11_35, c11_1, l11_0, cw, cops, csW, csL,  reduceIte, Nat.reduceEqDiff, reduceCtorEq, Nat.reduceAdd, Nat.reduceLT, Nat.reduceLeDiff, Nat.reduceSub, hlI])
    (repeat refine And.intro (by first | omega | (simp; omega)) ?_)
    refine keep [0, 1] ?_
    (try simp only [c11_34, c11_8, c11_3, l11_2, cw, cops, csW, csL,  reduceIte, Nat.reduceEqDiff, reduceCtorEq, Nat.reduceAdd, Nat.reduceLT, Nat.reduceLeDiff, Nat.reduceSub, hlI])
    (repeat refine And.intro (by first | omega | (simp; omega)) ?_)
    refine keep [0, 1, 10] ?_
    (try simp only [c11_7, cw, cops, csW, csL,  reduceIte, Nat.reduceEqDiff, reduceCtorEq, Nat.reduceAdd, Nat.reduceLT, Nat.reduceLeDiff, Nat.reduceSub, hlI])
    (repeat refine And.intro (by first | omega | (simp; omega)) ?_)
    (try simp only [cw, cops, csW, csL,  reduceIte, Nat.reduceEqDiff, reduceCtorEq, Nat.reduceAdd, Nat.reduceLT, Nat.reduceLeDiff, Nat.reduceSub])
    (repeat refine And.intro (by first | omega | (simp; omega)) ?_)
    refine keep [0, 1] ?_
    (try simp only [c11_33, c11_29, c11_10, l11_9, cw, cops, csW, csL,  reduceIte, Nat.reduceEqDiff, reduceCtorEq, Nat.reduceAdd, Nat.reduceLT, Nat.reduceLeDiff, Nat.reduceSub])
    (repeat refine And.intro (by first | omega | (simp; omega)) ?_)
    refine keep [0, 1, 5] ?_
    (try simp only [c11_28, cw, cops, csW, csL,  reduceIte, Nat.reduceEqDiff, reduceCtorEq, Nat.reduceAdd, Nat.reduceLT, Nat.reduceLeDiff, Nat.reduceSub])
    refine loop_of (ι := Nat) (fun i => i ≤ a.length ∧ ∀ j, j < i → a.getD j 0 = b.getD j 0) (fun i => ⟨look [(0, .p (LT T a)), (1, .p (LT T' b)), (5, .p (I i))], lookM []⟩) (fun i => a.length - i) 0 ⟨by omega, fun j hj => by omega⟩ (Sub.rf _) ?_
    rintro i ⟨hi, hg⟩
    by_cases h : i < a.length
    · have hi' : (i : Int) < (a.length : Int) := by omega
      have hi2 : (i : Int) < (b.length : Int) := by omega
      (try simp only [c11_26, c11_14, c11_12, l11_11, cw, cops, csW, csL,  reduceIte, Nat.reduceEqDiff, reduceCtorEq, Nat.reduceAdd, Nat.reduceLT, Nat.reduceLeDiff, Nat.reduceSub, hi'])
      (repeat refine And.intro (by first | omega | (simp; omega)) ?_)
      refine keep [0, 1, 5, 14] ?_
      (try simp only [c11_13, cw, cops, csW, csL,  reduceIte, Nat.reduceEqDiff, reduceCtorEq, Nat.reduceAdd, Nat.reduceLT, Nat.reduceLeDiff, Nat.reduceSub, hi'])
      (repeat refine And.intro (by first | omega | (simp; omega)) ?_)
      (try simp only [cw, cops, csW, csL,  reduceIte, Nat.reduceEqDiff, reduceCtorEq, Nat.reduceAdd, Nat.reduceLT, Nat.reduceLeDiff, Nat.reduceSub, hi', hi2])
      (repeat refine And.intro (by first | omega | (simp; omega)) ?_)
      refine keep [0, 1, 5] ?_
      (try simp only [c11_25, c11_22, c11_21, c11_16, l11_15, cw, cops, csW, csL,  reduceIte, Nat.reduceEqDiff, reduceCtorEq, Nat.reduceAdd, Nat.reduceLT, Nat.reduceLeDiff, Nat.reduceSub, hi', hi2])
      (repeat refine And.intro (by first | omega | (simp; omega)) ?_)
      refine keep [0, 1, 5, 25] ?_
      (try simp only [c11_20, cw, cops, csW, csL,  reduceIte, Nat.reduceEqDiff, reduceCtorEq, Nat.reduceAdd, Nat.reduceLT, Nat.reduceLeDiff, Nat.reduceSub, hi', hi2])
      (repeat refine And.intro (by first | omega | (simp; omega)) ?_)
      by_cases he : a.getD i 0 = b.getD i 0
      · refine ⟨fun hh => absurd hh (by rw [he]; simp), fun _ => ?_⟩
        (try simp only [cw, cops, csW, csL,  reduceIte, Nat.reduceEqDiff, reduceCtorEq, Nat.reduceAdd, Nat.reduceLT, Nat.reduceLeDiff, Nat.reduceSub])
        (repeat refine And.intro (by first | omega | (simp; omega)) ?_)
        refine keep [0, 1, 5] ?_
        (try simp only [c11_24, l11_23, cw, cops, csW, csL,  reduceIte, Nat.reduceEqDiff, reduceCtorEq, Nat.reduceAdd, Nat.reduceLT, Nat.reduceLeDiff, Nat.reduceSub])
        (repeat refine And.intro (by first | omega | (simp; omega)) ?_)
        refine ⟨i + 1, ⟨by omega, fun j hj => ?_⟩, (Sub.toG [0, 1, 5] [] (by rfl) (by rfl) (by rfl) (by rfl)), by omega⟩
        by_cases hji : j < i
        · exact hg j hji
        · obtain rfl : j = i := by omega
          exact he
      · refine ⟨fun _ => ?_, fun hh => absurd hh (by rw [decide_eq_false he]; simp)⟩
        (try simp only [c11_19, c11_18, l11_17, cw, cops, csW, csL,  reduceIte, Nat.reduceEqDiff, reduceCtorEq, Nat.reduceAdd, Nat.reduceLT, Nat.reduceLeDiff, Nat.reduceSub])
        (repeat refine And.intro (by first | omega | (simp; omega)) ?_)
        refine keep [4] ?_
        (try simp only [cw, cops, csW, csL,  reduceIte, Nat.reduceEqDiff, reduceCtorEq, Nat.reduceAdd, Nat.reduceLT, Nat.reduceLeDiff, Nat.reduceSub, Ends, resD, resL, resV])
        (repeat refine And.intro (by first | omega | (simp; omega)) ?_)
        rw [decide_eq_false]
        rintro rfl
        exact he rfl
    · have hi' : ¬ (i : Int) < (a.length : Int) := by omega
      (try simp only [c11_26, c11_14, c11_12, l11_11, cw, cops, csW, csL,  reduceIte, Nat.reduceEqDiff, reduceCtorEq, Nat.reduceAdd, Nat.reduceLT, Nat.reduceLeDiff, Nat.reduceSub, hi'])
      (repeat refine And.intro (by first | omega | (simp; omega)) ?_)
      refine keep [0, 1, 5, 14] ?_
      (try simp only [c11_13, cw, cops, csW, csL,  reduceIte, Nat.reduceEqDiff, reduceCtorEq, Nat.reduceAdd, Nat.reduceLT, Nat.reduceLeDiff, Nat.reduceSub, hi'])
      (repeat refine And.intro (by first | omega | (simp; omega)) ?_)
      (try simp only [cw, cops, csW, csL,  reduceIte, Nat.reduceEqDiff, reduceCtorEq, Nat.reduceAdd, Nat.reduceLT, Nat.reduceLeDiff, Nat.reduceSub])
      (repeat refine And.intro (by first | omega | (simp; omega)) ?_)
      refine keep [] ?_
      (try simp only [c11_32, c11_31, l11_30, cw, cops, csW, csL,  reduceIte, Nat.reduceEqDiff, reduceCtorEq, Nat.reduceAdd, Nat.reduceLT, Nat.reduceLeDiff, Nat.reduceSub])
      (repeat refine And.intro (by first | omega | (simp; omega)) ?_)
      refine keep [4] ?_
      (try simp only [cw, cops, csW, csL,  reduceIte, Nat.reduceEqDiff, reduceCtorEq, Nat.reduceAdd, Nat.reduceLT, Nat.reduceLeDiff, Nat.reduceSub, Ends, resD, resL, resV])
      (repeat refine And.intro (by first | omega | (simp; omega)) ?_)
      rw [decide_eq_true]
      refine List.ext_getElem hl fun j h1 h2 => ?_
      have := hg j (by omega)
      simpa [List.getD_eq_getElem?_getD, h1, h2] using this
  · have hlI : ¬ (a.length : Int) = (b.length : Int) := by omega
    refine fn11.con rfl (by simp) ?_
    (try simp only [init2, c11, c11_35, c11_1, l11_0, cw, cops, csW, csL,  reduceIte, Nat.reduceEqDiff, reduceCtorEq, Nat.reduceAdd, Nat.reduceLT, Nat.reduceLeDiff, Nat.reduceSub, hlI])
    (repeat refine And.intro (by first | omega | (simp; omega)) ?_)
    refine keep [0, 1] ?_
    (try simp only [c11_34, c11_8, c11_3, l11_2, cw, cops, csW, csL,  reduceIte, Nat.reduceEqDiff, reduceCtorEq, Nat.reduceAdd, Nat.reduceLT, Nat.reduceLeDiff, Nat.reduceSub, hlI])
    (repeat refine And.intro (by first | omega | (simp; omega)) ?_)
    refine keep [0, 1, 10] ?_
    (try simp only [c11_7, cw, cops, csW, csL,  reduceIte, Nat.reduceEqDiff, reduceCtorEq, Nat.reduceAdd, Nat.reduceLT, Nat.reduceLeDiff, Nat.reduceSub, hlI])
    (repeat refine And.intro (by first | omega | (simp; omega)) ?_)
    (try simp only [c11_6, c11_5, l11_4, cw, cops, csW, csL,  reduceIte, Nat.reduceEqDiff, reduceCtorEq, Nat.reduceAdd, Nat.reduceLT, Nat.reduceLeDiff, Nat.reduceSub])
    (repeat refine And.intro (by first | omega | (simp; omega)) ?_)
    refine keep [4] ?_
    (try simp only [cw, cops, csW, csL,  reduceIte, Nat.reduceEqDiff, reduceCtorEq, Nat.reduceAdd, Nat.reduceLT, Nat.reduceLeDiff, Nat.reduceSub, Ends, resD, resL, resV])
    (repeat refine And.intro (by first | omega | (simp; omega)) ?_)
    rw [decide_eq_false]
    rintro rfl
    exact hl rfl
end Go.Proofs.Ytlnhembcfhfpkaa.M
