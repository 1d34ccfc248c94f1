/- Polynomials modulo a prime: what is exported, walked. -/
import Derived.Test.YtlnhembcfhfpkaaFqFx
namespace Go.Proofs.Ytlnhembcfhfpkaa.M
open Go.RowKit
set_option linter.unusedSimpArgs false
set_option linter.unusedVariables false
noncomputable def chks (p : Int) : List (List Int) → Int × Int
  | [] => (0, 0)
  | f :: l => if (chk f p).1 = 0 then chks p l else chk f p
theorem getD_L {l : List (Nat × List Int)} {i : Nat} (h : i < l.length) : (l.map fun x => LT x.1 x.2).getD i default = LT (l.getD i (0, [])).1 (l.getD i (0, [])).2 := by simp [h]
set_option maxRecDepth 20000 in
set_option maxHeartbeats 1000000 in
theorem checks_con (p : Int) (l : List (Nat × List Int)) (hl : l.length ≤ 1000) : Con Try.prog [] 28 [I p, .list 22 1 (l.map fun x => LT x.1 x.2)] (flt (chks p (l.map (·.2))).1 (chks p (l.map (·.2))).2) := by
  refine fn28.con rfl (by simp) ?_
  (try simp only [init2, c28, c28_34, c28_1, l28_0, cw, cops, csW, csL,  reduceIte, Nat.reduceEqDiff, reduceCtorEq, Nat.reduceAdd, Nat.reduceLT, Nat.reduceLeDiff, Nat.reduceSub, csF])
  (repeat refine And.intro (by first | omega | (simp; omega)) ?_)
  refine keep [0, 1, 4] ?_
  (try simp only [c28_33, c28_29, c28_3, l28_2, cw, cops, csW, csL,  reduceIte, Nat.reduceEqDiff, reduceCtorEq, Nat.reduceAdd, Nat.reduceLT, Nat.reduceLeDiff, Nat.reduceSub, csF])
  (repeat refine And.intro (by first | omega | (simp; omega)) ?_)
  refine keep [0, 4, 8, 9, 10] ?_
  (try simp only [c28_28, cw, cops, csW, csL,  reduceIte, Nat.reduceEqDiff, reduceCtorEq, Nat.reduceAdd, Nat.reduceLT, Nat.reduceLeDiff, Nat.reduceSub, csF])
  refine loop_of (ι := Nat) (fun i => i ≤ l.length ∧ chks p ((l.drop i).map (·.2)) = chks p (l.map (·.2))) (fun i => ⟨look [(0, .p (I p)), (4, .ptr 4 0 0), (8, .p (.list 22 1 (l.map fun x => LT x.1 x.2))), (9, .p (I l.length)), (10, .p (I i))], lookM [(4, ⟨24, 2, .box (.p (.agg [I 0, I 0])), false⟩)]⟩) (fun i => l.length - i) 0 ⟨by omega, rfl⟩ (Sub.rf _) ?_
  rintro i ⟨hi, he⟩
  by_cases h : i < l.length
  · have hi' : (i : Int) < (l.length : Int) := by omega
    have hg := getD_L h
    have hd : l.drop i = l.getD i (0, []) :: l.drop (i + 1) := by rw [List.drop_eq_getElem_cons h]; simp [h]
    rw [hd, List.map_cons, chks] at he
    (try simp only [c28_26, c28_5, l28_4, cw, cops, csW, csL,  reduceIte, Nat.reduceEqDiff, reduceCtorEq, Nat.reduceAdd, Nat.reduceLT, Nat.reduceLeDiff, Nat.reduceSub, csF, hi'])
    (repeat refine And.intro (by first | omega | (simp; omega)) ?_)
    refine keep [0, 4, 8, 9, 10, 11] ?_
    (try simp only [c28_25, c28_6, cw, cops, csW, csL,  reduceIte, Nat.reduceEqDiff, reduceCtorEq, Nat.reduceAdd, Nat.reduceLT, Nat.reduceLeDiff, Nat.reduceSub, csF, hi'])
    (repeat refine And.intro (by first | omega | (simp; omega)) ?_)
    (try simp only [cw, cops, csW, csL,  reduceIte, Nat.reduceEqDiff, reduceCtorEq, Nat.reduceAdd, Nat.reduceLT, Nat.reduceLeDiff, Nat.reduceSub, csF, hi', hg])
    (repeat refine And.intro (by first | omega | (simp; omega)) ?_)
    refine keep [0, 4, 8, 9, 10] ?_
    (try simp only [c28_24, c28_21, c28_20, c28_8, l28_7, cw, cops, csW, csL,  reduceIte, Nat.reduceEqDiff, reduceCtorEq, Nat.reduceAdd, Nat.reduceLT, Nat.reduceLeDiff, Nat.reduceSub, csF, hi', hg])
    (repeat refine And.intro (by first | omega | (simp; omega)) ?_)
    refine keep [0, 4, 6, 8, 9, 10] ?_
    (try simp only [c28_19, c28_11, l28_9, cw, cops, csW, csL,  reduceIte, Nat.reduceEqDiff, reduceCtorEq, Nat.reduceAdd, Nat.reduceLT, Nat.reduceLeDiff, Nat.reduceSub, csF, hi', hg])
    (repeat refine And.intro (by first | omega | (simp; omega)) ?_)
    refine ⟨_, cx (check_con (l.getD i (0, [])).2 p), ?_⟩
    (try simp only [l28_10, cw, cops, csW, csL,  reduceIte, Nat.reduceEqDiff, reduceCtorEq, Nat.reduceAdd, Nat.reduceLT, Nat.reduceLeDiff, Nat.reduceSub, csF])
    (repeat refine And.intro (by first | omega | (simp; omega)) ?_)
    refine keep [0, 4, 7, 8, 9, 10] ?_
    (try simp only [c28_18, c28_13, l28_12, cw, cops, csW, csL,  reduceIte, Nat.reduceEqDiff, reduceCtorEq, Nat.reduceAdd, Nat.reduceLT, Nat.reduceLeDiff, Nat.reduceSub, csF])
    (repeat refine And.intro (by first | omega | (simp; omega)) ?_)
    refine keep [0, 4, 7, 8, 9, 10, 19] ?_
    (try simp only [c28_17, cw, cops, csW, csL,  reduceIte, Nat.reduceEqDiff, reduceCtorEq, Nat.reduceAdd, Nat.reduceLT, Nat.reduceLeDiff, Nat.reduceSub, csF])
    (repeat refine And.intro (by first | omega | (simp; omega)) ?_)
    by_cases hc : (chk (l.getD i (0, [])).2 p).1 = 0
    · rw [if_pos hc] at he
      refine ⟨fun h1 => absurd h1 (by rw [hc]; simp), fun _ => ?_⟩
      (try simp only [cw, cops, csW, csL,  reduceIte, Nat.reduceEqDiff, reduceCtorEq, Nat.reduceAdd, Nat.reduceLT, Nat.reduceLeDiff, Nat.reduceSub, csF])
      (repeat refine And.intro (by first | omega | (simp; omega)) ?_)
      refine keep [0, 4, 8, 9, 10] ?_
      (try simp only [c28_23, l28_22, cw, cops, csW, csL,  reduceIte, Nat.reduceEqDiff, reduceCtorEq, Nat.reduceAdd, Nat.reduceLT, Nat.reduceLeDiff, Nat.reduceSub, csF])
      (repeat refine And.intro (by first | omega | (simp; omega)) ?_)
      exact ⟨i + 1, ⟨by omega, he⟩, (Sub.toG [0, 4, 8, 9, 10] [7] (by rfl) (by rfl) (by rfl) (by rfl)), by omega⟩
    · rw [if_neg hc] at he
      refine ⟨fun _ => ?_, fun h1 => absurd h1 (by rw [decide_eq_false hc]; simp)⟩
      (try simp only [c28_16, c28_15, l28_14, cw, cops, csW, csL,  reduceIte, Nat.reduceEqDiff, reduceCtorEq, Nat.reduceAdd, Nat.reduceLT, Nat.reduceLeDiff, Nat.reduceSub, csF])
      (repeat refine And.intro (by first | omega | (simp; omega)) ?_)
      refine keep [4] ?_
      (try simp only [cw, cops, csW, csL,  reduceIte, Nat.reduceEqDiff, reduceCtorEq, Nat.reduceAdd, Nat.reduceLT, Nat.reduceLeDiff, Nat.reduceSub, csF, Ends, resD, resL, resV])
      (repeat refine And.intro (by first | omega | (simp; omega)) ?_)
      rw [← he]
  · have hi' : ¬ (i : Int) < (l.length : Int) := by omega
    (try simp only [c28_26, c28_5, l28_4, cw, cops, csW, csL,  reduceIte, Nat.reduceEqDiff, reduceCtorEq, Nat.reduceAdd, Nat.reduceLT, Nat.reduceLeDiff, Nat.reduceSub, csF, hi'])
    (repeat refine And.intro (by first | omega | (simp; omega)) ?_)
    refine keep [0, 4, 8, 9, 10, 11] ?_
    (try simp only [c28_25, c28_6, cw, cops, csW, csL,  reduceIte, Nat.reduceEqDiff, reduceCtorEq, Nat.reduceAdd, Nat.reduceLT, Nat.reduceLeDiff, Nat.reduceSub, csF, hi'])
    (repeat refine And.intro (by first | omega | (simp; omega)) ?_)
    (try simp only [cw, cops, csW, csL,  reduceIte, Nat.reduceEqDiff, reduceCtorEq, Nat.reduceAdd, Nat.reduceLT, Nat.reduceLeDiff, Nat.reduceSub, csF])
    (repeat refine And.intro (by first | omega | (simp; omega)) ?_)
    refine keep [4] ?_
    (try simp only [c28_32, c28_31, l28_30, cw, cops, csW, csL,  reduceIte, Nat.reduceEqDiff, reduceCtorEq, Nat.reduceAdd, Nat.reduceLT, Nat.reduceLeDiff, Nat.reduceSub, csF])
    (repeat refine And.intro (by first | omega | (simp; omega)) ?_)
    refine keep [4] ?_
    (try simp only [cw, cops, csW, csL,  reduceIte, Nat.reduceEqDiff, reduceCtorEq, Nat.reduceAdd, Nat.reduceLT, Nat.reduceLeDiff, Nat.reduceSub, csF, Ends, resD, resL, resV])
    (repeat refine And.intro (by first | omega | (simp; omega)) ?_)
    rw [List.drop_of_length_le (by omega)] at he
    rw [← he]; rfl
noncomputable def chk2 (f g : List Int) (p : Int) : Int × Int := if (chk f p).1 = 0 then chk g p else chk f p
theorem chks_two (f g : List Int) (p : Int) : chks p [f, g] = chk2 f g p := by
  unfold chk2
  simp only [chks]
  split
  · split
    · rename_i h; exact (chk_zero h).symm
    · rfl
  · rfl
theorem chk2_good {f g : List Int} {p : Int} (h : (chk2 f g p).1 = 0) : Gp f p ∧ Gp g p := by
  unfold chk2 at h
  split at h
  · exact ⟨chk_good ‹_›, chk_good h⟩
  · exact absurd h ‹_›
theorem chk2_zero {f g : List Int} {p : Int} (h : (chk2 f g p).1 = 0) : chk2 f g p = (0, 0) := by
  obtain ⟨h1, h2⟩ := chk2_good h
  unfold chk2
  rw [h1.chk, if_pos rfl, h2.chk]
theorem checks2_con {T T' : Nat} (f g : List Int) (p : Int) : Con Try.prog [] 28 [I p, .list 22 1 [LT T f, LT T' g]] (flt (chk2 f g p).1 (chk2 f g p).2) := by
  have := checks_con p [(T, f), (T', g)] (by simp)
  simp only [List.map_cons, List.map_nil, chks_two] at this
  exact this
set_option maxRecDepth 20000 in
set_option maxHeartbeats 1000000 in
theorem eMul_con {T T' : Nat} (f g : List Int) (p : Int) : Con Try.prog [] 14 [LT T f, LT T' g, I p] (.tup [L (if (chk2 f g p).1 = 0 then mulP f g p else []), flt (chk2 f g p).1 (chk2 f g p).2]) := by
  refine fn14.con rfl (by simp) ?_
  (try simp only [init3, c14, c14_18, c14_1, l14_0, cw, cops, csW, csL,  reduceIte, Nat.reduceEqDiff, reduceCtorEq, Nat.reduceAdd, Nat.reduceLT, Nat.reduceLeDiff, Nat.reduceSub, csF])
  (repeat refine And.intro (by first | omega | (simp; omega)) ?_)
  refine keep [0, 1, 2, 7] ?_
  (try simp only [c14_17, c14_12, c14_4, l14_2, cw, cops, csW, csL,  reduceIte, Nat.reduceEqDiff, reduceCtorEq, Nat.reduceAdd, Nat.reduceLT, Nat.reduceLeDiff, Nat.reduceSub, csF])
  (repeat refine And.intro (by first | omega | (simp; omega)) ?_)
  refine ⟨_, cx (checks2_con f g p), ?_⟩
  (try simp only [l14_3, cw, cops, csW, csL,  reduceIte, Nat.reduceEqDiff, reduceCtorEq, Nat.reduceAdd, Nat.reduceLT, Nat.reduceLeDiff, Nat.reduceSub, csF])
  (repeat refine And.intro (by first | omega | (simp; omega)) ?_)
  refine keep [0, 1, 2, 7, 8] ?_
  (try simp only [c14_11, c14_6, l14_5, cw, cops, csW, csL,  reduceIte, Nat.reduceEqDiff, reduceCtorEq, Nat.reduceAdd, Nat.reduceLT, Nat.reduceLeDiff, Nat.reduceSub, csF])
  (repeat refine And.intro (by first | omega | (simp; omega)) ?_)
  refine keep [0, 1, 2, 7, 8, 16] ?_
  (try simp only [c14_10, cw, cops, csW, csL,  reduceIte, Nat.reduceEqDiff, reduceCtorEq, Nat.reduceAdd, Nat.reduceLT, Nat.reduceLeDiff, Nat.reduceSub, csF])
  (repeat refine And.intro (by first | omega | (simp; omega)) ?_)
  by_cases hc : (chk2 f g p).1 = 0
  · refine ⟨fun h1 => absurd h1 (by simp [hc]), fun _ => ?_⟩
    obtain ⟨h1, h2⟩ := chk2_good hc
    (try simp only [cw, cops, csW, csL,  reduceIte, Nat.reduceEqDiff, reduceCtorEq, Nat.reduceAdd, Nat.reduceLT, Nat.reduceLeDiff, Nat.reduceSub, csF])
    (repeat refine And.intro (by first | omega | (simp; omega)) ?_)
    refine keep [0, 1, 2, 7] ?_
    (try simp only [c14_16, c14_15, l14_13, cw, cops, csW, csL,  reduceIte, Nat.reduceEqDiff, reduceCtorEq, Nat.reduceAdd, Nat.reduceLT, Nat.reduceLeDiff, Nat.reduceSub, csF])
    (repeat refine And.intro (by first | omega | (simp; omega)) ?_)
    refine ⟨_, cx (mul_con f g p h1.pr.pos h1.rg h2.rg (by have := h1.len; omega) (by have := h2.len; omega)), ?_⟩
    (try simp only [l14_14, cw, cops, csW, csL,  reduceIte, Nat.reduceEqDiff, reduceCtorEq, Nat.reduceAdd, Nat.reduceLT, Nat.reduceLeDiff, Nat.reduceSub, csF])
    (repeat refine And.intro (by first | omega | (simp; omega)) ?_)
    refine keep [6, 7] ?_
    (try simp only [cw, cops, csW, csL,  reduceIte, Nat.reduceEqDiff, reduceCtorEq, Nat.reduceAdd, Nat.reduceLT, Nat.reduceLeDiff, Nat.reduceSub, csF, Ends, resD, resL, resV])
    (repeat refine And.intro (by first | omega | (simp; omega)) ?_)
    rw [if_pos hc, chk2_zero hc]
  · refine ⟨fun _ => ?_, fun h1 => absurd h1 (by simp [hc])⟩
    (try simp only [c14_9, c14_8, l14_7, cw, cops, csW, csL,  reduceIte, Nat.reduceEqDiff, reduceCtorEq, Nat.reduceAdd, Nat.reduceLT, Nat.reduceLeDiff, Nat.reduceSub, csF])
    (repeat refine And.intro (by first | omega | (simp; omega)) ?_)
    refine keep [6, 7] ?_
    (try simp only [cw, cops, csW, csL,  reduceIte, Nat.reduceEqDiff, reduceCtorEq, Nat.reduceAdd, Nat.reduceLT, Nat.reduceLeDiff, Nat.reduceSub, csF, Ends, resD, resL, resV])
    (repeat refine And.intro (by first | omega | (simp; omega)) ?_)
    rw [if_neg hc]; rfl
noncomputable def powF (f g : List Int) (n p : Int) : Int × Int := if (chk2 f g p).1 = 0 then (if n < 0 then (7, 0) else if g = [] then (4, 0) else (0, 0)) else chk2 f g p
set_option maxRecDepth 20000 in
set_option maxHeartbeats 1000000 in
theorem ePower_con {T T' : Nat} (f g : List Int) (n p : Int) (hn : n ≤ 9223372036854775807) : Con Try.prog [] 16 [LT T f, I n, LT T' g, I p] (.tup [L (if (powF f g n p).1 = 0 then powP f n.toNat g p else []), flt (powF f g n p).1 (powF f g n p).2]) := by
  refine fn16.con rfl (by simp) ?_
  (try simp only [init4, c16, c16_36, c16_1, l16_0, cw, cops, csW, csL,  reduceIte, Nat.reduceEqDiff, reduceCtorEq, Nat.reduceAdd, Nat.reduceLT, Nat.reduceLeDiff, Nat.reduceSub, csF])
  (repeat refine And.intro (by first | omega | (simp; omega)) ?_)
  refine keep [0, 1, 2, 3, 9] ?_
  (try simp only [c16_35, c16_12, c16_4, l16_2, cw, cops, csW, csL,  reduceIte, Nat.reduceEqDiff, reduceCtorEq, Nat.reduceAdd, Nat.reduceLT, Nat.reduceLeDiff, Nat.reduceSub, csF])
  (repeat refine And.intro (by first | omega | (simp; omega)) ?_)
  refine ⟨_, cx (checks2_con f g p), ?_⟩
  (try simp only [l16_3, cw, cops, csW, csL,  reduceIte, Nat.reduceEqDiff, reduceCtorEq, Nat.reduceAdd, Nat.reduceLT, Nat.reduceLeDiff, Nat.reduceSub, csF])
  (repeat refine And.intro (by first | omega | (simp; omega)) ?_)
  refine keep [0, 1, 2, 3, 9, 10] ?_
  (try simp only [c16_11, c16_6, l16_5, cw, cops, csW, csL,  reduceIte, Nat.reduceEqDiff, reduceCtorEq, Nat.reduceAdd, Nat.reduceLT, Nat.reduceLeDiff, Nat.reduceSub, csF])
  (repeat refine And.intro (by first | omega | (simp; omega)) ?_)
  refine keep [0, 1, 2, 3, 9, 10, 18] ?_
  (try simp only [c16_10, cw, cops, csW, csL,  reduceIte, Nat.reduceEqDiff, reduceCtorEq, Nat.reduceAdd, Nat.reduceLT, Nat.reduceLeDiff, Nat.reduceSub, csF])
  (repeat refine And.intro (by first | omega | (simp; omega)) ?_)
  by_cases hc : (chk2 f g p).1 = 0
  · refine ⟨fun h1 => absurd h1 (by simp [hc]), fun _ => ?_⟩
    obtain ⟨h1, h2⟩ := chk2_good hc
    (try simp only [cw, cops, csW, csL,  reduceIte, Nat.reduceEqDiff, reduceCtorEq, Nat.reduceAdd, Nat.reduceLT, Nat.reduceLeDiff, Nat.reduceSub, csF])
    (repeat refine And.intro (by first | omega | (simp; omega)) ?_)
    refine keep [0, 1, 2, 3, 9] ?_
    (try simp only [c16_34, c16_20, c16_14, l16_13, cw, cops, csW, csL,  reduceIte, Nat.reduceEqDiff, reduceCtorEq, Nat.reduceAdd, Nat.reduceLT, Nat.reduceLeDiff, Nat.reduceSub, csF])
    (repeat refine And.intro (by first | omega | (simp; omega)) ?_)
    refine keep [0, 1, 2, 3, 9, 21] ?_
    (try simp only [c16_19, cw, cops, csW, csL,  reduceIte, Nat.reduceEqDiff, reduceCtorEq, Nat.reduceAdd, Nat.reduceLT, Nat.reduceLeDiff, Nat.reduceSub, csF])
    (repeat refine And.intro (by first | omega | (simp; omega)) ?_)
    by_cases hn0 : n < 0
    · refine ⟨fun _ => ?_, fun hh => absurd hh (by simp; omega)⟩
      have hd : powF f g n p = (7, 0) := by unfold powF; rw [if_pos hc, if_pos hn0]
      (try simp only [c16_18, c16_17, l16_15, cw, cops, csW, csL,  reduceIte, Nat.reduceEqDiff, reduceCtorEq, Nat.reduceAdd, Nat.reduceLT, Nat.reduceLeDiff, Nat.reduceSub, csF])
      (repeat refine And.intro (by first | omega | (simp; omega)) ?_)
      refine ⟨_, cx (fault_con 7 0), ?_⟩
      (try simp only [l16_16, cw, cops, csW, csL,  reduceIte, Nat.reduceEqDiff, reduceCtorEq, Nat.reduceAdd, Nat.reduceLT, Nat.reduceLeDiff, Nat.reduceSub, csF])
      (repeat refine And.intro (by first | omega | (simp; omega)) ?_)
      refine keep [8, 9] ?_
      (try simp only [cw, cops, csW, csL,  reduceIte, Nat.reduceEqDiff, reduceCtorEq, Nat.reduceAdd, Nat.reduceLT, Nat.reduceLeDiff, Nat.reduceSub, csF, Ends, resD, resL, resV])
      (repeat refine And.intro (by first | omega | (simp; omega)) ?_)
      rw [hd]; rfl
    · refine ⟨fun hh => absurd hh (by simp; omega), fun _ => ?_⟩
      (try simp only [cw, cops, csW, csL,  reduceIte, Nat.reduceEqDiff, reduceCtorEq, Nat.reduceAdd, Nat.reduceLT, Nat.reduceLeDiff, Nat.reduceSub, csF])
      (repeat refine And.intro (by first | omega | (simp; omega)) ?_)
      refine keep [0, 1, 2, 3, 9] ?_
      (try simp only [c16_33, c16_28, c16_22, l16_21, cw, cops, csW, csL,  reduceIte, Nat.reduceEqDiff, reduceCtorEq, Nat.reduceAdd, Nat.reduceLT, Nat.reduceLeDiff, Nat.reduceSub, csF])
      (repeat refine And.intro (by first | omega | (simp; omega)) ?_)
      refine keep [0, 1, 2, 3, 9, 25] ?_
      (try simp only [c16_27, cw, cops, csW, csL,  reduceIte, Nat.reduceEqDiff, reduceCtorEq, Nat.reduceAdd, Nat.reduceLT, Nat.reduceLeDiff, Nat.reduceSub, csF])
      (repeat refine And.intro (by first | omega | (simp; omega)) ?_)
      by_cases hg : g = []
      · refine ⟨fun _ => ?_, fun hh => absurd hh (by simp [hg])⟩
        have hd : powF f g n p = (4, 0) := by unfold powF; rw [if_pos hc, if_neg hn0, if_pos hg]
        (try simp only [c16_26, c16_25, l16_23, cw, cops, csW, csL,  reduceIte, Nat.reduceEqDiff, reduceCtorEq, Nat.reduceAdd, Nat.reduceLT, Nat.reduceLeDiff, Nat.reduceSub, csF])
        (repeat refine And.intro (by first | omega | (simp; omega)) ?_)
        refine ⟨_, cx (fault_con 4 0), ?_⟩
        (try simp only [l16_24, cw, cops, csW, csL,  reduceIte, Nat.reduceEqDiff, reduceCtorEq, Nat.reduceAdd, Nat.reduceLT, Nat.reduceLeDiff, Nat.reduceSub, csF])
        (repeat refine And.intro (by first | omega | (simp; omega)) ?_)
        refine keep [8, 9] ?_
        (try simp only [cw, cops, csW, csL,  reduceIte, Nat.reduceEqDiff, reduceCtorEq, Nat.reduceAdd, Nat.reduceLT, Nat.reduceLeDiff, Nat.reduceSub, csF, Ends, resD, resL, resV])
        (repeat refine And.intro (by first | omega | (simp; omega)) ?_)
        rw [hd]; rfl
      · refine ⟨fun hh => absurd hh (by have := List.length_pos_iff.2 hg; simp; omega), fun _ => ?_⟩
        have hd : powF f g n p = (0, 0) := by unfold powF; rw [if_pos hc, if_neg hn0, if_neg hg]
        obtain ⟨k, rfl⟩ := Int.eq_ofNat_of_zero_le (show 0 ≤ n by omega)
        (try simp only [cw, cops, csW, csL,  reduceIte, Nat.reduceEqDiff, reduceCtorEq, Nat.reduceAdd, Nat.reduceLT, Nat.reduceLeDiff, Nat.reduceSub, csF])
        (repeat refine And.intro (by first | omega | (simp; omega)) ?_)
        refine keep [0, 1, 2, 3, 9] ?_
        (try simp only [c16_32, c16_31, l16_29, cw, cops, csW, csL,  reduceIte, Nat.reduceEqDiff, reduceCtorEq, Nat.reduceAdd, Nat.reduceLT, Nat.reduceLeDiff, Nat.reduceSub, csF])
        (repeat refine And.intro (by first | omega | (simp; omega)) ?_)
        refine ⟨_, cx (power_con f g k p h1.pr h1.pl h2.pl hg (by omega)), ?_⟩
        (try simp only [l16_30, cw, cops, csW, csL,  reduceIte, Nat.reduceEqDiff, reduceCtorEq, Nat.reduceAdd, Nat.reduceLT, Nat.reduceLeDiff, Nat.reduceSub, csF])
        (repeat refine And.intro (by first | omega | (simp; omega)) ?_)
        refine keep [8, 9] ?_
        (try simp only [cw, cops, csW, csL,  reduceIte, Nat.reduceEqDiff, reduceCtorEq, Nat.reduceAdd, Nat.reduceLT, Nat.reduceLeDiff, Nat.reduceSub, csF, Ends, resD, resL, resV])
        (repeat refine And.intro (by first | omega | (simp; omega)) ?_)
        rw [hd]; rfl
  · refine ⟨fun _ => ?_, fun h1 => absurd h1 (by simp [hc])⟩
    have hd : powF f g n p = chk2 f g p := by unfold powF; rw [if_neg hc]
    (try simp only [c16_9, c16_8, l16_7, cw, cops, csW, csL,  reduceIte, Nat.reduceEqDiff, reduceCtorEq, Nat.reduceAdd, Nat.reduceLT, Nat.reduceLeDiff, Nat.reduceSub, csF])
    (repeat refine And.intro (by first | omega | (simp; omega)) ?_)
    refine keep [8, 9] ?_
    (try simp only [cw, cops, csW, csL,  reduceIte, Nat.reduceEqDiff, reduceCtorEq, Nat.reduceAdd, Nat.reduceLT, Nat.reduceLeDiff, Nat.reduceSub, csF, Ends, resD, resL, resV])
    (repeat refine And.intro (by first | omega | (simp; omega)) ?_)
    rw [hd, if_neg hc]; rfl
end Go.Proofs.Ytlnhembcfhfpkaa.M
