/- Polynomials modulo a prime: the reference's powers and divisors walked; what the division makes of a polynomial. -/
import Derived.Test.YtlnhembcfhfpkaaFqT
namespace Go.Proofs.Ytlnhembcfhfpkaa.M
open Go.RowKit
set_option linter.unusedSimpArgs false
set_option linter.unusedVariables false

theorem pl_mon {p : Int} {n : Nat} {g : List Int} (hP : IsP p) (hg : Pl p n g) : (monP g p).length ≤ n := by rw [monP_len]; exact hg.len
theorem mrestm_con {T T' : Nat} {f g : List Int} {p : Int} (hP : IsP p) (hf : Pl p 1000 f) (hg : Pl p 1000 g) (hg0 : g ≠ []) : Con Try.prog [] 32 [LT T f, LT T' (monP g p), I p] (LT (if f.length < g.length then T else 3) (rem f g p)) := by
  have := mrest_con (T := T) (T' := T') f (monP g p) p hP.pos hf.rg (mn_mon hP hg hg0) hf.len (pl_mon hP hg)
  rwa [rsP_rem hP hf hg hg0 (Nat.le_refl _), monP_len] at this

theorem mrest3_con {T' : Nat} {f g : List Int} {p : Int} (hP : IsP p) (hf : Pl p 1000 f) (hg : Pl p 1000 g) (hg0 : g ≠ []) : Con Try.prog [] 32 [L f, LT T' (monP g p), I p] (L (rem f g p)) := by
  have := mrestm_con (T := 3) (T' := T') hP hf hg hg0
  rwa [ite_self] at this
theorem mscaled3_con {T : Nat} (f : List Int) (p : Int) (hP : IsP p) (hf : Pl p 1000 f) (h0 : f ≠ []) : Con Try.prog [] 33 [LT T f, I p] (L (monP f p)) := by
  have := mscaled_con (T := T) f p hP hf
  rwa [if_neg h0] at this

set_option maxRecDepth 20000 in
set_option maxHeartbeats 1000000 in
theorem mgcd_con {T T' : Nat} (f g : List Int) (p : Int) (hP : IsP p) (hf : Pl p 1000 f) (hg : Pl p 1000 g) : Con Try.prog [] 12 [LT T f, LT T' g, I p] (LT (if f = [] ∧ g = [] then T else 3) (gcdP p g.length f g)) := by
  refine fn12.con rfl (by simp) ?_
  (try simp only [init3, c12, c12_19, c12_1, l12_0, cw, cops, csW, csL,  reduceIte, Nat.reduceEqDiff, reduceCtorEq, Nat.reduceAdd, Nat.reduceLT, Nat.reduceLeDiff, Nat.reduceSub])
  (repeat refine And.intro (by first | omega | (simp; omega)) ?_)
  refine keep [0, 1, 2] ?_
  (try simp only [c12_18, c12_13, cw, cops, csW, csL,  reduceIte, Nat.reduceEqDiff, reduceCtorEq, Nat.reduceAdd, Nat.reduceLT, Nat.reduceLeDiff, Nat.reduceSub])
  -- LOOP c12_12: live [0, 1, 2]
  refine loop_of (ι := List Int × List Int × Nat × Nat × Nat) (fun s => Pl p 1000 s.1 ∧ Pl p 1000 s.2.1 ∧ s.2.1.length ≤ s.2.2.1 ∧ gcdP p s.2.2.1 s.1 s.2.1 = gcdP p g.length f g ∧ (if s.1 = [] ∧ s.2.1 = [] then s.2.2.2.1 else 3) = (if f = [] ∧ g = [] then T else 3)) (fun s => ⟨look [(0, .p (LT s.2.2.2.1 s.1)), (1, .p (LT s.2.2.2.2 s.2.1)), (2, .p (I p))], lookM []⟩) (fun s => s.2.1.length) (f, g, g.length, T, T') ⟨hf, hg, Nat.le_refl _, rfl, rfl⟩ (Sub.rf _) ?_
  rintro ⟨a, b, n, Ta, Tb⟩ ⟨ha, hb, hn, he, hT⟩
  simp only at ha hb hn he hT
  -- skip
  by_cases h0 : b = []
  · have hI : ¬ (0 : Int) < (b.length : Int) := by simp [h0]
    (try simp only [c12_11, c12_5, c12_3, l12_2, cw, cops, csW, csL,  reduceIte, Nat.reduceEqDiff, reduceCtorEq, Nat.reduceAdd, Nat.reduceLT, Nat.reduceLeDiff, Nat.reduceSub, hI])
    (repeat refine And.intro (by first | omega | (simp; omega)) ?_)
    refine keep [0, 1, 2, 9] ?_
    (try simp only [c12_4, cw, cops, csW, csL,  reduceIte, Nat.reduceEqDiff, reduceCtorEq, Nat.reduceAdd, Nat.reduceLT, Nat.reduceLeDiff, Nat.reduceSub, hI])
    (repeat refine And.intro (by first | omega | (simp; omega)) ?_)
    -- TEST (.t 9) .skip
    -- skip
    (try simp only [cw, cops, csW, csL,  reduceIte, Nat.reduceEqDiff, reduceCtorEq, Nat.reduceAdd, Nat.reduceLT, Nat.reduceLeDiff, Nat.reduceSub])
    (repeat refine And.intro (by first | omega | (simp; omega)) ?_)
    refine keep [0, 2] ?_
    (try simp only [c12_17, c12_16, l12_14, cw, cops, csW, csL,  reduceIte, Nat.reduceEqDiff, reduceCtorEq, Nat.reduceAdd, Nat.reduceLT, Nat.reduceLeDiff, Nat.reduceSub])
    (repeat refine And.intro (by first | omega | (simp; omega)) ?_)
    -- CALL 33
    refine ⟨_, cx (mscaled_con a p hP ha), ?_⟩
    (try simp only [l12_15, cw, cops, csW, csL,  reduceIte, Nat.reduceEqDiff, reduceCtorEq, Nat.reduceAdd, Nat.reduceLT, Nat.reduceLeDiff, Nat.reduceSub])
    (repeat refine And.intro (by first | omega | (simp; omega)) ?_)
    refine keep [6] ?_
    (try simp only [cw, cops, csW, csL,  reduceIte, Nat.reduceEqDiff, reduceCtorEq, Nat.reduceAdd, Nat.reduceLT, Nat.reduceLeDiff, Nat.reduceSub, Ends, resD, resL, resV])
    (repeat refine And.intro (by first | omega | (simp; omega)) ?_)
    -- RETURN
    have hT2 : (if a = [] then Ta else 3) = (if f = [] ∧ g = [] then T else 3) := by rw [← hT]; by_cases ha0 : a = [] <;> simp [ha0, h0]
    rw [← he, hT2]
    cases n with
    | zero => rfl
    | succ n => rw [gcdP, if_pos h0]
  · have hl0 : 0 < b.length := List.length_pos_iff.2 h0
    have hI : (0 : Int) < (b.length : Int) := by omega
    have hr := rem_pl hP ha hb h0
    -- skip
    (try simp only [c12_11, c12_5, c12_3, l12_2, cw, cops, csW, csL,  reduceIte, Nat.reduceEqDiff, reduceCtorEq, Nat.reduceAdd, Nat.reduceLT, Nat.reduceLeDiff, Nat.reduceSub, hI])
    (repeat refine And.intro (by first | omega | (simp; omega)) ?_)
    refine keep [0, 1, 2, 9] ?_
    (try simp only [c12_4, cw, cops, csW, csL,  reduceIte, Nat.reduceEqDiff, reduceCtorEq, Nat.reduceAdd, Nat.reduceLT, Nat.reduceLeDiff, Nat.reduceSub, hI])
    (repeat refine And.intro (by first | omega | (simp; omega)) ?_)
    -- TEST (.t 9) .skip
    -- skip
    (try simp only [cw, cops, csW, csL,  reduceIte, Nat.reduceEqDiff, reduceCtorEq, Nat.reduceAdd, Nat.reduceLT, Nat.reduceLeDiff, Nat.reduceSub])
    (repeat refine And.intro (by first | omega | (simp; omega)) ?_)
    refine keep [0, 1, 2] ?_
    (try simp only [c12_10, c12_9, l12_6, cw, cops, csW, csL,  reduceIte, Nat.reduceEqDiff, reduceCtorEq, Nat.reduceAdd, Nat.reduceLT, Nat.reduceLeDiff, Nat.reduceSub])
    (repeat refine And.intro (by first | omega | (simp; omega)) ?_)
    -- CALL 33
    refine ⟨_, cx (mscaled3_con b p hP hb h0), ?_⟩
    (try simp only [l12_7, cw, cops, csW, csL,  reduceIte, Nat.reduceEqDiff, reduceCtorEq, Nat.reduceAdd, Nat.reduceLT, Nat.reduceLeDiff, Nat.reduceSub])
    (repeat refine And.intro (by first | omega | (simp; omega)) ?_)
    -- CALL 32
    refine ⟨_, cx (mrestm_con hP ha hb h0), ?_⟩
    (try simp only [l12_8, cw, cops, csW, csL,  reduceIte, Nat.reduceEqDiff, reduceCtorEq, Nat.reduceAdd, Nat.reduceLT, Nat.reduceLeDiff, Nat.reduceSub])
    (repeat refine And.intro (by first | omega | (simp; omega)) ?_)
    -- ROUND's END
    have hT2 : 3 = (if f = [] ∧ g = [] then T else 3) := by rw [← hT, if_neg (fun h => h0 h.2)]
    refine ⟨(b, rem a b p, n - 1, Tb, if a.length < b.length then Ta else 3), ⟨hb, hr.1, by simp only; omega, ?_, by rw [← hT2]; exact if_neg fun h => h0 h.1⟩, (Sub.toG [0, 1, 2] [] (by rfl) (by rfl) (by rfl) (by rfl)), by simp only; omega⟩
    rw [← he]
    obtain ⟨m, rfl⟩ : ∃ m, n = m + 1 := ⟨n - 1, by omega⟩
    simp only [Nat.add_sub_cancel]
    rw [gcdP, if_neg h0]

-- more
set_option maxRecDepth 20000 in
set_option maxHeartbeats 2000000 in
theorem mpower_con {T T' : Nat} (f m : List Int) (n : Nat) (p : Int) (hP : IsP p) (hf : Pl p 65 f) (hm : Pl p 65 m) (hm0 : m ≠ []) (hn : n ≤ 9223372036854775807) : Con Try.prog [] 22 [LT T f, I n, LT T' m, I p] (L (powP f n m p)) := by
  have h1 := (rem_pl hP (pl_one hP) hm hm0).1
  have h2 := (rem_pl hP hf hm hm0).1
  refine fn22.con rfl (by simp) ?_
  (try simp only [init4, c22, c22_42, c22_1, l22_0, cw, cops, csW, csL,  reduceIte, Nat.reduceEqDiff, reduceCtorEq, Nat.reduceAdd, Nat.reduceLT, Nat.reduceLeDiff, Nat.reduceSub, csT])
  (repeat refine And.intro (by first | omega | (simp; omega)) ?_)
  refine keep [0, 1, 2, 3] ?_
  (try simp only [c22_41, c22_4, l22_2, cw, cops, csW, csL,  reduceIte, Nat.reduceEqDiff, reduceCtorEq, Nat.reduceAdd, Nat.reduceLT, Nat.reduceLeDiff, Nat.reduceSub, csT])
  (repeat refine And.intro (by first | omega | (simp; omega)) ?_)
  -- CALL 33
  refine ⟨_, cx (mscaled3_con m p hP (hm.mono (by omega)) hm0), ?_⟩
  (try simp only [l22_3, cw, cops, csW, csL,  reduceIte, Nat.reduceEqDiff, reduceCtorEq, Nat.reduceAdd, Nat.reduceLT, Nat.reduceLeDiff, Nat.reduceSub, csT])
  (repeat refine And.intro (by first | omega | (simp; omega)) ?_)
  refine keep [0, 1, 2, 3] ?_
  (try simp only [c22_40, c22_7, l22_5, cw, cops, csW, csL,  reduceIte, Nat.reduceEqDiff, reduceCtorEq, Nat.reduceAdd, Nat.reduceLT, Nat.reduceLeDiff, Nat.reduceSub, csT])
  (repeat refine And.intro (by first | omega | (simp; omega)) ?_)
  -- CALL 32
  refine ⟨_, cx (mrest3_con (f := [1]) hP ((pl_one hP).mono (by omega)) (hm.mono (by omega)) hm0), ?_⟩
  (try simp only [l22_6, cw, cops, csW, csL,  reduceIte, Nat.reduceEqDiff, reduceCtorEq, Nat.reduceAdd, Nat.reduceLT, Nat.reduceLeDiff, Nat.reduceSub, csT])
  (repeat refine And.intro (by first | omega | (simp; omega)) ?_)
  refine keep [0, 1, 2, 3, 9] ?_
  (try simp only [c22_39, c22_10, l22_8, cw, cops, csW, csL,  reduceIte, Nat.reduceEqDiff, reduceCtorEq, Nat.reduceAdd, Nat.reduceLT, Nat.reduceLeDiff, Nat.reduceSub, csT])
  (repeat refine And.intro (by first | omega | (simp; omega)) ?_)
  -- CALL 32
  refine ⟨_, cx (mrestm_con hP (hf.mono (by omega)) (hm.mono (by omega)) hm0), ?_⟩
  (try simp only [l22_9, cw, cops, csW, csL,  reduceIte, Nat.reduceEqDiff, reduceCtorEq, Nat.reduceAdd, Nat.reduceLT, Nat.reduceLeDiff, Nat.reduceSub, csT])
  (repeat refine And.intro (by first | omega | (simp; omega)) ?_)
  refine keep [0, 1, 2, 3, 9] ?_
  (try simp only [c22_38, c22_34, cw, cops, csW, csL,  reduceIte, Nat.reduceEqDiff, reduceCtorEq, Nat.reduceAdd, Nat.reduceLT, Nat.reduceLeDiff, Nat.reduceSub, csT])
  -- LOOP c22_33: live [0, 1, 2, 3, 9]
  refine loop_of (ι := List Int × List Int × Nat × Nat) (fun s => Pl p 65 s.1 ∧ Pl p 65 s.2.1 ∧ s.2.2.1 ≤ n ∧ powL m p s.1 s.2.1 s.2.2.1 = powP f n m p) (fun s => ⟨look [(0, .p (LT s.2.2.2 s.2.1)), (1, .p (I s.2.2.1)), (2, .p (L (monP m p))), (3, .p (I p)), (9, .p (L s.1))], lookM []⟩) (fun s => s.2.2.1) (rem [1] m p, rem f m p, n, if f.length < m.length then T else 3) ⟨h1, h2, Nat.le_refl _, rfl⟩ (Sub.toG [0, 1, 2, 3, 9] [13] (by rfl) (by rfl) (by rfl) (by rfl)) ?_
  rintro ⟨a, b, k, Tb⟩ ⟨ha, hb, hk, he⟩
  simp only at ha hb hk he
  -- skip
  by_cases h0 : k = 0
  · have hI : ¬ (0 : Int) < (k : Int) := by omega
    (try simp only [c22_32, c22_14, c22_12, l22_11, cw, cops, csW, csL,  reduceIte, Nat.reduceEqDiff, reduceCtorEq, Nat.reduceAdd, Nat.reduceLT, Nat.reduceLeDiff, Nat.reduceSub, csT, hI])
    (repeat refine And.intro (by first | omega | (simp; omega)) ?_)
    refine keep [0, 1, 2, 3, 9, 22] ?_
    (try simp only [c22_13, cw, cops, csW, csL,  reduceIte, Nat.reduceEqDiff, reduceCtorEq, Nat.reduceAdd, Nat.reduceLT, Nat.reduceLeDiff, Nat.reduceSub, csT, hI])
    (repeat refine And.intro (by first | omega | (simp; omega)) ?_)
    -- TEST (.t 22) .skip
    -- skip
    (try simp only [cw, cops, csW, csL,  reduceIte, Nat.reduceEqDiff, reduceCtorEq, Nat.reduceAdd, Nat.reduceLT, Nat.reduceLeDiff, Nat.reduceSub, csT])
    (repeat refine And.intro (by first | omega | (simp; omega)) ?_)
    refine keep [9] ?_
    (try simp only [c22_37, c22_36, l22_35, cw, cops, csW, csL,  reduceIte, Nat.reduceEqDiff, reduceCtorEq, Nat.reduceAdd, Nat.reduceLT, Nat.reduceLeDiff, Nat.reduceSub, csT])
    (repeat refine And.intro (by first | omega | (simp; omega)) ?_)
    refine keep [8] ?_
    (try simp only [cw, cops, csW, csL,  reduceIte, Nat.reduceEqDiff, reduceCtorEq, Nat.reduceAdd, Nat.reduceLT, Nat.reduceLeDiff, Nat.reduceSub, csT, Ends, resD, resL, resV])
    (repeat refine And.intro (by first | omega | (simp; omega)) ?_)
    -- RETURN
    rw [← he, h0, powL_0]
  · have hI : (0 : Int) < (k : Int) := by omega
    have hmod : (k : Int).tmod 2 = ((k % 2 : Nat) : Int) := rfl
    have hdiv : (k : Int).tdiv 2 = ((k / 2 : Nat) : Int) := rfl
    have hm1 := mul_pl hP ha hb (k := 1000) (by omega)
    have hm2 := mul_pl hP hb hb (k := 1000) (by omega)
    have hr1 := (rem_pl hP hm1 hm hm0).1
    have hr2 := (rem_pl hP hm2 hm hm0).1
    have hhalf : k / 2 < k := by omega
    rw [powL_s h0] at he
    by_cases hodd : k % 2 = 1
    · have hoI : ((k % 2 : Nat) : Int) = 1 := by omega
      rw [if_pos hodd] at he
      -- skip
      (try simp only [c22_32, c22_14, c22_12, l22_11, cw, cops, csW, csL,  reduceIte, Nat.reduceEqDiff, reduceCtorEq, Nat.reduceAdd, Nat.reduceLT, Nat.reduceLeDiff, Nat.reduceSub, csT, hI])
      (repeat refine And.intro (by first | omega | (simp; omega)) ?_)
      refine keep [0, 1, 2, 3, 9, 22] ?_
      (try simp only [c22_13, cw, cops, csW, csL,  reduceIte, Nat.reduceEqDiff, reduceCtorEq, Nat.reduceAdd, Nat.reduceLT, Nat.reduceLeDiff, Nat.reduceSub, csT, hI])
      (repeat refine And.intro (by first | omega | (simp; omega)) ?_)
      -- TEST (.t 22) .skip
      -- skip
      (try simp only [cw, cops, csW, csL,  reduceIte, Nat.reduceEqDiff, reduceCtorEq, Nat.reduceAdd, Nat.reduceLT, Nat.reduceLeDiff, Nat.reduceSub, csT, hmod, hoI])
      (repeat refine And.intro (by first | omega | (simp; omega)) ?_)
      refine keep [0, 1, 2, 3, 9] ?_
      (try simp only [c22_31, c22_30, c22_22, c22_16, l22_15, cw, cops, csW, csL,  reduceIte, Nat.reduceEqDiff, reduceCtorEq, Nat.reduceAdd, Nat.reduceLT, Nat.reduceLeDiff, Nat.reduceSub, csT, hmod, hoI])
      (repeat refine And.intro (by first | omega | (simp; omega)) ?_)
      refine keep [0, 1, 2, 3, 9, 25] ?_
      (try simp only [c22_21, cw, cops, csW, csL,  reduceIte, Nat.reduceEqDiff, reduceCtorEq, Nat.reduceAdd, Nat.reduceLT, Nat.reduceLeDiff, Nat.reduceSub, csT, hmod, hoI])
      (repeat refine And.intro (by first | omega | (simp; omega)) ?_)
      -- TEST (.t 25)
      (try simp only [c22_20, l22_17, cw, cops, csW, csL,  reduceIte, Nat.reduceEqDiff, reduceCtorEq, Nat.reduceAdd, Nat.reduceLT, Nat.reduceLeDiff, Nat.reduceSub, csT])
      (repeat refine And.intro (by first | omega | (simp; omega)) ?_)
      -- CALL 19
      refine ⟨_, cx (mmul_con a b p hP.pos ha.rg hb.rg (by have := ha.len; omega) (by have := hb.len; omega)), ?_⟩
      (try simp only [l22_18, cw, cops, csW, csL,  reduceIte, Nat.reduceEqDiff, reduceCtorEq, Nat.reduceAdd, Nat.reduceLT, Nat.reduceLeDiff, Nat.reduceSub, csT])
      (repeat refine And.intro (by first | omega | (simp; omega)) ?_)
      -- CALL 32
      refine ⟨_, cx (mrest3_con hP hm1 (hm.mono (by omega)) hm0), ?_⟩
      (try simp only [l22_19, cw, cops, csW, csL,  reduceIte, Nat.reduceEqDiff, reduceCtorEq, Nat.reduceAdd, Nat.reduceLT, Nat.reduceLeDiff, Nat.reduceSub, csT])
      (repeat refine And.intro (by first | omega | (simp; omega)) ?_)
      refine keep [0, 1, 2, 3, 9] ?_
      (try simp only [c22_29, c22_26, l22_23, cw, cops, csW, csL,  reduceIte, Nat.reduceEqDiff, reduceCtorEq, Nat.reduceAdd, Nat.reduceLT, Nat.reduceLeDiff, Nat.reduceSub, csT])
      (repeat refine And.intro (by first | omega | (simp; omega)) ?_)
      -- CALL 19
      refine ⟨_, cx (mmul_con b b p hP.pos hb.rg hb.rg (by have := hb.len; omega) (by have := hb.len; omega)), ?_⟩
      (try simp only [l22_24, cw, cops, csW, csL,  reduceIte, Nat.reduceEqDiff, reduceCtorEq, Nat.reduceAdd, Nat.reduceLT, Nat.reduceLeDiff, Nat.reduceSub, csT])
      (repeat refine And.intro (by first | omega | (simp; omega)) ?_)
      -- CALL 32
      refine ⟨_, cx (mrest3_con hP hm2 (hm.mono (by omega)) hm0), ?_⟩
      (try simp only [l22_25, cw, cops, csW, csL,  reduceIte, Nat.reduceEqDiff, reduceCtorEq, Nat.reduceAdd, Nat.reduceLT, Nat.reduceLeDiff, Nat.reduceSub, csT, hdiv])
      (repeat refine And.intro (by first | omega | (simp; omega)) ?_)
      refine keep [0, 1, 2, 3, 9] ?_
      (try simp only [c22_28, l22_27, cw, cops, csW, csL,  reduceIte, Nat.reduceEqDiff, reduceCtorEq, Nat.reduceAdd, Nat.reduceLT, Nat.reduceLeDiff, Nat.reduceSub, csT, hdiv])
      (repeat refine And.intro (by first | omega | (simp; omega)) ?_)
      -- ROUND's END
      exact ⟨(_, _, k / 2, 3), ⟨hr1, hr2, by simp only; omega, he⟩, (Sub.toG [0, 1, 2, 3, 9] [13] (by rfl) (by rfl) (by rfl) (by rfl)), hhalf⟩
    · have hoI : ¬ ((k % 2 : Nat) : Int) = 1 := by omega
      rw [if_neg hodd] at he
      -- skip
      (try simp only [c22_32, c22_14, c22_12, l22_11, cw, cops, csW, csL,  reduceIte, Nat.reduceEqDiff, reduceCtorEq, Nat.reduceAdd, Nat.reduceLT, Nat.reduceLeDiff, Nat.reduceSub, csT, hI])
      (repeat refine And.intro (by first | omega | (simp; omega)) ?_)
      refine keep [0, 1, 2, 3, 9, 22] ?_
      (try simp only [c22_13, cw, cops, csW, csL,  reduceIte, Nat.reduceEqDiff, reduceCtorEq, Nat.reduceAdd, Nat.reduceLT, Nat.reduceLeDiff, Nat.reduceSub, csT, hI])
      (repeat refine And.intro (by first | omega | (simp; omega)) ?_)
      -- TEST (.t 22) .skip
      -- skip
      (try simp only [cw, cops, csW, csL,  reduceIte, Nat.reduceEqDiff, reduceCtorEq, Nat.reduceAdd, Nat.reduceLT, Nat.reduceLeDiff, Nat.reduceSub, csT, hmod, hoI])
      (repeat refine And.intro (by first | omega | (simp; omega)) ?_)
      refine keep [0, 1, 2, 3, 9] ?_
      (try simp only [c22_31, c22_30, c22_22, c22_16, l22_15, cw, cops, csW, csL,  reduceIte, Nat.reduceEqDiff, reduceCtorEq, Nat.reduceAdd, Nat.reduceLT, Nat.reduceLeDiff, Nat.reduceSub, csT, hmod, hoI])
      (repeat refine And.intro (by first | omega | (simp; omega)) ?_)
      refine keep [0, 1, 2, 3, 9, 25] ?_
      (try simp only [c22_21, cw, cops, csW, csL,  reduceIte, Nat.reduceEqDiff, reduceCtorEq, Nat.reduceAdd, Nat.reduceLT, Nat.reduceLeDiff, Nat.reduceSub, csT, hmod, hoI])
      (repeat refine And.intro (by first | omega | (simp; omega)) ?_)
      -- TEST (.t 25)
      -- skip
      (try simp only [cw, cops, csW, csL,  reduceIte, Nat.reduceEqDiff, reduceCtorEq, Nat.reduceAdd, Nat.reduceLT, Nat.reduceLeDiff, Nat.reduceSub, csT])
      (repeat refine And.intro (by first | omega | (simp; omega)) ?_)
      refine keep [0, 1, 2, 3, 9] ?_
      (try simp only [c22_29, c22_26, l22_23, cw, cops, csW, csL,  reduceIte, Nat.reduceEqDiff, reduceCtorEq, Nat.reduceAdd, Nat.reduceLT, Nat.reduceLeDiff, Nat.reduceSub, csT])
      (repeat refine And.intro (by first | omega | (simp; omega)) ?_)
      -- CALL 19
      refine ⟨_, cx (mmul_con b b p hP.pos hb.rg hb.rg (by have := hb.len; omega) (by have := hb.len; omega)), ?_⟩
      (try simp only [l22_24, cw, cops, csW, csL,  reduceIte, Nat.reduceEqDiff, reduceCtorEq, Nat.reduceAdd, Nat.reduceLT, Nat.reduceLeDiff, Nat.reduceSub, csT])
      (repeat refine And.intro (by first | omega | (simp; omega)) ?_)
      -- CALL 32
      refine ⟨_, cx (mrest3_con hP hm2 (hm.mono (by omega)) hm0), ?_⟩
      (try simp only [l22_25, cw, cops, csW, csL,  reduceIte, Nat.reduceEqDiff, reduceCtorEq, Nat.reduceAdd, Nat.reduceLT, Nat.reduceLeDiff, Nat.reduceSub, csT, hdiv])
      (repeat refine And.intro (by first | omega | (simp; omega)) ?_)
      refine keep [0, 1, 2, 3, 9] ?_
      (try simp only [c22_28, l22_27, cw, cops, csW, csL,  reduceIte, Nat.reduceEqDiff, reduceCtorEq, Nat.reduceAdd, Nat.reduceLT, Nat.reduceLeDiff, Nat.reduceSub, csT, hdiv])
      (repeat refine And.intro (by first | omega | (simp; omega)) ?_)
      -- ROUND's END
      exact ⟨(_, _, k / 2, 3), ⟨ha, hr2, by simp only; omega, he⟩, (Sub.toG [0, 1, 2, 3, 9] [13] (by rfl) (by rfl) (by rfl) (by rfl)), hhalf⟩

/-! ### quotient times divisor and remainder -/
theorem S_congr {f f' g g' : List Int} (hf : ∀ i, f.getD i 0 = f'.getD i 0) (hg : ∀ i, g.getD i 0 = g'.getD i 0) (k : Nat) : ∀ n, S f g k n = S f' g' k n
  | 0 => rfl
  | n + 1 => by simp only [S, S_congr hf hg k n, hf, hg]
theorem S_set {l g : List Int} {e : Nat} {x : Int} (he : e < l.length) (h0 : l.getD e 0 = 0) (k : Nat) : ∀ n, S (l.set e x) g k n = S l g k n + (if e < n ∧ e ≤ k then x * g.getD (k - e) 0 else 0)
  | 0 => by simp [S]
  | n + 1 => by
    simp only [S, S_set he h0 k n]
    by_cases h1 : n = e
    · subst h1
      have h2 : (l.set n x).getD n 0 = x := by simp [he]
      rw [h2, h0]
      by_cases h3 : n ≤ k
      · have e1 : ¬ (n < n ∧ n ≤ k) := by omega
        have e2 : n < n + 1 ∧ n ≤ k := by omega
        rw [if_neg e1, if_pos e2, if_pos h3, if_pos h3, Int.zero_mul, Int.add_zero]
      · have e1 : ¬ (n < n ∧ n ≤ k) := by omega
        have e2 : ¬ (n < n + 1 ∧ n ≤ k) := by omega
        rw [if_neg e1, if_neg e2, if_neg h3, if_neg h3]
    · have h2 : (l.set e x).getD n 0 = l.getD n 0 := by simp [List.getD_eq_getElem?_getD, List.getElem?_set, Ne.symm h1]
      rw [h2]
      have h4 : (if e < n + 1 ∧ e ≤ k then x * g.getD (k - e) 0 else 0) = (if e < n ∧ e ≤ k then x * g.getD (k - e) 0 else 0) := by
        by_cases h3 : e < n ∧ e ≤ k
        · rw [if_pos h3, if_pos (by omega)]
        · rw [if_neg h3, if_neg (by omega)]
      rw [h4, Int.add_right_comm]
/-- While f is divided: quotient times g and the rest are f. -/
theorem dv_id {f g : List Int} {p u : Int} {N : Nat} (hp : 0 < p) (hN : f.length + 1 = N + g.length) (hg0 : 0 < g.length) (t : Nat) : ∀ c, c ≤ N → (S (dq f g p u N c) g t (t + 1) + (dv f g p u N c).getD t 0) % p = f.getD t 0 % p
  | 0, _ => by
    have h0 : S (dq f g p u N 0) g t (t + 1) = 0 := by
      rw [dq_0]
      have : ∀ n, S (List.replicate N 0) g t n = 0 := by
        intro n
        induction n with
        | zero => rfl
        | succ n ih =>
          have h1 : (List.replicate N (0 : Int)).getD n 0 = 0 := by
            rw [List.getD_eq_getElem?_getD, List.getElem?_replicate]
            split <;> rfl
          simp only [S, ih, h1, Int.zero_mul]
          simp
      exact this _
    rw [h0, Int.zero_add]; rfl
  | c + 1, hc => by
    have ih := dv_id (u := u) hp hN hg0 t c (by omega)
    have hz : (dq f g p u N c).getD (N - 1 - c) 0 = 0 := by
      unfold dq
      rw [getD_range_map, if_pos (by omega), if_neg (by omega)]
    rw [← dq_set (by omega), S_set (by rw [dq_len]; omega) hz]
    simp only [dv, red]
    rw [rw_getD, dv_len]
    generalize kd (dv f g p u N c) g p u (N - 1 - c) = k
    generalize hs : S (dq f g p u N c) g t (t + 1) = s at ih ⊢
    generalize hx : (dv f g p u N c).getD t 0 = x at ih ⊢
    by_cases h1 : N - 1 - c ≤ t
    · rw [if_pos (by omega)]
      by_cases h2 : t - (N - 1 - c) < g.length
      · by_cases h3 : t < f.length
        · rw [if_pos h3, if_pos ⟨h1, h2⟩]
          generalize g.getD (t - (N - 1 - c)) 0 = y
          rw [Int.add_emod_emod, show s + k * y + (x + (p - k) * y) = s + x + y * p by grind, Int.add_mul_emod_self_right]
          exact ih
        · exfalso; omega
      · have h4 : g.getD (t - (N - 1 - c)) 0 = 0 := getD_big (by omega)
        rw [h4, Int.mul_zero, Int.add_zero]
        by_cases h3 : t < f.length
        · rw [if_pos h3, if_neg (by omega)]; exact ih
        · rw [if_neg h3]
          have h5 : x = 0 := by rw [← hx]; exact getD_big (by rw [dv_len]; omega)
          rw [h5] at ih; exact ih
    · rw [if_neg (by omega), Int.add_zero]
      by_cases h3 : t < f.length
      · rw [if_pos h3, if_neg (by omega)]; exact ih
      · rw [if_neg h3]
        have h5 : x = 0 := by rw [← hx]; exact getD_big (by rw [dv_len]; omega)
        rw [h5] at ih; exact ih
/-- The law of division. -/
theorem div_law {f g : List Int} {p : Int} {n m : Nat} (hP : IsP p) (hf : Pl p n f) (hg : Pl p m g) (hg0 : g ≠ []) : addP (mulP (quo f g p) g p) (rem f g p) p = f := by
  have hl := List.length_pos_iff.2 hg0
  refine td_ext (td_trim _) hf.td fun t => ?_
  rw [addP_getD, mulP_getD, Int.emod_add_emod]
  unfold quo rem quoP remP
  by_cases h : f.length < g.length
  · rw [if_pos h, if_pos h, S_nil (.inl rfl), Int.zero_add, em_self (hf.rg t)]
  · rw [if_neg h, if_neg h, S_congr (trim_getD _) (fun _ => rfl), trim_getD]
    have := dv_id (u := lu g p) (f := f) (N := f.length - g.length + 1) hP.pos.1 (by omega) hl t _ (Nat.le_refl _)
    rw [this, em_self (hf.rg t)]
end Go.Proofs.Ytlnhembcfhfpkaa.M
