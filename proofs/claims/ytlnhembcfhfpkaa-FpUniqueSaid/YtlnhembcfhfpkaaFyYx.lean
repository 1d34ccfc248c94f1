/- Polynomials modulo a prime: the law of unique factors walked. -/
import Derived.Test.YtlnhembcfhfpkaaK7
import Derived.Test.YtlnhembcfhfpkaaFyVx
import Derived.Test.YtlnhembcfhfpkaaK5
namespace Go.Proofs.Ytlnhembcfhfpkaa.M
open Go.RowKit Go.Proofs.Ytlnhembcfhfpkaa.Fx
set_option linter.unusedSimpArgs false
set_option linter.unusedVariables false
variable {P : Pr}
def nx (A : FL) (i : Nat) (x : List Int) : Nat := if i < A.length ∧ (A.getD i ([], 0)).1 = x then i + 1 else i
theorem nx_le {A : FL} {i : Nat} {x : List Int} (h : i ≤ A.length) : nx A i x ≤ A.length := by unfold nx; split <;> omega
theorem drop_at {A : FL} {i : Nat} (h : i < A.length) : A.drop i = A.getD i ([], 0) :: A.drop (i + 1) := by
  rw [List.drop_eq_getElem_cons h]; simp [h]
theorem nx_drop (A : FL) (i : Nat) (x : List Int) : A.drop (nx A i x) = tl1 (A.drop i) x := by
  unfold nx
  by_cases h : i < A.length
  · rw [drop_at h]
    unfold tl1; simp only
    by_cases e : (A.getD i ([], 0)).1 = x
    · rw [if_pos ⟨h, e⟩, if_pos e]
    · rw [if_neg (fun hh => e hh.2), if_neg e, drop_at h]
  · rw [if_neg (fun hh => h hh.1), List.drop_of_length_le (by omega)]; rfl
theorem hd1_drop (A : FL) (i : Nat) (x : List Int) : hd1 (A.drop i) x = if i < A.length ∧ (A.getD i ([], 0)).1 = x then (A.getD i ([], 0)).2 else 0 := by
  by_cases h : i < A.length
  · rw [drop_at h]
    unfold hd1; simp only
    by_cases e : (A.getD i ([], 0)).1 = x
    · rw [if_pos e, if_pos ⟨h, e⟩]
    · rw [if_neg e, if_neg (fun hh => e hh.2)]
  · rw [if_neg (fun hh => h hh.1), List.drop_of_length_le (by omega)]; rfl
theorem getD_sD {A : FL} {i : Nat} (h : i < A.length) : (A.map sD).getD i default = .agg [L (A.getD i ([], 0)).1, I (A.getD i ([], 0)).2] := by
  simp [h]; rfl
structure Sm (A : FL) : Prop where
  len : A.length ≤ 10000000
  el : ∀ i, (A.getD i ([], 0)).1.length ≤ 65 ∧ 0 ≤ (A.getD i ([], 0)).2 ∧ (A.getD i ([], 0)).2 ≤ 1000
theorem facL_sm {f : Po P} (hf : f ≠ 0) (hl : dg f ≤ 65) : Sm (facL f) := ⟨by have := facU_total hf hl; have := (facL_perm f).length_eq; omega, fun i => by
  by_cases h : i < (facL f).length
  · obtain ⟨g, h1, h2, h3, h4⟩ := (facL_mem hf hl ((facL f).getD i ([], 0))).1 (by simp [h])
    have h5 := dg_dvd h3 hf
    have h6 := val_lt h2 hf
    rw [h1, h4]
    unfold dg at h5 h6 hl
    omega
  · have : (facL f).getD i ([], 0) = ([], 0) := by simp [show (facL f).length ≤ i by omega]
    rw [this]; simp⟩
theorem copsC (G : FuncId → List D → D → Prop) (c : COp) (l : List COp) (K : St → Prop) (s : St) : cops G (c :: l) K s = gstep G c (cops G l K) s := rfl
theorem copsN (G : FuncId → List D → D → Prop) (K : St → Prop) (s : St) : cops G [] K s = K s := rfl
set_option maxRecDepth 20000 in
set_option maxHeartbeats 4000000 in
theorem uni_a (A B C : FL) (i j k : Nat) (t : Int) (hA : Sm A) (hC : Sm C) (hi : i ≤ A.length) (hk : k < C.length) (ht : 0 ≤ t ∧ t ≤ 1000) (Q : AExit → St → Prop)
    (hQ : ∀ s, Sub [24] s ⟨look [(8, .p (.list 36 2 (A.map sD))), (11, .p (.list 36 2 (B.map sD))), (16, .p (.list 36 2 (C.map sD))), (18, .p (I (nx A i (C.getD k ([], 0)).1))), (19, .p (I j)), (20, .p (I k)), (21, .p (I (t + hd1 (A.drop i) (C.getD k ([], 0)).1)))], lookM []⟩ → Q .normal s) :
    cw [24] (ConX Try.prog []) c4_57 Q ⟨look [(8, .p (.list 36 2 (A.map sD))), (11, .p (.list 36 2 (B.map sD))), (16, .p (.list 36 2 (C.map sD))), (18, .p (I i)), (19, .p (I j)), (20, .p (I k)), (21, .p (I t))], lookM []⟩ := by
  have hc := getD_sD hk
  obtain ⟨x, n, hx⟩ : ∃ x n, C.getD k ([], 0) = (x, n) := ⟨_, _, rfl⟩
  have hC2 := hC.el k
  have hkI : (k : Int) < (C.length : Int) := by omega
  have hAl := hA.len
  have hCl := hC.len
  have hh := hd1_drop A i x
  have hn : nx A i x = if i < A.length ∧ (A.getD i ([], 0)).1 = x then i + 1 else i := rfl
  rw [hx] at hc hC2 hQ
  simp only at hc hC2 hQ
  by_cases h : i < A.length
  · have hI : (i : Int) < (A.length : Int) := by omega
    have ha := getD_sD h
    obtain ⟨y, m, hy⟩ : ∃ y m, A.getD i ([], 0) = (y, m) := ⟨_, _, rfl⟩
    have hA2 := hA.el i
    rw [hy] at ha hA2 hh hn
    simp only at ha hA2 hh hn
    have cS := same_con (T := 3) (T' := 3) y x (by omega)
    by_cases e : y = x
    · rw [if_pos ⟨h, e⟩] at hh hn
      rw [hh, hn] at hQ
      rw [decide_eq_true e] at cS
      skip
      (try simp only [c4_57, c4_50, cw, cops, csW, csL,  reduceIte, Nat.reduceEqDiff, reduceCtorEq, Nat.reduceAdd, Nat.reduceLT, Nat.reduceLeDiff, Nat.reduceSub, csE, hI, hkI, ha, hc, List.length_map])
      (repeat refine And.intro (by first | omega | (simp; omega)) ?_)
      (try rw [cops_app])
      unfold l4_48
      repeat (rw [copsC]; (try simp only [cw, csW, csL,  reduceIte, Nat.reduceEqDiff, reduceCtorEq, Nat.reduceAdd, Nat.reduceLT, Nat.reduceLeDiff, Nat.reduceSub, csE, hI, hkI, ha, hc, List.length_map]); (repeat refine And.intro (by first | omega | (simp; omega)) ?_))
      (try simp only [cw, cops, csW, csL,  reduceIte, Nat.reduceEqDiff, reduceCtorEq, Nat.reduceAdd, Nat.reduceLT, Nat.reduceLeDiff, Nat.reduceSub, csE, hI, hkI, ha, hc, List.length_map])
      (repeat refine And.intro (by first | omega | (simp; omega)) ?_)
      refine ⟨_, cx (cS), ?_⟩
      (try simp only [l4_49, cw, cops, csW, csL,  reduceIte, Nat.reduceEqDiff, reduceCtorEq, Nat.reduceAdd, Nat.reduceLT, Nat.reduceLeDiff, Nat.reduceSub, csE])
      (repeat refine And.intro (by first | omega | (simp; omega)) ?_)
      refine keep [8, 11, 16, 18, 19, 20, 21, 107] ?_
      (try simp only [c4_56, cw, cops, csW, csL,  reduceIte, Nat.reduceEqDiff, reduceCtorEq, Nat.reduceAdd, Nat.reduceLT, Nat.reduceLeDiff, Nat.reduceSub, csE])
      (repeat refine And.intro (by first | omega | (simp; omega)) ?_)
      (try simp only [c4_55, c4_52, l4_51, cw, cops, csW, csL,  reduceIte, Nat.reduceEqDiff, reduceCtorEq, Nat.reduceAdd, Nat.reduceLT, Nat.reduceLeDiff, Nat.reduceSub, csE, hI, hkI, ha, hc, List.length_map])
      (repeat refine And.intro (by first | omega | (simp; omega)) ?_)
      refine keep [8, 11, 16, 18, 19, 20, 21] ?_
      (try simp only [c4_54, l4_53, cw, cops, csW, csL,  reduceIte, Nat.reduceEqDiff, reduceCtorEq, Nat.reduceAdd, Nat.reduceLT, Nat.reduceLeDiff, Nat.reduceSub, csE, hI, hkI, ha, hc, List.length_map])
      (repeat refine And.intro (by first | omega | (simp; omega)) ?_)
      exact hQ _ (Sub.toG [8, 11, 16, 18, 19, 20, 21] [] (by rfl) (by rfl) (by rfl) (by rfl))
    · rw [if_neg (fun hh => e hh.2)] at hh hn
      rw [hh, hn, Int.add_zero] at hQ
      rw [decide_eq_false e] at cS
      skip
      (try simp only [c4_57, c4_50, cw, cops, csW, csL,  reduceIte, Nat.reduceEqDiff, reduceCtorEq, Nat.reduceAdd, Nat.reduceLT, Nat.reduceLeDiff, Nat.reduceSub, csE, hI, hkI, ha, hc, List.length_map])
      (repeat refine And.intro (by first | omega | (simp; omega)) ?_)
      (try rw [cops_app])
      unfold l4_48
      repeat (rw [copsC]; (try simp only [cw, csW, csL,  reduceIte, Nat.reduceEqDiff, reduceCtorEq, Nat.reduceAdd, Nat.reduceLT, Nat.reduceLeDiff, Nat.reduceSub, csE, hI, hkI, ha, hc, List.length_map]); (repeat refine And.intro (by first | omega | (simp; omega)) ?_))
      (try simp only [cw, cops, csW, csL,  reduceIte, Nat.reduceEqDiff, reduceCtorEq, Nat.reduceAdd, Nat.reduceLT, Nat.reduceLeDiff, Nat.reduceSub, csE, hI, hkI, ha, hc, List.length_map])
      (repeat refine And.intro (by first | omega | (simp; omega)) ?_)
      refine ⟨_, cx (cS), ?_⟩
      (try simp only [l4_49, cw, cops, csW, csL,  reduceIte, Nat.reduceEqDiff, reduceCtorEq, Nat.reduceAdd, Nat.reduceLT, Nat.reduceLeDiff, Nat.reduceSub, csE])
      (repeat refine And.intro (by first | omega | (simp; omega)) ?_)
      refine keep [8, 11, 16, 18, 19, 20, 21, 107] ?_
      (try simp only [c4_56, cw, cops, csW, csL,  reduceIte, Nat.reduceEqDiff, reduceCtorEq, Nat.reduceAdd, Nat.reduceLT, Nat.reduceLeDiff, Nat.reduceSub, csE])
      (repeat refine And.intro (by first | omega | (simp; omega)) ?_)
      (try simp only [cw, cops, csW, csL,  reduceIte, Nat.reduceEqDiff, reduceCtorEq, Nat.reduceAdd, Nat.reduceLT, Nat.reduceLeDiff, Nat.reduceSub, csE, hI])
      (repeat refine And.intro (by first | omega | (simp; omega)) ?_)
      exact hQ _ (Sub.toG [8, 11, 16, 18, 19, 20, 21] [] (by rfl) (by rfl) (by rfl) (by rfl))
  · have hI : ¬ (i : Int) < (A.length : Int) := by omega
    rw [if_neg (fun hh => h hh.1)] at hh hn
    rw [hh, hn, Int.add_zero] at hQ
    skip
    (try simp only [c4_57, c4_50, cw, cops, csW, csL,  reduceIte, Nat.reduceEqDiff, reduceCtorEq, Nat.reduceAdd, Nat.reduceLT, Nat.reduceLeDiff, Nat.reduceSub, csE, hI, hkI, hc, List.length_map])
    (repeat refine And.intro (by first | omega | (simp; omega)) ?_)
    (try rw [cops_app])
    unfold l4_48
    repeat (rw [copsC]; (try simp only [cw, csW, csL,  reduceIte, Nat.reduceEqDiff, reduceCtorEq, Nat.reduceAdd, Nat.reduceLT, Nat.reduceLeDiff, Nat.reduceSub, csE, hI, hkI, hc, List.length_map]); (repeat refine And.intro (by first | omega | (simp; omega)) ?_))
    (try simp only [cw, cops, csW, csL,  reduceIte, Nat.reduceEqDiff, reduceCtorEq, Nat.reduceAdd, Nat.reduceLT, Nat.reduceLeDiff, Nat.reduceSub, csE, hI, hkI, hc, List.length_map])
    (repeat refine And.intro (by first | omega | (simp; omega)) ?_)
    (try simp only [l4_49, cw, cops, csW, csL,  reduceIte, Nat.reduceEqDiff, reduceCtorEq, Nat.reduceAdd, Nat.reduceLT, Nat.reduceLeDiff, Nat.reduceSub, csE, hI, hkI, hc, List.length_map])
    (repeat refine And.intro (by first | omega | (simp; omega)) ?_)
    refine keep [8, 11, 16, 18, 19, 20, 21, 107] ?_
    (try simp only [c4_56, cw, cops, csW, csL,  reduceIte, Nat.reduceEqDiff, reduceCtorEq, Nat.reduceAdd, Nat.reduceLT, Nat.reduceLeDiff, Nat.reduceSub, csE, hI, hkI, hc, List.length_map])
    (repeat refine And.intro (by first | omega | (simp; omega)) ?_)
    (try simp only [cw, cops, csW, csL,  reduceIte, Nat.reduceEqDiff, reduceCtorEq, Nat.reduceAdd, Nat.reduceLT, Nat.reduceLeDiff, Nat.reduceSub, csE, hI])
    (repeat refine And.intro (by first | omega | (simp; omega)) ?_)
    exact hQ _ (Sub.toG [8, 11, 16, 18, 19, 20, 21] [] (by rfl) (by rfl) (by rfl) (by rfl))
set_option maxRecDepth 20000 in
set_option maxHeartbeats 4000000 in
theorem uni_b (A B C : FL) (i j k : Nat) (t : Int) (hA : Sm B) (hC : Sm C) (hi : j ≤ B.length) (hk : k < C.length) (ht : 0 ≤ t ∧ t ≤ 1000) (Q : AExit → St → Prop)
    (hQ : ∀ s, Sub [24] s ⟨look [(8, .p (.list 36 2 (A.map sD))), (11, .p (.list 36 2 (B.map sD))), (16, .p (.list 36 2 (C.map sD))), (18, .p (I i)), (19, .p (I (nx B j (C.getD k ([], 0)).1))), (20, .p (I k)), (21, .p (I (t + hd1 (B.drop j) (C.getD k ([], 0)).1)))], lookM []⟩ → Q .normal s) :
    cw [24] (ConX Try.prog []) c4_67 Q ⟨look [(8, .p (.list 36 2 (A.map sD))), (11, .p (.list 36 2 (B.map sD))), (16, .p (.list 36 2 (C.map sD))), (18, .p (I i)), (19, .p (I j)), (20, .p (I k)), (21, .p (I t))], lookM []⟩ := by
  have hc := getD_sD hk
  obtain ⟨x, n, hx⟩ : ∃ x n, C.getD k ([], 0) = (x, n) := ⟨_, _, rfl⟩
  have hC2 := hC.el k
  have hkI : (k : Int) < (C.length : Int) := by omega
  have hAl := hA.len
  have hCl := hC.len
  have hh := hd1_drop B j x
  have hn : nx B j x = if j < B.length ∧ (B.getD j ([], 0)).1 = x then j + 1 else j := rfl
  rw [hx] at hc hC2 hQ
  simp only at hc hC2 hQ
  by_cases h : j < B.length
  · have hI : (j : Int) < (B.length : Int) := by omega
    have ha := getD_sD h
    obtain ⟨y, m, hy⟩ : ∃ y m, B.getD j ([], 0) = (y, m) := ⟨_, _, rfl⟩
    have hA2 := hA.el j
    rw [hy] at ha hA2 hh hn
    simp only at ha hA2 hh hn
    have cS := same_con (T := 3) (T' := 3) y x (by omega)
    by_cases e : y = x
    · rw [if_pos ⟨h, e⟩] at hh hn
      rw [hh, hn] at hQ
      rw [decide_eq_true e] at cS
      skip
      (try simp only [c4_67, c4_60, cw, cops, csW, csL,  reduceIte, Nat.reduceEqDiff, reduceCtorEq, Nat.reduceAdd, Nat.reduceLT, Nat.reduceLeDiff, Nat.reduceSub, csE, hI, hkI, ha, hc, List.length_map])
      (repeat refine And.intro (by first | omega | (simp; omega)) ?_)
      (try rw [cops_app])
      unfold l4_58
      repeat (rw [copsC]; (try simp only [cw, csW, csL,  reduceIte, Nat.reduceEqDiff, reduceCtorEq, Nat.reduceAdd, Nat.reduceLT, Nat.reduceLeDiff, Nat.reduceSub, csE, hI, hkI, ha, hc, List.length_map]); (repeat refine And.intro (by first | omega | (simp; omega)) ?_))
      (try simp only [cw, cops, csW, csL,  reduceIte, Nat.reduceEqDiff, reduceCtorEq, Nat.reduceAdd, Nat.reduceLT, Nat.reduceLeDiff, Nat.reduceSub, csE, hI, hkI, ha, hc, List.length_map])
      (repeat refine And.intro (by first | omega | (simp; omega)) ?_)
      refine ⟨_, cx (cS), ?_⟩
      (try simp only [l4_59, cw, cops, csW, csL,  reduceIte, Nat.reduceEqDiff, reduceCtorEq, Nat.reduceAdd, Nat.reduceLT, Nat.reduceLeDiff, Nat.reduceSub, csE])
      (repeat refine And.intro (by first | omega | (simp; omega)) ?_)
      refine keep [8, 11, 16, 18, 19, 20, 21, 133] ?_
      (try simp only [c4_66, cw, cops, csW, csL,  reduceIte, Nat.reduceEqDiff, reduceCtorEq, Nat.reduceAdd, Nat.reduceLT, Nat.reduceLeDiff, Nat.reduceSub, csE])
      (repeat refine And.intro (by first | omega | (simp; omega)) ?_)
      (try simp only [c4_65, c4_62, l4_61, cw, cops, csW, csL,  reduceIte, Nat.reduceEqDiff, reduceCtorEq, Nat.reduceAdd, Nat.reduceLT, Nat.reduceLeDiff, Nat.reduceSub, csE, hI, hkI, ha, hc, List.length_map])
      (repeat refine And.intro (by first | omega | (simp; omega)) ?_)
      refine keep [8, 11, 16, 18, 19, 20, 21] ?_
      (try simp only [c4_64, l4_63, cw, cops, csW, csL,  reduceIte, Nat.reduceEqDiff, reduceCtorEq, Nat.reduceAdd, Nat.reduceLT, Nat.reduceLeDiff, Nat.reduceSub, csE, hI, hkI, ha, hc, List.length_map])
      (repeat refine And.intro (by first | omega | (simp; omega)) ?_)
      exact hQ _ (Sub.toG [8, 11, 16, 18, 19, 20, 21] [] (by rfl) (by rfl) (by rfl) (by rfl))
    · rw [if_neg (fun hh => e hh.2)] at hh hn
      rw [hh, hn, Int.add_zero] at hQ
      rw [decide_eq_false e] at cS
      skip
      (try simp only [c4_67, c4_60, cw, cops, csW, csL,  reduceIte, Nat.reduceEqDiff, reduceCtorEq, Nat.reduceAdd, Nat.reduceLT, Nat.reduceLeDiff, Nat.reduceSub, csE, hI, hkI, ha, hc, List.length_map])
      (repeat refine And.intro (by first | omega | (simp; omega)) ?_)
      (try rw [cops_app])
      unfold l4_58
      repeat (rw [copsC]; (try simp only [cw, csW, csL,  reduceIte, Nat.reduceEqDiff, reduceCtorEq, Nat.reduceAdd, Nat.reduceLT, Nat.reduceLeDiff, Nat.reduceSub, csE, hI, hkI, ha, hc, List.length_map]); (repeat refine And.intro (by first | omega | (simp; omega)) ?_))
      (try simp only [cw, cops, csW, csL,  reduceIte, Nat.reduceEqDiff, reduceCtorEq, Nat.reduceAdd, Nat.reduceLT, Nat.reduceLeDiff, Nat.reduceSub, csE, hI, hkI, ha, hc, List.length_map])
      (repeat refine And.intro (by first | omega | (simp; omega)) ?_)
      refine ⟨_, cx (cS), ?_⟩
      (try simp only [l4_59, cw, cops, csW, csL,  reduceIte, Nat.reduceEqDiff, reduceCtorEq, Nat.reduceAdd, Nat.reduceLT, Nat.reduceLeDiff, Nat.reduceSub, csE])
      (repeat refine And.intro (by first | omega | (simp; omega)) ?_)
      refine keep [8, 11, 16, 18, 19, 20, 21, 133] ?_
      (try simp only [c4_66, cw, cops, csW, csL,  reduceIte, Nat.reduceEqDiff, reduceCtorEq, Nat.reduceAdd, Nat.reduceLT, Nat.reduceLeDiff, Nat.reduceSub, csE])
      (repeat refine And.intro (by first | omega | (simp; omega)) ?_)
      (try simp only [cw, cops, csW, csL,  reduceIte, Nat.reduceEqDiff, reduceCtorEq, Nat.reduceAdd, Nat.reduceLT, Nat.reduceLeDiff, Nat.reduceSub, csE, hI])
      (repeat refine And.intro (by first | omega | (simp; omega)) ?_)
      exact hQ _ (Sub.toG [8, 11, 16, 18, 19, 20, 21] [] (by rfl) (by rfl) (by rfl) (by rfl))
  · have hI : ¬ (j : Int) < (B.length : Int) := by omega
    rw [if_neg (fun hh => h hh.1)] at hh hn
    rw [hh, hn, Int.add_zero] at hQ
    skip
    (try simp only [c4_67, c4_60, cw, cops, csW, csL,  reduceIte, Nat.reduceEqDiff, reduceCtorEq, Nat.reduceAdd, Nat.reduceLT, Nat.reduceLeDiff, Nat.reduceSub, csE, hI, hkI, hc, List.length_map])
    (repeat refine And.intro (by first | omega | (simp; omega)) ?_)
    (try rw [cops_app])
    unfold l4_58
    repeat (rw [copsC]; (try simp only [cw, csW, csL,  reduceIte, Nat.reduceEqDiff, reduceCtorEq, Nat.reduceAdd, Nat.reduceLT, Nat.reduceLeDiff, Nat.reduceSub, csE, hI, hkI, hc, List.length_map]); (repeat refine And.intro (by first | omega | (simp; omega)) ?_))
    (try simp only [cw, cops, csW, csL,  reduceIte, Nat.reduceEqDiff, reduceCtorEq, Nat.reduceAdd, Nat.reduceLT, Nat.reduceLeDiff, Nat.reduceSub, csE, hI, hkI, hc, List.length_map])
    (repeat refine And.intro (by first | omega | (simp; omega)) ?_)
    (try simp only [l4_59, cw, cops, csW, csL,  reduceIte, Nat.reduceEqDiff, reduceCtorEq, Nat.reduceAdd, Nat.reduceLT, Nat.reduceLeDiff, Nat.reduceSub, csE, hI, hkI, hc, List.length_map])
    (repeat refine And.intro (by first | omega | (simp; omega)) ?_)
    refine keep [8, 11, 16, 18, 19, 20, 21, 133] ?_
    (try simp only [c4_66, cw, cops, csW, csL,  reduceIte, Nat.reduceEqDiff, reduceCtorEq, Nat.reduceAdd, Nat.reduceLT, Nat.reduceLeDiff, Nat.reduceSub, csE, hI, hkI, hc, List.length_map])
    (repeat refine And.intro (by first | omega | (simp; omega)) ?_)
    (try simp only [cw, cops, csW, csL,  reduceIte, Nat.reduceEqDiff, reduceCtorEq, Nat.reduceAdd, Nat.reduceLT, Nat.reduceLeDiff, Nat.reduceSub, csE, hI])
    (repeat refine And.intro (by first | omega | (simp; omega)) ?_)
    exact hQ _ (Sub.toG [8, 11, 16, 18, 19, 20, 21] [] (by rfl) (by rfl) (by rfl) (by rfl))
set_option maxRecDepth 20000 in
set_option maxHeartbeats 4000000 in
theorem uni_c (A B C : FL) (i j k : Nat) (hC : Sm C) (hk : k < C.length) (Q : AExit → St → Prop)
    (hQ : ∀ s, Sub [24] s ⟨look [(8, .p (.list 36 2 (A.map sD))), (11, .p (.list 36 2 (B.map sD))), (16, .p (.list 36 2 (C.map sD))), (18, .p (I i)), (19, .p (I j)), (20, .p (I k))], lookM []⟩ → Q .normal s) :
    cw [24] (ConX Try.prog []) c4_74 Q ⟨look [(8, .p (.list 36 2 (A.map sD))), (11, .p (.list 36 2 (B.map sD))), (16, .p (.list 36 2 (C.map sD))), (18, .p (I i)), (19, .p (I j)), (20, .p (I k)), (21, .p (I (C.getD k ([], 0)).2))], lookM []⟩ := by
  have hc := getD_sD hk
  obtain ⟨x, n, hx⟩ : ∃ x n, C.getD k ([], 0) = (x, n) := ⟨_, _, rfl⟩
  have hkI : (k : Int) < (C.length : Int) := by omega
  have hCl := hC.len
  rw [hx] at hc ⊢
  simp only at hc ⊢
  skip
  (try simp only [c4_74, c4_69, l4_68, cw, cops, csW, csL,  reduceIte, Nat.reduceEqDiff, reduceCtorEq, Nat.reduceAdd, Nat.reduceLT, Nat.reduceLeDiff, Nat.reduceSub, csE, hkI, hc, List.length_map])
  (repeat refine And.intro (by first | omega | (simp; omega)) ?_)
  refine keep [8, 11, 16, 18, 19, 20, 149] ?_
  (try simp only [c4_73, cw, cops, csW, csL,  reduceIte, Nat.reduceEqDiff, reduceCtorEq, Nat.reduceAdd, Nat.reduceLT, Nat.reduceLeDiff, Nat.reduceSub, csE, hkI, hc, List.length_map])
  (repeat refine And.intro (by first | omega | (simp; omega)) ?_)
  (try simp only [cw, cops, csW, csL,  reduceIte, Nat.reduceEqDiff, reduceCtorEq, Nat.reduceAdd, Nat.reduceLT, Nat.reduceLeDiff, Nat.reduceSub, csE])
  (repeat refine And.intro (by first | omega | (simp; omega)) ?_)
  exact hQ _ (Sub.toG [8, 11, 16, 18, 19, 20] [] (by rfl) (by rfl) (by rfl) (by rfl))
theorem uni_k (A B C : FL) (i j k : Nat) (hA : Sm A) (hB : Sm B) (hC : Sm C) (hi : i ≤ A.length) (hj : j ≤ B.length) (hk : k < C.length) (hs : hd1 (A.drop i) (C.getD k ([], 0)).1 + hd1 (B.drop j) (C.getD k ([], 0)).1 = (C.getD k ([], 0)).2) (Q : AExit → St → Prop)
    (hQ : ∀ s, Sub [24] s ⟨look [(8, .p (.list 36 2 (A.map sD))), (11, .p (.list 36 2 (B.map sD))), (16, .p (.list 36 2 (C.map sD))), (18, .p (I (nx A i (C.getD k ([], 0)).1))), (19, .p (I (nx B j (C.getD k ([], 0)).1))), (20, .p (I k))], lookM []⟩ → Q .normal s) :
    cw [24] (ConX Try.prog []) c4_76 Q ⟨look [(8, .p (.list 36 2 (A.map sD))), (11, .p (.list 36 2 (B.map sD))), (16, .p (.list 36 2 (C.map sD))), (18, .p (I i)), (19, .p (I j)), (20, .p (I k)), (21, .p (I 0))], lookM []⟩ := by
  have hAe := hA.el i
  have hh := hd1_drop A i (C.getD k ([], 0)).1
  simp only [c4_76, cw]
  refine uni_a A B C i j k 0 hA hC hi hk (by omega) _ fun s hs1 => ⟨_, hs1, ?_⟩
  simp only [c4_75, cw]
  refine uni_b A B C _ j k _ hB hC hj hk (by rw [hh]; split <;> omega) _ fun s hs2 => ⟨_, hs2, ?_⟩
  rw [Int.zero_add, hs]
  exact uni_c A B C _ _ k hC hk Q hQ
set_option maxRecDepth 20000 in
set_option maxHeartbeats 4000000 in
theorem uni_early {T T' : Nat} (f g : List Int) (p a b c1 x1 c2 x2 : Int) (l m : FL) (hf : Con Try.prog [] 13 [LT T f, I p] (.tup [I a, .list 36 2 (l.map sD), flt c1 x1])) (hg : Con Try.prog [] 13 [LT T' g, I p] (.tup [I b, .list 36 2 (m.map sD), flt c2 x2])) (hlf : c1 = 0 → f.length ≤ 65) (hlg : c2 = 0 → g.length ≤ 65) (h : ¬ (c1 = 0 ∧ c2 = 0 ∧ f.length + g.length ≤ 60)) : Con Try.prog [] 4 [LT T f, LT T' g, I p] (.bool true) := by
  refine fn4.con rfl (by simp) ?_
  (try simp only [init3, c4, c4_99, c4_1, l4_0, cw, cops, csW, csL,  reduceIte, Nat.reduceEqDiff, reduceCtorEq, Nat.reduceAdd, Nat.reduceLT, Nat.reduceLeDiff, Nat.reduceSub, csE])
  (repeat refine And.intro (by first | omega | (simp; omega)) ?_)
  refine keep [0, 1, 2] ?_
  (try simp only [c4_98, c4_4, l4_2, cw, cops, csW, csL,  reduceIte, Nat.reduceEqDiff, reduceCtorEq, Nat.reduceAdd, Nat.reduceLT, Nat.reduceLeDiff, Nat.reduceSub, csE])
  (repeat refine And.intro (by first | omega | (simp; omega)) ?_)
  refine ⟨_, cx (hf), ?_⟩
  (try simp only [l4_3, cw, cops, csW, csL,  reduceIte, Nat.reduceEqDiff, reduceCtorEq, Nat.reduceAdd, Nat.reduceLT, Nat.reduceLeDiff, Nat.reduceSub, csE])
  (repeat refine And.intro (by first | omega | (simp; omega)) ?_)
  refine keep [0, 1, 2, 7, 8, 9] ?_
  (try simp only [c4_97, c4_7, l4_5, cw, cops, csW, csL,  reduceIte, Nat.reduceEqDiff, reduceCtorEq, Nat.reduceAdd, Nat.reduceLT, Nat.reduceLeDiff, Nat.reduceSub, csE])
  (repeat refine And.intro (by first | omega | (simp; omega)) ?_)
  refine ⟨_, cx (hg), ?_⟩
  (try simp only [l4_6, cw, cops, csW, csL,  reduceIte, Nat.reduceEqDiff, reduceCtorEq, Nat.reduceAdd, Nat.reduceLT, Nat.reduceLeDiff, Nat.reduceSub, csE])
  (repeat refine And.intro (by first | omega | (simp; omega)) ?_)
  refine keep [0, 1, 2, 7, 8, 9, 10, 11, 12] ?_
  (try simp only [c4_96, c4_15, c4_10, l4_8, cw, cops, csW, csL,  reduceIte, Nat.reduceEqDiff, reduceCtorEq, Nat.reduceAdd, Nat.reduceLT, Nat.reduceLeDiff, Nat.reduceSub, csE])
  (repeat refine And.intro (by first | omega | (simp; omega)) ?_)
  refine ⟨_, cx (fpBegun_con), ?_⟩
  (try simp only [l4_9, cw, cops, csW, csL,  reduceIte, Nat.reduceEqDiff, reduceCtorEq, Nat.reduceAdd, Nat.reduceLT, Nat.reduceLeDiff, Nat.reduceSub, csE])
  (repeat refine And.intro (by first | omega | (simp; omega)) ?_)
  refine keep [0, 1, 2, 7, 8, 9, 10, 11, 12, 37] ?_
  (try simp only [c4_14, cw, cops, csW, csL,  reduceIte, Nat.reduceEqDiff, reduceCtorEq, Nat.reduceAdd, Nat.reduceLT, Nat.reduceLeDiff, Nat.reduceSub, csE])
  (repeat refine And.intro (by first | omega | (simp; omega)) ?_)
  by_cases e1 : c1 = 0
  · by_cases e2 : c2 = 0
    · have hlf2 := hlf e1
      have hlg2 := hlg e2
      have e3 : (60 : Int) < (f.length : Int) + (g.length : Int) := by
        have : ¬ f.length + g.length ≤ 60 := fun hh => h ⟨e1, e2, hh⟩
        omega
      (try simp only [cw, cops, csW, csL,  reduceIte, Nat.reduceEqDiff, reduceCtorEq, Nat.reduceAdd, Nat.reduceLT, Nat.reduceLeDiff, Nat.reduceSub, csE, e1, e2, e3])
      (repeat refine And.intro (by first | omega | (simp; omega)) ?_)
      refine keep [0, 1, 2, 7, 8, 9, 10, 11, 12] ?_
      (try simp only [c4_95, c4_22, c4_17, l4_16, cw, cops, csW, csL,  reduceIte, Nat.reduceEqDiff, reduceCtorEq, Nat.reduceAdd, Nat.reduceLT, Nat.reduceLeDiff, Nat.reduceSub, csE, e1, e2, e3])
      (repeat refine And.intro (by first | omega | (simp; omega)) ?_)
      refine keep [0, 1, 2, 7, 8, 10, 11, 53] ?_
      (try simp only [c4_21, cw, cops, csW, csL,  reduceIte, Nat.reduceEqDiff, reduceCtorEq, Nat.reduceAdd, Nat.reduceLT, Nat.reduceLeDiff, Nat.reduceSub, csE, e1, e2, e3])
      (repeat refine And.intro (by first | omega | (simp; omega)) ?_)
      (try simp only [c4_20, c4_19, l4_18, cw, cops, csW, csL,  reduceIte, Nat.reduceEqDiff, reduceCtorEq, Nat.reduceAdd, Nat.reduceLT, Nat.reduceLeDiff, Nat.reduceSub, csE, e1, e2, e3])
      (repeat refine And.intro (by first | omega | (simp; omega)) ?_)
      refine keep [6] ?_
      (try simp only [cw, cops, csW, csL,  reduceIte, Nat.reduceEqDiff, reduceCtorEq, Nat.reduceAdd, Nat.reduceLT, Nat.reduceLeDiff, Nat.reduceSub, csE, Ends, resD, resL, resV, e1, e2, e3])
      (repeat refine And.intro (by first | omega | (simp; omega)) ?_)
    · (try simp only [cw, cops, csW, csL,  reduceIte, Nat.reduceEqDiff, reduceCtorEq, Nat.reduceAdd, Nat.reduceLT, Nat.reduceLeDiff, Nat.reduceSub, csE, e1, e2])
      (repeat refine And.intro (by first | omega | (simp; omega)) ?_)
      refine keep [0, 1, 2, 7, 8, 9, 10, 11, 12] ?_
      (try simp only [c4_95, c4_22, c4_17, l4_16, cw, cops, csW, csL,  reduceIte, Nat.reduceEqDiff, reduceCtorEq, Nat.reduceAdd, Nat.reduceLT, Nat.reduceLeDiff, Nat.reduceSub, csE, e1, e2])
      (repeat refine And.intro (by first | omega | (simp; omega)) ?_)
      refine keep [0, 1, 2, 7, 8, 10, 11, 53] ?_
      (try simp only [c4_21, cw, cops, csW, csL,  reduceIte, Nat.reduceEqDiff, reduceCtorEq, Nat.reduceAdd, Nat.reduceLT, Nat.reduceLeDiff, Nat.reduceSub, csE, e1, e2])
      (repeat refine And.intro (by first | omega | (simp; omega)) ?_)
      (try simp only [c4_20, c4_19, l4_18, cw, cops, csW, csL,  reduceIte, Nat.reduceEqDiff, reduceCtorEq, Nat.reduceAdd, Nat.reduceLT, Nat.reduceLeDiff, Nat.reduceSub, csE, e1, e2])
      (repeat refine And.intro (by first | omega | (simp; omega)) ?_)
      refine keep [6] ?_
      (try simp only [cw, cops, csW, csL,  reduceIte, Nat.reduceEqDiff, reduceCtorEq, Nat.reduceAdd, Nat.reduceLT, Nat.reduceLeDiff, Nat.reduceSub, csE, Ends, resD, resL, resV, e1, e2])
      (repeat refine And.intro (by first | omega | (simp; omega)) ?_)
  · (try simp only [cw, cops, csW, csL,  reduceIte, Nat.reduceEqDiff, reduceCtorEq, Nat.reduceAdd, Nat.reduceLT, Nat.reduceLeDiff, Nat.reduceSub, csE, e1])
    (repeat refine And.intro (by first | omega | (simp; omega)) ?_)
    refine keep [0, 1, 2, 7, 8, 9, 10, 11, 12] ?_
    (try simp only [c4_95, c4_22, c4_17, l4_16, cw, cops, csW, csL,  reduceIte, Nat.reduceEqDiff, reduceCtorEq, Nat.reduceAdd, Nat.reduceLT, Nat.reduceLeDiff, Nat.reduceSub, csE, e1])
    (repeat refine And.intro (by first | omega | (simp; omega)) ?_)
    refine keep [0, 1, 2, 7, 8, 10, 11, 53] ?_
    (try simp only [c4_21, cw, cops, csW, csL,  reduceIte, Nat.reduceEqDiff, reduceCtorEq, Nat.reduceAdd, Nat.reduceLT, Nat.reduceLeDiff, Nat.reduceSub, csE, e1])
    (repeat refine And.intro (by first | omega | (simp; omega)) ?_)
    (try simp only [c4_20, c4_19, l4_18, cw, cops, csW, csL,  reduceIte, Nat.reduceEqDiff, reduceCtorEq, Nat.reduceAdd, Nat.reduceLT, Nat.reduceLeDiff, Nat.reduceSub, csE, e1])
    (repeat refine And.intro (by first | omega | (simp; omega)) ?_)
    refine keep [6] ?_
    (try simp only [cw, cops, csW, csL,  reduceIte, Nat.reduceEqDiff, reduceCtorEq, Nat.reduceAdd, Nat.reduceLT, Nat.reduceLeDiff, Nat.reduceSub, csE, Ends, resD, resL, resV, e1])
    (repeat refine And.intro (by first | omega | (simp; omega)) ?_)
set_option maxRecDepth 20000 in
set_option maxHeartbeats 4000000 in
theorem uni_main {T T' : Nat} (F G : Po P) (hF : F ≠ 0) (hG : G ≠ 0) (hd : dg F + dg G ≤ 60) : Con Try.prog [] 4 [LT T F.l, LT T' G.l, I P.p] (.bool true) := by
  have hp := P.h.pos
  have hlF : F.l.length + G.l.length ≤ 60 := hd
  have hFG := mul_ne hF hG
  have hdm := dg_mul hF hG
  have hf := factor_ok (T := T) F hF (by omega)
  have hg := factor_ok (T := T') G hG (by omega)
  have hfg := factor_ok (T := 3) (F * G) hFG (by omega)
  have hM := eMul_con (T := T) (T' := T') F.l G.l P.p
  have hc2 : chk2 F.l G.l P.p = (0, 0) := by unfold chk2; rw [(gp F (by omega)).chk, if_pos rfl, (gp G (by omega)).chk]
  rw [hc2, if_pos rfl, ← mul_l] at hM
  have hmg := mg_mul hF hG hd
  have hA := facL_sm hF (by omega)
  have hB := facL_sm hG (by omega)
  have hC := facL_sm hFG (by omega)
  have hl1 := lc_pos hF
  have hl2 := lc_pos hG
  have hm : 0 ≤ lc F * lc G ∧ lc F * lc G ≤ 1073741824 * 1073741824 := ⟨Int.mul_nonneg (by omega) (by omega), Int.mul_le_mul (by omega) (by omega) (by omega) (by omega)⟩
  have htop : (lc F * lc G).tmod P.p = lc (F * G) := by rw [tm hm.1, (mul_top hF hG).2]
  have h60 : ¬ (60 : Int) < (F.l.length : Int) + (G.l.length : Int) := by omega
  generalize facL F = A at *
  generalize facL G = B at *
  generalize facL (F * G) = C at *
  have hAl := hA.len
  have hBl := hB.len
  have hCl := hC.len
  refine fn4.con rfl (by simp) ?_
  (try simp only [init3, c4, c4_99, c4_1, l4_0, cw, cops, csW, csL,  reduceIte, Nat.reduceEqDiff, reduceCtorEq, Nat.reduceAdd, Nat.reduceLT, Nat.reduceLeDiff, Nat.reduceSub, csE])
  (repeat refine And.intro (by first | omega | (simp; omega)) ?_)
  refine keep [0, 1, 2] ?_
  (try simp only [c4_98, c4_4, l4_2, cw, cops, csW, csL,  reduceIte, Nat.reduceEqDiff, reduceCtorEq, Nat.reduceAdd, Nat.reduceLT, Nat.reduceLeDiff, Nat.reduceSub, csE])
  (repeat refine And.intro (by first | omega | (simp; omega)) ?_)
  refine ⟨_, cx (hf), ?_⟩
  (try simp only [l4_3, cw, cops, csW, csL,  reduceIte, Nat.reduceEqDiff, reduceCtorEq, Nat.reduceAdd, Nat.reduceLT, Nat.reduceLeDiff, Nat.reduceSub, csE])
  (repeat refine And.intro (by first | omega | (simp; omega)) ?_)
  refine keep [0, 1, 2, 7, 8, 9] ?_
  (try simp only [c4_97, c4_7, l4_5, cw, cops, csW, csL,  reduceIte, Nat.reduceEqDiff, reduceCtorEq, Nat.reduceAdd, Nat.reduceLT, Nat.reduceLeDiff, Nat.reduceSub, csE])
  (repeat refine And.intro (by first | omega | (simp; omega)) ?_)
  refine ⟨_, cx (hg), ?_⟩
  (try simp only [l4_6, cw, cops, csW, csL,  reduceIte, Nat.reduceEqDiff, reduceCtorEq, Nat.reduceAdd, Nat.reduceLT, Nat.reduceLeDiff, Nat.reduceSub, csE])
  (repeat refine And.intro (by first | omega | (simp; omega)) ?_)
  refine keep [0, 1, 2, 7, 8, 9, 10, 11, 12] ?_
  (try simp only [c4_96, c4_15, c4_10, l4_8, cw, cops, csW, csL,  reduceIte, Nat.reduceEqDiff, reduceCtorEq, Nat.reduceAdd, Nat.reduceLT, Nat.reduceLeDiff, Nat.reduceSub, csE])
  (repeat refine And.intro (by first | omega | (simp; omega)) ?_)
  refine ⟨_, cx (fpBegun_con), ?_⟩
  (try simp only [l4_9, cw, cops, csW, csL,  reduceIte, Nat.reduceEqDiff, reduceCtorEq, Nat.reduceAdd, Nat.reduceLT, Nat.reduceLeDiff, Nat.reduceSub, csE])
  (repeat refine And.intro (by first | omega | (simp; omega)) ?_)
  refine keep [0, 1, 2, 7, 8, 9, 10, 11, 12, 37] ?_
  (try simp only [c4_14, cw, cops, csW, csL,  reduceIte, Nat.reduceEqDiff, reduceCtorEq, Nat.reduceAdd, Nat.reduceLT, Nat.reduceLeDiff, Nat.reduceSub, csE])
  (repeat refine And.intro (by first | omega | (simp; omega)) ?_)
  (try simp only [cw, cops, csW, csL,  reduceIte, Nat.reduceEqDiff, reduceCtorEq, Nat.reduceAdd, Nat.reduceLT, Nat.reduceLeDiff, Nat.reduceSub, csE, h60])
  (repeat refine And.intro (by first | omega | (simp; omega)) ?_)
  refine keep [0, 1, 2, 7, 8, 9, 10, 11, 12] ?_
  (try simp only [c4_95, c4_22, c4_17, l4_16, cw, cops, csW, csL,  reduceIte, Nat.reduceEqDiff, reduceCtorEq, Nat.reduceAdd, Nat.reduceLT, Nat.reduceLeDiff, Nat.reduceSub, csE, h60])
  (repeat refine And.intro (by first | omega | (simp; omega)) ?_)
  refine keep [0, 1, 2, 7, 8, 10, 11, 53] ?_
  (try simp only [c4_21, cw, cops, csW, csL,  reduceIte, Nat.reduceEqDiff, reduceCtorEq, Nat.reduceAdd, Nat.reduceLT, Nat.reduceLeDiff, Nat.reduceSub, csE, h60])
  (repeat refine And.intro (by first | omega | (simp; omega)) ?_)
  (try simp only [cw, cops, csW, csL,  reduceIte, Nat.reduceEqDiff, reduceCtorEq, Nat.reduceAdd, Nat.reduceLT, Nat.reduceLeDiff, Nat.reduceSub, csE, h60])
  (repeat refine And.intro (by first | omega | (simp; omega)) ?_)
  refine keep [0, 1, 2, 7, 8, 10, 11] ?_
  (try simp only [c4_94, c4_25, l4_23, cw, cops, csW, csL,  reduceIte, Nat.reduceEqDiff, reduceCtorEq, Nat.reduceAdd, Nat.reduceLT, Nat.reduceLeDiff, Nat.reduceSub, csE, h60])
  (repeat refine And.intro (by first | omega | (simp; omega)) ?_)
  refine ⟨_, cx (hM), ?_⟩
  (try simp only [l4_24, cw, cops, csW, csL,  reduceIte, Nat.reduceEqDiff, reduceCtorEq, Nat.reduceAdd, Nat.reduceLT, Nat.reduceLeDiff, Nat.reduceSub, csE])
  (repeat refine And.intro (by first | omega | (simp; omega)) ?_)
  refine keep [2, 7, 8, 10, 11, 13, 14] ?_
  (try simp only [c4_93, c4_28, l4_26, cw, cops, csW, csL,  reduceIte, Nat.reduceEqDiff, reduceCtorEq, Nat.reduceAdd, Nat.reduceLT, Nat.reduceLeDiff, Nat.reduceSub, csE])
  (repeat refine And.intro (by first | omega | (simp; omega)) ?_)
  refine ⟨_, cx (hfg), ?_⟩
  (try simp only [l4_27, cw, cops, csW, csL,  reduceIte, Nat.reduceEqDiff, reduceCtorEq, Nat.reduceAdd, Nat.reduceLT, Nat.reduceLeDiff, Nat.reduceSub, csE, htop])
  (repeat refine And.intro (by first | omega | (simp; omega)) ?_)
  refine keep [2, 7, 8, 10, 11, 14, 15, 16, 17] ?_
  (try simp only [c4_92, c4_35, c4_30, l4_29, cw, cops, csW, csL,  reduceIte, Nat.reduceEqDiff, reduceCtorEq, Nat.reduceAdd, Nat.reduceLT, Nat.reduceLeDiff, Nat.reduceSub, csE, htop])
  (repeat refine And.intro (by first | omega | (simp; omega)) ?_)
  refine keep [8, 11, 16, 84] ?_
  (try simp only [c4_34, cw, cops, csW, csL,  reduceIte, Nat.reduceEqDiff, reduceCtorEq, Nat.reduceAdd, Nat.reduceLT, Nat.reduceLeDiff, Nat.reduceSub, csE, htop])
  (repeat refine And.intro (by first | omega | (simp; omega)) ?_)
  (try simp only [cw, cops, csW, csL,  reduceIte, Nat.reduceEqDiff, reduceCtorEq, Nat.reduceAdd, Nat.reduceLT, Nat.reduceLeDiff, Nat.reduceSub, csE, htop])
  (repeat refine And.intro (by first | omega | (simp; omega)) ?_)
  refine keep [8, 11, 16] ?_
  (try simp only [c4_91, c4_37, l4_36, cw, cops, csW, csL,  reduceIte, Nat.reduceEqDiff, reduceCtorEq, Nat.reduceAdd, Nat.reduceLT, Nat.reduceLeDiff, Nat.reduceSub, csE, htop])
  (repeat refine And.intro (by first | omega | (simp; omega)) ?_)
  refine keep [8, 11, 16, 18] ?_
  (try simp only [c4_90, c4_39, l4_38, cw, cops, csW, csL,  reduceIte, Nat.reduceEqDiff, reduceCtorEq, Nat.reduceAdd, Nat.reduceLT, Nat.reduceLeDiff, Nat.reduceSub, csE, htop])
  (repeat refine And.intro (by first | omega | (simp; omega)) ?_)
  refine keep [8, 11, 16, 18, 19] ?_
  (try simp only [c4_89, c4_85, c4_41, l4_40, cw, cops, csW, csL,  reduceIte, Nat.reduceEqDiff, reduceCtorEq, Nat.reduceAdd, Nat.reduceLT, Nat.reduceLeDiff, Nat.reduceSub, csE, htop])
  (repeat refine And.intro (by first | omega | (simp; omega)) ?_)
  refine keep [8, 11, 16, 18, 19, 20] ?_
  (try simp only [c4_84, cw, cops, csW, csL,  reduceIte, Nat.reduceEqDiff, reduceCtorEq, Nat.reduceAdd, Nat.reduceLT, Nat.reduceLeDiff, Nat.reduceSub, csE, htop])
  refine loop_of (ι := Nat × Nat × Nat) (fun s => s.1 ≤ A.length ∧ s.2.1 ≤ B.length ∧ s.2.2 ≤ C.length ∧ Mg (A.drop s.1) (B.drop s.2.1) (C.drop s.2.2)) (fun s => ⟨look [(8, .p (.list 36 2 (A.map sD))), (11, .p (.list 36 2 (B.map sD))), (16, .p (.list 36 2 (C.map sD))), (18, .p (I s.1)), (19, .p (I s.2.1)), (20, .p (I s.2.2))], lookM []⟩) (fun s => C.length - s.2.2) (0, 0, 0) ⟨Nat.zero_le _, Nat.zero_le _, Nat.zero_le _, hmg⟩ (Sub.toG [8, 11, 16, 18, 19, 20] [9, 12, 14, 17] (by rfl) (by rfl) (by rfl) (by rfl)) ?_
  rintro ⟨i, j, k⟩ ⟨hi, hj, hk, hI⟩
  simp only at hi hj hk hI
  by_cases h : k < C.length
  · have hkI : (k : Int) < (C.length : Int) := by omega
    rw [drop_at h] at hI
    obtain ⟨h1, h2⟩ := hI.step
    rw [← nx_drop, ← nx_drop] at h2
    (try simp only [c4_82, c4_45, c4_43, l4_42, cw, cops, csW, csL,  reduceIte, Nat.reduceEqDiff, reduceCtorEq, Nat.reduceAdd, Nat.reduceLT, Nat.reduceLeDiff, Nat.reduceSub, csE, hkI, List.length_map])
    (repeat refine And.intro (by first | omega | (simp; omega)) ?_)
    refine keep [8, 11, 16, 18, 19, 20, 88] ?_
    (try simp only [c4_44, cw, cops, csW, csL,  reduceIte, Nat.reduceEqDiff, reduceCtorEq, Nat.reduceAdd, Nat.reduceLT, Nat.reduceLeDiff, Nat.reduceSub, csE, hkI, List.length_map])
    (repeat refine And.intro (by first | omega | (simp; omega)) ?_)
    (try simp only [cw, cops, csW, csL,  reduceIte, Nat.reduceEqDiff, reduceCtorEq, Nat.reduceAdd, Nat.reduceLT, Nat.reduceLeDiff, Nat.reduceSub, csE, hkI, List.length_map])
    (repeat refine And.intro (by first | omega | (simp; omega)) ?_)
    refine keep [8, 11, 16, 18, 19, 20] ?_
    (try simp only [c4_81, c4_78, c4_77, c4_47, l4_46, cw, cops, csW, csL,  reduceIte, Nat.reduceEqDiff, reduceCtorEq, Nat.reduceAdd, Nat.reduceLT, Nat.reduceLeDiff, Nat.reduceSub, csE, hkI, List.length_map])
    (repeat refine And.intro (by first | omega | (simp; omega)) ?_)
    refine ⟨_, (Sub.toG [8, 11, 16, 18, 19, 20, 21] [9, 12, 14, 17] (by rfl) (by rfl) (by rfl) (by rfl)).tr (Sub.rf _), ?_⟩
    refine uni_k A B C i j k hA hB hC hi hj h h1 _ fun t ht => ⟨_, ht, ?_⟩
    (try simp only [c4_80, l4_79, cw, cops, csW, csL,  reduceIte, Nat.reduceEqDiff, reduceCtorEq, Nat.reduceAdd, Nat.reduceLT, Nat.reduceLeDiff, Nat.reduceSub, csE, hkI, List.length_map])
    (repeat refine And.intro (by first | omega | (simp; omega)) ?_)
    exact ⟨(nx A i (C.getD k ([], 0)).1, nx B j (C.getD k ([], 0)).1, k + 1), ⟨nx_le hi, nx_le hj, h, h2⟩, (Sub.toG [8, 11, 16, 18, 19, 20] [9, 12, 14, 17] (by rfl) (by rfl) (by rfl) (by rfl)), by first | omega | (simp only; omega)⟩
  · have hkI : ¬ (k : Int) < (C.length : Int) := by omega
    rw [List.drop_of_length_le (by omega : C.length ≤ k)] at hI
    have e1 := congrArg List.length hI.nil
    have e2 := congrArg List.length hI.symm.nil
    simp only [List.length_drop, List.length_nil] at e1 e2
    have e3 : (i : Int) = (A.length : Int) := by omega
    have e4 : (j : Int) = (B.length : Int) := by omega
    (try simp only [c4_82, c4_45, c4_43, l4_42, cw, cops, csW, csL,  reduceIte, Nat.reduceEqDiff, reduceCtorEq, Nat.reduceAdd, Nat.reduceLT, Nat.reduceLeDiff, Nat.reduceSub, csE, hkI, List.length_map])
    (repeat refine And.intro (by first | omega | (simp; omega)) ?_)
    refine keep [8, 11, 16, 18, 19, 20, 88] ?_
    (try simp only [c4_44, cw, cops, csW, csL,  reduceIte, Nat.reduceEqDiff, reduceCtorEq, Nat.reduceAdd, Nat.reduceLT, Nat.reduceLeDiff, Nat.reduceSub, csE, hkI, List.length_map])
    (repeat refine And.intro (by first | omega | (simp; omega)) ?_)
    (try simp only [cw, cops, csW, csL,  reduceIte, Nat.reduceEqDiff, reduceCtorEq, Nat.reduceAdd, Nat.reduceLT, Nat.reduceLeDiff, Nat.reduceSub, csE, hkI, List.length_map, e3, e4])
    (repeat refine And.intro (by first | omega | (simp; omega)) ?_)
    refine keep [8, 11, 18, 19] ?_
    (try simp only [c4_88, c4_87, l4_86, cw, cops, csW, csL,  reduceIte, Nat.reduceEqDiff, reduceCtorEq, Nat.reduceAdd, Nat.reduceLT, Nat.reduceLeDiff, Nat.reduceSub, csE, hkI, List.length_map, e3, e4])
    (repeat refine And.intro (by first | omega | (simp; omega)) ?_)
    refine keep [6] ?_
    (try simp only [cw, cops, csW, csL,  reduceIte, Nat.reduceEqDiff, reduceCtorEq, Nat.reduceAdd, Nat.reduceLT, Nat.reduceLeDiff, Nat.reduceSub, csE, Ends, resD, resL, resV, hkI, List.length_map, e3, e4])
    (repeat refine And.intro (by first | omega | (simp; omega)) ?_)
end Go.Proofs.Ytlnhembcfhfpkaa.M
