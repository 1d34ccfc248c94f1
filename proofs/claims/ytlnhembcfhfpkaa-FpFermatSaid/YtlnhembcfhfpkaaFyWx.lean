/- Polynomials modulo a prime: the law of Fermat walked. -/
import Derived.Test.YtlnhembcfhfpkaaFyVx
import Derived.Test.YtlnhembcfhfpkaaFxJx
import Derived.Test.YtlnhembcfhfpkaaK5
namespace Go.Proofs.Ytlnhembcfhfpkaa.M
open Go.RowKit Go.Proofs.Ytlnhembcfhfpkaa.Fx
set_option linter.unusedSimpArgs false
set_option linter.unusedVariables false
variable {P : Pr}
theorem isI_irr {F : Po P} (hF : F ≠ 0) (hl : dg F ≤ 65) (h : isI F = true) : Irr (mon F) := by
  have h1 : (facL F).map (fun x => x.2) = [1] := of_decide_eq_true h
  have hlen : (facL F).length = 1 := by have := congrArg List.length h1; simpa using this
  obtain ⟨x, hx⟩ := List.length_eq_one_iff.1 hlen
  rw [hx] at h1
  obtain ⟨g, hg, hi, hd, hv⟩ := (facL_mem hF hl x).1 (by rw [hx]; exact List.mem_singleton.2 rfl)
  have hx2 : x.2 = 1 := by simpa using h1
  have e : mon F = g := mo_eq (mon_mo hF) hi.mo fun q hq => by
    rw [val_mon hq hF]
    by_cases hqF : q ∣ F
    · have := (facL_mem hF hl (q.l, (val q F : Int))).2 ⟨q, rfl, hq, hqF, rfl⟩
      rw [hx, List.mem_singleton] at this
      have e2 : q = g := Po.ext (by rw [← hg, ← this])
      subst e2
      rw [val_self hq]
      have : (val q F : Int) = 1 := by rw [← hv, hx2]
      omega
    · rw [val_0 hqF hq, val_irr hq hi]
      rintro rfl
      exact hqF hd
  rw [e]; exact hi
theorem mon_dvd_iff {F : Po P} (hF : F ≠ 0) (a : Po P) : mon F ∣ a ↔ F ∣ a := ⟨fun h => dvd_trans (dvd_mon F) h, fun h => dvd_trans (mon_dvd hF) h⟩
noncomputable def wF (F : Po P) (i : Nat) : Po P := rm (pw X (pn P ^ i)) F
theorem wF_0 {F : Po P} (hF : F ≠ 0) : powP [0, 1] 1 F.l P.p = (wF F 0).l := by
  rw [← X_l (P := P), powP_ok hF]; rfl
theorem wF_s {F : Po P} (hF : F ≠ 0) (i : Nat) : powP (wF F i).l (pn P) F.l P.p = (wF F (i + 1)).l := by
  rw [powP_ok hF]
  unfold wF
  congr 1
  refine rm_cong hF ?_
  rw [Nat.pow_succ, pw_pw]
  have h1 : F ∣ pw X (pn P ^ i) - rm (pw X (pn P ^ i)) F := dvd_rm hF
  have key : ∀ (a b : Po P), F ∣ a - b → ∀ n, F ∣ pw a n - pw b n := by
    intro a b h n
    induction n with
    | zero => rw [pw_0, pw_0, sub_self]; exact dvd_0 F
    | succ n ih =>
      rw [pw_s, pw_s]
      have e : pw a n * a - pw b n * b = (pw a n - pw b n) * a + pw b n * (a - b) := rg_ [pw a n, pw b n, a, b] (x0 * x2 - x1 * x3) ((x0 - x1) * x2 + x1 * (x2 - x3))
      rw [e]
      exact dvd_add (dvd_mul_of ih a) (dvd_mul_of' h _)
  exact key _ _ (by
    have e : rm (pw X (pn P ^ i)) F - pw X (pn P ^ i) = -(pw X (pn P ^ i) - rm (pw X (pn P ^ i)) F) := rg_ [rm (pw X (pn P ^ i)) F, pw X (pn P ^ i)] (x0 - x1) (-(x1 - x0))
    rw [e]; exact dvd_neg h1) _
theorem wF_dg {F : Po P} (hF : F ≠ 0) (i : Nat) : dg (wF F i) < dg F := rm_dg _ hF
theorem fermat_end {F : Po P} (hF : F ≠ 0) (hl : dg F ≤ 65) (h2 : 1 < dg F) (h : isI F = true) (n : Nat) : decide ((wF F n).l = (wF F 0).l) = decide ((n : Int).tmod ((F.l.length : Int) - 1) = 0) := by
  have hi := isI_irr hF hl h
  obtain ⟨d, hd⟩ : ∃ d, dg F = d + 1 := ⟨dg F - 1, by omega⟩
  have hm : dg (mon F) = d + 1 := by rw [mon_dg, hd]
  have h1 : (wF F n).l = (wF F 0).l ↔ n % d = 0 := by
    rw [← fermat hi hm n, mon_dvd_iff hF, ← rm_eq_iff hF]
    have e0 : wF F 0 = rm X F := by unfold wF; rw [Nat.pow_zero, pw_1]
    rw [← e0]
    exact ⟨fun h => Po.ext h, fun h => by show (wF F n).l = _; unfold wF at h ⊢; rw [h]⟩
  have h3 : (F.l.length : Int) - 1 = (d : Int) := by have : F.l.length = d + 1 := hd; omega
  rw [h3, tm (by omega)]
  refine decide_eq_decide.2 ?_
  rw [h1]
  omega
set_option maxRecDepth 20000 in
set_option maxHeartbeats 1000000 in
theorem fermat_early {T : Nat} (f : List Int) (n p : Int) (b : Bool) (c a : Int) (hI : Con Try.prog [] 15 [LT T f, I p] (.tup [.bool b, flt c a])) (h : ¬ (c = 0 ∧ 1 ≤ n ∧ n ≤ 12 ∧ b = true)) : Con Try.prog [] 5 [LT T f, I n, I p] (.bool true) := by
  by_cases h1 : c = 0 ∧ 1 ≤ n ∧ n ≤ 64
  · obtain ⟨rfl, h2, h3⟩ := h1
    have h4 : ¬ n < 1 := by omega
    have h5 : ¬ 64 < n := by omega
    have h6 : (!b || decide (12 < n)) = true := by
      rcases b with _ | _
      · rfl
      · simp; by_cases hh : 12 < n
        · exact hh
        · exact absurd ⟨rfl, h2, by omega, rfl⟩ h
    refine fn5.con rfl (by simp) ?_
    (try simp only [init3, c5, c5_60, c5_1, l5_0, cw, cops, csW, csL,  reduceIte, Nat.reduceEqDiff, reduceCtorEq, Nat.reduceAdd, Nat.reduceLT, Nat.reduceLeDiff, Nat.reduceSub, csE])
    (repeat refine And.intro (by first | omega | (simp; omega)) ?_)
    refine keep [0, 1, 2] ?_
    (try simp only [c5_59, c5_4, l5_2, cw, cops, csW, csL,  reduceIte, Nat.reduceEqDiff, reduceCtorEq, Nat.reduceAdd, Nat.reduceLT, Nat.reduceLeDiff, Nat.reduceSub, csE])
    (repeat refine And.intro (by first | omega | (simp; omega)) ?_)
    refine ⟨_, cx (hI), ?_⟩
    (try simp only [l5_3, cw, cops, csW, csL,  reduceIte, Nat.reduceEqDiff, reduceCtorEq, Nat.reduceAdd, Nat.reduceLT, Nat.reduceLeDiff, Nat.reduceSub, csE])
    (repeat refine And.intro (by first | omega | (simp; omega)) ?_)
    refine keep [0, 1, 2, 7, 8] ?_
    (try simp only [c5_58, c5_12, c5_7, l5_5, cw, cops, csW, csL,  reduceIte, Nat.reduceEqDiff, reduceCtorEq, Nat.reduceAdd, Nat.reduceLT, Nat.reduceLeDiff, Nat.reduceSub, csE])
    (repeat refine And.intro (by first | omega | (simp; omega)) ?_)
    refine ⟨_, cx (fpBegun_con), ?_⟩
    (try simp only [l5_6, cw, cops, csW, csL,  reduceIte, Nat.reduceEqDiff, reduceCtorEq, Nat.reduceAdd, Nat.reduceLT, Nat.reduceLeDiff, Nat.reduceSub, csE])
    (repeat refine And.intro (by first | omega | (simp; omega)) ?_)
    refine keep [0, 1, 2, 7, 8, 19] ?_
    (try simp only [c5_11, cw, cops, csW, csL,  reduceIte, Nat.reduceEqDiff, reduceCtorEq, Nat.reduceAdd, Nat.reduceLT, Nat.reduceLeDiff, Nat.reduceSub, csE])
    (repeat refine And.intro (by first | omega | (simp; omega)) ?_)
    (try simp only [cw, cops, csW, csL,  reduceIte, Nat.reduceEqDiff, reduceCtorEq, Nat.reduceAdd, Nat.reduceLT, Nat.reduceLeDiff, Nat.reduceSub, csE, h4, h5])
    (repeat refine And.intro (by first | omega | (simp; omega)) ?_)
    refine keep [0, 1, 2, 7, 8] ?_
    (try simp only [c5_57, c5_19, c5_14, l5_13, cw, cops, csW, csL,  reduceIte, Nat.reduceEqDiff, reduceCtorEq, Nat.reduceAdd, Nat.reduceLT, Nat.reduceLeDiff, Nat.reduceSub, csE, h4, h5])
    (repeat refine And.intro (by first | omega | (simp; omega)) ?_)
    refine keep [0, 1, 2, 7, 8, 30] ?_
    (try simp only [c5_18, cw, cops, csW, csL,  reduceIte, Nat.reduceEqDiff, reduceCtorEq, Nat.reduceAdd, Nat.reduceLT, Nat.reduceLeDiff, Nat.reduceSub, csE, h4, h5])
    (repeat refine And.intro (by first | omega | (simp; omega)) ?_)
    rcases b with _ | _
    · (try simp only [cw, cops, csW, csL,  reduceIte, Nat.reduceEqDiff, reduceCtorEq, Nat.reduceAdd, Nat.reduceLT, Nat.reduceLeDiff, Nat.reduceSub, csE, h4, h5])
      (repeat refine And.intro (by first | omega | (simp; omega)) ?_)
      refine keep [0, 1, 2, 7, 8] ?_
      (try simp only [c5_56, c5_26, c5_21, l5_20, cw, cops, csW, csL,  reduceIte, Nat.reduceEqDiff, reduceCtorEq, Nat.reduceAdd, Nat.reduceLT, Nat.reduceLeDiff, Nat.reduceSub, csE, h4, h5])
      (repeat refine And.intro (by first | omega | (simp; omega)) ?_)
      refine keep [0, 1, 2, 8, 36] ?_
      (try simp only [c5_25, cw, cops, csW, csL,  reduceIte, Nat.reduceEqDiff, reduceCtorEq, Nat.reduceAdd, Nat.reduceLT, Nat.reduceLeDiff, Nat.reduceSub, csE, h4, h5])
      (repeat refine And.intro (by first | omega | (simp; omega)) ?_)
      (try simp only [c5_24, c5_23, l5_22, cw, cops, csW, csL,  reduceIte, Nat.reduceEqDiff, reduceCtorEq, Nat.reduceAdd, Nat.reduceLT, Nat.reduceLeDiff, Nat.reduceSub, csE, h4, h5])
      (repeat refine And.intro (by first | omega | (simp; omega)) ?_)
      refine keep [6] ?_
      (try simp only [cw, cops, csW, csL,  reduceIte, Nat.reduceEqDiff, reduceCtorEq, Nat.reduceAdd, Nat.reduceLT, Nat.reduceLeDiff, Nat.reduceSub, csE, Ends, resD, resL, resV, h4, h5])
      (repeat refine And.intro (by first | omega | (simp; omega)) ?_)
    · have h7 : 12 < n := by simpa using h6
      (try simp only [cw, cops, csW, csL,  reduceIte, Nat.reduceEqDiff, reduceCtorEq, Nat.reduceAdd, Nat.reduceLT, Nat.reduceLeDiff, Nat.reduceSub, csE, h4, h5, h7])
      (repeat refine And.intro (by first | omega | (simp; omega)) ?_)
      refine keep [0, 1, 2, 7, 8] ?_
      (try simp only [c5_56, c5_26, c5_21, l5_20, cw, cops, csW, csL,  reduceIte, Nat.reduceEqDiff, reduceCtorEq, Nat.reduceAdd, Nat.reduceLT, Nat.reduceLeDiff, Nat.reduceSub, csE, h4, h5, h7])
      (repeat refine And.intro (by first | omega | (simp; omega)) ?_)
      refine keep [0, 1, 2, 8, 36] ?_
      (try simp only [c5_25, cw, cops, csW, csL,  reduceIte, Nat.reduceEqDiff, reduceCtorEq, Nat.reduceAdd, Nat.reduceLT, Nat.reduceLeDiff, Nat.reduceSub, csE, h4, h5, h7])
      (repeat refine And.intro (by first | omega | (simp; omega)) ?_)
      (try simp only [c5_24, c5_23, l5_22, cw, cops, csW, csL,  reduceIte, Nat.reduceEqDiff, reduceCtorEq, Nat.reduceAdd, Nat.reduceLT, Nat.reduceLeDiff, Nat.reduceSub, csE, h7])
      (repeat refine And.intro (by first | omega | (simp; omega)) ?_)
      refine keep [6] ?_
      (try simp only [cw, cops, csW, csL,  reduceIte, Nat.reduceEqDiff, reduceCtorEq, Nat.reduceAdd, Nat.reduceLT, Nat.reduceLeDiff, Nat.reduceSub, csE, Ends, resD, resL, resV, h7])
      (repeat refine And.intro (by first | omega | (simp; omega)) ?_)
  · have h2 : (decide (c ≠ 0) || decide (n < 1) || decide (64 < n)) = true := by
      simp only [Bool.or_eq_true, decide_eq_true_eq]
      omega
    refine fn5.con rfl (by simp) ?_
    (try simp only [init3, c5, c5_60, c5_1, l5_0, cw, cops, csW, csL,  reduceIte, Nat.reduceEqDiff, reduceCtorEq, Nat.reduceAdd, Nat.reduceLT, Nat.reduceLeDiff, Nat.reduceSub, csE])
    (repeat refine And.intro (by first | omega | (simp; omega)) ?_)
    refine keep [0, 1, 2] ?_
    (try simp only [c5_59, c5_4, l5_2, cw, cops, csW, csL,  reduceIte, Nat.reduceEqDiff, reduceCtorEq, Nat.reduceAdd, Nat.reduceLT, Nat.reduceLeDiff, Nat.reduceSub, csE])
    (repeat refine And.intro (by first | omega | (simp; omega)) ?_)
    refine ⟨_, cx (hI), ?_⟩
    (try simp only [l5_3, cw, cops, csW, csL,  reduceIte, Nat.reduceEqDiff, reduceCtorEq, Nat.reduceAdd, Nat.reduceLT, Nat.reduceLeDiff, Nat.reduceSub, csE])
    (repeat refine And.intro (by first | omega | (simp; omega)) ?_)
    refine keep [0, 1, 2, 7, 8] ?_
    (try simp only [c5_58, c5_12, c5_7, l5_5, cw, cops, csW, csL,  reduceIte, Nat.reduceEqDiff, reduceCtorEq, Nat.reduceAdd, Nat.reduceLT, Nat.reduceLeDiff, Nat.reduceSub, csE])
    (repeat refine And.intro (by first | omega | (simp; omega)) ?_)
    refine ⟨_, cx (fpBegun_con), ?_⟩
    (try simp only [l5_6, cw, cops, csW, csL,  reduceIte, Nat.reduceEqDiff, reduceCtorEq, Nat.reduceAdd, Nat.reduceLT, Nat.reduceLeDiff, Nat.reduceSub, csE])
    (repeat refine And.intro (by first | omega | (simp; omega)) ?_)
    refine keep [0, 1, 2, 7, 8, 19] ?_
    (try simp only [c5_11, cw, cops, csW, csL,  reduceIte, Nat.reduceEqDiff, reduceCtorEq, Nat.reduceAdd, Nat.reduceLT, Nat.reduceLeDiff, Nat.reduceSub, csE])
    (repeat refine And.intro (by first | omega | (simp; omega)) ?_)
    by_cases hc : c = 0
    · by_cases hn : n < 1
      · (try simp only [cw, cops, csW, csL,  reduceIte, Nat.reduceEqDiff, reduceCtorEq, Nat.reduceAdd, Nat.reduceLT, Nat.reduceLeDiff, Nat.reduceSub, csE, hc, hn])
        (repeat refine And.intro (by first | omega | (simp; omega)) ?_)
        refine keep [0, 1, 2, 7, 8] ?_
        (try simp only [c5_57, c5_19, c5_14, l5_13, cw, cops, csW, csL,  reduceIte, Nat.reduceEqDiff, reduceCtorEq, Nat.reduceAdd, Nat.reduceLT, Nat.reduceLeDiff, Nat.reduceSub, csE, hc, hn])
        (repeat refine And.intro (by first | omega | (simp; omega)) ?_)
        refine keep [0, 1, 2, 7, 8, 30] ?_
        (try simp only [c5_18, cw, cops, csW, csL,  reduceIte, Nat.reduceEqDiff, reduceCtorEq, Nat.reduceAdd, Nat.reduceLT, Nat.reduceLeDiff, Nat.reduceSub, csE, hc, hn])
        (repeat refine And.intro (by first | omega | (simp; omega)) ?_)
        (try simp only [c5_17, c5_16, l5_15, cw, cops, csW, csL,  reduceIte, Nat.reduceEqDiff, reduceCtorEq, Nat.reduceAdd, Nat.reduceLT, Nat.reduceLeDiff, Nat.reduceSub, csE, hc, hn])
        (repeat refine And.intro (by first | omega | (simp; omega)) ?_)
        refine keep [6] ?_
        (try simp only [cw, cops, csW, csL,  reduceIte, Nat.reduceEqDiff, reduceCtorEq, Nat.reduceAdd, Nat.reduceLT, Nat.reduceLeDiff, Nat.reduceSub, csE, Ends, resD, resL, resV, hc, hn])
        (repeat refine And.intro (by first | omega | (simp; omega)) ?_)
      · have hn2 : 64 < n := by omega
        (try simp only [cw, cops, csW, csL,  reduceIte, Nat.reduceEqDiff, reduceCtorEq, Nat.reduceAdd, Nat.reduceLT, Nat.reduceLeDiff, Nat.reduceSub, csE, hc, hn, hn2])
        (repeat refine And.intro (by first | omega | (simp; omega)) ?_)
        refine keep [0, 1, 2, 7, 8] ?_
        (try simp only [c5_57, c5_19, c5_14, l5_13, cw, cops, csW, csL,  reduceIte, Nat.reduceEqDiff, reduceCtorEq, Nat.reduceAdd, Nat.reduceLT, Nat.reduceLeDiff, Nat.reduceSub, csE, hc, hn, hn2])
        (repeat refine And.intro (by first | omega | (simp; omega)) ?_)
        refine keep [0, 1, 2, 7, 8, 30] ?_
        (try simp only [c5_18, cw, cops, csW, csL,  reduceIte, Nat.reduceEqDiff, reduceCtorEq, Nat.reduceAdd, Nat.reduceLT, Nat.reduceLeDiff, Nat.reduceSub, csE, hc, hn, hn2])
        (repeat refine And.intro (by first | omega | (simp; omega)) ?_)
        (try simp only [c5_17, c5_16, l5_15, cw, cops, csW, csL,  reduceIte, Nat.reduceEqDiff, reduceCtorEq, Nat.reduceAdd, Nat.reduceLT, Nat.reduceLeDiff, Nat.reduceSub, csE, hc, hn, hn2])
        (repeat refine And.intro (by first | omega | (simp; omega)) ?_)
        refine keep [6] ?_
        (try simp only [cw, cops, csW, csL,  reduceIte, Nat.reduceEqDiff, reduceCtorEq, Nat.reduceAdd, Nat.reduceLT, Nat.reduceLeDiff, Nat.reduceSub, csE, Ends, resD, resL, resV, hc, hn, hn2])
        (repeat refine And.intro (by first | omega | (simp; omega)) ?_)
    · (try simp only [cw, cops, csW, csL,  reduceIte, Nat.reduceEqDiff, reduceCtorEq, Nat.reduceAdd, Nat.reduceLT, Nat.reduceLeDiff, Nat.reduceSub, csE, hc])
      (repeat refine And.intro (by first | omega | (simp; omega)) ?_)
      refine keep [0, 1, 2, 7, 8] ?_
      (try simp only [c5_57, c5_19, c5_14, l5_13, cw, cops, csW, csL,  reduceIte, Nat.reduceEqDiff, reduceCtorEq, Nat.reduceAdd, Nat.reduceLT, Nat.reduceLeDiff, Nat.reduceSub, csE, hc])
      (repeat refine And.intro (by first | omega | (simp; omega)) ?_)
      refine keep [0, 1, 2, 7, 8, 30] ?_
      (try simp only [c5_18, cw, cops, csW, csL,  reduceIte, Nat.reduceEqDiff, reduceCtorEq, Nat.reduceAdd, Nat.reduceLT, Nat.reduceLeDiff, Nat.reduceSub, csE, hc])
      (repeat refine And.intro (by first | omega | (simp; omega)) ?_)
      (try simp only [c5_17, c5_16, l5_15, cw, cops, csW, csL,  reduceIte, Nat.reduceEqDiff, reduceCtorEq, Nat.reduceAdd, Nat.reduceLT, Nat.reduceLeDiff, Nat.reduceSub, csE, hc])
      (repeat refine And.intro (by first | omega | (simp; omega)) ?_)
      refine keep [6] ?_
      (try simp only [cw, cops, csW, csL,  reduceIte, Nat.reduceEqDiff, reduceCtorEq, Nat.reduceAdd, Nat.reduceLT, Nat.reduceLeDiff, Nat.reduceSub, csE, Ends, resD, resL, resV, hc])
      (repeat refine And.intro (by first | omega | (simp; omega)) ?_)
set_option maxRecDepth 20000 in
set_option maxHeartbeats 4000000 in
theorem fermat_main {T : Nat} (F : Po P) (n : Nat) (hl : dg F ≤ 65) (h2 : 1 < dg F) (hi : isI F = true) (hn : 1 ≤ n ∧ n ≤ 12) : Con Try.prog [] 5 [LT T F.l, I n, I P.p] (.bool true) := by
  have hF : F ≠ 0 := fun h => by rw [h, dg_0] at h2; omega
  have hI := eirr_ok (T := T) F hl h2
  rw [hi] at hI
  have hp := P.h.pos
  have h4 : ¬ (n : Int) < 1 := by omega
  have h5 : ¬ (64 : Int) < (n : Int) := by omega
  have h7 : ¬ (12 : Int) < (n : Int) := by omega
  have hlL : F.l.length ≤ 65 := hl
  have hlG : 1 < F.l.length := h2
  have gF := gp F hl
  have hX : dg (X : Po P) ≤ 65 := by unfold dg; rw [X_l]; decide
  have gX := gp (X : Po P) hX
  have cP : ∀ {T T' : Nat} (a : Po P) (k : Nat), dg a ≤ 65 → k ≤ 1073741824 → Con Try.prog [] 16 [LT T a.l, I k, LT T' F.l, I P.p] (.tup [L (powP a.l k F.l P.p), flt 0 0]) := by
    intro T T' a k ha hk
    have := ePower_con (T := T) (T' := T') a.l F.l (k : Int) P.p (by omega)
    have hc : chk2 a.l F.l P.p = (0, 0) := by unfold chk2; rw [(gp a ha).chk, if_pos rfl, gF.chk]
    have hd : powF a.l F.l (k : Int) P.p = (0, 0) := by unfold powF; rw [hc, if_pos rfl, if_neg (by omega), if_neg (l_ne hF)]
    rw [hd, if_pos rfl] at this
    exact this
  have c1 := cP (T := 3) (T' := T) X 1 hX (by decide)
  rw [X_l, wF_0 hF] at c1
  have hpn : ((pn P : Nat) : Int) = P.p := pn_p P
  have hend := fermat_end hF hl h2 hi n
  have hm : (n : Int).tmod ((F.l.length : Int) - 1) < 65 ∧ 0 ≤ (n : Int).tmod ((F.l.length : Int) - 1) := by
    rw [tm (by omega)]
    have := Int.emod_lt_of_pos (n : Int) (show 0 < (F.l.length : Int) - 1 by omega)
    have := Int.emod_nonneg (n : Int) (show (F.l.length : Int) - 1 ≠ 0 by omega)
    omega
  have hne : ¬ (F.l.length : Int) - 1 = 0 := by omega
  refine fn5.con rfl (by simp) ?_
  (try simp only [init3, c5, c5_60, c5_1, l5_0, cw, cops, csW, csL,  reduceIte, Nat.reduceEqDiff, reduceCtorEq, Nat.reduceAdd, Nat.reduceLT, Nat.reduceLeDiff, Nat.reduceSub, csE, csE])
  (repeat refine And.intro (by first | omega | (simp; omega)) ?_)
  refine keep [0, 1, 2] ?_
  (try simp only [c5_59, c5_4, l5_2, cw, cops, csW, csL,  reduceIte, Nat.reduceEqDiff, reduceCtorEq, Nat.reduceAdd, Nat.reduceLT, Nat.reduceLeDiff, Nat.reduceSub, csE, csE])
  (repeat refine And.intro (by first | omega | (simp; omega)) ?_)
  refine ⟨_, cx (hI), ?_⟩
  (try simp only [l5_3, cw, cops, csW, csL,  reduceIte, Nat.reduceEqDiff, reduceCtorEq, Nat.reduceAdd, Nat.reduceLT, Nat.reduceLeDiff, Nat.reduceSub, csE, csE])
  (repeat refine And.intro (by first | omega | (simp; omega)) ?_)
  refine keep [0, 1, 2, 7, 8] ?_
  (try simp only [c5_58, c5_12, c5_7, l5_5, cw, cops, csW, csL,  reduceIte, Nat.reduceEqDiff, reduceCtorEq, Nat.reduceAdd, Nat.reduceLT, Nat.reduceLeDiff, Nat.reduceSub, csE, csE])
  (repeat refine And.intro (by first | omega | (simp; omega)) ?_)
  refine ⟨_, cx (fpBegun_con), ?_⟩
  (try simp only [l5_6, cw, cops, csW, csL,  reduceIte, Nat.reduceEqDiff, reduceCtorEq, Nat.reduceAdd, Nat.reduceLT, Nat.reduceLeDiff, Nat.reduceSub, csE, csE])
  (repeat refine And.intro (by first | omega | (simp; omega)) ?_)
  refine keep [0, 1, 2, 7, 8, 19] ?_
  (try simp only [c5_11, cw, cops, csW, csL,  reduceIte, Nat.reduceEqDiff, reduceCtorEq, Nat.reduceAdd, Nat.reduceLT, Nat.reduceLeDiff, Nat.reduceSub, csE, csE])
  (repeat refine And.intro (by first | omega | (simp; omega)) ?_)
  (try simp only [cw, cops, csW, csL,  reduceIte, Nat.reduceEqDiff, reduceCtorEq, Nat.reduceAdd, Nat.reduceLT, Nat.reduceLeDiff, Nat.reduceSub, csE, csE, h4, h5])
  (repeat refine And.intro (by first | omega | (simp; omega)) ?_)
  refine keep [0, 1, 2, 7, 8] ?_
  (try simp only [c5_57, c5_19, c5_14, l5_13, cw, cops, csW, csL,  reduceIte, Nat.reduceEqDiff, reduceCtorEq, Nat.reduceAdd, Nat.reduceLT, Nat.reduceLeDiff, Nat.reduceSub, csE, csE, h4, h5])
  (repeat refine And.intro (by first | omega | (simp; omega)) ?_)
  refine keep [0, 1, 2, 7, 8, 30] ?_
  (try simp only [c5_18, cw, cops, csW, csL,  reduceIte, Nat.reduceEqDiff, reduceCtorEq, Nat.reduceAdd, Nat.reduceLT, Nat.reduceLeDiff, Nat.reduceSub, csE, csE, h4, h5])
  (repeat refine And.intro (by first | omega | (simp; omega)) ?_)
  (try simp only [cw, cops, csW, csL,  reduceIte, Nat.reduceEqDiff, reduceCtorEq, Nat.reduceAdd, Nat.reduceLT, Nat.reduceLeDiff, Nat.reduceSub, csE, csE, h4, h5, h7])
  (repeat refine And.intro (by first | omega | (simp; omega)) ?_)
  refine keep [0, 1, 2, 7, 8] ?_
  (try simp only [c5_56, c5_26, c5_21, l5_20, cw, cops, csW, csL,  reduceIte, Nat.reduceEqDiff, reduceCtorEq, Nat.reduceAdd, Nat.reduceLT, Nat.reduceLeDiff, Nat.reduceSub, csE, csE, h4, h5, h7])
  (repeat refine And.intro (by first | omega | (simp; omega)) ?_)
  refine keep [0, 1, 2, 8, 36] ?_
  (try simp only [c5_25, cw, cops, csW, csL,  reduceIte, Nat.reduceEqDiff, reduceCtorEq, Nat.reduceAdd, Nat.reduceLT, Nat.reduceLeDiff, Nat.reduceSub, csE, csE, h4, h5, h7])
  (repeat refine And.intro (by first | omega | (simp; omega)) ?_)
  (try simp only [cw, cops, csW, csL,  reduceIte, Nat.reduceEqDiff, reduceCtorEq, Nat.reduceAdd, Nat.reduceLT, Nat.reduceLeDiff, Nat.reduceSub, csE, csE, h7])
  (repeat refine And.intro (by first | omega | (simp; omega)) ?_)
  refine keep [0, 1, 2, 8] ?_
  (try simp only [c5_55, c5_29, l5_27, cw, cops, csW, csL,  reduceIte, Nat.reduceEqDiff, reduceCtorEq, Nat.reduceAdd, Nat.reduceLT, Nat.reduceLeDiff, Nat.reduceSub, csE, csE, h7])
  (repeat refine And.intro (by first | omega | (simp; omega)) ?_)
  refine ⟨_, cx (c1), ?_⟩
  (try simp only [l5_28, cw, cops, csW, csL,  reduceIte, Nat.reduceEqDiff, reduceCtorEq, Nat.reduceAdd, Nat.reduceLT, Nat.reduceLeDiff, Nat.reduceSub, csE, csE])
  (repeat refine And.intro (by first | omega | (simp; omega)) ?_)
  refine keep [0, 1, 2, 8, 9] ?_
  (try simp only [c5_54, c5_31, l5_30, cw, cops, csW, csL,  reduceIte, Nat.reduceEqDiff, reduceCtorEq, Nat.reduceAdd, Nat.reduceLT, Nat.reduceLeDiff, Nat.reduceSub, csE, csE])
  (repeat refine And.intro (by first | omega | (simp; omega)) ?_)
  refine keep [0, 1, 2, 8, 9, 10] ?_
  (try simp only [c5_53, c5_48, c5_33, l5_32, cw, cops, csW, csL,  reduceIte, Nat.reduceEqDiff, reduceCtorEq, Nat.reduceAdd, Nat.reduceLT, Nat.reduceLeDiff, Nat.reduceSub, csE, csE])
  (repeat refine And.intro (by first | omega | (simp; omega)) ?_)
  refine keep [0, 1, 2, 8, 9, 10, 11] ?_
  (try simp only [c5_47, cw, cops, csW, csL,  reduceIte, Nat.reduceEqDiff, reduceCtorEq, Nat.reduceAdd, Nat.reduceLT, Nat.reduceLeDiff, Nat.reduceSub, csE, csE])
  refine loop_of (ι := Nat) (fun s => s ≤ n) (fun s => ⟨look [(0, .p (LT T F.l)), (1, .p (I n)), (2, .p (I P.p)), (8, .ptr 8 0 0), (9, .p (L (wF F 0).l)), (10, .p (L (wF F s).l)), (11, .p (I s))], lookM [(8, ⟨24, 2, .box (.p (.agg [I 0, I 0])), false⟩)]⟩) (fun s => n - s) 0 (Nat.zero_le _) (Sub.toG [0, 1, 2, 8, 9, 10, 11] [38] (by rfl) (by rfl) (by rfl) (by rfl)) ?_
  intro i hi
  by_cases h : i < n
  · have hI : (i : Int) < (n : Int) := by omega
    have hwd : dg (wF F i) ≤ 65 := by have := wF_dg hF i; omega
    have c2 := cP (T := 3) (T' := T) (wF F i) (pn P) hwd (by omega)
    rw [wF_s hF, hpn] at c2
    (try simp only [c5_45, c5_37, c5_35, l5_34, cw, cops, csW, csL,  reduceIte, Nat.reduceEqDiff, reduceCtorEq, Nat.reduceAdd, Nat.reduceLT, Nat.reduceLeDiff, Nat.reduceSub, csE, csE, hI])
    (repeat refine And.intro (by first | omega | (simp; omega)) ?_)
    refine keep [0, 1, 2, 8, 9, 10, 11, 52] ?_
    (try simp only [c5_36, cw, cops, csW, csL,  reduceIte, Nat.reduceEqDiff, reduceCtorEq, Nat.reduceAdd, Nat.reduceLT, Nat.reduceLeDiff, Nat.reduceSub, csE, csE, hI])
    (repeat refine And.intro (by first | omega | (simp; omega)) ?_)
    (try simp only [cw, cops, csW, csL,  reduceIte, Nat.reduceEqDiff, reduceCtorEq, Nat.reduceAdd, Nat.reduceLT, Nat.reduceLeDiff, Nat.reduceSub, csE, csE, hI])
    (repeat refine And.intro (by first | omega | (simp; omega)) ?_)
    refine keep [0, 1, 2, 8, 9, 10, 11] ?_
    (try simp only [c5_44, c5_41, c5_40, l5_38, cw, cops, csW, csL,  reduceIte, Nat.reduceEqDiff, reduceCtorEq, Nat.reduceAdd, Nat.reduceLT, Nat.reduceLeDiff, Nat.reduceSub, csE, csE, hI])
    (repeat refine And.intro (by first | omega | (simp; omega)) ?_)
    refine ⟨_, cx (c2), ?_⟩
    (try simp only [l5_39, cw, cops, csW, csL,  reduceIte, Nat.reduceEqDiff, reduceCtorEq, Nat.reduceAdd, Nat.reduceLT, Nat.reduceLeDiff, Nat.reduceSub, csE, csE])
    (repeat refine And.intro (by first | omega | (simp; omega)) ?_)
    refine keep [0, 1, 2, 8, 9, 10, 11] ?_
    (try simp only [c5_43, l5_42, cw, cops, csW, csL,  reduceIte, Nat.reduceEqDiff, reduceCtorEq, Nat.reduceAdd, Nat.reduceLT, Nat.reduceLeDiff, Nat.reduceSub, csE, csE])
    (repeat refine And.intro (by first | omega | (simp; omega)) ?_)
    exact ⟨i + 1, by omega, (Sub.toG [0, 1, 2, 8, 9, 10, 11] [38] (by rfl) (by rfl) (by rfl) (by rfl)), by first | omega | (simp only; omega)⟩
  · have hI : ¬ (i : Int) < (n : Int) := by omega
    have hin : i = n := by omega
    subst hin
    have cS := same_con (T := 3) (T' := 3) (wF F i).l (wF F 0).l (by have := wF_dg hF i; unfold dg at this; omega)
    rw [hend] at cS
    (try simp only [c5_45, c5_37, c5_35, l5_34, cw, cops, csW, csL,  reduceIte, Nat.reduceEqDiff, reduceCtorEq, Nat.reduceAdd, Nat.reduceLT, Nat.reduceLeDiff, Nat.reduceSub, csE, csE, hI])
    (repeat refine And.intro (by first | omega | (simp; omega)) ?_)
    refine keep [0, 1, 2, 8, 9, 10, 11, 52] ?_
    (try simp only [c5_36, cw, cops, csW, csL,  reduceIte, Nat.reduceEqDiff, reduceCtorEq, Nat.reduceAdd, Nat.reduceLT, Nat.reduceLeDiff, Nat.reduceSub, csE, csE, hI])
    (repeat refine And.intro (by first | omega | (simp; omega)) ?_)
    (try simp only [cw, cops, csW, csL,  reduceIte, Nat.reduceEqDiff, reduceCtorEq, Nat.reduceAdd, Nat.reduceLT, Nat.reduceLeDiff, Nat.reduceSub, csE, csE, hI])
    (repeat refine And.intro (by first | omega | (simp; omega)) ?_)
    refine keep [0, 1, 8, 9, 10] ?_
    (try simp only [c5_52, c5_51, l5_49, cw, cops, csW, csL,  reduceIte, Nat.reduceEqDiff, reduceCtorEq, Nat.reduceAdd, Nat.reduceLT, Nat.reduceLeDiff, Nat.reduceSub, csE, csE, hI])
    (repeat refine And.intro (by first | omega | (simp; omega)) ?_)
    refine ⟨_, cx (cS), ?_⟩
    (try simp only [l5_50, cw, cops, csW, csL,  reduceIte, Nat.reduceEqDiff, reduceCtorEq, Nat.reduceAdd, Nat.reduceLT, Nat.reduceLeDiff, Nat.reduceSub, csE, csE, hne])
    (repeat refine And.intro (by first | omega | (simp; omega)) ?_)
    refine keep [6] ?_
    (try simp only [cw, cops, csW, csL,  reduceIte, Nat.reduceEqDiff, reduceCtorEq, Nat.reduceAdd, Nat.reduceLT, Nat.reduceLeDiff, Nat.reduceSub, csE, csE, Ends, resD, resL, resV, hne])
    (repeat refine And.intro (by first | omega | (simp; omega)) ?_)
    exact congrArg D.bool (beq_self_eq_true _)
end Go.Proofs.Ytlnhembcfhfpkaa.M
