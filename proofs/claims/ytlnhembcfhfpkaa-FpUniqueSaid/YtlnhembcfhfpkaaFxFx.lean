/- Polynomials modulo a prime: sums of multiples, systems of equations, roots are not more than the degree. -/
import Derived.Test.YtlnhembcfhfpkaaFxEx
namespace Go.Proofs.Ytlnhembcfhfpkaa.Fx
open Go.RowKit Go.Proofs.Ytlnhembcfhfpkaa.M
set_option linter.unusedSimpArgs false
set_option linter.unusedVariables false
variable {P : Pr}
def li (a : Nat → Int) (R : Nat → Po P) (n : Nat) : Po P := sm (fun i => cn (a i) * R i) n
theorem sm_diff {f g : Nat → Po P} {e : Po P} {k : Nat} : ∀ {n : Nat}, k < n → (∀ i, i < n → i ≠ k → f i = g i) → f k = g k + e → sm f n = sm g n + e
  | 0, h, _, _ => by omega
  | n + 1, h, h1, h2 => by
    rw [sm, sm]
    by_cases hk : k = n
    · subst hk
      rw [sm_congr (g := g) fun i hi => h1 i (by omega) (by omega), h2, add_assoc]
    · rw [sm_diff (f := f) (g := g) (e := e) (show k < n by omega) (fun i hi hne => h1 i (by omega) hne) h2, h1 n (by omega) (fun e => hk e.symm)]
      exact rg_ [sm g n, e, g n] (x0 + x1 + x2) (x0 + x2 + x1)
theorem li_dg {a : Nat → Int} {R : Nat → Po P} {d : Nat} : ∀ {n : Nat}, (∀ i, i < n → dg (R i) ≤ d) → dg (li a R n) ≤ d
  | 0, _ => by
    show dg (0 : Po P) ≤ d
    rw [dg_0]; omega
  | n + 1, h => by
    have h1 := li_dg (a := a) (R := R) (d := d) (n := n) fun i hi => h i (by omega)
    have h2 := h n (by omega)
    have h3 : dg (cn (a n) * R n) ≤ dg (R n) := dg_le fun i hi => by rw [co_cn_mul, co_big hi]; simp
    have h4 := dg_add_le (li a R n) (cn (a n) * R n)
    show dg (li a R n + cn (a n) * R n) ≤ d
    omega
theorem dvd_li {a : Nat → Int} {R : Nat → Po P} {q : Po P} : ∀ {n : Nat}, (∀ i, i < n → q ∣ R i) → q ∣ li a R n
  | 0, _ => dvd_0 q
  | n + 1, h => dvd_add (dvd_li fun i hi => h i (by omega)) (dvd_mul_of' (h n (by omega)) _)
theorem co_li (a : Nat → Int) (R : Nat → Po P) (j : Nat) {k : Nat} : ∀ {n : Nat}, k < n → (∀ i, i < n → i ≠ k → (a i * co (R i) j) % P.p = 0) → co (li a R n) j = (a k * co (R k) j) % P.p
  | 0, h, _ => by omega
  | n + 1, h, h1 => by
    show co (li a R n + cn (a n) * R n) j = _
    rw [co_add, co_cn_mul, Int.mul_comm (co (R n) j)]
    by_cases hk : k = n
    · subst hk
      have : co (li a R k) j = 0 := by
        have key : ∀ m, m ≤ k → co (li a R m) j = 0 := by
          intro m
          induction m with
          | zero => intro _; exact co_0 j
          | succ m ih =>
            intro hm
            show co (li a R m + cn (a m) * R m) j = 0
            rw [co_add, co_cn_mul, Int.mul_comm (co (R m) j), ih (by omega), h1 m (by omega) (by omega)]; simp
        exact key k (Nat.le_refl _)
      rw [this, Int.zero_add, Int.emod_emod]
    · rw [co_li a R j (show k < n by omega) fun i hi hne => h1 i (by omega) hne, h1 n (by omega) (fun e => hk e.symm), Int.add_zero, Int.emod_emod]
theorem sm_skip (f : Nat → Po P) {k : Nat} : ∀ {n : Nat}, k ≤ n → sm f (n + 1) = sm (fun i => f (if i < k then i else i + 1)) n + f k
  | 0, h => by
    obtain rfl : k = 0 := by omega
    rfl
  | n + 1, h => by
    rw [sm]
    by_cases hk : k = n + 1
    · subst hk
      rw [sm_congr (f := fun i => f (if i < n + 1 then i else i + 1)) (g := f) fun i hi => by rw [if_pos hi]]
    · rw [sm_skip f (show k ≤ n by omega), sm, if_neg (show ¬ n < k by omega)]
      exact rg_ [sm (fun i => f (if i < k then i else i + 1)) n, f k, f (n + 1)] (x0 + x1 + x2) (x0 + x2 + x1)
theorem hom_sol : ∀ (m n : Nat) (A : Nat → Nat → Int), m < n → ∃ a : Nat → Int, (∃ i, i < n ∧ a i % P.p ≠ 0) ∧ ∀ j, j < m → li a (fun i => (cn (A j i) : Po P)) n = 0 := by
  intro m
  induction m with
  | zero => exact fun n A h => ⟨fun _ => 1, ⟨0, h, by have := P.p2; show (1 : Int) % P.p ≠ 0; rw [em_self (by omega)]; omega⟩, fun j hj => by omega⟩
  | succ m ih =>
    intro n A h
    by_cases h0 : ∀ i, i < n → A m i % P.p = 0
    · obtain ⟨a, h1, h2⟩ := ih n A (by omega)
      refine ⟨a, h1, fun j hj => ?_⟩
      by_cases hjm : j = m
      · subst hjm
        exact sm_zero fun i hi => by show cn (a i) * cn (A j i) = 0; rw [cn_mod (h0 i hi), mul_zero]
      · exact h2 j (by omega)
    · obtain ⟨k, hk, hk0⟩ : ∃ k, k < n ∧ A m k % P.p ≠ 0 := by
        apply Classical.byContradiction
        intro hn
        apply h0
        intro i hi
        apply Classical.byContradiction
        intro h1
        exact hn ⟨i, hi, h1⟩
      obtain ⟨n', rfl⟩ : ∃ n', n = n' + 1 := ⟨n - 1, by omega⟩
      have hr := md (a := A m k) P.pos
      have hinv := cn_inv (P := P) (k := A m k % P.p) (by omega)
      rw [← cn_em] at hinv
      generalize invP (A m k % P.p) P.p = u at hinv
      let s : Nat → Nat := fun i => if i < k then i else i + 1
      obtain ⟨b, ⟨i0, hi0, hb0⟩, hb⟩ := ih n' (fun j i => A j (s i) + -1 * (A j k * (u * A m (s i)))) (by omega)
      let back : Nat → Nat := fun i => if i < k then i else i - 1
      let c : Int := co (li b (fun i => cn (A m (s i))) n' : Po P) 0
      have hc : (cn c : Po P) = li b (fun i => cn (A m (s i))) n' := (eq_cn (li_dg fun i _ => dg_cn_le _)).symm
      let a : Nat → Int := fun i => if i = k then -1 * (u * c) else b (back i)
      have hak : a k = -1 * (u * c) := if_pos rfl
      have has : ∀ i, a (s i) = b i := by
        intro i
        show (if s i = k then _ else b (back (s i))) = _
        have h1 : s i ≠ k := by show (if i < k then i else i + 1) ≠ k; split <;> omega
        rw [if_neg h1]
        have h2 : back (s i) = i := by
          show (if (if i < k then i else i + 1) < k then (if i < k then i else i + 1) else (if i < k then i else i + 1) - 1) = i
          by_cases hik : i < k
          · rw [if_pos hik, if_pos hik]
          · rw [if_neg hik, if_neg (by omega)]; omega
        rw [h2]
      have hsum : ∀ j, li a (fun i => (cn (A j i) : Po P)) (n' + 1) = li b (fun i => cn (A j (s i))) n' + cn (-1 * (u * c)) * cn (A j k) := by
        intro j
        unfold li
        rw [sm_skip _ (show k ≤ n' by omega), hak]
        congr 1
        exact sm_congr fun i _ => by
          show cn (a (s i)) * cn (A j (s i)) = _
          rw [has]
      have hrow : ∀ j, li b (fun i => (cn (A j (s i) + -1 * (A j k * (u * A m (s i)))) : Po P)) n' = li b (fun i => cn (A j (s i))) n' + cn (-1 * (u * c)) * cn (A j k) := by
        intro j
        have e : cn (-1 * (u * c)) * cn (A j k) = li b (fun i => (cn (A m (s i)) : Po P)) n' * (cn (-1) * cn u * cn (A j k)) := by
          rw [← hc, cn_mul, cn_mul]
          exact rg_ [cn (-1), cn u, cn c, cn (A j k)] (x0 * (x1 * x2) * x3) (x2 * (x0 * x1 * x3))
        rw [e]
        unfold li
        rw [← sm_mul, ← sm_add]
        exact sm_congr fun i _ => by
          show cn (b i) * cn (A j (s i) + -1 * (A j k * (u * A m (s i)))) = cn (b i) * cn (A j (s i)) + cn (b i) * cn (A m (s i)) * (cn (-1) * cn u * cn (A j k))
          rw [cn_add, cn_mul, cn_mul, cn_mul]
          exact rg_ [cn (b i), cn (A j (s i)), cn (-1), cn (A j k), cn u, cn (A m (s i))] (x0 * (x1 + x2 * (x3 * (x4 * x5)))) (x0 * x1 + x0 * x5 * (x2 * x4 * x3))
      refine ⟨a, ⟨s i0, ?_, by rw [has]; exact hb0⟩, fun j hj => ?_⟩
      · show (if i0 < k then i0 else i0 + 1) < n' + 1
        split <;> omega
      · rw [hsum]
        by_cases hjm : j = m
        · subst hjm
          rw [← hc, cn_mul, cn_mul]
          have : (cn c : Po P) + cn (-1) * (cn u * cn c) * cn (A j k) = cn c + cn (-1) * cn c * (cn (A j k) * cn u) := rg_ [cn c, cn (-1), cn u, cn (A j k)] (x0 + x1 * (x2 * x0) * x3) (x0 + x1 * x0 * (x3 * x2))
          rw [this, hinv]
          exact rg_ [cn c] (.add x0 (.mul (.mul (.c (-1)) x0) 1)) 0 (by intro r; show r 0 + -1 * r 0 * 1 = 0; omega)
        · have := hb j (by omega)
          rw [hrow] at this
          exact this
def hv : List (Po P) → Po P → Po P
  | [], _ => 0
  | a :: c, y => a + y * hv c y
def dd (z : Po P) : List (Po P) → List (Po P)
  | [] => []
  | [_] => []
  | _ :: b :: c => hv (b :: c) z :: dd z (b :: c)
theorem dd_ok (z y : Po P) : ∀ c : List (Po P), hv c y - hv c z = (y - z) * hv (dd z c) y
  | [] => by
    show (0 : Po P) - 0 = (y - z) * 0
    rw [mul_zero, sub_self]
  | [a] => by
    exact rg_ [a, y, z] (x0 + x1 * 0 - (x0 + x2 * 0)) ((x1 - x2) * 0)
  | a :: b :: c => by
    rw [dd, hv, show hv (a :: b :: c) z = a + z * hv (b :: c) z from rfl, show hv (hv (b :: c) z :: dd z (b :: c)) y = hv (b :: c) z + y * hv (dd z (b :: c)) y from rfl]
    have ih := dd_ok z y (b :: c)
    generalize hv (b :: c) y = A at *
    generalize hv (b :: c) z = B at *
    generalize hv (dd z (b :: c)) y = C at *
    have e : A = B + (y - z) * C := by rw [← ih]; exact rg_ [A, B] x0 (x1 + (x0 - x1))
    rw [e]
    exact rg_ [a, y, B, z, C] (x0 + x1 * (x2 + (x1 - x3) * x4) - (x0 + x3 * x2)) ((x1 - x3) * (x2 + x1 * x4))
theorem dd_len (z : Po P) : ∀ c : List (Po P), (dd z c).length = c.length - 1
  | [] => rfl
  | [_] => rfl
  | _ :: b :: c => by rw [dd, List.length_cons, dd_len z (b :: c)]; simp
theorem dd_last (z : Po P) : ∀ c : List (Po P), 2 ≤ c.length → (dd z c).getD (c.length - 2) 0 = c.getD (c.length - 1) 0
  | [], h => by simp at h
  | [_], h => by simp at h
  | [a, b], _ => by
    show hv [b] z = b
    rw [hv, hv, mul_zero, add_zero]
  | a :: b :: c :: d, _ => by
    have := dd_last z (b :: c :: d) (by simp)
    rw [dd]
    simpa using this
theorem root_bound {q : Po P} (hq : Irr q) : ∀ (n : Nat) (c ys : List (Po P)), c.length = n + 1 → n < ys.length → (∀ y ∈ ys, q ∣ hv c y) → ys.Pairwise (fun x y => ¬ q ∣ y - x) → q ∣ c.getD n 0 := by
  intro n
  induction n with
  | zero =>
    intro c ys hc hy hr _
    match c, ys, hc, hy with
    | [a], y :: ys, _, _ =>
      have := hr y (by simp)
      rw [hv, hv, mul_zero, add_zero] at this
      exact this
  | succ n ih =>
    intro c ys hc hy hr hp
    match ys, hy with
    | z :: ys, hy =>
      have h1 := ih (dd z c) ys (by rw [dd_len]; omega) (by simpa using hy) (fun y hy => by
        have h2 : q ∣ (y - z) * hv (dd z c) y := by
          rw [← dd_ok]
          exact dvd_sub (hr y (by simp [hy])) (hr z (by simp))
        rcases hq.pr h2 with h3 | h3
        · exact absurd h3 ((List.pairwise_cons.1 hp).1 y hy)
        · exact h3) (List.pairwise_cons.1 hp).2
      have h2 := dd_last z c (by omega)
      rw [hc] at h2
      simp only [Nat.add_sub_cancel] at h2
      rw [← h2]
      exact h1
def fcoef (P : Pr) (N : Nat) : List (Po P) := 0 :: -1 :: (List.replicate (N - 2) 0 ++ [1])
theorem hv_rep (y : Po P) : ∀ n, hv (List.replicate n 0 ++ [1]) y = pw y n
  | 0 => by
    show (1 : Po P) + y * 0 = pw y 0
    rw [mul_zero, add_zero, pw_0]
  | n + 1 => by
    rw [List.replicate_succ, List.cons_append, hv, hv_rep y n, zero_add, pw_s, mul_comm]
theorem hv_fcoef (y : Po P) {N : Nat} (h : 2 ≤ N) : hv (fcoef P N) y = pw y N - y := by
  obtain ⟨m, rfl⟩ : ∃ m, N = m + 2 := ⟨N - 2, by omega⟩
  unfold fcoef
  rw [hv, hv, Nat.add_sub_cancel, hv_rep, pw_s, pw_s]
  exact rg_ [y, pw y m] (0 + x0 * (-1 + x0 * x1)) (x1 * x0 * x0 - x0)
theorem few_roots {q : Po P} (hq : Irr q) {N : Nat} (hN : 2 ≤ N) {ys : List (Po P)} (h : ∀ y ∈ ys, q ∣ pw y N - y) (hp : ys.Pairwise (fun x y => ¬ q ∣ y - x)) : ys.length ≤ N := by
  rcases Nat.lt_or_ge N ys.length with hlt | hge
  · exfalso
    have h1 := root_bound hq N (fcoef P N) ys (by unfold fcoef; simp; omega) hlt (fun y hy => by rw [hv_fcoef y hN]; exact h y hy) hp
    have h2 : (fcoef P N).getD N 0 = 1 := by
      obtain ⟨m, rfl⟩ : ∃ m, N = m + 2 := ⟨N - 2, by omega⟩
      unfold fcoef
      simp
    rw [h2] at h1
    exact hq.not_one h1
  · exact hge
theorem cn_sub (a b : Int) : (cn (a - b) : Po P) = cn a - cn b := rg_ [] (.c (a - b)) (.add (.c a) (.neg (.c b))) (fun _ => by simp only [evI]; omega)
theorem cn_dvd {q : Po P} (hq : Irr q) {k : Int} (h : q ∣ cn k) : k % P.p = 0 := by
  apply Classical.byContradiction
  intro h0
  have hr := md (a := k) P.pos
  rw [cn_em] at h
  have h1 := dg_dvd h (cn_ne (by omega))
  have h2 := dg_cn_le (P := P) (k % P.p)
  have := hq.d2
  omega
theorem fix_cn {q v : Po P} (hq : Irr q) (h : q ∣ pw v (pn P) - v) : ∃ s : Nat, s < pn P ∧ q ∣ v - cn s := by
  apply Classical.byContradiction
  intro hn
  have h1 := few_roots hq (pn_2 P) (ys := v :: (List.range (pn P)).map fun s : Nat => cn (s : Int)) (fun y hy => by
    rcases List.mem_cons.1 hy with rfl | hy
    · exact h
    · obtain ⟨s, _, rfl⟩ := List.mem_map.1 hy
      rw [frob_cn, sub_self]; exact dvd_0 q) (by
    refine List.pairwise_cons.2 ⟨fun y hy hd => ?_, ?_⟩
    · obtain ⟨s, hs, rfl⟩ := List.mem_map.1 hy
      refine hn ⟨s, List.mem_range.1 hs, ?_⟩
      have := dvd_neg hd
      rwa [show -(cn (s : Int) - v) = v - cn (s : Int) from rg_ [cn (s : Int), v] (-(x0 - x1)) (x1 - x0)] at this
    · rw [List.pairwise_map]
      refine List.Pairwise.imp_of_mem ?_ List.nodup_range
      intro a b ha hb hne hd
      rw [← cn_sub] at hd
      have h3 := cn_dvd hq hd
      have h4 := List.mem_range.1 ha
      have h5 := List.mem_range.1 hb
      have h6 := pn_p P
      rw [← h6] at h3
      apply hne
      rcases Nat.le_total a b with hle | hle
      · have h7 : ((b : Int) - (a : Int)) = ((b - a : Nat) : Int) := by omega
        rw [h7, ← Int.natCast_emod, Nat.mod_eq_of_lt (by omega)] at h3
        omega
      · have h7 : ((b : Int) - (a : Int)) = -((a - b : Nat) : Int) := by omega
        rw [h7] at h3
        have h3 := Int.emod_eq_zero_of_dvd ((Int.dvd_neg).1 (Int.dvd_of_emod_eq_zero h3))
        rw [← Int.natCast_emod, Nat.mod_eq_of_lt (by omega)] at h3
        omega)
  simp only [List.length_cons, List.length_map, List.length_range] at h1
  omega
end Go.Proofs.Ytlnhembcfhfpkaa.Fx
