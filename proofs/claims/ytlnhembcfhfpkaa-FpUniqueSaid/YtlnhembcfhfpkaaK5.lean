/- Polynomials modulo a prime: the reference's product, sum, rest walked. Polynomials modulo a prime: the reference's rest by a monic polynomial, its multiple that is monic, powers and divisors walked. Polynomials modulo a prime: the reference's powers and divisors walked; what the division makes of a polynomial. FpGcds: the law walked. -/
import Derived.Test.YtlnhembcfhfpkaaFqRx
import Derived.Test.YtlnhembcfhfpkaaFqIx
section
namespace Go.Proofs.Ytlnhembcfhfpkaa.M
open Go.RowKit
set_option linter.unusedSimpArgs false
set_option linter.unusedVariables false
set_option linter.defProp false
def tabI (n : Nat) (f : Nat → Int) : List Int := (List.range n).map f
theorem tabI_len (n : Nat) (f : Nat → Int) : (tabI n f).length = n := by simp [tabI]
theorem tabI_succ (n : Nat) (f : Nat → Int) : tabI n f ++ [f n] = tabI (n + 1) f := by simp [tabI, List.range_succ]
theorem tabI_getD (n : Nat) (f : Nat → Int) (i : Nat) : (tabI n f).getD i 0 = if i < n then f i else 0 := getD_range_map f n i
theorem one_I (x : Int) : (List.replicate 1 (0 : Int)).set 0 x = [x] := rfl
theorem len1 (x : Int) : [x].length = 1 := rfl
theorem tabI_app {n : Nat} {f : Nat → Int} {x : Int} (h : x = f n) : (tabI n f).map (D.int .i64) ++ [D.int .i64 x] = (tabI (n + 1) f).map (D.int .i64) := by
  rw [h, ← tabI_succ, List.map_append]; rfl
def csT := And.intro @tabI_len (And.intro @one_I (And.intro @len1 @csA))
def addP (f g : List Int) (p : Int) : List Int := trim (tabI (max f.length g.length) fun i => (f.getD i 0 + g.getD i 0) % p)
theorem getD_big {l : List Int} {i : Nat} (h : l.length ≤ i) : l.getD i 0 = 0 := by rw [List.getD_eq_getElem?_getD, List.getElem?_eq_none h]; rfl
theorem addP_getD (f g : List Int) (p : Int) (i : Nat) : (addP f g p).getD i 0 = (f.getD i 0 + g.getD i 0) % p := by
  unfold addP
  rw [trim_getD, tabI_getD]
  split
  · rfl
  · rw [getD_big (by omega), getD_big (by omega)]; rfl
end Go.Proofs.Ytlnhembcfhfpkaa.M
end

section
namespace Go.Proofs.Ytlnhembcfhfpkaa.M
open Go.RowKit
set_option linter.unusedSimpArgs false
set_option linter.unusedVariables false
set_option linter.defProp false
structure Mn (p : Int) (g : List Int) : Prop where
  rg : Rg p g
  pos : 0 < g.length
  last : g.getD (g.length - 1) 0 = 1
end Go.Proofs.Ytlnhembcfhfpkaa.M
end

section
namespace Go.Proofs.Ytlnhembcfhfpkaa.M
open Go.RowKit
set_option linter.unusedSimpArgs false
set_option linter.unusedVariables false
theorem S_congr {f f' g g' : List Int} (hf : ∀ i, f.getD i 0 = f'.getD i 0) (hg : ∀ i, g.getD i 0 = g'.getD i 0) (k : Nat) : ∀ n, S f g k n = S f' g' k n
  | 0 => rfl
  | n + 1 => by simp only [S, S_congr hf hg k n, hf, hg]
theorem S_set {l g : List Int} {e : Nat} {x : Int} (he : e < l.length) (h0 : l.getD e 0 = 0) (k : Nat) : ∀ n, S (l.set e x) g k n = S l g k n + (if e < n ∧ e ≤ k then x * g.getD (k - e) 0 else 0)
  | 0 => by simp [S]
  | n + 1 => by
    simp only [S, S_set he h0 k n]
    by_cases h1 : n = e
    · subst h1
      have h2 : (l.set n x).getD n 0 = x := by simp [he]
      rw [h2, h0]
      by_cases h3 : n ≤ k
      · have e1 : ¬ (n < n ∧ n ≤ k) := by omega
        have e2 : n < n + 1 ∧ n ≤ k := by omega
        rw [if_neg e1, if_pos e2, if_pos h3, if_pos h3, Int.zero_mul, Int.add_zero]
      · have e1 : ¬ (n < n ∧ n ≤ k) := by omega
        have e2 : ¬ (n < n + 1 ∧ n ≤ k) := by omega
        rw [if_neg e1, if_neg e2, if_neg h3, if_neg h3]
    · have h2 : (l.set e x).getD n 0 = l.getD n 0 := by simp [List.getD_eq_getElem?_getD, List.getElem?_set, Ne.symm h1]
      rw [h2]
      have h4 : (if e < n + 1 ∧ e ≤ k then x * g.getD (k - e) 0 else 0) = (if e < n ∧ e ≤ k then x * g.getD (k - e) 0 else 0) := by
        by_cases h3 : e < n ∧ e ≤ k
        · rw [if_pos h3, if_pos (by omega)]
        · rw [if_neg h3, if_neg (by omega)]
      rw [h4, Int.add_right_comm]
theorem dv_id {f g : List Int} {p u : Int} {N : Nat} (hp : 0 < p) (hN : f.length + 1 = N + g.length) (hg0 : 0 < g.length) (t : Nat) : ∀ c, c ≤ N → (S (dq f g p u N c) g t (t + 1) + (dv f g p u N c).getD t 0) % p = f.getD t 0 % p
  | 0, _ => by
    have h0 : S (dq f g p u N 0) g t (t + 1) = 0 := by
      rw [dq_0]
      have : ∀ n, S (List.replicate N 0) g t n = 0 := by
        intro n
        induction n with
        | zero => rfl
        | succ n ih =>
          have h1 : (List.replicate N (0 : Int)).getD n 0 = 0 := by
            rw [List.getD_eq_getElem?_getD, List.getElem?_replicate]
            split <;> rfl
          simp only [S, ih, h1, Int.zero_mul]
          simp
      exact this _
    rw [h0, Int.zero_add]; rfl
  | c + 1, hc => by
    have ih := dv_id (u := u) hp hN hg0 t c (by omega)
    have hz : (dq f g p u N c).getD (N - 1 - c) 0 = 0 := by
      unfold dq
      rw [getD_range_map, if_pos (by omega), if_neg (by omega)]
    rw [← dq_set (by omega), S_set (by rw [dq_len]; omega) hz]
    simp only [dv, red]
    rw [rw_getD, dv_len]
    generalize kd (dv f g p u N c) g p u (N - 1 - c) = k
    generalize hs : S (dq f g p u N c) g t (t + 1) = s at ih ⊢
    generalize hx : (dv f g p u N c).getD t 0 = x at ih ⊢
    by_cases h1 : N - 1 - c ≤ t
    · rw [if_pos (by omega)]
      by_cases h2 : t - (N - 1 - c) < g.length
      · by_cases h3 : t < f.length
        · rw [if_pos h3, if_pos ⟨h1, h2⟩]
          generalize g.getD (t - (N - 1 - c)) 0 = y
          rw [Int.add_emod_emod, show s + k * y + (x + (p - k) * y) = s + x + y * p by grind, Int.add_mul_emod_self_right]
          exact ih
        · exfalso; omega
      · have h4 : g.getD (t - (N - 1 - c)) 0 = 0 := getD_big (by omega)
        rw [h4, Int.mul_zero, Int.add_zero]
        by_cases h3 : t < f.length
        · rw [if_pos h3, if_neg (by omega)]; exact ih
        · rw [if_neg h3]
          have h5 : x = 0 := by rw [← hx]; exact getD_big (by rw [dv_len]; omega)
          rw [h5] at ih; exact ih
    · rw [if_neg (by omega), Int.add_zero]
      by_cases h3 : t < f.length
      · rw [if_pos h3, if_neg (by omega)]; exact ih
      · rw [if_neg h3]
        have h5 : x = 0 := by rw [← hx]; exact getD_big (by rw [dv_len]; omega)
        rw [h5] at ih; exact ih
theorem div_law {f g : List Int} {p : Int} {n m : Nat} (hP : IsP p) (hf : Pl p n f) (hg : Pl p m g) (hg0 : g ≠ []) : addP (mulP (quo f g p) g p) (rem f g p) p = f := by
  have hl := List.length_pos_iff.2 hg0
  refine td_ext (td_trim _) hf.td fun t => ?_
  rw [addP_getD, mulP_getD, Int.emod_add_emod]
  unfold quo rem quoP remP
  by_cases h : f.length < g.length
  · rw [if_pos h, if_pos h, S_nil (.inl rfl), Int.zero_add, em_self (hf.rg t)]
  · rw [if_neg h, if_neg h, S_congr (trim_getD _) (fun _ => rfl), trim_getD]
    have := dv_id (u := lu g p) (f := f) (N := f.length - g.length + 1) hP.pos.1 (by omega) hl t _ (Nat.le_refl _)
    rw [this, em_self (hf.rg t)]
end Go.Proofs.Ytlnhembcfhfpkaa.M
end

section
namespace Go.Proofs.Ytlnhembcfhfpkaa.M
open Go.RowKit
set_option linter.unusedSimpArgs false
set_option linter.unusedVariables false
set_option linter.defProp false
def csE := And.intro csF (And.intro @intsOf.eq_1 (And.intro @intsOf.eq_2 (And.intro @Option.map_some.{0,0} (And.intro @toD_p @eq_self.{1}))))
theorem bool_V {w : World} {N : Nat → Prop} {v : Value} {b : Bool} (h : V w N v (.bool b)) : v = .bool b := by
  generalize he : D.bool b = e at h
  cases h with
  | bool b => injection he with h1; subst h1; rfl
  | _ => cases he
end Go.Proofs.Ytlnhembcfhfpkaa.M
end
