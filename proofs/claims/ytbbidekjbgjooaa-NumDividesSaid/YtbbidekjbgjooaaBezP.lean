/- Bezout: plain laws. -/
import Derived.Test.YtbbidekjbgjooaaLawC
namespace Go.Proofs.Ytbbidekjbgjooaa

/-- What holds at the head of Bezout's loop. -/
def BezI (a b r0 r1 u0 u1 : Int) : Prop :=
  u0.natAbs ≤ 3 * b.natAbs ∧ u1.natAbs ≤ 3 * b.natAbs ∧ b ∣ (r0 - u0 * a) ∧ b ∣ (r1 - u1 * a) ∧ Int.gcd r0 r1 = Int.gcd a b ∧
  ((r0 = a ∧ r1 = b ∧ u0 = 1 ∧ u1 = 0) ∨ (r0 = b ∧ u0 = 0 ∧ u1 = 1 ∧ 0 ≤ r1 ∧ r1.natAbs < b.natAbs) ∨ (0 < r0 ∧ 0 ≤ r1 ∧ u0.natAbs * r1.natAbs + u1.natAbs * r0.natAbs ≤ 3 * b.natAbs))

theorem bez_start {a b : Int} (hb : b ≠ 0) : BezI a b a b 1 0 :=
  ⟨by omega, by omega, by simp, by simp, rfl, .inl ⟨rfl, rfl, rfl, rfl⟩⟩

theorem natAbs_le_mul {x y N : Nat} (h : x * y ≤ N) (hy : 0 < y) : x ≤ N := Nat.le_trans (Nat.le_mul_of_pos_right x hy) h

theorem bez_bound {r0 r1 u0 u1 B : Int} (h0 : 0 < r0) (h1 : 0 < r1) (h : u0.natAbs * r1.natAbs + u1.natAbs * r0.natAbs ≤ 3 * B.natAbs) :
    u1.natAbs * (r0 % r1).natAbs + (u0 - r0 / r1 * u1).natAbs * r1.natAbs ≤ 3 * B.natAbs := by
  have e := Int.mul_ediv_add_emod r0 r1
  have g0 := Int.emod_nonneg r0 (show r1 ≠ 0 by omega)
  have gq : 0 ≤ r0 / r1 := Int.ediv_nonneg (by omega) (by omega)
  obtain ⟨q, hq⟩ := Int.eq_ofNat_of_zero_le gq
  obtain ⟨s, hs⟩ := Int.eq_ofNat_of_zero_le g0
  obtain ⟨t, rfl⟩ := Int.eq_ofNat_of_zero_le (Int.le_of_lt h0)
  obtain ⟨v, rfl⟩ := Int.eq_ofNat_of_zero_le (Int.le_of_lt h1)
  rw [hq, hs] at e ⊢
  simp only [Int.natAbs_natCast] at h ⊢
  have e' : v * q + s = t := by exact_mod_cast e
  have h2 : (u0 - (q : Int) * u1).natAbs ≤ u0.natAbs + q * u1.natAbs := by
    have := Int.natAbs_sub_le u0 ((q : Int) * u1)
    rw [Int.natAbs_mul, Int.natAbs_natCast] at this
    exact this
  have h3 := Nat.mul_le_mul_right v h2
  rw [Nat.add_mul] at h3
  subst e'
  rw [Nat.mul_add] at h
  have e3 : q * u1.natAbs * v = u1.natAbs * (v * q) := by rw [Nat.mul_comm v q, ← Nat.mul_assoc, Nat.mul_comm u1.natAbs q]
  omega

theorem bez_step {a b r0 r1 u0 u1 : Int} (hb : b ≠ 0) (hI : BezI a b r0 r1 u0 u1) (hr : r1 ≠ 0) : BezI a b r1 (r0 % r1) u1 (u0 - r0 / r1 * u1) := by
  obtain ⟨hu0, hu1, hd0, hd1, hg, hst⟩ := hI
  have e := Int.mul_ediv_add_emod r0 r1
  have g0 := Int.emod_nonneg r0 hr
  have g1 := Int.emod_lt r0 hr
  have hd2 : b ∣ (r0 % r1 - (u0 - r0 / r1 * u1) * a) := by
    have h1 : r0 % r1 - (u0 - r0 / r1 * u1) * a = (r0 - u0 * a) - (r0 / r1) * (r1 - u1 * a) := by grind
    rw [h1]
    exact Int.dvd_sub hd0 (Int.dvd_mul_of_dvd_right hd1)
  have hg2 : Int.gcd r1 (r0 % r1) = Int.gcd a b := by rw [gcd_step]; exact hg
  have hB : 1 ≤ b.natAbs := by omega
  rcases hst with ⟨rfl, rfl, rfl, rfl⟩ | ⟨rfl, rfl, rfl, h0, h1⟩ | ⟨h0, h1, h2⟩
  · refine ⟨hu1, by simp; omega, hd1, hd2, hg2, .inr (.inl ⟨rfl, rfl, by simp, g0, ?_⟩)⟩
    omega
  · have hr1 : 0 < r1 := by omega
    have hq : ((0 : Int) - r0 / r1 * 1).natAbs * r1.natAbs ≤ r0.natAbs + (r0 % r1).natAbs := by
      have h3 : ((0 : Int) - r0 / r1 * 1).natAbs = (r0 / r1).natAbs := by omega
      rw [h3, ← Int.natAbs_mul, Int.mul_comm]
      omega
    have hle : (r0 % r1).natAbs ≤ r0.natAbs := by omega
    have hN : (1 : Int).natAbs * (r0 % r1).natAbs + ((0 : Int) - r0 / r1 * 1).natAbs * r1.natAbs ≤ 3 * r0.natAbs := by
      have : (1 : Int).natAbs = 1 := rfl
      rw [this]
      omega
    refine ⟨hu1, ?_, hd1, hd2, hg2, .inr (.inr ⟨hr1, g0, hN⟩)⟩
    exact natAbs_le_mul (Nat.le_trans (Nat.le_add_left _ _) hN) (by omega)
  · have hr1 : 0 < r1 := by omega
    have hN := bez_bound h0 hr1 h2
    refine ⟨hu1, ?_, hd1, hd2, hg2, .inr (.inr ⟨hr1, g0, hN⟩)⟩
    exact natAbs_le_mul (Nat.le_trans (Nat.le_add_left _ _) hN) (by omega)

/-- Behind the loop. -/
theorem bez_end {a b r0 u0 u1 : Int} (hI : BezI a b r0 0 u0 u1) : b ∣ ((Int.gcd a b : Int) - (if r0 < 0 then -u0 else u0) * a) := by
  obtain ⟨_, _, hd0, _, hg, _⟩ := hI
  rw [← hg, Int.gcd_zero_right]
  split
  · rw [show ((r0.natAbs : Int)) - -u0 * a = -(r0 - u0 * a) by grind]
    exact Int.dvd_neg.2 hd0
  · rw [show ((r0.natAbs : Int)) = r0 by omega]
    exact hd0

theorem bez_uv {a b u0 : Int} (hb : b ≠ 0) (h : b ∣ ((Int.gcd a b : Int) - u0 * a)) :
    0 < (b.natAbs : Int) / (Int.gcd a b : Int) ∧ 0 ≤ u0 % ((b.natAbs : Int) / (Int.gcd a b : Int)) ∧ u0 % ((b.natAbs : Int) / (Int.gcd a b : Int)) < (b.natAbs : Int) / (Int.gcd a b : Int) ∧
    u0 % ((b.natAbs : Int) / (Int.gcd a b : Int)) * a + ((Int.gcd a b : Int) - u0 % ((b.natAbs : Int) / (Int.gcd a b : Int)) * a) / b * b = Int.gcd a b := by
  have hg0 : 0 < (Int.gcd a b : Int) := by
    have : Int.gcd a b ≠ 0 := fun e => hb (Int.gcd_eq_zero_iff.1 e).2
    omega
  have hgb : (Int.gcd a b : Int) ∣ (b.natAbs : Int) := Int.dvd_natAbs.2 (Int.gcd_dvd_right a b)
  have hga := Int.gcd_dvd_left a b
  generalize (Int.gcd a b : Int) = g at *
  obtain ⟨m, hm⟩ := hgb
  have hmm : (b.natAbs : Int) / g = m := by rw [hm]; exact Int.mul_ediv_cancel_left _ (by omega)
  have hm0 : 0 < m := by
    have h1 : 0 < g * m := by omega
    rcases Int.lt_or_le 0 m with h2 | h2
    · exact h2
    · have h3 := Int.mul_le_mul_of_nonneg_left h2 (Int.le_of_lt hg0)
      rw [Int.mul_zero] at h3
      omega
  rw [hmm]
  refine ⟨hm0, Int.emod_nonneg _ (by omega), Int.emod_lt_of_pos _ hm0, ?_⟩
  have hd : b ∣ (g - u0 % m * a) := by
    have e := Int.mul_ediv_add_emod u0 m
    have h1 : g - u0 % m * a = (g - u0 * a) + m * a * (u0 / m) := by grind
    rw [h1]
    refine Int.dvd_add h (Int.dvd_mul_of_dvd_left ?_)
    obtain ⟨c, hc⟩ := hga
    rw [hc, show m * (g * c) = (g * m) * c by grind, ← hm]
    exact Int.dvd_mul_of_dvd_left (Int.dvd_natAbs.2 (Int.dvd_refl b))
  rw [Int.ediv_mul_cancel hd]
  omega

theorem bezI_bits {a b r0 r1 u0 u1 : Int} {n : Nat} (h : BezI a b r0 r1 u0 u1) (hb : Bt b n) : Bt u0 (n + 2) ∧ Bt u1 (n + 2) := by
  obtain ⟨h0, h1, _⟩ := h
  unfold Bt at *
  rw [Nat.pow_add]
  omega

end Go.Proofs.Ytbbidekjbgjooaa
