/- NumLaws: the walk. Bezout: plain laws. A number written and read. -/
import Derived.Test.YtbbidekjbgjooaaLawBx
import Derived.Test.YtbbidekjbgjooaaGcdx
section
namespace Go.Proofs.Ytbbidekjbgjooaa
open Go.RowKit

theorem held_of2 {W w' : World} {p : Addr} {v : Value} (e : Ext W w') (h : W.cell? p = some v) : Ext W w' ∧ (∀ b o, b < W.heap.size → w'.cell? ⟨b, o, none⟩ = W.cell? ⟨b, o, none⟩) ∧ w'.cell? p = some v := ⟨e, (bcell e).1, cell_later e h⟩

theorem bt_gcd {a b : Int} {n : Nat} (ha : Bt a n) (hb : Bt b n) : Bt (Int.gcd a b) n := by
  by_cases h : a = 0
  · subst h
    rw [Int.gcd_zero_left]
    exact hb.le (by simp)
  · have h1 : Int.gcd a b ≤ a.natAbs := Nat.le_of_dvd (by omega) (Nat.gcd_dvd_left _ _)
    exact ha.le (by simpa using h1)

theorem bt_ediv {a : Int} {n : Nat} (b : Int) (h : Bt a n) : Bt (a / b) n := h.le (Int.natAbs_ediv_le_natAbs a b)
theorem bt_emod {a b : Int} {n : Nat} (hb : b ≠ 0) (h : Bt b n) : Bt (a % b) n := by
  have h1 := Int.emod_nonneg a hb
  have h2 := Int.emod_lt a hb
  exact h.le (by omega)

theorem dec_zero : dec 0 = [48] := by unfold dec decN; rw [if_neg (by omega)]; rfl

/-- A number that was read, written and read again. -/
theorem parse_back (t : List UInt8) : parseZ (dec (parseZ t)) = parseZ t ∧ parseC (dec (parseZ t)) = 0 ∧ (dec (parseZ t)).length ≤ 1001 := by
  by_cases hc : parseC t = 0
  · rw [parse_dec hc]
    refine ⟨rfl, hc, ?_⟩
    unfold parseC at hc
    split at hc
    · split at hc
      · rename_i h
        rw [body_length] at h
        split at h <;> omega
      · omega
    · omega
  · have h0 : parseZ t = 0 := by
      unfold parseC at hc
      unfold parseZ
      split at hc
      · rename_i h
        rw [if_pos h]
        split at hc
        · omega
        · rename_i h2
          rw [if_neg h2]
      · rename_i h
        rw [if_neg h]
    rw [h0, dec_zero]
    refine ⟨by decide, by decide, by decide⟩

end Go.Proofs.Ytbbidekjbgjooaa
end

section
namespace Go.Proofs.Ytbbidekjbgjooaa

/-- What holds at the head of Bezout's loop. -/
def BezI (a b r0 r1 u0 u1 : Int) : Prop :=
  u0.natAbs ≤ 3 * b.natAbs ∧ u1.natAbs ≤ 3 * b.natAbs ∧ b ∣ (r0 - u0 * a) ∧ b ∣ (r1 - u1 * a) ∧ Int.gcd r0 r1 = Int.gcd a b ∧
  ((r0 = a ∧ r1 = b ∧ u0 = 1 ∧ u1 = 0) ∨ (r0 = b ∧ u0 = 0 ∧ u1 = 1 ∧ 0 ≤ r1 ∧ r1.natAbs < b.natAbs) ∨ (0 < r0 ∧ 0 ≤ r1 ∧ u0.natAbs * r1.natAbs + u1.natAbs * r0.natAbs ≤ 3 * b.natAbs))

theorem bez_start {a b : Int} (hb : b ≠ 0) : BezI a b a b 1 0 :=
  ⟨by omega, by omega, by simp, by simp, rfl, .inl ⟨rfl, rfl, rfl, rfl⟩⟩

theorem natAbs_le_mul {x y N : Nat} (h : x * y ≤ N) (hy : 0 < y) : x ≤ N := Nat.le_trans (Nat.le_mul_of_pos_right x hy) h

theorem bez_bound {r0 r1 u0 u1 B : Int} (h0 : 0 < r0) (h1 : 0 < r1) (h : u0.natAbs * r1.natAbs + u1.natAbs * r0.natAbs ≤ 3 * B.natAbs) :
    u1.natAbs * (r0 % r1).natAbs + (u0 - r0 / r1 * u1).natAbs * r1.natAbs ≤ 3 * B.natAbs := by
  have e := Int.mul_ediv_add_emod r0 r1
  have g0 := Int.emod_nonneg r0 (show r1 ≠ 0 by omega)
  have gq : 0 ≤ r0 / r1 := Int.ediv_nonneg (by omega) (by omega)
  obtain ⟨q, hq⟩ := Int.eq_ofNat_of_zero_le gq
  obtain ⟨s, hs⟩ := Int.eq_ofNat_of_zero_le g0
  obtain ⟨t, rfl⟩ := Int.eq_ofNat_of_zero_le (Int.le_of_lt h0)
  obtain ⟨v, rfl⟩ := Int.eq_ofNat_of_zero_le (Int.le_of_lt h1)
  rw [hq, hs] at e ⊢
  simp only [Int.natAbs_natCast] at h ⊢
  have e' : v * q + s = t := by exact_mod_cast e
  have h2 : (u0 - (q : Int) * u1).natAbs ≤ u0.natAbs + q * u1.natAbs := by
    have := Int.natAbs_sub_le u0 ((q : Int) * u1)
    rw [Int.natAbs_mul, Int.natAbs_natCast] at this
    exact this
  have h3 := Nat.mul_le_mul_right v h2
  rw [Nat.add_mul] at h3
  subst e'
  rw [Nat.mul_add] at h
  have e3 : q * u1.natAbs * v = u1.natAbs * (v * q) := by rw [Nat.mul_comm v q, ← Nat.mul_assoc, Nat.mul_comm u1.natAbs q]
  omega

theorem bez_step {a b r0 r1 u0 u1 : Int} (hb : b ≠ 0) (hI : BezI a b r0 r1 u0 u1) (hr : r1 ≠ 0) : BezI a b r1 (r0 % r1) u1 (u0 - r0 / r1 * u1) := by
  obtain ⟨hu0, hu1, hd0, hd1, hg, hst⟩ := hI
  have e := Int.mul_ediv_add_emod r0 r1
  have g0 := Int.emod_nonneg r0 hr
  have g1 := Int.emod_lt r0 hr
  have hd2 : b ∣ (r0 % r1 - (u0 - r0 / r1 * u1) * a) := by
    have h1 : r0 % r1 - (u0 - r0 / r1 * u1) * a = (r0 - u0 * a) - (r0 / r1) * (r1 - u1 * a) := by grind
    rw [h1]
    exact Int.dvd_sub hd0 (Int.dvd_mul_of_dvd_right hd1)
  have hg2 : Int.gcd r1 (r0 % r1) = Int.gcd a b := by rw [gcd_step]; exact hg
  have hB : 1 ≤ b.natAbs := by omega
  rcases hst with ⟨rfl, rfl, rfl, rfl⟩ | ⟨rfl, rfl, rfl, h0, h1⟩ | ⟨h0, h1, h2⟩
  · refine ⟨hu1, by simp; omega, hd1, hd2, hg2, .inr (.inl ⟨rfl, rfl, by simp, g0, ?_⟩)⟩
    omega
  · have hr1 : 0 < r1 := by omega
    have hq : ((0 : Int) - r0 / r1 * 1).natAbs * r1.natAbs ≤ r0.natAbs + (r0 % r1).natAbs := by
      have h3 : ((0 : Int) - r0 / r1 * 1).natAbs = (r0 / r1).natAbs := by omega
      rw [h3, ← Int.natAbs_mul, Int.mul_comm]
      omega
    have hle : (r0 % r1).natAbs ≤ r0.natAbs := by omega
    have hN : (1 : Int).natAbs * (r0 % r1).natAbs + ((0 : Int) - r0 / r1 * 1).natAbs * r1.natAbs ≤ 3 * r0.natAbs := by
      have : (1 : Int).natAbs = 1 := rfl
      rw [this]
      omega
    refine ⟨hu1, ?_, hd1, hd2, hg2, .inr (.inr ⟨hr1, g0, hN⟩)⟩
    exact natAbs_le_mul (Nat.le_trans (Nat.le_add_left _ _) hN) (by omega)
  · have hr1 : 0 < r1 := by omega
    have hN := bez_bound h0 hr1 h2
    refine ⟨hu1, ?_, hd1, hd2, hg2, .inr (.inr ⟨hr1, g0, hN⟩)⟩
    exact natAbs_le_mul (Nat.le_trans (Nat.le_add_left _ _) hN) (by omega)

/-- Behind the loop. -/
theorem bez_end {a b r0 u0 u1 : Int} (hI : BezI a b r0 0 u0 u1) : b ∣ ((Int.gcd a b : Int) - (if r0 < 0 then -u0 else u0) * a) := by
  obtain ⟨_, _, hd0, _, hg, _⟩ := hI
  rw [← hg, Int.gcd_zero_right]
  split
  · rw [show ((r0.natAbs : Int)) - -u0 * a = -(r0 - u0 * a) by grind]
    exact Int.dvd_neg.2 hd0
  · rw [show ((r0.natAbs : Int)) = r0 by omega]
    exact hd0

theorem bez_uv {a b u0 : Int} (hb : b ≠ 0) (h : b ∣ ((Int.gcd a b : Int) - u0 * a)) :
    0 < (b.natAbs : Int) / (Int.gcd a b : Int) ∧ 0 ≤ u0 % ((b.natAbs : Int) / (Int.gcd a b : Int)) ∧ u0 % ((b.natAbs : Int) / (Int.gcd a b : Int)) < (b.natAbs : Int) / (Int.gcd a b : Int) ∧
    u0 % ((b.natAbs : Int) / (Int.gcd a b : Int)) * a + ((Int.gcd a b : Int) - u0 % ((b.natAbs : Int) / (Int.gcd a b : Int)) * a) / b * b = Int.gcd a b := by
  have hg0 : 0 < (Int.gcd a b : Int) := by
    have : Int.gcd a b ≠ 0 := fun e => hb (Int.gcd_eq_zero_iff.1 e).2
    omega
  have hgb : (Int.gcd a b : Int) ∣ (b.natAbs : Int) := Int.dvd_natAbs.2 (Int.gcd_dvd_right a b)
  have hga := Int.gcd_dvd_left a b
  generalize (Int.gcd a b : Int) = g at *
  obtain ⟨m, hm⟩ := hgb
  have hmm : (b.natAbs : Int) / g = m := by rw [hm]; exact Int.mul_ediv_cancel_left _ (by omega)
  have hm0 : 0 < m := by
    have h1 : 0 < g * m := by omega
    rcases Int.lt_or_le 0 m with h2 | h2
    · exact h2
    · have h3 := Int.mul_le_mul_of_nonneg_left h2 (Int.le_of_lt hg0)
      rw [Int.mul_zero] at h3
      omega
  rw [hmm]
  refine ⟨hm0, Int.emod_nonneg _ (by omega), Int.emod_lt_of_pos _ hm0, ?_⟩
  have hd : b ∣ (g - u0 % m * a) := by
    have e := Int.mul_ediv_add_emod u0 m
    have h1 : g - u0 % m * a = (g - u0 * a) + m * a * (u0 / m) := by grind
    rw [h1]
    refine Int.dvd_add h (Int.dvd_mul_of_dvd_left ?_)
    obtain ⟨c, hc⟩ := hga
    rw [hc, show m * (g * c) = (g * m) * c by grind, ← hm]
    exact Int.dvd_mul_of_dvd_left (Int.dvd_natAbs.2 (Int.dvd_refl b))
  rw [Int.ediv_mul_cancel hd]
  omega

theorem bezI_bits {a b r0 r1 u0 u1 : Int} {n : Nat} (h : BezI a b r0 r1 u0 u1) (hb : Bt b n) : Bt u0 (n + 2) ∧ Bt u1 (n + 2) := by
  obtain ⟨h0, h1, _⟩ := h
  unfold Bt at *
  rw [Nat.pow_add]
  omega

end Go.Proofs.Ytbbidekjbgjooaa
end

section
namespace Go.Proofs.Ytbbidekjbgjooaa

theorem rdec_len10 {n k : Nat} (h : n < 10 ^ k) : (rdec n).length ≤ k := by
  induction k generalizing n with
  | zero => obtain rfl : n = 0 := by simpa using h
            rw [rdec_zero]; simp
  | succ k ih =>
    rcases Nat.eq_zero_or_pos n with h0 | h0
    · subst h0; rw [rdec_zero]; simp
    · rw [rdec_pos h0]
      have h1 : n / 10 < 10 ^ k := by rw [Nat.pow_succ] at h; omega
      have h2 := ih h1
      simp; omega

theorem rdec_last {n : Nat} (h : 0 < n) : ∃ c t, (rdec n).reverse = c :: t ∧ 48 < c.toNat ∧ c.toNat ≤ 57 := by
  induction n using Nat.strongRecOn with
  | ind n ih =>
    rw [rdec_pos h]
    rcases Nat.eq_zero_or_pos (n / 10) with h1 | h1
    · rw [h1, rdec_zero]
      refine ⟨dch (n % 10), [], rfl, ?_⟩
      rw [dch_toNat (by omega)]
      omega
    · obtain ⟨c, t, h2, h3⟩ := ih (n / 10) (by omega) h1
      exact ⟨c, t ++ [dch (n % 10)], by rw [List.reverse_cons, h2]; rfl, h3⟩

theorem isDig_of {c : UInt8} (h : 48 ≤ c.toNat ∧ c.toNat ≤ 57) : isDig c = true := by
  unfold isDig
  simpa [UInt8.le_iff_toNat_le] using h

theorem digRun_full {l : List UInt8} (h : ∀ c ∈ l, isDig c = true) : digRun l = l.length := by
  unfold digRun
  induction l with
  | nil => rfl
  | cons c t ih =>
    rw [List.takeWhile_cons_of_pos (h c (.head _)), List.length_cons, List.length_cons, ih (fun c hc => h c (.tail _ hc))]

theorem decN_digs (n : Nat) : ∀ c ∈ decN n, isDig c = true := by
  unfold decN
  split
  · intro c hc; simp at hc; subst hc; decide
  · intro c hc
    exact isDig_of (rdec_digs n c (by simpa using hc))

theorem decN_head {n : Nat} : ∃ c t, decN n = c :: t ∧ 48 ≤ c.toNat ∧ c.toNat ≤ 57 ∧ (c = 48 → n = 0) := by
  unfold decN
  split
  · rename_i h; exact ⟨48, [], rfl, by decide, by decide, fun _ => h⟩
  · rename_i h
    obtain ⟨c, t, h1, h2, h3⟩ := rdec_last (n := n) (by omega)
    refine ⟨c, t, h1, by omega, h3, fun e => ?_⟩
    subst e
    simp at h2

theorem decN_len {n : Nat} (h : n < 10 ^ 1000) : (decN n).length ≤ 1000 := by
  unfold decN
  split
  · simp
  · rw [List.length_reverse]; exact rdec_len10 h

theorem dec_parts (z : Int) : isNeg (dec z) = decide (z < 0) ∧ body (dec z) = decN z.natAbs := by
  obtain ⟨c, t, hc, h1, h2, _⟩ := decN_head (n := z.natAbs)
  unfold dec
  by_cases hz : z < 0
  · rw [if_pos hz]
    have : isNeg (45 :: decN z.natAbs) = true := by simp [isNeg]
    exact ⟨by rw [this]; simp [hz], by rw [body_neg this]; rfl⟩
  · rw [if_neg hz]
    have : isNeg (decN z.natAbs) = false := by
      rw [hc]
      simp only [isNeg, List.head?_cons]
      rw [beq_eq_false_iff_ne]
      intro e
      injection e with e
      subst e
      simp at h1
    exact ⟨by rw [this]; simp [hz], by rw [body_pos this]⟩

theorem dec_ok (z : Int) : numOk (dec z) = true := by
  obtain ⟨hn, hb⟩ := dec_parts z
  obtain ⟨c, t, hc, h1, h2, h48⟩ := decN_head (n := z.natAbs)
  have hdr : (dec z).drop (if true && isNeg (dec z) then 1 else 0) = decN z.natAbs := by
    rw [hn]
    unfold dec
    by_cases hz : z < 0 <;> simp [hz]
  have hlen : (dec z).length = (if true && isNeg (dec z) then 1 else 0) + (decN z.natAbs).length := by
    rw [hn]
    unfold dec
    by_cases hz : z < 0 <;> simp [hz]
    omega
  have hrun := digRun_full (decN_digs z.natAbs)
  have hpos : 0 < (decN z.natAbs).length := by rw [hc]; simp
  unfold numOk
  cases h : ((decN z.natAbs).head? == some 48)
  · have hr := numLen_run (sg := true) (t := dec z) rfl (by rw [hdr]; exact h) rfl
    rw [hdr, hrun] at hr
    rw [hr, hlen]
    simp
    omega
  · have h0 : z.natAbs = 0 := by
      rw [hc] at h
      simp only [List.head?_cons, beq_iff_eq, Option.some.injEq] at h
      exact h48 h
    obtain rfl : z = 0 := by omega
    rw [dec_zero]
    decide

/-- Written and read, if it is not too long. -/
theorem parse_of_dec {z : Int} (h : z.natAbs < 10 ^ 1000) : parseZ (dec z) = z ∧ parseC (dec z) = 0 ∧ (dec z).length ≤ 1001 := by
  obtain ⟨hn, hb⟩ := dec_parts z
  have hok := dec_ok z
  have hl := decN_len h
  unfold parseZ parseC
  rw [if_pos hok, if_pos hok, hb, if_pos hl, if_pos hl]
  refine ⟨?_, rfl, ?_⟩
  · unfold numVal
    rw [hn, hb, readN_decN]
    unfold sg
    by_cases hz : z < 0
    · simp [hz]; omega
    · simp [hz]; omega
  · unfold dec
    split
    · simp; omega
    · omega

theorem p10pos (k : Nat) : 0 < 10 ^ k := Nat.pow_pos (by omega)

theorem natpow10 (k : Nat) : ((10 ^ k : Nat) : Int) = (10 : Int) ^ k := by rw [Int.natCast_pow]; rfl

theorem pow10_le {i k : Nat} (h : i ≤ k) : (10 : Int) ^ i ≤ 10 ^ k := by
  have h1 := Nat.pow_le_pow_right (n := 10) (by omega) h
  have e1 : ((10 ^ i : Nat) : Int) = (10 : Int) ^ i := by rw [Int.natCast_pow]; rfl
  have e2 : ((10 ^ k : Nat) : Int) = (10 : Int) ^ k := by rw [Int.natCast_pow]; rfl
  omega

theorem parseZ_lt (t : List UInt8) : (parseZ t).natAbs < 10 ^ 1000 := by
  unfold parseZ
  have hp := p10pos 1000
  split
  · rename_i hok
    split
    · rename_i hl
      have h1 := readN_bound (numOk_canon hok).1.digs
      have h2 : (10 : Int) ^ (body t).length ≤ 10 ^ 1000 := pow10_le hl
      have h3 : numVal t = readN (body t) ∨ numVal t = - readN (body t) := by unfold numVal sg; split <;> simp
      have h4 := natpow10 1000
      generalize (10 : Int) ^ 1000 = p at *
      generalize (10 : Nat) ^ 1000 = q at *
      omega
    · exact hp
  · exact hp

end Go.Proofs.Ytbbidekjbgjooaa
end
