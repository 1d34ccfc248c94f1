/- A number written and read. -/
import Derived.Test.YtbbidekjbgjooaaLawC
namespace Go.Proofs.Ytbbidekjbgjooaa

theorem rdec_len10 {n k : Nat} (h : n < 10 ^ k) : (rdec n).length ≤ k := by
  induction k generalizing n with
  | zero => obtain rfl : n = 0 := by simpa using h
            rw [rdec_zero]; simp
  | succ k ih =>
    rcases Nat.eq_zero_or_pos n with h0 | h0
    · subst h0; rw [rdec_zero]; simp
    · rw [rdec_pos h0]
      have h1 : n / 10 < 10 ^ k := by rw [Nat.pow_succ] at h; omega
      have h2 := ih h1
      simp; omega

theorem rdec_last {n : Nat} (h : 0 < n) : ∃ c t, (rdec n).reverse = c :: t ∧ 48 < c.toNat ∧ c.toNat ≤ 57 := by
  induction n using Nat.strongRecOn with
  | ind n ih =>
    rw [rdec_pos h]
    rcases Nat.eq_zero_or_pos (n / 10) with h1 | h1
    · rw [h1, rdec_zero]
      refine ⟨dch (n % 10), [], rfl, ?_⟩
      rw [dch_toNat (by omega)]
      omega
    · obtain ⟨c, t, h2, h3⟩ := ih (n / 10) (by omega) h1
      exact ⟨c, t ++ [dch (n % 10)], by rw [List.reverse_cons, h2]; rfl, h3⟩

theorem isDig_of {c : UInt8} (h : 48 ≤ c.toNat ∧ c.toNat ≤ 57) : isDig c = true := by
  unfold isDig
  simpa [UInt8.le_iff_toNat_le] using h

theorem digRun_full {l : List UInt8} (h : ∀ c ∈ l, isDig c = true) : digRun l = l.length := by
  unfold digRun
  induction l with
  | nil => rfl
  | cons c t ih =>
    rw [List.takeWhile_cons_of_pos (h c (.head _)), List.length_cons, List.length_cons, ih (fun c hc => h c (.tail _ hc))]

theorem decN_digs (n : Nat) : ∀ c ∈ decN n, isDig c = true := by
  unfold decN
  split
  · intro c hc; simp at hc; subst hc; decide
  · intro c hc
    exact isDig_of (rdec_digs n c (by simpa using hc))

theorem decN_head {n : Nat} : ∃ c t, decN n = c :: t ∧ 48 ≤ c.toNat ∧ c.toNat ≤ 57 ∧ (c = 48 → n = 0) := by
  unfold decN
  split
  · rename_i h; exact ⟨48, [], rfl, by decide, by decide, fun _ => h⟩
  · rename_i h
    obtain ⟨c, t, h1, h2, h3⟩ := rdec_last (n := n) (by omega)
    refine ⟨c, t, h1, by omega, h3, fun e => ?_⟩
    subst e
    simp at h2

theorem decN_len {n : Nat} (h : n < 10 ^ 1000) : (decN n).length ≤ 1000 := by
  unfold decN
  split
  · simp
  · rw [List.length_reverse]; exact rdec_len10 h

theorem dec_parts (z : Int) : isNeg (dec z) = decide (z < 0) ∧ body (dec z) = decN z.natAbs := by
  obtain ⟨c, t, hc, h1, h2, _⟩ := decN_head (n := z.natAbs)
  unfold dec
  by_cases hz : z < 0
  · rw [if_pos hz]
    have : isNeg (45 :: decN z.natAbs) = true := by simp [isNeg]
    exact ⟨by rw [this]; simp [hz], by rw [body_neg this]; rfl⟩
  · rw [if_neg hz]
    have : isNeg (decN z.natAbs) = false := by
      rw [hc]
      simp only [isNeg, List.head?_cons]
      rw [beq_eq_false_iff_ne]
      intro e
      injection e with e
      subst e
      simp at h1
    exact ⟨by rw [this]; simp [hz], by rw [body_pos this]⟩

theorem dec_ok (z : Int) : numOk (dec z) = true := by
  obtain ⟨hn, hb⟩ := dec_parts z
  obtain ⟨c, t, hc, h1, h2, h48⟩ := decN_head (n := z.natAbs)
  have hdr : (dec z).drop (if true && isNeg (dec z) then 1 else 0) = decN z.natAbs := by
    rw [hn]
    unfold dec
    by_cases hz : z < 0 <;> simp [hz]
  have hlen : (dec z).length = (if true && isNeg (dec z) then 1 else 0) + (decN z.natAbs).length := by
    rw [hn]
    unfold dec
    by_cases hz : z < 0 <;> simp [hz]
    omega
  have hrun := digRun_full (decN_digs z.natAbs)
  have hpos : 0 < (decN z.natAbs).length := by rw [hc]; simp
  unfold numOk
  cases h : ((decN z.natAbs).head? == some 48)
  · have hr := numLen_run (sg := true) (t := dec z) rfl (by rw [hdr]; exact h) rfl
    rw [hdr, hrun] at hr
    rw [hr, hlen]
    simp
    omega
  · have h0 : z.natAbs = 0 := by
      rw [hc] at h
      simp only [List.head?_cons, beq_iff_eq, Option.some.injEq] at h
      exact h48 h
    obtain rfl : z = 0 := by omega
    rw [dec_zero]
    decide

/-- Written and read, if it is not too long. -/
theorem parse_of_dec {z : Int} (h : z.natAbs < 10 ^ 1000) : parseZ (dec z) = z ∧ parseC (dec z) = 0 ∧ (dec z).length ≤ 1001 := by
  obtain ⟨hn, hb⟩ := dec_parts z
  have hok := dec_ok z
  have hl := decN_len h
  unfold parseZ parseC
  rw [if_pos hok, if_pos hok, hb, if_pos hl, if_pos hl]
  refine ⟨?_, rfl, ?_⟩
  · unfold numVal
    rw [hn, hb, readN_decN]
    unfold sg
    by_cases hz : z < 0
    · simp [hz]; omega
    · simp [hz]; omega
  · unfold dec
    split
    · simp; omega
    · omega

theorem p10pos (k : Nat) : 0 < 10 ^ k := Nat.pow_pos (by omega)

theorem natpow10 (k : Nat) : ((10 ^ k : Nat) : Int) = (10 : Int) ^ k := by rw [Int.natCast_pow]; rfl

theorem pow10_le {i k : Nat} (h : i ≤ k) : (10 : Int) ^ i ≤ 10 ^ k := by
  have h1 := Nat.pow_le_pow_right (n := 10) (by omega) h
  have e1 : ((10 ^ i : Nat) : Int) = (10 : Int) ^ i := by rw [Int.natCast_pow]; rfl
  have e2 : ((10 ^ k : Nat) : Int) = (10 : Int) ^ k := by rw [Int.natCast_pow]; rfl
  omega

theorem parseZ_lt (t : List UInt8) : (parseZ t).natAbs < 10 ^ 1000 := by
  unfold parseZ
  have hp := p10pos 1000
  split
  · rename_i hok
    split
    · rename_i hl
      have h1 := readN_bound (numOk_canon hok).1.digs
      have h2 : (10 : Int) ^ (body t).length ≤ 10 ^ 1000 := pow10_le hl
      have h3 : numVal t = readN (body t) ∨ numVal t = - readN (body t) := by unfold numVal sg; split <;> simp
      have h4 := natpow10 1000
      generalize (10 : Int) ^ 1000 = p at *
      generalize (10 : Nat) ^ 1000 = q at *
      omega
    · exact hp
  · exact hp

end Go.Proofs.Ytbbidekjbgjooaa
