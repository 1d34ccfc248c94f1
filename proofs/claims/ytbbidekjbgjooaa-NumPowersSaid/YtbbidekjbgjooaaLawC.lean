/- NumLaws: the walk. -/
import Derived.Test.YtbbidekjbgjooaaLawB
import Derived.Test.YtbbidekjbgjooaaGcd
namespace Go.Proofs.Ytbbidekjbgjooaa
open Go.RowKit

theorem held_of2 {W w' : World} {p : Addr} {v : Value} (e : Ext W w') (h : W.cell? p = some v) : Ext W w' ∧ (∀ b o, b < W.heap.size → w'.cell? ⟨b, o, none⟩ = W.cell? ⟨b, o, none⟩) ∧ w'.cell? p = some v := ⟨e, (bcell e).1, cell_later e h⟩

theorem bt_gcd {a b : Int} {n : Nat} (ha : Bt a n) (hb : Bt b n) : Bt (Int.gcd a b) n := by
  by_cases h : a = 0
  · subst h
    rw [Int.gcd_zero_left]
    exact hb.le (by simp)
  · have h1 : Int.gcd a b ≤ a.natAbs := Nat.le_of_dvd (by omega) (Nat.gcd_dvd_left _ _)
    exact ha.le (by simpa using h1)

theorem bt_ediv {a : Int} {n : Nat} (b : Int) (h : Bt a n) : Bt (a / b) n := h.le (Int.natAbs_ediv_le_natAbs a b)
theorem bt_emod {a b : Int} {n : Nat} (hb : b ≠ 0) (h : Bt b n) : Bt (a % b) n := by
  have h1 := Int.emod_nonneg a hb
  have h2 := Int.emod_lt a hb
  exact h.le (by omega)

theorem dec_zero : dec 0 = [48] := by unfold dec decN; rw [if_neg (by omega)]; rfl

/-- A number that was read, written and read again. -/
theorem parse_back (t : List UInt8) : parseZ (dec (parseZ t)) = parseZ t ∧ parseC (dec (parseZ t)) = 0 ∧ (dec (parseZ t)).length ≤ 1001 := by
  by_cases hc : parseC t = 0
  · rw [parse_dec hc]
    refine ⟨rfl, hc, ?_⟩
    unfold parseC at hc
    split at hc
    · split at hc
      · rename_i h
        rw [body_length] at h
        split at h <;> omega
      · omega
    · omega
  · have h0 : parseZ t = 0 := by
      unfold parseC at hc
      unfold parseZ
      split at hc
      · rename_i h
        rw [if_pos h]
        split at hc
        · omega
        · rename_i h2
          rw [if_neg h2]
      · rename_i h
        rw [if_neg h]
    rw [h0, dec_zero]
    refine ⟨by decide, by decide, by decide⟩

end Go.Proofs.Ytbbidekjbgjooaa
