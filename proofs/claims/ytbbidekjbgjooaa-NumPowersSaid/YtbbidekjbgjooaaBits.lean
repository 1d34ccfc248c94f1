/- math/bits.Len32 and LeadingZeros32: the kit's contracts, laid at this program. -/
import Derived.Shelf.Small.Bits
import Derived.Test.YtbbidekjbgjooaaDivP
namespace Go.Proofs.Ytbbidekjbgjooaa
open Go.Shelf

def lays128_ren : Go.Shelf.Ren := ⟨fun | 128 => 99 | n => n, fun | 51 => 93 | 3 => 3 | 4 => 4 | 46 => 96 | 5 => 5 | 9 => 9 | n => n, fun | n => n⟩
theorem lays128 : Go.Proofs.Lays.n128 Try.prog lays128_ren := {
  mixed := by kernel_rfl
  f128 := Try.func99.trans (congrArg some (by kernel_rfl))
  t3 := Try.underlying3
  a3 := Try.isAgg3
  z3 := Try.sizeOf3
  v3 := Try.zeroValue3
  t4 := Try.underlying4
  a4 := Try.isAgg4
  z4 := Try.sizeOf4
  v4 := Try.zeroValue4
  t5 := Try.underlying5
  a5 := Try.isAgg5
  z5 := Try.sizeOf5
  v5 := Try.zeroValue5
  t9 := Try.underlying9
  a9 := Try.isAgg9
  z9 := Try.sizeOf9
  v9 := Try.zeroValue9
  t46 := Try.underlying96
  a46 := Try.isAgg96
  z46 := Try.sizeOf96
  v46 := Try.zeroValue96
  t51 := Try.underlying93
  a51 := Try.isAgg93
  z51 := Try.sizeOf93
  v51 := Try.zeroValue93 }

def lays133_ren : Go.Shelf.Ren := ⟨fun | 133 => 93 | 128 => 99 | n => n, fun | 51 => 93 | 3 => 3 | 4 => 4 | 46 => 96 | 5 => 5 | 9 => 9 | n => n, fun | n => n⟩
theorem lays133 : Go.Proofs.Lays.n133 Try.prog lays133_ren := {
  mixed := by kernel_rfl
  f128 := Try.func99.trans (congrArg some (by kernel_rfl))
  f133 := Try.func93.trans (congrArg some (by kernel_rfl))
  t3 := Try.underlying3
  a3 := Try.isAgg3
  z3 := Try.sizeOf3
  v3 := Try.zeroValue3
  t4 := Try.underlying4
  a4 := Try.isAgg4
  z4 := Try.sizeOf4
  v4 := Try.zeroValue4
  t5 := Try.underlying5
  a5 := Try.isAgg5
  z5 := Try.sizeOf5
  v5 := Try.zeroValue5
  t9 := Try.underlying9
  a9 := Try.isAgg9
  z9 := Try.sizeOf9
  v9 := Try.zeroValue9
  t46 := Try.underlying96
  a46 := Try.isAgg96
  z46 := Try.sizeOf96
  v46 := Try.zeroValue96
  t51 := Try.underlying93
  a51 := Try.isAgg93
  z51 := Try.sizeOf93
  v51 := Try.zeroValue93 }

theorem lz32 (x : Int) (w : World) (h0 : 0 ≤ x) (h1 : x ≤ 4294967295) :
    Calls Try.prog 93 #[.int .u32 x] w fun e w' => e = .returned (.int .i64 (32 - (Lib.bitLen x.toNat : Int))) ∧ w = w' := (Any.bits_LeadingZeros32 lays133 x w h0 h1).mono fun _ _ h => ⟨h.1, h.2.symm⟩

theorem bitLen_bounds (n : Nat) (h0 : 0 < n) (h : n < 18446744073709551616) : 0 < Lib.bitLen n ∧ 2 ^ (Lib.bitLen n - 1) ≤ n ∧ n < 2 ^ Lib.bitLen n := by
  induction n using Nat.strongRecOn with
  | ind n ih =>
    rcases Nat.lt_or_ge n 2 with h1 | h1
    · obtain rfl : n = 1 := by omega
      decide
    · have h2 := Lib.bitLen_half n (by omega) h
      have h3 := ih (n / 2) (by omega) (by omega) (by omega)
      rw [h2]
      generalize Lib.bitLen (n / 2) = k at *
      have e : 1 + k - 1 = k - 1 + 1 := by omega
      have e2 : 1 + k = k + 1 := by omega
      rw [e, e2, Nat.pow_succ, Nat.pow_succ]
      refine ⟨by omega, by omega, by omega⟩

/-- How far a place is moved up till its highest bit is set. -/
theorem lz_bounds {x : Int} (h0 : 0 < x) (h1 : x ≤ 4294967295) : ∃ s : Nat, s < 32 ∧ (32 - (Lib.bitLen x.toNat : Int)) = s ∧ 2147483648 ≤ x * 2 ^ s ∧ x * 2 ^ s ≤ 4294967295 := by
  obtain ⟨n, rfl⟩ := Int.eq_ofNat_of_zero_le (Int.le_of_lt h0)
  rw [show ((n : Int)).toNat = n by omega]
  have hb := bitLen_bounds n (by omega) (by omega)
  have h32 : Lib.bitLen n ≤ 32 := by
    refine Nat.not_lt.1 fun hc => ?_
    have : 2 ^ 32 ≤ 2 ^ (Lib.bitLen n - 1) := Nat.pow_le_pow_right (by omega) (by omega)
    omega
  generalize Lib.bitLen n = k at *
  have e1 : 2 ^ (32 - k) * 2 ^ (k - 1) = 2147483648 := by rw [← Nat.pow_add, show 32 - k + (k - 1) = 31 by omega]
  have e2 : 2 ^ (32 - k) * 2 ^ k = 4294967296 := by rw [← Nat.pow_add, show 32 - k + k = 32 by omega]
  have g1 := Nat.mul_le_mul_left (2 ^ (32 - k)) hb.2.1
  have g2 : 2 ^ (32 - k) * (n + 1) ≤ 2 ^ (32 - k) * 2 ^ k := Nat.mul_le_mul_left _ hb.2.2
  have g3 : 1 ≤ 2 ^ (32 - k) := Nat.one_le_two_pow
  rw [Nat.mul_add, Nat.mul_one] at g2
  have e3 : (n : Int) * 2 ^ (32 - k) = ((2 ^ (32 - k) * n : Nat) : Int) := by rw [Int.natCast_mul, Int.mul_comm]; simp
  refine ⟨32 - k, by omega, by omega, ?_, ?_⟩ <;> rw [e3] <;> omega

end Go.Proofs.Ytbbidekjbgjooaa
