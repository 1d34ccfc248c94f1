/- Div32, Len32, LeadingZeros32. -/
import Derived.Test.YtbbidekjbgjooaaNumF
import Derived.Test.YtbbidekjbgjooaaBits
namespace Go.Proofs.Ytbbidekjbgjooaa
open Go.RowKit

theorem or_low {p x : Int} (hp : 0 ≤ p ∧ p ≤ 4294967295) (hx : 0 ≤ x ∧ x ≤ 4294967295) : bits BinOp.or IntKind.u64 (p * 4294967296) x = p * 4294967296 + x := by
  rw [u64_or _ _ (by omega) (by omega) (by omega) (by omega)]
  rw [nat_join 32 _ _ (by omega) (by omega)]
  omega

theorem div32_bounds {hi lo y : Int} (h0 : 0 ≤ hi) (h1 : hi < y) (h2 : 0 ≤ lo ∧ lo ≤ 4294967295) : 0 ≤ (hi * 4294967296 + lo) / y ∧ (hi * 4294967296 + lo) / y ≤ 4294967295 ∧ 0 ≤ (hi * 4294967296 + lo) % y ∧ (hi * 4294967296 + lo) % y < y := by
  refine ⟨Int.ediv_nonneg (by omega) (by omega), ?_, Int.emod_nonneg _ (by omega), Int.emod_lt_of_pos _ (by omega)⟩
  have : (hi * 4294967296 + lo) / y < 4294967296 := Int.ediv_lt_of_lt_mul (by omega) (by omega)
  omega

set_option maxHeartbeats 400000 in
theorem div32 (hi lo y : Int) (w : World) (h0 : 0 ≤ hi) (h1 : hi < y) (hy : y ≤ 4294967295) (h2 : 0 ≤ lo ∧ lo ≤ 4294967295) :
    Calls Try.prog 92 #[.int .u32 hi, .int .u32 lo, .int .u32 y] w (fun e w' => e = .returned (.tuple #[.int .u32 ((hi * 4294967296 + lo) / y), .int .u32 ((hi * 4294967296 + lo) % y)]) ∧ Ext w w') := by
  have ho := or_low (p := hi) (by omega) h2
  have hb := div32_bounds h0 h1 h2
  go_enter Try.func92, Try.ntmps92
  go_wp2
  go_quiet (fail)
  go_wp2
  go_ret2
  exact ⟨rfl, below_drewN (Ext.rf _) _⟩

theorem valL_set_drop {l : List Int} {k : Nat} (h : k < l.length) (v : Int) : valL ((l.set k v).drop k) = v + 4294967296 * valL (l.drop (k + 1)) := by
  rw [valL_at_drop, at_set_eq h, List.drop_set_of_lt (by omega)]

/-- The call answers a slice of these places and a rest. -/
def RetShort (w : World) (n : Nat) (q r : Int) (e : Ending) (w' : World) : Prop :=
  ∃ (s : SV) (l : List Int), e = .returned (.tuple #[.slice s.a s.len s.cap, .int .u32 r]) ∧ IsL w' s .u32 l ∧ l.length = n ∧ valL l = q ∧ Ext w w'

theorem short_end {A D o r : Int} (h : o * D + r = A) (h0 : 0 ≤ r) (h1 : r < D) : o = A / D ∧ r = A % D := by
  have h2 := Int.mul_ediv_add_emod A D
  have h3 := Int.emod_nonneg A (show D ≠ 0 by omega)
  have h4 := Int.emod_lt_of_pos A (show 0 < D by omega)
  have : A / D = o := by
    rw [← h, Int.add_comm, Int.add_mul_ediv_right _ _ (by omega), Int.ediv_eq_zero_of_lt h0 h1, Int.zero_add]
  rw [this] at h2
  refine ⟨this.symm, ?_⟩
  have e : D * o = o * D := Int.mul_comm ..
  omega

theorem short_step {V o r a D : Int} (h : o * D + r = V) : ((r * 4294967296 + a) / D + 4294967296 * o) * D + (r * 4294967296 + a) % D = a + 4294967296 * V := by
  have h2 := Int.mul_ediv_add_emod (r * 4294967296 + a) D
  generalize (r * 4294967296 + a) / D = q at *
  generalize (r * 4294967296 + a) % D = s at *
  subst h
  grind

set_option maxRecDepth 100000 in
set_option maxHeartbeats 1000000 in
theorem short_any (s : SV) (a : List Int) (d : Int) (w : World) (ha : IsL w s .u32 a) (hla : a.length ≤ 1099511627776) (hd : 1 ≤ d ∧ d ≤ 4294967295) :
    Calls Try.prog 80 #[.slice s.a s.len s.cap, .int .u32 d] w (RetShort w a.length (valL a / d) (valL a % d)) := by
  have da : Dig a := ha.2
  obtain ⟨ao, ca, rfl, hca, hcam, hopa⟩ := ha.open_
  go_enter Try.func80, Try.ntmps80
  go_wp2_with (at_make; refine wpL_make _ rfl _ _ 22 rfl 93 .u32 4 Try.underlying22 infoU32 _ _ _ _ a.length rfl rfl (by omega) (by omega) (by omega) (by omega) ?_; intro w1 hown1 hx1 hlt1)
  go_loopw [7, 8] (fun rv i wr => ∃ (k : Nat) (r : Int) (o : List Int), rv = .int .u32 r ∧ i = .int .i64 ((k : Int) - 1) ∧ k ≤ a.length ∧ Own wr w.heap.size 93 .u32 o ∧ o.length = a.length ∧ Dig o ∧ (0 ≤ r ∧ r < d) ∧
      valL (o.drop k) * d + r = valL (a.drop k) ∧ Ext w wr) (fun _ i _ => (intOf i + 1).toNat)
  case atStart => exact ⟨a.length, 0, _, rfl, rfl, Nat.le_refl _, hown1, by simp, dig_zeros _, by omega, by rw [List.drop_of_length_le (by simp), List.drop_of_length_le (by simp)]; simp [valL], hx1⟩
  case round =>
    obtain ⟨k, r, o, rfl, rfl, hk, hown, hol, hdo, hr, hval, hx⟩ := hrel
    clear hown1
    replace hval := hd_ hval
    replace hol := hd_ hol
    match k, hk, hval with
    | 0, hk, hval =>
      go_wp2
      go_ret2
      have h1 := short_end hval.out hr.1 hr.2
      rw [List.drop_zero, List.drop_zero] at h1
      refine ⟨⟨some ⟨w.heap.size, 0, none⟩, a.length, a.length⟩, o, by rw [← h1.2]; rfl, ?_, hol.out, h1.1, hx⟩
      have := hown.isL (by have := hol.out; omega) hdo
      rw [hol.out] at this
      exact this
    | k + 1, hk, hval =>
      rw [show ((k + 1 : Nat) : Int) - 1 = (k : Int) by omega]
      obtain ⟨ba, oa, rfl, hba, ga⟩ := hopa (by omega)
      have ga := (hx.cell (p := ⟨ba, oa + k, none⟩) hba.lt).trans (ga k hk)
      have fa := da.at_ k
      have hb := div32_bounds (y := d) hr.1 hr.2 fa
      go_wp2_with fail
      refine (div32 _ _ _ _ hr.1 hr.2 hd.2 fa).mono ?_
      rintro e w2 ⟨rfl, hx2⟩
      have go := (hown.keep hx2).cell (i := k) (by have := hol.out; omega)
      have gf := (hown.keep hx2).frozen k
      go_wp2
      go_roundw
      case rel =>
        refine ⟨k, _, o.set k _, rfl, rfl, by omega, (hown.keep hx2).set k _, by rw [List.length_set]; exact hol.out, hdo.set k ⟨hb.1, hb.2.1⟩, ⟨hb.2.2.1, hb.2.2.2⟩, ?_, (hx.tr hx2).st (Nat.le_refl _) _⟩
        rw [valL_set_drop (by have := hol.out; omega), valL_at_drop a k]
        exact short_step hval.out
      case measure => first | (simp [intOf]; done) | (simp [intOf]; omega)

theorem at_zeros (n i : Nat) : at_ (List.replicate n 0) i = 0 := by
  simp only [at_, List.getD_eq_getElem?_getD, List.getElem?_replicate]
  split <;> rfl

/-- The call answers a new block of places, known whole. -/
def RetOwn (w : World) (n : Nat) (z : Int) (e : Ending) (w' : World) : Prop :=
  ∃ (b : Nat) (l : List Int), e = .returned (.slice (some ⟨b, 0, none⟩) n n) ∧ Own w' b 93 .u32 l ∧ l.length = n ∧ Dig l ∧ valL l = z ∧ w.heap.size ≤ b ∧ Ext w w'

theorem pow2_le {r : Nat} (h : r < 32) : (1 : Int) ≤ 2 ^ r ∧ (2 : Int) ^ r ≤ 2147483648 ∧ (4294967296 : Int) = 2 ^ r * 2 ^ (32 - r) := by
  have h1 : (2 : Nat) ^ r ≤ 2 ^ 31 := Nat.pow_le_pow_right (by omega) (by omega)
  have h2 : (1 : Nat) ≤ 2 ^ r := Nat.one_le_two_pow
  have e : (2 : Int) ^ r = ((2 ^ r : Nat) : Int) := by simp
  have e3 : (2 : Int) ^ r * 2 ^ (32 - r) = 2 ^ 32 := by rw [← Int.pow_add, show r + (32 - r) = 32 by omega]
  refine ⟨by omega, by omega, e3.symm⟩

theorem or_join32 {r : Nat} {c l : Int} (hr : r < 32) (hc : 0 ≤ c ∧ c < 2 ^ r) (hl : 0 ≤ l ∧ l ≤ 4294967295) (hd : l % 2 ^ r = 0) : bits BinOp.or IntKind.u32 c l = c + l ∧ bits BinOp.or IntKind.u32 l c = l + c ∧ c + l ≤ 4294967295 := by
  have h2 := pow2_le hr
  obtain ⟨C, rfl⟩ := Int.eq_ofNat_of_zero_le hc.1
  obtain ⟨L, rfl⟩ := Int.eq_ofNat_of_zero_le hl.1
  have e : (2 : Int) ^ r = ((2 ^ r : Nat) : Int) := by simp
  have e2 : (2 : Int) ^ (32 - r) = ((2 ^ (32 - r) : Nat) : Int) := by simp
  rw [e] at hd hc h2
  rw [e2] at h2
  have hd' : L % 2 ^ r = 0 := by omega
  have hj := nat_join r L C hd' (by omega)
  have hj2 : C ||| L = C + L := by rw [Nat.or_comm, hj]; omega
  have hlt : C + L < 4294967296 := by
    obtain ⟨m, hm⟩ := Nat.dvd_of_mod_eq_zero hd'
    have h5 : 4294967296 = 2 ^ r * 2 ^ (32 - r) := by have := h2.2.2; rw [← Int.natCast_mul] at this; omega
    generalize 2 ^ (32 - r) = q at *
    generalize 2 ^ r = p at *
    subst hm
    have h6 : m < q := by
      refine Nat.lt_of_mul_lt_mul_left (a := p) ?_
      omega
    have h7 := Nat.mul_le_mul_left p (show m + 1 ≤ q from h6)
    rw [Nat.mul_add, Nat.mul_one] at h7
    omega
  refine ⟨?_, ?_, by omega⟩
  · rw [u32_or_nat _ _ (by omega) (by omega), hj2]; simp
  · rw [u32_or_nat _ _ (by omega) (by omega), hj]; simp

theorem left_cells {r : Nat} {x c : Int} (hr : r < 32) (hx : 0 ≤ x ∧ x ≤ 4294967295) (hc : 0 ≤ c ∧ c < 2 ^ r) :
    bits BinOp.or IntKind.u32 c (IntKind.u64.wrap (x * 2 ^ r) % 4294967296) = c + (x * 2 ^ r) % 4294967296 ∧
    bits BinOp.or IntKind.u32 0 (IntKind.u64.wrap (x * 2 ^ r) / 4294967296 % 4294967296) = x * 2 ^ r / 4294967296 ∧
    (0 ≤ c + (x * 2 ^ r) % 4294967296 ∧ c + (x * 2 ^ r) % 4294967296 ≤ 4294967295) ∧ (0 ≤ x * 2 ^ r / 4294967296 ∧ x * 2 ^ r / 4294967296 < 2 ^ r) ∧ (2 : Int) ^ r ≤ 4294967296 := by
  have h2 := pow2_le hr
  have hd : (x * 2 ^ r) % 4294967296 % 2 ^ r = 0 := by
    rw [Int.emod_emod_of_dvd _ ⟨_, h2.2.2⟩, Int.mul_emod_left]
  have hb : 0 ≤ x * 2 ^ r ∧ x * 2 ^ r ≤ 4294967295 * 2147483648 := ⟨Int.mul_nonneg hx.1 (by omega), Int.mul_le_mul hx.2 h2.2.1 (by omega) (by omega)⟩
  have hlt : x * 2 ^ r < 2 ^ r * 4294967296 := by
    have := Int.mul_le_mul_of_nonneg_right hx.2 (show (0 : Int) ≤ 2 ^ r by omega)
    omega
  have hw : IntKind.u64.wrap (x * 2 ^ r) = x * 2 ^ r := by rw [IntKind.wrap_u64]; omega
  rw [hw]
  have hl : 0 ≤ (x * 2 ^ r) % 4294967296 ∧ (x * 2 ^ r) % 4294967296 ≤ 4294967295 := by omega
  have hj := or_join32 hr hc hl hd
  have hh : 0 ≤ x * 2 ^ r / 4294967296 ∧ x * 2 ^ r / 4294967296 < 2 ^ r := ⟨by omega, Int.ediv_lt_of_lt_mul (by omega) hlt⟩
  have hh2 := hh.2
  refine ⟨hj.1, ?_, ⟨by omega, hj.2.2⟩, hh, by omega⟩
  rw [Int.emod_eq_of_lt hh.1 (by omega)]
  rw [u32_or _ _ (by omega) (by omega) (by omega) (by omega)]
  simp; omega

set_option maxRecDepth 100000 in
set_option maxHeartbeats 1000000 in
theorem left_any (s : SV) (a : List Int) (N : Int) (q r : Nat) (w : World) (ha : IsL w s .u32 a) (hla : a.length ≤ 1099511627776) (hN : N = 32 * q + r) (hr : r < 32) (hq : q ≤ 1099511627776) :
    Calls Try.prog 82 #[.slice s.a s.len s.cap, .int .i64 N] w (RetOwn w (a.length + q + 1) (valL a * 2 ^ r * 4294967296 ^ q)) := by
  have da : Dig a := ha.2
  obtain ⟨ao, ca, rfl, hca, hcam, hopa⟩ := ha.open_
  have e1 : N / 32 = q := by omega
  have e2 : N % 32 = r := by omega
  have hN0 : 0 ≤ N := by omega
  clear hN
  go_enter Try.func82, Try.ntmps82
  go_wp2_with (at_make; refine wpL_make _ rfl _ _ 22 rfl 93 .u32 4 Try.underlying22 infoU32 _ _ _ _ (a.length + q + 1) rfl rfl (by omega) (by omega) (by omega) (by omega) ?_; intro w1 hown1 hx1 hlt1)
  go_loopw [18] (fun i wr => ∃ (k : Nat) (o : List Int), i = .int .i64 k ∧ k ≤ a.length ∧ Own wr w.heap.size 93 .u32 o ∧ o.length = a.length + q + 1 ∧ Dig o ∧
      valL o = valL (a.take k) * 2 ^ r * 4294967296 ^ q ∧ (∀ t, k + q < t → at_ o t = 0) ∧ at_ o (k + q) < 2 ^ r ∧ Ext w wr) (fun i _ => a.length - (intOf i).toNat)
  case atStart =>
    refine ⟨0, _, rfl, Nat.zero_le _, hown1, by simp, dig_zeros _, ?_, fun t _ => ?_, ?_, hx1⟩
    · rw [valL_zero (fun j => at_zeros _ j)]; simp [valL]
    · exact at_zeros _ t
    · rw [at_zeros]; exact Int.pow_pos (by omega)
  case round =>
    obtain ⟨k, o, rfl, hk, hown, hol, hdo, hval, hz, htop, hx⟩ := hrel
    clear hown1
    replace hval := hd_ hval
    replace hol := hd_ hol
    replace hz := hd_ hz
    replace htop := hd_ htop
    by_cases hlt : k < a.length
    · obtain ⟨ba, oa, rfl, hba, ga⟩ := hopa (by omega)
      have ga := (hx.cell (p := ⟨ba, oa + k, none⟩) hba.lt).trans (ga k hlt)
      have fa := da.at_ k
      have go := hown.cell (i := k + q) (by have := hol.out; omega)
      have gf := hown.frozen (k + q)
      have go2 := hown.cell (i := k + q + 1) (by have := hol.out; omega)
      have gf2 := hown.frozen (k + q + 1)
      go_wp2
      have hz1 : at_ o (k + q + 1) = 0 := hz.out _ (by omega)
      have fo := hdo.at_ (k + q)
      obtain ⟨c1, c2, c3, c4, c5⟩ := left_cells hr fa ⟨fo.1, htop.out⟩
      rw [hz1, c1, c2]
      go_roundw
      case rel =>
        refine ⟨k + 1, (o.set (k + q) _).set (k + q + 1) _, rfl, by omega, (hown.set (k + q) _).set (k + q + 1) _, by rw [List.length_set, List.length_set]; exact hol.out, (hdo.set _ c3).set _ (by have := c4.2; omega), ?_, ?_, ?_, (hx.st (Nat.le_refl _) _).st (Nat.le_refl _) _⟩
        · rw [valL_set_full (by rw [List.length_set]; have := hol.out; omega), valL_set_full (by have := hol.out; omega), at_set_ne (by omega), hz1, hval.out, valL_take_succ]
          rw [show k + q + 1 = k + q + 1 from rfl, Int.pow_succ, pow_add' k q]
          generalize (2 : Int) ^ r = p2 at *
          have e := Int.mul_ediv_add_emod (at_ a k * p2) 4294967296
          generalize (at_ a k * p2) / 4294967296 = h at *
          generalize (at_ a k * p2) % 4294967296 = l at *
          generalize (4294967296 : Int) ^ k = bk at *
          generalize (4294967296 : Int) ^ q = bq at *
          clear c1 c2 c3 c4 c5
          grind
        · intro t ht
          rw [at_set_ne (by omega), at_set_ne (by omega)]
          exact hz.out t (by omega)
        · rw [show k + 1 + q = k + q + 1 by omega, at_set_eq (by rw [List.length_set]; have := hol.out; omega)]
          exact c4.2
      case measure => first | (simp [intOf]; done) | (simp [intOf]; omega)
    · obtain rfl : k = a.length := by omega
      go_wp2
      go_ret
      refine ⟨w.heap.size, o, rfl, hown, hol.out, hdo, ?_, Nat.le_refl _, hx⟩
      rw [hval.out, List.take_of_length_le (Nat.le_refl _)]

end Go.Proofs.Ytbbidekjbgjooaa
