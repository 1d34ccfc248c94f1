/- Small. -/
import Derived.Test.YtbbidekjbgjooaaText
namespace Go.Proofs.Ytbbidekjbgjooaa
open Go.RowKit

/-- Is it a machine's integer? -/
def in64 (z : Int) : Bool := decide (-9223372036854775808 ≤ z ∧ z ≤ 9223372036854775807)
/-- The number, if it is one. -/
def smallN (z : Int) : Int := if in64 z then z else 0
theorem in64_yes {z : Int} (h : -9223372036854775808 ≤ z ∧ z ≤ 9223372036854775807) : in64 z = true ∧ smallN z = z := by
  have : in64 z = true := by simpa [in64] using h
  exact ⟨this, by simp [smallN, this]⟩
theorem in64_no {z : Int} (h : ¬ (-9223372036854775808 ≤ z ∧ z ≤ 9223372036854775807)) : in64 z = false ∧ smallN z = 0 := by
  have : in64 z = false := by simpa [in64] using h
  exact ⟨this, by simp [smallN, this]⟩

theorem or_up {x y : Int} (hx : 0 ≤ x ∧ x ≤ 4294967295) (hy : 0 ≤ y ∧ y ≤ 4294967295) : bits BinOp.or IntKind.u64 x (y * 4294967296) = x + y * 4294967296 := by
  rw [u64_or _ _ (by omega) (by omega) (by omega) (by omega)]
  rw [Nat.or_comm, nat_join 32 _ _ (by omega) (by omega)]
  omega
theorem or_none {x : Int} (hx : 0 ≤ x ∧ x ≤ 4294967295) : bits BinOp.or IntKind.u64 0 x = x := by
  rw [u64_or _ _ (by omega) (by omega) (by omega) (by omega)]
  simp; omega

/-- Two machine words of 32 bits, joined. -/
def two (l : List Int) : Int := at_ l 0 + at_ l 1 * 4294967296

theorem val_two {l : List Int} (h : l.length ≤ 2) : valL l = two l := by
  match l, h with
  | [], _ => rfl
  | [x], _ => simp [valL, two, at_]
  | [x, y], _ => simp [valL, two, at_]; omega

theorem two_take0 (l : List Int) : two (l.take 0) = 0 := by simp [two, at_]
theorem two_take1 (l : List Int) : two (l.take 1) = at_ l 0 := by
  match l with
  | [] => rfl
  | x :: t => simp [two, at_]

set_option maxHeartbeats 400000 in
theorem small_any (x : IV) (z : Int) (w : World) (h : IsI w x z) :
    Calls Try.prog 12 #[.agg #[.bool x.n, .slice x.s.a x.s.len x.s.cap]] w (fun e w' => e = .returned (.tuple #[.int .i64 (smallN z), .bool (in64 z)]) ∧ Ext w w') := by
  obtain ⟨l, hl, hn, hd, hle, hz, h0, hs⟩ := h.open_
  obtain ⟨n, s⟩ := x
  obtain ⟨ao, cap, rfl, hcap, hcm, hop⟩ := hl.open_
  have he0 := ((Ext.rf w).al (Obj.cells #[Value.bool n, Value.slice ao l.length cap] 24))
  simp only at hz h0
  by_cases h3 : 2 < l.length
  · have H : Hd (in64 z = false ∧ smallN z = 0) := hd_ (by
      apply in64_no
      have h1 : (4294967296 : Int) ^ 2 ≤ valL l := by
        rcases hn with rfl | hn
        · simp at h3
        · exact Int.le_trans (pow_mono' (by omega)) (valL_ge hd hn)
      rw [hz]; unfold sg; split <;> omega)
    clear hz h0 hs hn
    go_enter Try.func12, Try.ntmps12
    go_wp2
    go_ret2
    exact ⟨ret2_ib H.out.2.symm H.out.1.symm, he0⟩
  · have hv := val_two (l := l) (by omega)
    have f0 := hd.at_ 0
    have f1 := hd.at_ 1
    have HV := hd_ hv
    have HT : two l = at_ l 0 + at_ l 1 * 4294967296 := rfl
    have hg0 : 1 ≤ l.length → ∃ b off, ao = some ⟨b, off, none⟩ ∧ w.cell? ⟨b, off, none⟩ = some (.int .u32 (at_ l 0)) ∧ b < w.heap.size := fun h => by
      obtain ⟨b, off, ha, hb, hc⟩ := hop (by omega)
      exact ⟨b, off, ha, hc 0 (by omega), hb.lt⟩
    have o1 := or_none f0
    have o2 := or_up f0 f1
    rw [HV.out] at hz
    have h20 : l.length = 0 → two l = 0 := fun h => by rw [← hv, List.eq_nil_of_length_eq_zero h]; rfl
    have h21 : l.length = 1 → two l = at_ l 0 := fun h => by unfold two; rw [at_ge (l := l) (i := 1) (by omega)]; omega
    go_enter Try.func12, Try.ntmps12
    go_wp2
    go_loop [4, 14] (fun u i => ∃ k : Nat, k ≤ l.length ∧ i = .int .i64 k ∧ u = .int .u64 (two (l.take k))) (fun _ i => l.length - (intOf i).toNat)
    case atStart => exact ⟨0, Nat.zero_le _, rfl, by rw [two_take0]⟩
    case round =>
      obtain ⟨k, hk, rfl, rfl⟩ := hrel
      by_cases hlt : k < l.length
      · obtain ⟨b, off, rfl, hb, hc⟩ := hop (by omega)
        have hbl := hb.lt
        by_cases hk0 : k = 0
        · subst hk0
          have g0 := hc 0 hlt
          simp only [Nat.add_zero] at g0
          have T := hd_ (two_take1 l)
          rw [two_take0]
          go_wp2
          go_round
          case rel => exact ⟨1, by omega, by go_num, by rw [T.out]⟩
          case measure => first | (simp [intOf]; done) | (simp [intOf]; omega)
        · obtain rfl : k = 1 := by omega
          have g0 := hc 1 hlt
          have T : Hd (two (l.take 2) = at_ l 0 + at_ l 1 * 4294967296) := hd_ (by rw [List.take_of_length_le (by omega)]; rfl)
          rw [two_take1]
          go_wp2
          go_round
          case rel => exact ⟨2, by omega, by go_num, by rw [T.out]⟩
          case measure => first | (simp [intOf]; done) | (simp [intOf]; omega)
      · obtain rfl : k = l.length := by omega
        rw [List.take_of_length_le (Nat.le_refl _)]
        have hu : 0 ≤ two l ∧ two l ≤ 18446744073709551615 := by omega
        clear HV HT h20 h21 o1 o2 f0 f1 hv hg0
        generalize two l = u at *
        have hn1 : ∀ u0 : Int, -9223372036854775808 ≤ -u0 → 0 ≤ u0 → IntKind.i64.wrap (IntKind.u64.wrap (-u0)) = -u0 := fun u0 h1 h2 => by
          rw [IntKind.wrap_u64, IntKind.wrap_i64]; omega
        cases n
        · simp only [sg, Bool.false_eq_true, if_false] at hz
          by_cases hb : u ≤ 9223372036854775807
          · have H := hd_ (in64_yes (z := z) (by omega))
            replace hz := hd_ hz
            clear hn1
            go_wp2
            go_ret2
            exact ⟨ret2_ib (by rw [H.out.2, hz.out]) H.out.1.symm, he0⟩
          · have H := hd_ (in64_no (z := z) (by omega))
            replace hz := hd_ hz
            clear hn1
            go_wp2
            go_ret2
            exact ⟨ret2_ib H.out.2.symm H.out.1.symm, he0⟩
        · simp only [sg, if_true] at hz
          by_cases hb : u ≤ 9223372036854775808
          · have H := hd_ (in64_yes (z := z) (by omega))
            have H1 := hd_ (hn1 u (by omega) hu.1)
            replace hz := hd_ hz
            clear hn1
            go_wp2
            go_ret2
            exact ⟨ret2_ib (by rw [H.out.2, hz.out]; exact (IntWalk.i64_left _).symm.trans H1.out) H.out.1.symm, he0⟩
          · have H := hd_ (in64_no (z := z) (by omega))
            replace hz := hd_ hz
            clear hn1
            go_wp2
            go_ret2
            exact ⟨ret2_ib H.out.2.symm H.out.1.symm, he0⟩

end Go.Proofs.Ytbbidekjbgjooaa
