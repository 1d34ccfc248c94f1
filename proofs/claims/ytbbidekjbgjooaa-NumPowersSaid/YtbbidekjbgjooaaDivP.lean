/- Plain laws of division place by place: no program in sight. -/
import Derived.Test.YtbbidekjbgjooaaNumP
namespace Go.Proofs.Ytbbidekjbgjooaa

theorem valL_split (l : List Int) (j : Nat) : valL l = valL (l.take j) + 4294967296 ^ j * valL (l.drop j) := by
  induction j generalizing l with
  | zero => simp [valL]
  | succ j ih =>
    match l with
    | [] => simp [valL]
    | x :: t =>
      simp only [List.take_succ_cons, List.drop_succ_cons, valL]
      rw [ih t, Int.pow_succ]
      grind

theorem Dig.take {l : List Int} (h : Dig l) (j : Nat) : Dig (l.take j) := fun x hx => h x (List.mem_of_mem_take hx)
theorem Dig.drop {l : List Int} (h : Dig l) (j : Nat) : Dig (l.drop j) := fun x hx => h x (List.mem_of_mem_drop hx)

theorem valL_take_lt {l : List Int} (h : Dig l) (j : Nat) : 0 ≤ valL (l.take j) ∧ valL (l.take j) < 4294967296 ^ j := by
  refine ⟨valL_nonneg (h.take j), ?_⟩
  have h1 := valL_lt (h.take j)
  have h2 := pow_mono' (i := (l.take j).length) (j := j) (by simp; omega)
  omega

theorem valL_at_drop (l : List Int) (j : Nat) : valL (l.drop j) = at_ l j + 4294967296 * valL (l.drop (j + 1)) := by
  rcases Nat.lt_or_ge j l.length with h | h
  · rw [List.drop_eq_getElem_cons h, at_lt h]; rfl
  · rw [List.drop_of_length_le h, List.drop_of_length_le (by omega), at_ge h]; simp [valL]

theorem high_zero {l : List Int} (hd : Dig l) {k : Nat} (h : valL l < 4294967296 ^ k) : ∀ i, k ≤ i → at_ l i = 0 := by
  intro i hi
  by_cases h0 : at_ l i = 0
  · exact h0
  · have h1 := valL_ge hd h0
    have h2 := pow_mono' hi
    omega

theorem lt_of_high {l : List Int} (hd : Dig l) {k : Nat} (h : ∀ i, k ≤ i → at_ l i = 0) : valL l < 4294967296 ^ k := by
  have h1 := valL_take h
  have h2 := valL_take_lt hd k
  omega

theorem at_drop (l : List Int) (j i : Nat) : at_ (l.drop j) i = at_ l (j + i) := by simp [at_, List.getElem?_drop]

theorem drop_zero {l : List Int} {k : Nat} (h : ∀ i, k ≤ i → at_ l i = 0) : valL (l.drop k) = 0 :=
  valL_zero fun i => by rw [at_drop]; exact h _ (by omega)

/-- A number by its three highest places. -/
theorem by_three {l : List Int} {j n : Nat} (hn : 2 ≤ n) (h : ∀ i, j + n + 1 ≤ i → at_ l i = 0) :
    valL (l.drop j) = valL ((l.drop j).take (n - 2)) + 4294967296 ^ (n - 2) * ((at_ l (j + n) * 4294967296 + at_ l (j + n - 1)) * 4294967296 + at_ l (j + n - 2)) := by
  rw [valL_split (l.drop j) (n - 2)]
  congr 2
  rw [List.drop_drop, valL_at_drop, valL_at_drop, valL_at_drop, drop_zero (k := j + (n - 2) + 1 + 1 + 1) (fun i hi => h i (by omega))]
  rw [show j + (n - 2) + 1 + 1 = j + n by omega, show j + (n - 2) + 1 = j + n - 1 by omega, show j + (n - 2) = j + n - 2 by omega]
  omega

/-- By its two highest. -/
theorem by_two {l : List Int} {n : Nat} (hn : 2 ≤ n) (h : l.length = n) :
    valL l = valL (l.take (n - 2)) + 4294967296 ^ (n - 2) * (at_ l (n - 1) * 4294967296 + at_ l (n - 2)) := by
  have := by_three (l := l) (j := 0) (n := n) hn (fun i hi => at_ge (by omega))
  simp only [List.drop_zero, Nat.zero_add] at this
  rw [this, at_ge (l := l) (i := n) (by omega)]
  rw [Int.zero_mul, Int.zero_add]

section
variable {u0 u1 u2 lu lv top v2 P U V g rest X Y : Int}

/-- What is known of the places at hand: U: what is left; V: the divisor. -/
structure Places (u0 u1 u2 lu lv top v2 P U V : Int) : Prop where
  hU : U = lu + P * ((u0 * 4294967296 + u1) * 4294967296 + u2)
  hV : V = lv + P * (top * 4294967296 + v2)
  lu0 : 0 ≤ lu
  lu1 : lu < P
  lv0 : 0 ≤ lv
  lv1 : lv < P
  d0 : 0 ≤ u0 ∧ u0 ≤ 4294967295
  d1 : 0 ≤ u1 ∧ u1 ≤ 4294967295
  d2 : 0 ≤ u2 ∧ u2 ≤ 4294967295
  e1 : 2147483648 ≤ top ∧ top ≤ 4294967295
  e2 : 0 ≤ v2 ∧ v2 ≤ 4294967295
  lt : U < V * 4294967296

theorem Places.hP (h : Places u0 u1 u2 lu lv top v2 P U V) : 0 < P := by have := h.lu0; have := h.lu1; omega

theorem Places.top_ (h : Places u0 u1 u2 lu lv top v2 P U V) : u0 ≤ top := by
  obtain ⟨hU, hV, a0, a1, b0, b1, d0, d1, d2, e1, e2, lt⟩ := h
  refine Int.not_lt.1 fun hc => ?_
  have hX : (top * 4294967296 + v2 + 1) * 4294967296 ≤ (u0 * 4294967296 + u1) * 4294967296 + u2 := by omega
  have h1 := Int.mul_le_mul_of_nonneg_left hX (show 0 ≤ P by omega)
  have h2 : P * ((top * 4294967296 + v2 + 1) * 4294967296) = (P * (top * 4294967296 + v2) + P) * 4294967296 := by grind
  rw [h2] at h1
  generalize P * (top * 4294967296 + v2) = p at *
  generalize P * ((u0 * 4294967296 + u1) * 4294967296 + u2) = q at *
  omega

/-- The highest two places of what is left. -/
theorem Places.head (h : Places u0 u1 u2 lu lv top v2 P U V) : 0 ≤ u0 * 4294967296 + u1 ∧ u0 * 4294967296 + u1 ≤ top * 4294967296 + 4294967295 := by
  have := h.top_; have := h.d0; have := h.d1; omega

/-- The guess as it begins. -/
theorem Places.start (h : Places u0 u1 u2 lu lv top v2 P U V) :
    (u0 * 4294967296 + u1) / top * top + (u0 * 4294967296 + u1) % top = u0 * 4294967296 + u1 ∧ 0 ≤ (u0 * 4294967296 + u1) % top ∧ (u0 * 4294967296 + u1) % top < top ∧
    0 ≤ (u0 * 4294967296 + u1) / top ∧ (u0 * 4294967296 + u1) / top ≤ 4294967297 ∧ U < ((u0 * 4294967296 + u1) / top + 1) * V := by
  have hh := h.head
  obtain ⟨hU, hV, a0, a1, b0, b1, d0, d1, d2, e1, e2, lt⟩ := h
  generalize hq : u0 * 4294967296 + u1 = q at *
  have h1 : q / top * top + q % top = q := by rw [Int.mul_comm]; exact Int.mul_ediv_add_emod q top
  have h2 := Int.emod_nonneg q (show top ≠ 0 by omega)
  have h3 := Int.emod_lt_of_pos q (show 0 < top by omega)
  have h4 : 0 ≤ q / top := Int.ediv_nonneg hh.1 (by omega)
  refine ⟨h1, h2, h3, h4, ?_, ?_⟩
  · have : q / top < 4294967298 := by
      apply Int.ediv_lt_of_lt_mul (by omega)
      omega
    omega
  · generalize q / top = g at *
    generalize q % top = r at *
    have hX : (q * 4294967296 + u2) + 1 ≤ (g + 1) * (top * 4294967296 + v2) := by
      have e : (g + 1) * (top * 4294967296 + v2) = (g * top + top) * 4294967296 + (g + 1) * v2 := by grind
      have e2 : 0 ≤ (g + 1) * v2 := Int.mul_nonneg (by omega) e2.1
      rw [e]
      generalize (g + 1) * v2 = z at *
      generalize g * top = gt at *
      omega
    have h5 := Int.mul_le_mul_of_nonneg_left hX (show 0 ≤ P by omega)
    have h6 : P * ((g + 1) * (top * 4294967296 + v2)) = (g + 1) * (P * (top * 4294967296 + v2)) := by grind
    rw [h6, Int.mul_add, Int.mul_one] at h5
    have h7 : (g + 1) * (P * (top * 4294967296 + v2)) ≤ (g + 1) * V := Int.mul_le_mul_of_nonneg_left (by omega) (by omega)
    generalize (g + 1) * (P * (top * 4294967296 + v2)) = x at *
    generalize (g + 1) * V = y at *
    generalize P * (q * 4294967296 + u2) = z at *
    omega

/-- It was too much: one less will do. -/
theorem Places.dec (h : Places u0 u1 u2 lu lv top v2 P U V) (hg : 0 ≤ g) (hr : 0 ≤ rest) (hq : g * top + rest = u0 * 4294967296 + u1) (hc : 4294967296 ≤ g ∨ rest * 4294967296 + u2 < g * v2) :
    1 ≤ g ∧ U < g * V := by
  obtain ⟨hU, hV, a0, a1, b0, b1, d0, d1, d2, e1, e2, lt⟩ := h
  have hg1 : 1 ≤ g := by
    rcases hc with hc | hc
    · omega
    · rcases Int.lt_or_le 0 g with h0 | h0
      · omega
      · obtain rfl : g = 0 := by omega
        rw [Int.zero_mul] at hc
        omega
  refine ⟨hg1, ?_⟩
  have hV0 : 0 ≤ V := by
    have := Int.mul_nonneg (show 0 ≤ P by omega) (show 0 ≤ top * 4294967296 + v2 by omega)
    omega
  rcases hc with hc | hc
  · have h1 : 4294967296 * V ≤ g * V := Int.mul_le_mul_of_nonneg_right hc hV0
    omega
  · generalize hq' : u0 * 4294967296 + u1 = q at *
    have hX : (q * 4294967296 + u2) + 1 ≤ g * (top * 4294967296 + v2) := by
      have e : g * (top * 4294967296 + v2) = (g * top) * 4294967296 + g * v2 := by grind
      rw [e]
      generalize g * v2 = z at *
      generalize g * top = gt at *
      omega
    have h5 := Int.mul_le_mul_of_nonneg_left hX (show 0 ≤ P by omega)
    have h6 : P * (g * (top * 4294967296 + v2)) = g * (P * (top * 4294967296 + v2)) := by grind
    rw [h6, Int.mul_add, Int.mul_one] at h5
    have h7 : g * (P * (top * 4294967296 + v2)) ≤ g * V := Int.mul_le_mul_of_nonneg_left (by omega) hg
    generalize g * (P * (top * 4294967296 + v2)) = x at *
    generalize g * V = y at *
    generalize P * (q * 4294967296 + u2) = z at *
    omega

/-- The guess stands: it is the place, or one more. -/
theorem Places.stop (h : Places u0 u1 u2 lu lv top v2 P U V) (hg : 0 ≤ g) (hq : g * top + rest = u0 * 4294967296 + u1)
    (hc : 4294967296 ≤ rest ∨ (g < 4294967296 ∧ g * v2 ≤ rest * 4294967296 + u2)) : g < 4294967296 ∧ (g - 1) * V ≤ U := by
  have hh := h.head
  obtain ⟨hU, hV, a0, a1, b0, b1, d0, d1, d2, e1, e2, lt⟩ := h
  generalize hq' : u0 * 4294967296 + u1 = q at *
  have hgB : g < 4294967296 := by
    rcases hc with hc | hc
    · refine Int.not_le.1 fun hge => ?_
      have := Int.mul_le_mul_of_nonneg_right hge (show 0 ≤ top by omega)
      omega
    · exact hc.1
  refine ⟨hgB, ?_⟩
  have hX : g * (top * 4294967296 + v2) ≤ q * 4294967296 + u2 := by
    have e : g * (top * 4294967296 + v2) = (g * top) * 4294967296 + g * v2 := by grind
    rw [e]
    rcases hc with hc | hc
    · have h1 : g * v2 ≤ 4294967295 * 4294967295 := Int.mul_le_mul (by omega) e2.2 e2.1 (by omega)
      generalize g * v2 = z at *
      generalize g * top = gt at *
      omega
    · have h1 := hc.2
      generalize g * v2 = z at *
      generalize g * top = gt at *
      omega
  have hY : 0 ≤ top * 4294967296 + v2 := by omega
  have hPX : 0 ≤ P * (q * 4294967296 + u2) := Int.mul_nonneg (by omega) (by omega)
  have hPY : 0 ≤ P * (top * 4294967296 + v2) := Int.mul_nonneg (by omega) hY
  rcases Int.lt_or_le 0 g with h0 | h0
  · have h1 : (g - 1) * V ≤ (g - 1) * (P * (top * 4294967296 + v2) + P) := Int.mul_le_mul_of_nonneg_left (by omega) (by omega)
    have h2 : (g - 1) * (P * (top * 4294967296 + v2) + P) = P * (g * (top * 4294967296 + v2) - (top * 4294967296 + v2) + g - 1) := by grind
    have h3 : P * (g * (top * 4294967296 + v2) - (top * 4294967296 + v2) + g - 1) ≤ P * (q * 4294967296 + u2) := by
      refine Int.mul_le_mul_of_nonneg_left ?_ (by omega)
      generalize g * (top * 4294967296 + v2) = z at *
      omega
    rw [h2] at h1
    omega
  · obtain rfl : g = 0 := by omega
    omega

end

/-- After a product was taken away: how it stands. -/
theorem took {low Bj U V g bor W Bn : Int} (hlow : 0 ≤ low ∧ low < Bj) (hb : bor = 0 ∨ bor = 1) (hW : W = low + Bj * U - Bj * (g * V) + Bj * Bn * bor) (hW0 : 0 ≤ W ∧ W < Bj * Bn) :
    (bor = 0 → g * V ≤ U) ∧ (bor = 1 → U < g * V) := by
  constructor
  · rintro rfl
    rw [Int.mul_zero, Int.add_zero] at hW
    refine Int.not_lt.1 fun hc => ?_
    have h1 : Bj * U + Bj ≤ Bj * (g * V) := by
      have := Int.mul_le_mul_of_nonneg_left (show U + 1 ≤ g * V by omega) (show 0 ≤ Bj by omega)
      rw [Int.mul_add, Int.mul_one] at this
      exact this
    omega
  · rintro rfl
    rw [Int.mul_one] at hW
    refine Int.not_le.1 fun hc => ?_
    have h1 := Int.mul_le_mul_of_nonneg_left hc (show 0 ≤ Bj by omega)
    omega

/-- What is left is below the divisor, moved. -/
theorem left_lt {low Bj U V g : Int} (hlow : 0 ≤ low ∧ low < Bj) (h : U < (g + 1) * V) : low + Bj * U - Bj * (g * V) < V * Bj := by
  have h2 : U - g * V + 1 ≤ V := by rw [Int.add_mul, Int.one_mul] at h; omega
  have h1 := Int.mul_le_mul_of_nonneg_left h2 (show 0 ≤ Bj by omega)
  have e : Bj * (U - g * V + 1) = Bj * U - Bj * (g * V) + Bj := by grind
  have e2 : V * Bj = Bj * V := Int.mul_comm ..
  omega

/-- After the divisor was given back. -/
theorem gave {low Bj U V g c W W2 Bn : Int} (hlow : 0 ≤ low ∧ low < Bj) (hc : c = 0 ∨ c = 1) (hW : W = low + Bj * U - Bj * (g * V) + Bj * Bn) (hW2 : W2 = W + Bj * V - Bj * Bn * c) (hb : 0 ≤ W2 ∧ W2 < Bj * Bn) (hle : (g - 1) * V ≤ U) :
    W2 = low + Bj * U - Bj * ((g - 1) * V) := by
  have e : Bj * ((g - 1) * V) = Bj * (g * V) - Bj * V := by grind
  have h1 := Int.mul_le_mul_of_nonneg_left hle (show 0 ≤ Bj by omega)
  rcases hc with rfl | rfl
  · rw [Int.mul_zero] at hW2
    omega
  · rw [Int.mul_one] at hW2
    omega

end Go.Proofs.Ytbbidekjbgjooaa
