/- Plain laws of places of four digits. -/
import Derived.Test.YtbbidekjbgjooaaNumP
namespace Go.Proofs.Ytbbidekjbgjooaa.Z4

/-- The number of a list of places, the lowest first. -/
def valL : List Int → Int
  | [] => 0
  | x :: t => x + 10000 * valL t

/-- Each place fits. -/
def Dig (l : List Int) : Prop := ∀ x ∈ l, 0 ≤ x ∧ x ≤ 9999

/-- No place too many. -/
def Norm (l : List Int) : Prop := l = [] ∨ at_ l (l.length - 1) ≠ 0

theorem Dig.at_ {l : List Int} (h : Dig l) (i : Nat) : 0 ≤ at_ l i ∧ at_ l i ≤ 9999 := by
  by_cases hi : i < l.length
  · exact h _ (at_mem hi)
  · rw [at_ge (by omega)]; omega

theorem Dig.tail {x : Int} {t : List Int} (h : Dig (x :: t)) : Dig t := fun y hy => h y (List.mem_cons_of_mem _ hy)

theorem valL_nonneg {l : List Int} (h : Dig l) : 0 ≤ valL l := by
  induction l with
  | nil => simp [valL]
  | cons x t ih => have := ih h.tail; have := h x (List.mem_cons_self ..); simp only [valL]; omega

theorem valL_zero {l : List Int} (h : ∀ j, at_ l j = 0) : valL l = 0 := by
  induction l with
  | nil => rfl
  | cons x t ih =>
    have h0 := h 0
    have ht : ∀ j, at_ t j = 0 := fun j => by have := h (j + 1); rwa [at_cons_succ] at this
    rw [at_cons_zero] at h0
    simp [valL, h0, ih ht]

theorem valL_take {l : List Int} {k : Nat} (h : ∀ j, k ≤ j → at_ l j = 0) : valL (l.take k) = valL l := by
  induction l generalizing k with
  | nil => simp
  | cons x t ih =>
    match k with
    | 0 => rw [valL_zero (l := x :: t) (fun j => h j (by omega))]; rfl
    | k + 1 =>
      simp only [List.take_succ_cons, valL]
      rw [ih (fun j hj => by have := h (j + 1) (by omega); rwa [at_cons_succ] at this)]

theorem valL_pos {l : List Int} (hd : Dig l) {i : Nat} (hi : at_ l i ≠ 0) : 0 < valL l := by
  induction l generalizing i with
  | nil => simp [at_] at hi
  | cons x t ih =>
    have hx := hd x (List.mem_cons_self ..)
    have ht := valL_nonneg hd.tail
    simp only [valL]
    match i with
    | 0 => rw [at_cons_zero] at hi; omega
    | i + 1 => rw [at_cons_succ] at hi; have := ih hd.tail hi; omega

theorem valL_pos' {l : List Int} (hd : Dig l) (hn : Norm l) (hne : l ≠ []) : 0 < valL l := by
  rcases hn with h | h
  · exact absurd h hne
  · exact valL_pos hd h

theorem valL_eq_zero {l : List Int} (hd : Dig l) (hn : Norm l) : valL l = 0 ↔ l = [] := by
  constructor
  · intro h
    by_cases hne : l = []
    · exact hne
    · have := valL_pos' hd hn hne; omega
  · rintro rfl; rfl

theorem valL_take_succ (l : List Int) (i : Nat) : valL (l.take (i + 1)) = valL (l.take i) + at_ l i * 10000 ^ i := by
  induction l generalizing i with
  | nil => simp [valL, at_]
  | cons x t ih =>
    match i with
    | 0 => simp [valL, at_]
    | i + 1 =>
      simp only [List.take_succ_cons, valL, at_cons_succ]
      rw [ih i, Int.pow_succ]
      grind

theorem valL_take_all {l : List Int} {i : Nat} (h : l.length ≤ i) : valL (l.take i) = valL l := by rw [List.take_of_length_le h]

theorem valL_lt {l : List Int} (hd : Dig l) : valL l < 10000 ^ l.length := by
  induction l with
  | nil => simp [valL]
  | cons x t ih =>
    have h1 := ih hd.tail
    have hx := hd x (List.mem_cons_self ..)
    simp only [valL, List.length_cons, Int.pow_succ]
    generalize (10000 : Int) ^ t.length = p at *
    omega

theorem pow_pos' (i : Nat) : (0 : Int) < 10000 ^ i := Int.pow_pos (by omega)

theorem pow_mono' {i j : Nat} (h : i ≤ j) : (10000 : Int) ^ i ≤ 10000 ^ j := by
  induction j with
  | zero => obtain rfl : i = 0 := by omega
            exact Int.le_refl _
  | succ j ih =>
    by_cases e : i = j + 1
    · subst e; exact Int.le_refl _
    · have := ih (by omega)
      have hp := pow_pos' j
      rw [Int.pow_succ]
      omega

theorem valL_ge {l : List Int} (hd : Dig l) {i : Nat} (hi : at_ l i ≠ 0) : 10000 ^ i ≤ valL l := by
  induction l generalizing i with
  | nil => simp [at_] at hi
  | cons x t ih =>
    have hx := hd x (List.mem_cons_self ..)
    have ht := valL_nonneg hd.tail
    simp only [valL]
    match i with
    | 0 => rw [at_cons_zero] at hi; simp; omega
    | i + 1 =>
      rw [at_cons_succ] at hi
      have := ih hd.tail hi
      rw [Int.pow_succ]
      generalize (10000 : Int) ^ i = p at *
      omega

/-- A longer number is the greater. -/
theorem valL_lt_of_len {a b : List Int} (ha : Dig a) (hb : Dig b) (hn : Norm b) (h : a.length < b.length) : valL a < valL b := by
  rcases hn with rfl | hn
  · simp at h
  · have h1 := valL_lt ha
    have h2 := valL_ge hb hn
    have h3 := pow_mono' (i := a.length) (j := b.length - 1) (by omega)
    omega

/-- Of the same length: the highest place at which they part decides. -/
theorem valL_lt_of_at {a b : List Int} (ha : Dig a) (hb : Dig b) (hl : a.length = b.length) {i : Nat} (hi : i < a.length) (heq : ∀ j, i < j → at_ a j = at_ b j) (hlt : at_ a i < at_ b i) : valL a < valL b := by
  induction a generalizing b i with
  | nil => simp at hi
  | cons x s ih =>
    match b, hl with
    | y :: t, hl =>
      have hx := ha x (List.mem_cons_self ..)
      have hy := hb y (List.mem_cons_self ..)
      simp only [List.length_cons, Nat.add_right_cancel_iff] at hl
      simp only [valL]
      match i, hi, heq, hlt with
      | 0, _, heq, hlt =>
        have : s = t := list_ext_at hl (fun j => by have := heq (j + 1) (by omega); rwa [at_cons_succ, at_cons_succ] at this)
        subst this
        rw [at_cons_zero, at_cons_zero] at hlt
        omega
      | i + 1, hi, heq, hlt =>
        rw [at_cons_succ, at_cons_succ] at hlt
        have := ih ha.tail hb.tail hl (i := i) (by simpa using hi) (fun j hj => by have := heq (j + 1) (by omega); rwa [at_cons_succ, at_cons_succ] at this) hlt
        omega

theorem valL_set {l : List Int} {i : Nat} (h : i < l.length) (v : Int) : valL ((l.set i v).take (i + 1)) = valL (l.take i) + v * 10000 ^ i := by
  rw [valL_take_succ, take_set, at_set_eq h]

theorem Dig.set {l : List Int} (hd : Dig l) (i : Nat) {v : Int} (hv : 0 ≤ v ∧ v ≤ 9999) : Dig (l.set i v) := by
  intro x hx
  rcases List.mem_or_eq_of_mem_set hx with h | h
  · exact hd x h
  · subst h; exact hv

/-- How a signed number of places stands: its sign tells. -/
theorem neg_iff {n : Bool} {l : List Int} (hd : Dig l) (hn : Norm l) (h0 : l = [] → n = false) : sg n (valL l) < 0 ↔ n = true := by
  by_cases hl : l = []
  · subst hl; rw [h0 rfl]; simp [sg, valL]
  · have := valL_pos' hd hn hl
    cases n
    · simp [sg]; omega
    · simp [sg]; omega

theorem valL_set_full {l : List Int} {i : Nat} (h : i < l.length) (v : Int) : valL (l.set i v) = valL l + (v - at_ l i) * 10000 ^ i := by
  induction l generalizing i with
  | nil => simp at h
  | cons x t ih =>
    match i with
    | 0 => simp [valL, at_]; omega
    | i + 1 =>
      simp only [List.set_cons_succ, valL, at_cons_succ]
      rw [ih (by simpa using h), Int.pow_succ]
      grind

theorem mul_step {V c V0 x vb y ok p q bi Y : Int} (h : V + c * p = V0 + x * vb * bi) (hq : p * 10000 = q) (hp : y * p = Y * bi) :
    V + ((c + (x * y + ok)) % 10000 - ok) * p + (c + (x * y + ok)) / 10000 * q = V0 + x * (vb + Y) * bi := by
  have h1 : (c + (x * y + ok)) % 10000 = (c + (x * y + ok)) - 10000 * ((c + (x * y + ok)) / 10000) := by omega
  rw [h1, ← hq]
  generalize (c + (x * y + ok)) / 10000 = d
  grind


theorem pow4 (i : Nat) : ((2 ^ (13 * i) : Nat) : Int) ≤ (10000 : Int) ^ i := by
  have h : (2 ^ 13) ^ i ≤ 10000 ^ i := Nat.pow_le_pow_left (by decide) i
  rw [← Nat.pow_mul] at h
  have e : (10000 : Int) ^ i = ((10000 ^ i : Nat) : Int) := by rw [Int.natCast_pow]; rfl
  rw [e]
  omega

theorem len_of_bt {l : List Int} {n : Nat} (hd : Dig l) (hn : Norm l) (h : Bt (valL l) n) : 13 * l.length ≤ n + 13 := by
  rcases hn with rfl | hn
  · simp
  · have h1 := valL_ge hd hn
    have h2 := valL_nonneg hd
    have h0 := pow4 (l.length - 1)
    unfold Bt at h
    have h3 : 2 ^ (13 * (l.length - 1)) < 2 ^ n := by omega
    rcases Nat.lt_or_ge (13 * (l.length - 1)) n with h4 | h4
    · omega
    · have := Nat.pow_le_pow_right (n := 2) (by omega) h4
      omega

theorem mul_bound {x y : Int} (hx : 0 ≤ x ∧ x ≤ 9999) (hy : 0 ≤ y ∧ y ≤ 9999) : 0 ≤ x * y ∧ x * y ≤ 99980001 := by
  refine ⟨Int.mul_nonneg hx.1 hy.1, ?_⟩
  have := Int.mul_le_mul hx.2 hy.2 hy.1 (by omega)
  omega

theorem valL_snoc (l : List Int) (x : Int) : valL (l ++ [x]) = valL l + x * 10000 ^ l.length := by
  induction l with
  | nil => simp [valL]
  | cons y t ih => simp only [List.cons_append, valL, ih, List.length_cons, Int.pow_succ]; grind

theorem Dig.snoc {l : List Int} (h : Dig l) {x : Int} (hx : 0 ≤ x ∧ x ≤ 9999) : Dig (l ++ [x]) := by
  intro y hy
  rcases List.mem_append.1 hy with hy | hy
  · exact h y hy
  · rw [List.mem_singleton.1 hy]; exact hx

theorem Dig.fit {l : List Int} (h : Dig l) : ∀ x ∈ l, Fit .i64 x := by
  intro x hx
  have := h x hx
  show _ ≤ _ ∧ _ ≤ _
  omega

end Go.Proofs.Ytbbidekjbgjooaa.Z4
