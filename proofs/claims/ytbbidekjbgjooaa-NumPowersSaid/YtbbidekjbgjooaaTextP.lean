/- The digits of a number: plain laws. -/
import Derived.Test.YtbbidekjbgjooaaParseB
namespace Go.Proofs.Ytbbidekjbgjooaa
open Go.RowKit

/-- The byte of a digit. -/
def dch (d : Nat) : UInt8 := UInt8.ofNat (48 + d)
/-- The digits, the lowest first (of 0: none). -/
def rdec (n : Nat) : List UInt8 := if h : n = 0 then [] else dch (n % 10) :: rdec (n / 10)
termination_by n
decreasing_by omega
/-- The digits of a number. -/
def decN (n : Nat) : List UInt8 := if n = 0 then [48] else (rdec n).reverse
/-- The number as it is written. -/
def dec (z : Int) : List UInt8 := if z < 0 then 45 :: decN z.natAbs else decN z.natAbs

theorem rdec_zero : rdec 0 = [] := by rw [rdec]; rfl
theorem rdec_pos {n : Nat} (h : 0 < n) : rdec n = dch (n % 10) :: rdec (n / 10) := by rw [rdec, dif_neg (by omega)]
theorem dch_toNat {d : Nat} (h : d < 10) : (dch d).toNat = 48 + d := by
  unfold dch
  simp [UInt8.toNat_ofNat']
  omega
theorem dch_int {x : Nat} (h : x < 10) : (dch x).toNat = (48 + (x : Int)) := by rw [dch_toNat h]; omega

theorem readN_nil : readN [] = 0 := rfl

/-- Read and written. -/
theorem readN_rdec (n : Nat) : readN (rdec n).reverse = n := by
  induction n using Nat.strongRecOn with
  | ind n ih =>
    rcases Nat.eq_zero_or_pos n with h | h
    · subst h; rw [rdec_zero]; rfl
    · rw [rdec_pos h, List.reverse_cons, readN_snoc, ih (n / 10) (by omega), dch_toNat (by omega)]
      omega

theorem readN_decN (n : Nat) : readN (decN n) = n := by
  unfold decN
  split
  · rename_i h; subst h; rfl
  · exact readN_rdec n

theorem byt_mem {l : List UInt8} (h : ∀ c ∈ l, 48 ≤ c.toNat ∧ c.toNat ≤ 57) : ∀ j, j < l.length → 48 ≤ byt l j ∧ byt l j ≤ 57 := by
  intro j hj
  rw [byt_lt hj]
  exact h _ (List.getElem_mem hj)
theorem mem_byt {l : List UInt8} (h : ∀ j, j < l.length → 48 ≤ byt l j ∧ byt l j ≤ 57) : ∀ c ∈ l, 48 ≤ c.toNat ∧ c.toNat ≤ 57 := by
  intro c hc
  obtain ⟨j, hj, rfl⟩ := List.mem_iff_getElem.1 hc
  have := h j hj
  rwa [byt_lt hj] at this

theorem rdec_digs (n : Nat) : ∀ c ∈ rdec n, 48 ≤ c.toNat ∧ c.toNat ≤ 57 := by
  induction n using Nat.strongRecOn with
  | ind n ih =>
    rcases Nat.eq_zero_or_pos n with h | h
    · subst h; rw [rdec_zero]; intro c hc; cases hc
    · rw [rdec_pos h]
      intro c hc
      rcases List.mem_cons.1 hc with hc | hc
      · subst hc; rw [dch_toNat (by omega)]; omega
      · exact ih (n / 10) (by omega) c hc

theorem rdec_inj : ∀ (a : List UInt8), (∀ c ∈ a, 48 ≤ c.toNat ∧ c.toNat ≤ 57) → a.getLast? ≠ some 48 → a = rdec (readN a.reverse).toNat := by
  intro a
  induction a with
  | nil => intro _ _; rw [List.reverse_nil, readN_nil]; exact rdec_zero.symm
  | cons c t ih =>
    intro hd hl
    have hc := hd c (List.mem_cons_self ..)
    have ht : t = rdec (readN t.reverse).toNat := by
      by_cases e : t = []
      · subst e; rw [List.reverse_nil, readN_nil]; exact rdec_zero.symm
      · refine ih (fun x hx => hd x (List.mem_cons_of_mem _ hx)) ?_
        rwa [List.getLast?_cons_of_ne_nil e] at hl
    have hb : 0 ≤ readN t.reverse := (readN_bound (byt_mem (l := t.reverse) fun x hx => hd x (List.mem_cons_of_mem _ (List.mem_reverse.1 hx)))).1
    rw [List.reverse_cons, readN_snoc]
    obtain ⟨m, hm⟩ := Int.eq_ofNat_of_zero_le hb
    rw [hm] at ht ⊢
    have e : ((m : Int) * 10 + ((c.toNat : Int) - 48)).toNat = m * 10 + (c.toNat - 48) := by omega
    rw [e]
    simp only [Int.toNat_natCast] at ht
    have hpos : 0 < m * 10 + (c.toNat - 48) := by
      rcases Nat.eq_zero_or_pos m with h0 | h0
      · subst h0
        rw [rdec_zero] at ht
        subst ht
        rcases Nat.eq_zero_or_pos (c.toNat - 48) with h1 | h1
        · have : c = 48 := UInt8.toNat_inj.1 (by show c.toNat = 48; omega)
          subst this
          simp at hl
        · omega
      · omega
    rw [rdec_pos hpos, show (m * 10 + (c.toNat - 48)) % 10 = c.toNat - 48 by omega, show (m * 10 + (c.toNat - 48)) / 10 = m by omega, ← ht]
    congr 1
    apply UInt8.toNat_inj.1
    rw [dch_toNat (by omega)]
    omega

/-- A number's digits, written anew. -/
theorem decN_canon {l : List UInt8} (h : Canon l) : decN (readN l).toNat = l := by
  have hb := readN_bound h.digs
  by_cases h0 : byt l 0 = 48
  · have h1 := h.lead h0
    match l, h1, h0 with
    | [c], _, h0 =>
      rw [byt_cons_zero] at h0
      have : c = 48 := UInt8.toNat_inj.1 h0
      subst this
      rfl
  · have hr := rdec_inj l.reverse (fun c hc => mem_byt h.digs c (List.mem_reverse.1 hc)) (by
      rw [List.getLast?_reverse]
      intro e
      match l, e, h0 with
      | c :: t, e, h0 =>
        simp at e
        subst e
        exact h0 rfl)
    rw [List.reverse_reverse] at hr
    unfold decN
    split
    · rename_i hz
      rw [hz, rdec_zero] at hr
      have := h.pos
      rw [List.reverse_eq_nil_iff] at hr
      rw [hr] at this
      simp at this
    · rw [← hr, List.reverse_reverse]

/-- What is read is written as it was. -/
theorem dec_numVal {t : List UInt8} (h : numOk t = true) : dec (numVal t) = t := by
  obtain ⟨hc, hz⟩ := numOk_canon h
  have hb := readN_bound hc.digs
  have hd := decN_canon hc
  unfold numVal dec
  cases hn : isNeg t
  · simp only [sg, Bool.false_eq_true, if_false]
    rw [if_neg (by omega), show (readN (body t)).natAbs = (readN (body t)).toNat by omega, hd, body_pos hn]
  · have hpos : 0 < readN (body t) := by
      rcases Int.lt_or_le 0 (readN (body t)) with h1 | h1
      · exact h1
      · exfalso
        have e0 : readN (body t) = 0 := by omega
        rw [e0] at hd
        have := hz hn
        rw [← hd] at this
        exact this rfl
    simp only [sg, if_true]
    rw [if_pos (by omega), show (-readN (body t)).natAbs = (readN (body t)).toNat by omega, hd, body_neg hn]
    match t, hn with
    | c :: r, hn =>
      have : c = 45 := by simpa [isNeg] using hn
      subst this
      rfl

/-- Different numbers are written differently. -/
theorem dec_inj {a b : Int} (h : dec a = dec b) : a = b := by
  have hne : ∀ n, (decN n).head? ≠ some 45 := by
    intro n e
    have hd : ∀ c ∈ decN n, 48 ≤ c.toNat ∧ c.toNat ≤ 57 := by
      unfold decN; split
      · intro c hc; simp at hc; subst hc; decide
      · intro c hc; exact rdec_digs n c (List.mem_reverse.1 hc)
    have := hd 45 (List.mem_of_head? e)
    revert this; decide
  unfold dec at h
  split at h <;> split at h
  · have := congrArg readN (List.cons.inj h).2
    rw [readN_decN, readN_decN] at this; omega
  · exact absurd (by rw [← h]; rfl) (hne b.natAbs)
  · exact absurd (by rw [h]; rfl) (hne a.natAbs)
  · have := congrArg readN h
    rw [readN_decN, readN_decN] at this; omega

end Go.Proofs.Ytbbidekjbgjooaa
