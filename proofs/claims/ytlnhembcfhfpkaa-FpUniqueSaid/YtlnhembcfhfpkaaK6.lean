/- Polynomials modulo a prime: degrees, division, greatest common divisors, irreducible ones. Polynomials modulo a prime: powers, how often an irreducible one divides, derivatives. -/
import Derived.Test.YtlnhembcfhfpkaaFxAx
section
namespace Go.Proofs.Ytlnhembcfhfpkaa.Fx
open Go.RowKit Go.Proofs.Ytlnhembcfhfpkaa.M
set_option linter.unusedSimpArgs false
set_option linter.unusedVariables false
variable {P : Pr}
def dg (f : Po P) : Nat := f.l.length
def lc (f : Po P) : Int := co f (dg f - 1)
theorem co_big {f : Po P} {i : Nat} (h : dg f ≤ i) : co f i = 0 := getD_big h
theorem dg_0 : dg (0 : Po P) = 0 := by
  rcases Nat.eq_zero_or_pos (dg (0 : Po P)) with h | h
  · exact h
  · exfalso
    have := td_last (0 : Po P).td (by intro e; unfold dg at h; rw [e] at h; simp at h)
    exact this (co_0 _)
theorem dg_eq_0 {f : Po P} : dg f = 0 ↔ f = 0 := by
  refine ⟨fun h => Po.co_ext fun i => ?_, fun h => by rw [h, dg_0]⟩
  rw [co_big (by omega), co_0]
theorem dg_pos {f : Po P} (h : f ≠ 0) : 0 < dg f := by
  rcases Nat.eq_zero_or_pos (dg f) with h1 | h1
  · exact absurd (dg_eq_0.1 h1) h
  · exact h1
theorem ne_0 {f : Po P} (h : 0 < dg f) : f ≠ 0 := by
  rintro rfl
  rw [dg_0] at h; omega
theorem lc_ne {f : Po P} (h : f ≠ 0) : lc f ≠ 0 := td_last f.td (by
  have := dg_pos h
  intro e; unfold dg at this; rw [e] at this; simp at this)
theorem lc_pos {f : Po P} (h : f ≠ 0) : 0 < lc f ∧ lc f < P.p := by
  have h1 := lc_ne h
  have h2 := co_rg f (dg f - 1)
  unfold lc at *
  omega
theorem dg_le {f : Po P} {n : Nat} (h : ∀ i, n ≤ i → co f i = 0) : dg f ≤ n := by
  have := trim_len_of (l := f.l) (n := n) h
  rw [show trim f.l = f.l from f.td] at this
  exact this
theorem dg_eq {f : Po P} {n : Nat} (h : ∀ i, n < i → co f i = 0) (h1 : co f n ≠ 0) : dg f = n + 1 := by
  have h2 : dg f ≤ n + 1 := dg_le fun i hi => h i (by omega)
  rcases Nat.lt_or_ge n (dg f) with h3 | h3
  · omega
  · exact absurd (co_big h3) h1
theorem dg_add_le (f g : Po P) : dg (f + g) ≤ max (dg f) (dg g) := dg_le fun i hi => by
  rw [co_add, co_big (by omega), co_big (by omega)]; simp
theorem dg_neg (f : Po P) : dg (-f) ≤ dg f := dg_le fun i hi => by rw [co_neg, co_big hi]; simp
theorem dg_sub_le (f g : Po P) : dg (f - g) ≤ max (dg f) (dg g) := by
  have h1 := dg_add_le f (-g)
  have h2 := dg_neg g
  show dg (f + -g) ≤ _
  omega
theorem dg_cn_le (k : Int) : dg (cn k : Po P) ≤ 1 := dg_le fun i hi => by rw [co_cn, if_neg (by omega)]
theorem cn_ne {k : Int} (h : 0 < k ∧ k < P.p) : (cn k : Po P) ≠ 0 := by
  intro e
  have := congrArg (fun f => co f 0) e
  simp only [co_cn, co_0, if_true] at this
  rw [em_self (by omega)] at this
  omega
theorem dg_1 : dg (1 : Po P) = 1 := by
  have h1 : dg (1 : Po P) ≤ 1 := dg_cn_le 1
  have h2 := dg_pos (f := (1 : Po P)) (cn_ne (by have := P.p2; omega))
  omega
theorem one_ne : (1 : Po P) ≠ 0 := cn_ne (by have := P.p2; omega)
theorem eq_cn {f : Po P} (h : dg f ≤ 1) : f = cn (co f 0) := Po.co_ext fun i => by
  rw [co_cn]
  split
  · rename_i e; rw [e, co_mod]
  · exact co_big (by omega)
theorem S_cons (a : Int) (f g : List Int) (k : Nat) : ∀ n, S (a :: f) g k (n + 1) = a * g.getD k 0 + (if k = 0 then 0 else S f g (k - 1) n)
  | 0 => by simp [S]
  | n + 1 => by
    have ih := S_cons a f g k n
    rw [S, ih]
    by_cases hk : k = 0
    · subst hk; simp
    · rw [if_neg hk, if_neg hk, S]
      by_cases h : n + 1 ≤ k
      · rw [if_pos h, if_pos (by omega), show k - 1 - n = k - (n + 1) by omega]
        simp only [List.getD_cons_succ]
        omega
      · rw [if_neg h, if_neg (by omega)]; omega
theorem getD_mulZ : ∀ (f g : List Int) (k : Nat), (mulZ f g).getD k 0 = S f g k (k + 1)
  | [], g, k => by rw [S_nil (.inl rfl)]; simp [mulZ]
  | a :: f, g, k => by
    rw [S_cons, mulZ, getD_addZ, getD_scZ]
    rcases k with _ | k
    · simp
    · simp only [List.getD_cons_succ, Nat.add_sub_cancel, if_neg (Nat.succ_ne_zero k)]
      rw [getD_mulZ f g k]
theorem co_mul (f g : Po P) (k : Nat) : co (f * g) k = S f.l g.l k (k + 1) % P.p := by
  show co (mk (mulZ f.l g.l)) k = _
  rw [co_mk, getD_mulZ]
theorem mul_l (f g : Po P) : (f * g).l = mulP f.l g.l P.p := td_ext (f * g).td (mulP_td _ _ _) fun i => by
  rw [mulP_getD, ← co_mul]; rfl
theorem add_l (f g : Po P) : (f + g).l = addP f.l g.l P.p := td_ext (f + g).td (td_trim _) fun i => by
  rw [addP_getD]; exact co_add f g i
theorem S_top {f g : List Int} {m n : Nat} (hf : ∀ i, m < i → f.getD i 0 = 0) (hg : ∀ i, n < i → g.getD i 0 = 0) : ∀ K, S f g (m + n) K = if m < K then f.getD m 0 * g.getD n 0 else 0
  | 0 => by simp [S]
  | a + 1 => by
    rw [S, S_top hf hg a]
    rcases Nat.lt_trichotomy a m with h | h | h
    · rw [if_neg (show ¬ m < a by omega), if_pos (show a ≤ m + n by omega), if_neg (show ¬ m < a + 1 by omega), hg (m + n - a) (by omega)]; simp
    · subst h
      rw [if_neg (show ¬ a < a by omega), if_pos (show a ≤ a + n by omega), if_pos (show a < a + 1 by omega), Nat.add_sub_cancel_left]; omega
    · rw [if_pos h, if_pos (show m < a + 1 by omega), hf a h]; split <;> simp
theorem int_prime {p a b : Int} (hp : IsP p) (ha : 0 < a ∧ a < p) (hb : 0 < b ∧ b < p) : (a * b) % p ≠ 0 := by
  intro h
  have hi := (invP_ok hp.1 ha.1 ha.2).2.2
  generalize invP a p = c at hi
  have h1 : (c * (a * b)) % p = 0 := by rw [Int.mul_emod, h]; simp
  have h2 : (c * (a * b)) % p = b := by
    rw [show c * (a * b) = a * c * b by grind, Int.mul_emod, hi, Int.one_mul, Int.emod_emod, em_self (by omega)]
  omega
theorem mul_top {f g : Po P} (hf : f ≠ 0) (hg : g ≠ 0) : dg (f * g) + 1 = dg f + dg g ∧ lc (f * g) = lc f * lc g % P.p := by
  have h1 := dg_pos hf
  have h2 := dg_pos hg
  have h3 : co (f * g) (dg f - 1 + (dg g - 1)) = lc f * lc g % P.p := by
    rw [co_mul, S_top (m := dg f - 1) (n := dg g - 1) (fun i hi => co_big (by omega)) (fun i hi => co_big (by omega)), if_pos (by omega)]
    rfl
  have h4 : dg (f * g) = dg f - 1 + (dg g - 1) + 1 := dg_eq (fun i hi => by
    rw [co_mul]
    have : ∀ K, S f.l g.l i K = 0 := by
      intro K
      induction K with
      | zero => rfl
      | succ a ih =>
        rw [S, ih]
        split
        · by_cases ha : dg f ≤ a
          · rw [show f.l.getD a 0 = 0 from co_big ha]; simp
          · rw [show g.l.getD (i - a) 0 = 0 from co_big (show dg g ≤ i - a by omega)]; simp
        · rfl
    rw [this]; simp) (by rw [h3]; exact int_prime P.h (lc_pos hf) (lc_pos hg))
  refine ⟨by omega, ?_⟩
  rw [← h3]
  unfold lc
  rw [h4, Nat.add_sub_cancel]
theorem dg_mul {f g : Po P} (hf : f ≠ 0) (hg : g ≠ 0) : dg (f * g) + 1 = dg f + dg g := (mul_top hf hg).1
theorem mul_ne {f g : Po P} (hf : f ≠ 0) (hg : g ≠ 0) : f * g ≠ 0 := ne_0 (by have := dg_mul hf hg; have := dg_pos hf; have := dg_pos hg; omega)
theorem mul_ne_l {f g : Po P} (h : f * g ≠ 0) : f ≠ 0 := by rintro rfl; exact h (zero_mul _)
theorem mul_ne_r {f g : Po P} (h : f * g ≠ 0) : g ≠ 0 := by rintro rfl; exact h (mul_zero _)
theorem mul_cancel {a b c : Po P} (ha : a ≠ 0) (h : a * b = a * c) : b = c := by
  apply Classical.byContradiction
  intro hn
  have h1 : b - c ≠ 0 := fun e => hn (sub_eq_zero e)
  have h2 : a * (b - c) = 0 := by
    rw [show a * (b - c) = a * b - a * c from rg_ [a, b, c] (x0 * (x1 - x2)) (x0 * x1 - x0 * x2), h, sub_self]
  exact mul_ne ha h1 h2
theorem cn_inv {k : Int} (h : 0 < k ∧ k < P.p) : (cn k : Po P) * cn (invP k P.p) = 1 := by
  rw [← cn_mul]
  have := (invP_ok P.h.1 h.1 h.2).2.2
  refine Po.co_ext fun i => ?_
  rw [co_cn, show co (1 : Po P) i = co (cn 1) i from rfl, co_cn]
  split
  · rw [this, em_self (by have := P.p2; omega)]
  · rfl
def Mo (f : Po P) : Prop := lc f = 1
theorem Mo.ne {f : Po P} (h : Mo f) : f ≠ 0 := by
  rintro rfl
  unfold Mo lc at h
  rw [co_0] at h; omega
theorem mo_1 : Mo (1 : Po P) := by
  unfold Mo lc
  rw [dg_1, show co (1 : Po P) (1 - 1) = co (cn 1) 0 from rfl, co_cn, if_pos rfl, em_self (by have := P.p2; omega)]
theorem Mo.mul {f g : Po P} (hf : Mo f) (hg : Mo g) : Mo (f * g) := by
  unfold Mo at *
  rw [(mul_top (Mo.ne hf) (Mo.ne hg)).2, hf, hg, Int.one_mul, em_self (by have := P.p2; omega)]
theorem Mo.left {f g : Po P} (h : Mo (f * g)) (hf : Mo f) : Mo g := by
  have h1 := mul_top (Mo.ne hf) (mul_ne_r (Mo.ne h))
  unfold Mo at *
  rw [h, hf, Int.one_mul] at h1
  have h3 := co_rg g (dg g - 1)
  have h2 := h1.2
  unfold lc at *
  rw [em_self h3] at h2
  exact h2.symm
theorem Mo.one {f : Po P} (h : Mo f) (h1 : dg f ≤ 1) : f = 1 := by
  have h2 := dg_pos h.ne
  have h3 : co f 0 = 1 := by
    have h4 := h
    unfold Mo lc at h4
    rw [show dg f = 1 by omega] at h4
    exact h4
  rw [eq_cn h1, h3]; rfl
noncomputable def mon (f : Po P) : Po P := cn (lu f.l P.p) * f
theorem co_cn_mul (k : Int) (f : Po P) (i : Nat) : co (cn k * f) i = (co f i * k) % P.p := by
  have h1 : ∀ K, S (cn k : Po P).l f.l i (K + 1) = (k % P.p) * co f i := by
    intro K
    induction K with
    | zero =>
      simp only [S, Nat.zero_le, if_true, Nat.sub_zero]
      rw [show (cn k : Po P).l.getD 0 0 = co (cn k) 0 from rfl, co_cn, if_pos rfl]
      simp [co]
    | succ a ih =>
      rw [S, ih, show (cn k : Po P).l.getD (a + 1) 0 = co (cn k) (a + 1) from rfl, co_cn, if_neg (show ¬ a + 1 = 0 by omega)]
      simp
  rw [co_mul, h1, Int.mul_comm, Int.mul_emod, Int.emod_emod, ← Int.mul_emod]
theorem mon_l (f : Po P) : (mon f).l = monP f.l P.p := by
  refine td_ext (mon f).td ?_ fun i => ?_
  · by_cases h : f = 0
    · subst h
      have : (0 : Po P).l = [] := List.eq_nil_of_length_eq_zero dg_0
      rw [this]; rfl
    · refine td_of_last fun _ => ?_
      rw [monP_len]
      unfold monP
      rw [scP_getD]
      have h1 := lc_pos h
      have h2 := invP_ok P.h.1 h1.1 h1.2
      have h3 := h2.2.2
      show lc f * invP (lc f) P.p % P.p ≠ 0
      rw [h3]; omega
  · unfold monP
    rw [scP_getD]
    exact co_cn_mul _ f i
theorem mon_mo {f : Po P} (h : f ≠ 0) : Mo (mon f) := by
  have h1 := lc_pos h
  have h2 := (invP_ok P.h.1 h1.1 h1.2).2.2
  unfold Mo lc
  rw [show dg (mon f) = dg f by unfold dg; rw [mon_l, monP_len]]
  unfold mon
  rw [co_cn_mul]
  exact h2
theorem mon_dg (f : Po P) : dg (mon f) = dg f := by unfold dg; rw [mon_l, monP_len]
theorem mon_back {f : Po P} (h : f ≠ 0) : cn (lc f) * mon f = f := by
  have h1 := cn_inv (lc_pos h)
  unfold mon
  rw [← mul_assoc]
  show cn (lc f) * cn (invP (lc f) P.p) * f = f
  rw [h1, one_mul]
instance : Dvd (Po P) := ⟨fun a b => ∃ c, b = a * c⟩
theorem dvd_refl (a : Po P) : a ∣ a := ⟨1, (mul_one a).symm⟩
theorem dvd_trans {a b c : Po P} (h : a ∣ b) (h' : b ∣ c) : a ∣ c := by
  obtain ⟨x, rfl⟩ := h
  obtain ⟨y, rfl⟩ := h'
  exact ⟨x * y, mul_assoc a x y⟩
theorem dvd_mul_r (a b : Po P) : a ∣ a * b := ⟨b, rfl⟩
theorem dvd_mul_l (a b : Po P) : a ∣ b * a := ⟨b, mul_comm b a⟩
theorem dvd_mul_of {a b : Po P} (h : a ∣ b) (c : Po P) : a ∣ b * c := dvd_trans h (dvd_mul_r b c)
theorem dvd_mul_of' {a b : Po P} (h : a ∣ b) (c : Po P) : a ∣ c * b := dvd_trans h (dvd_mul_l b c)
theorem dvd_add {a b c : Po P} (h : a ∣ b) (h' : a ∣ c) : a ∣ b + c := by
  obtain ⟨x, rfl⟩ := h
  obtain ⟨y, rfl⟩ := h'
  exact ⟨x + y, (mul_add a x y).symm⟩
theorem dvd_neg {a b : Po P} (h : a ∣ b) : a ∣ -b := by
  obtain ⟨x, rfl⟩ := h
  exact ⟨-x, rg_ [a, x] (-(x0 * x1)) (x0 * -x1)⟩
theorem dvd_sub {a b c : Po P} (h : a ∣ b) (h' : a ∣ c) : a ∣ b - c := dvd_add h (dvd_neg h')
theorem dvd_0 (a : Po P) : a ∣ 0 := ⟨0, (mul_zero a).symm⟩
theorem one_dvd (a : Po P) : 1 ∣ a := ⟨a, (one_mul a).symm⟩
theorem dvd_of_add {a b c : Po P} (h : a ∣ b + c) (h' : a ∣ b) : a ∣ c := by
  have := dvd_sub h h'
  rwa [show b + c - b = c from rg_ [b, c] (x0 + x1 - x0) x1] at this
theorem mul_dvd {a b c d : Po P} (h : a ∣ b) (h' : c ∣ d) : a * c ∣ b * d := by
  obtain ⟨x, rfl⟩ := h
  obtain ⟨y, rfl⟩ := h'
  exact ⟨x * y, rg_ [a, x, c, y] (x0 * x1 * (x2 * x3)) (x0 * x2 * (x1 * x3))⟩
theorem dg_dvd {a b : Po P} (h : a ∣ b) (hb : b ≠ 0) : dg a ≤ dg b := by
  obtain ⟨x, rfl⟩ := h
  have := dg_mul (mul_ne_l hb) (mul_ne_r hb)
  have := dg_pos (mul_ne_r hb)
  omega
theorem dvd_eq {a b : Po P} (h : a ∣ b) (ha : Mo a) (hb : Mo b) (hd : dg b ≤ dg a) : a = b := by
  obtain ⟨x, rfl⟩ := h
  have h1 := dg_mul ha.ne (mul_ne_r hb.ne)
  have h2 := Mo.one (Mo.left hb ha) (by omega)
  rw [h2, mul_one]
theorem mon_dvd {f : Po P} (h : f ≠ 0) : mon f ∣ f := ⟨cn (lc f), by rw [mul_comm, mon_back h]⟩
theorem dvd_mon (f : Po P) : f ∣ mon f := ⟨cn (lu f.l P.p), by unfold mon; rw [mul_comm]⟩
theorem pl (f : Po P) : Pl P.p (dg f) f.l := ⟨f.rg, f.td, Nat.le_refl _⟩
theorem l_ne {f : Po P} (h : f ≠ 0) : f.l ≠ [] := by
  have := dg_pos h
  intro e
  unfold dg at this
  rw [e] at this
  simp at this
theorem l_0 : (0 : Po P).l = [] := List.eq_nil_of_length_eq_zero dg_0
noncomputable def qo (f g : Po P) : Po P := ⟨quo f.l g.l P.p, quoP_td, quoP_rg P.pos⟩
noncomputable def rm (f g : Po P) : Po P := ⟨rem f.l g.l P.p, remP_td f.td, remP_rg P.pos f.rg⟩
theorem div_eq (f : Po P) {g : Po P} (hg : g ≠ 0) : f = qo f g * g + rm f g := by
  have := div_law P.h (pl f) (pl g) (l_ne hg)
  apply Po.ext
  rw [add_l, mul_l]
  exact this.symm
theorem rm_dg (f : Po P) {g : Po P} (hg : g ≠ 0) : dg (rm f g) < dg g := (rem_pl P.h (pl f) (pl g) (l_ne hg)).2
theorem rm_0 {f g : Po P} (hg : g ≠ 0) (h : g ∣ f) : rm f g = 0 := by
  have h1 := div_eq f hg
  have h2 : g ∣ rm f g := dvd_of_add (h1 ▸ h) (dvd_mul_l g _)
  apply Classical.byContradiction
  intro h3
  have := dg_dvd h2 h3
  have := rm_dg f hg
  omega
theorem qo_mul {f g : Po P} (hg : g ≠ 0) (h : g ∣ f) : qo f g * g = f := by
  have := div_eq f hg
  rw [rm_0 hg h, add_zero] at this
  exact this.symm
theorem dvd_rm {f g : Po P} (hg : g ≠ 0) : g ∣ f - rm f g := ⟨qo f g, by
  have h := div_eq f hg
  generalize rm f g = r at *
  generalize qo f g = q at *
  rw [h]
  exact rg_ [q, g, r] (x0 * x1 + x2 - x2) (x1 * x0)⟩
theorem rm_unique {f g r : Po P} (hg : g ≠ 0) (h : g ∣ f - r) (hr : dg r < dg g) : rm f g = r := by
  have h1 : g ∣ r - rm f g := by
    have := dvd_sub (dvd_rm (f := f) hg) h
    rwa [show f - rm f g - (f - r) = r - rm f g from rg_ [f, rm f g, r] (x0 - x1 - (x0 - x2)) (x2 - x1)] at this
  apply Classical.byContradiction
  intro h2
  have h3 : r - rm f g ≠ 0 := fun e => h2 (sub_eq_zero e).symm
  have := dg_dvd h1 h3
  have := dg_sub_le r (rm f g)
  have := rm_dg f hg
  omega
theorem gcd_ex : ∀ (n : Nat) (f g : Po P), dg g ≤ n → ∃ d : Po P, d.l = gcdP P.p n f.l g.l ∧ d ∣ f ∧ d ∣ g ∧ (∃ u v, d = u * f + v * g) ∧ (f ≠ 0 ∨ g ≠ 0 → Mo d) := by
  have base : ∀ f g : Po P, g = 0 → ∃ d : Po P, d.l = monP f.l P.p ∧ d ∣ f ∧ d ∣ g ∧ (∃ u v, d = u * f + v * g) ∧ (f ≠ 0 ∨ g ≠ 0 → Mo d) := by
    intro f g hg
    refine ⟨mon f, mon_l f, ?_, by rw [hg]; exact dvd_0 _, ⟨cn (lu f.l P.p), 0, by rw [zero_mul, add_zero]; rfl⟩, fun h => ?_⟩
    · by_cases hf : f = 0
      · rw [hf]; exact dvd_0 _
      · exact mon_dvd hf
    · rcases h with h | h
      · exact mon_mo h
      · exact absurd hg h
  intro n
  induction n with
  | zero => intro f g hn; exact base f g (dg_eq_0.1 (by omega))
  | succ n ih =>
    intro f g hn
    by_cases hg : g = 0
    · rw [gcdP, if_pos (by rw [hg]; exact l_0)]
      exact base f g hg
    · rw [gcdP, if_neg (l_ne hg)]
      have h1 := rm_dg f hg
      obtain ⟨d, e, hd1, hd2, ⟨u, v, huv⟩, hm⟩ := ih g (rm f g) (by omega)
      have h2 := div_eq f hg
      refine ⟨d, e, ?_, hd1, ⟨v, u - v * qo f g, ?_⟩, fun _ => hm (.inl hg)⟩
      · rw [h2]; exact dvd_add (dvd_mul_of' hd1 _) hd2
      · rw [huv]
        generalize rm f g = r at *
        generalize qo f g = q at *
        rw [h2]
        exact rg_ [u, g, v, r, q] (x0 * x1 + x2 * x3) (x2 * (x4 * x1 + x3) + (x0 - x2 * x4) * x1)
noncomputable def gc (f g : Po P) : Po P := (gcd_ex (dg g) f g (Nat.le_refl _)).choose
theorem gc_l (f g : Po P) : (gc f g).l = gcdP P.p g.l.length f.l g.l := (gcd_ex (dg g) f g (Nat.le_refl _)).choose_spec.1
theorem gc_dl (f g : Po P) : gc f g ∣ f := (gcd_ex (dg g) f g (Nat.le_refl _)).choose_spec.2.1
theorem gc_dr (f g : Po P) : gc f g ∣ g := (gcd_ex (dg g) f g (Nat.le_refl _)).choose_spec.2.2.1
theorem gc_lin (f g : Po P) : ∃ u v, gc f g = u * f + v * g := (gcd_ex (dg g) f g (Nat.le_refl _)).choose_spec.2.2.2.1
theorem gc_mo {f g : Po P} (h : f ≠ 0 ∨ g ≠ 0) : Mo (gc f g) := (gcd_ex (dg g) f g (Nat.le_refl _)).choose_spec.2.2.2.2 h
theorem dvd_gc {a f g : Po P} (hf : a ∣ f) (hg : a ∣ g) : a ∣ gc f g := by
  obtain ⟨u, v, h⟩ := gc_lin f g
  rw [h]
  exact dvd_add (dvd_mul_of' hf _) (dvd_mul_of' hg _)
def Cop (a b : Po P) : Prop := ∃ u v, u * a + v * b = 1
theorem Cop.symm {a b : Po P} (h : Cop a b) : Cop b a := by
  obtain ⟨u, v, h⟩ := h
  exact ⟨v, u, by rw [add_comm]; exact h⟩
theorem Cop.dvd {a b c : Po P} (h : Cop a b) (hd : a ∣ b * c) : a ∣ c := by
  obtain ⟨u, v, h⟩ := h
  have : c = u * c * a + v * (b * c) := by
    calc c = 1 * c := (one_mul c).symm
      _ = (u * a + v * b) * c := by rw [h]
      _ = _ := rg_ [u, a, v, b, c] ((x0 * x1 + x2 * x3) * x4) (x0 * x4 * x1 + x2 * (x3 * x4))
  rw [this]
  exact dvd_add (dvd_mul_l _ _) (dvd_mul_of' hd _)
theorem Cop.mul {a b c : Po P} (h : Cop a c) (h' : Cop b c) : Cop (a * b) c := by
  obtain ⟨u, v, h⟩ := h
  obtain ⟨s, t, h'⟩ := h'
  refine ⟨u * s, u * a * t + v * s * b + v * t * c, ?_⟩
  have e := rg_ [u, s, a, b, t, c, v] (x0 * x1 * (x2 * x3) + (x0 * x2 * x4 + .x 6 * x1 * x3 + .x 6 * x4 * x5) * x5) ((x0 * x2 + .x 6 * x5) * (x1 * x3 + x4 * x5))
  simp only [evP_add, evP_mul, evP_x, vec_0, vec_1, vec_2, vec_3, vec_4, vec_5, vec_6] at e
  rw [e, h, h', mul_one]
theorem Cop.mul_dvd {a b c : Po P} (h : Cop a b) (ha : a ∣ c) (hb : b ∣ c) : a * b ∣ c := by
  obtain ⟨x, rfl⟩ := ha
  exact Fx.mul_dvd (dvd_refl a) (h.symm.dvd hb)
theorem cop_gc {a b : Po P} (h : dg (gc a b) ≤ 1) (hne : a ≠ 0 ∨ b ≠ 0) : Cop a b := by
  have h1 := Mo.one (gc_mo hne) h
  obtain ⟨u, v, h2⟩ := gc_lin a b
  exact ⟨u, v, by rw [← h2, h1]⟩
structure Irr (q : Po P) : Prop where
  mo : Mo q
  d2 : 2 ≤ dg q
  ir : ∀ a b, q = a * b → dg a ≤ 1 ∨ dg b ≤ 1
theorem Irr.ne {q : Po P} (h : Irr q) : q ≠ 0 := h.mo.ne
theorem Irr.cop {q : Po P} (h : Irr q) (a : Po P) : q ∣ a ∨ Cop q a := by
  have hm := gc_mo (f := q) (g := a) (.inl h.ne)
  obtain ⟨e, he⟩ := gc_dl q a
  rcases h.ir _ _ he with h1 | h1
  · exact .inr (cop_gc h1 (.inl h.ne))
  · have h2 : Mo e := Mo.left (he ▸ h.mo) hm
    have h3 := Mo.one h2 h1
    rw [h3, mul_one] at he
    exact .inl (he ▸ gc_dr q a)
theorem Irr.pr {q a b : Po P} (h : Irr q) (hd : q ∣ a * b) : q ∣ a ∨ q ∣ b := by
  rcases h.cop a with h1 | h1
  · exact .inl h1
  · exact .inr (h1.dvd hd)
theorem Irr.not_one {q : Po P} (h : Irr q) : ¬ q ∣ 1 := fun hd => by
  have := dg_dvd hd one_ne
  have := h.d2
  rw [dg_1] at *
  omega
theorem Irr.eq {q r : Po P} (h : Irr q) (h' : Irr r) (hd : q ∣ r) : q = r := by
  obtain ⟨e, he⟩ := hd
  rcases h'.ir _ _ he with h1 | h1
  · have := h.d2; omega
  · have := Mo.one (Mo.left (he ▸ h'.mo) h.mo) h1
    rw [he, this, mul_one]
theorem irr_ex : ∀ (n : Nat) (f : Po P), dg f ≤ n → 2 ≤ dg f → ∃ q, Irr q ∧ q ∣ f := by
  intro n
  induction n with
  | zero => intro f h h2; omega
  | succ n ih =>
    intro f h h2
    have hf : f ≠ 0 := ne_0 (by omega)
    by_cases hi : ∀ a b, mon f = a * b → dg a ≤ 1 ∨ dg b ≤ 1
    · exact ⟨mon f, ⟨mon_mo hf, by rw [mon_dg]; exact h2, hi⟩, mon_dvd hf⟩
    · obtain ⟨a, b, he, h3, h4⟩ : ∃ a b, mon f = a * b ∧ ¬ dg a ≤ 1 ∧ ¬ dg b ≤ 1 := by
        apply Classical.byContradiction
        intro hn
        apply hi
        intro a b he
        apply Classical.byContradiction
        intro h5
        exact hn ⟨a, b, he, fun h6 => h5 (.inl h6), fun h6 => h5 (.inr h6)⟩
      have h5 := dg_mul (f := a) (g := b) (ne_0 (by omega)) (ne_0 (by omega))
      rw [← he, mon_dg] at h5
      obtain ⟨q, hq, hd⟩ := ih a (by omega) (by omega)
      exact ⟨q, hq, dvd_trans hd (dvd_trans ⟨b, he⟩ (mon_dvd hf))⟩
theorem irr_of {f : Po P} (h : 2 ≤ dg f) : ∃ q, Irr q ∧ q ∣ f := irr_ex _ f (Nat.le_refl _) h
end Go.Proofs.Ytlnhembcfhfpkaa.Fx
end

section
namespace Go.Proofs.Ytlnhembcfhfpkaa.Fx
open Go.RowKit Go.Proofs.Ytlnhembcfhfpkaa.M
set_option linter.unusedSimpArgs false
set_option linter.unusedVariables false
variable {P : Pr}
def pw (a : Po P) : Nat → Po P
  | 0 => 1
  | n + 1 => pw a n * a
theorem pw_0 (a : Po P) : pw a 0 = 1 := rfl
theorem pw_s (a : Po P) (n : Nat) : pw a (n + 1) = pw a n * a := rfl
theorem pw_1 (a : Po P) : pw a 1 = a := one_mul a
theorem pw_add (a : Po P) (m : Nat) : ∀ n, pw a (m + n) = pw a m * pw a n
  | 0 => (mul_one _).symm
  | n + 1 => by rw [← Nat.add_assoc, pw_s, pw_add a m n, pw_s, mul_assoc]
theorem pw_mul (a b : Po P) : ∀ n, pw (a * b) n = pw a n * pw b n
  | 0 => (mul_one _).symm
  | n + 1 => by
    rw [pw_s, pw_s, pw_s, pw_mul a b n]
    exact rg_ [pw a n, pw b n, a, b] (x0 * x1 * (x2 * x3)) (x0 * x2 * (x1 * x3))
theorem pw_pw (a : Po P) (m : Nat) : ∀ n, pw a (m * n) = pw (pw a m) n
  | 0 => rfl
  | n + 1 => by rw [Nat.mul_succ, pw_add, pw_pw a m n, pw_s]
theorem pw_one : ∀ n, pw (1 : Po P) n = 1
  | 0 => rfl
  | n + 1 => by rw [pw_s, pw_one n, mul_one]
theorem pw_ne {a : Po P} (h : a ≠ 0) : ∀ n, pw a n ≠ 0
  | 0 => one_ne
  | n + 1 => mul_ne (pw_ne h n) h
theorem pw_mo {a : Po P} (h : Mo a) : ∀ n, Mo (pw a n)
  | 0 => mo_1
  | n + 1 => (pw_mo h n).mul h
theorem pw_dg {a : Po P} (h : 2 ≤ dg a) : ∀ n, n + 1 ≤ dg (pw a n)
  | 0 => by rw [pw_0, dg_1]; omega
  | n + 1 => by
    have ha : a ≠ 0 := ne_0 (by omega)
    have h1 := dg_mul (pw_ne ha n) ha
    have h2 := pw_dg h n
    rw [pw_s]; omega
theorem pw_dvd (a : Po P) {m n : Nat} (h : m ≤ n) : pw a m ∣ pw a n := by
  obtain ⟨k, rfl⟩ : ∃ k, n = m + k := ⟨n - m, by omega⟩
  rw [pw_add]; exact dvd_mul_r _ _
theorem pw_zero (n : Nat) (h : n ≠ 0) : pw (0 : Po P) n = 0 := by
  obtain ⟨k, rfl⟩ : ∃ k, n = k + 1 := ⟨n - 1, by omega⟩
  rw [pw_s, mul_zero]
theorem Irr.pw {q a : Po P} (h : Irr q) : ∀ {n : Nat}, q ∣ pw a n → q ∣ a
  | 0, hd => absurd hd h.not_one
  | n + 1, hd => by
    rcases h.pr hd with h1 | h1
    · exact h.pw h1
    · exact h1
def Vq (q f : Po P) (e : Nat) : Prop := pw q e ∣ f ∧ ¬ pw q (e + 1) ∣ f
theorem vq_ex {q f : Po P} (hq : 2 ≤ dg q) (hf : f ≠ 0) : ∃ e, Vq q f e := by
  apply Classical.byContradiction
  intro hn
  have : ∀ e, pw q e ∣ f := by
    intro e
    induction e with
    | zero => exact one_dvd f
    | succ e ih =>
      apply Classical.byContradiction
      intro h
      exact hn ⟨e, ih, h⟩
  have h1 := dg_dvd (this (dg f)) hf
  have h2 := pw_dg hq (dg f)
  omega
theorem vq_unique {q f : Po P} {d e : Nat} (h : Vq q f d) (h' : Vq q f e) : d = e := by
  rcases Nat.lt_trichotomy d e with hlt | he | hgt
  · exact absurd (dvd_trans (pw_dvd q hlt) h'.1) h.2
  · exact he
  · exact absurd (dvd_trans (pw_dvd q hgt) h.1) h'.2
open Classical in
noncomputable def val (q f : Po P) : Nat := if h : ∃ e, Vq q f e then h.choose else 0
theorem val_eq {q f : Po P} {e : Nat} (h : Vq q f e) : val q f = e := by
  have hx : ∃ e, Vq q f e := ⟨e, h⟩
  unfold val
  rw [dif_pos hx]
  exact vq_unique hx.choose_spec h
theorem val_spec {q f : Po P} (hq : Irr q) (hf : f ≠ 0) : Vq q f (val q f) := by
  obtain ⟨e, he⟩ := vq_ex hq.d2 hf
  rw [val_eq he]; exact he
theorem val_of {q h : Po P} (hq : Irr q) (e : Nat) (hn : ¬ q ∣ h) : val q (pw q e * h) = e := val_eq ⟨dvd_mul_r _ _, fun hd => by
  obtain ⟨x, hx⟩ := hd
  rw [pw_s, mul_assoc] at hx
  have := mul_cancel (pw_ne hq.ne e) hx
  exact hn ⟨x, this⟩⟩
theorem val_split {q f : Po P} (hq : Irr q) (hf : f ≠ 0) : ∃ h, f = pw q (val q f) * h ∧ ¬ q ∣ h := by
  obtain ⟨⟨h, h1⟩, h2⟩ := val_spec hq hf
  refine ⟨h, h1, fun hd => h2 ?_⟩
  obtain ⟨x, rfl⟩ := hd
  exact ⟨x, by rw [pw_s, mul_assoc]; exact h1⟩
theorem pw_dvd_iff {q f : Po P} (hq : Irr q) (hf : f ≠ 0) (e : Nat) : pw q e ∣ f ↔ e ≤ val q f := by
  obtain ⟨h1, h2⟩ := val_spec hq hf
  refine ⟨fun h => ?_, fun h => dvd_trans (pw_dvd q h) h1⟩
  rcases Nat.lt_or_ge (val q f) e with hlt | hge
  · exact absurd (dvd_trans (pw_dvd q hlt) h) h2
  · exact hge
theorem dvd_iff {q f : Po P} (hq : Irr q) (hf : f ≠ 0) : q ∣ f ↔ 1 ≤ val q f := by
  have := pw_dvd_iff hq hf 1
  rwa [pw_1] at this
theorem val_mul {q f g : Po P} (hq : Irr q) (hf : f ≠ 0) (hg : g ≠ 0) : val q (f * g) = val q f + val q g := by
  obtain ⟨a, ha, ha'⟩ := val_split hq hf
  obtain ⟨b, hb, hb'⟩ := val_split hq hg
  generalize val q f = m at *
  generalize val q g = n at *
  have : f * g = pw q (m + n) * (a * b) := by
    rw [ha, hb, pw_add]
    exact rg_ [pw q m, a, pw q n, b] (x0 * x1 * (x2 * x3)) (x0 * x2 * (x1 * x3))
  rw [this]
  exact val_of hq _ fun h => (hq.pr h).elim ha' hb'
theorem val_0 {q f : Po P} (h : ¬ q ∣ f) (hq : Irr q) : val q f = 0 := by
  have := val_of hq 0 h
  rwa [pw_0, one_mul] at this
theorem val_1 {q : Po P} (hq : Irr q) : val q 1 = 0 := val_0 hq.not_one hq
theorem val_self {q : Po P} (hq : Irr q) : val q q = 1 := by
  have := val_of hq 1 hq.not_one
  rwa [pw_1, mul_one] at this
theorem val_irr {q r : Po P} (hq : Irr q) (hr : Irr r) (h : q ≠ r) : val q r = 0 := val_0 (fun hd => h (hq.eq hr hd)) hq
theorem val_pw {q f : Po P} (hq : Irr q) (hf : f ≠ 0) : ∀ n, val q (pw f n) = n * val q f
  | 0 => by rw [pw_0, val_1 hq]; simp
  | n + 1 => by rw [pw_s, val_mul hq (pw_ne hf n) hf, val_pw hq hf n, Nat.succ_mul]
theorem val_cn {q : Po P} (hq : Irr q) {k : Int} (h : 0 < k ∧ k < P.p) : val q (cn k) = 0 := val_0 (fun hd => by
  have h1 := dg_dvd hd (cn_ne h)
  have h2 := dg_cn_le (P := P) k
  have := hq.d2
  omega) hq
theorem val_lt {q f : Po P} (hq : Irr q) (hf : f ≠ 0) : val q f + 1 ≤ dg f := by
  have h1 := dg_dvd (val_spec hq hf).1 hf
  have h2 := pw_dg hq.d2 (val q f)
  omega
theorem val_mon {q f : Po P} (hq : Irr q) (hf : f ≠ 0) : val q (mon f) = val q f := by
  have h := val_mul hq (cn_ne (lc_pos hf)) (mon_mo hf).ne
  rw [mon_back hf, val_cn hq (lc_pos hf)] at h
  omega
theorem val_dvd {q f g : Po P} (hq : Irr q) (h : f ∣ g) (hg : g ≠ 0) : val q f ≤ val q g := by
  obtain ⟨x, rfl⟩ := h
  rw [val_mul hq (mul_ne_l hg) (mul_ne_r hg)]; omega
theorem val_gc {q f g : Po P} (hq : Irr q) (hf : f ≠ 0) (hg : g ≠ 0) : val q (gc f g) = min (val q f) (val q g) := by
  have h0 := (gc_mo (f := f) (g := g) (.inl hf)).ne
  have h1 := val_dvd hq (gc_dl f g) hf
  have h2 := val_dvd hq (gc_dr f g) hg
  have h3 := (pw_dvd_iff hq h0 (min (val q f) (val q g))).1 (dvd_gc ((pw_dvd_iff hq hf _).2 (Nat.min_le_left _ _)) ((pw_dvd_iff hq hg _).2 (Nat.min_le_right _ _)))
  omega
theorem mo_ext : ∀ (n : Nat) (f g : Po P), dg f ≤ n → Mo f → Mo g → (∀ q, Irr q → val q f = val q g) → f = g := by
  intro n
  induction n with
  | zero => intro f g hn hf; have := dg_pos hf.ne; omega
  | succ n ih =>
    intro f g hn hf hg h
    by_cases hd : dg f ≤ 1
    · have h1 := hf.one hd
      by_cases hd2 : dg g ≤ 1
      · rw [h1, hg.one hd2]
      · obtain ⟨q, hq, hqd⟩ := irr_of (f := g) (by omega)
        have h2 := (dvd_iff hq hg.ne).1 hqd
        have h3 := h q hq
        rw [h1, val_1 hq] at h3
        omega
    · obtain ⟨q, hq, hqd⟩ := irr_of (f := f) (by omega)
      have h2 := (dvd_iff hq hf.ne).1 hqd
      rw [h q hq] at h2
      obtain ⟨a, rfl⟩ := hqd
      obtain ⟨b, rfl⟩ := (dvd_iff hq hg.ne).2 h2
      have ha := hf.left hq.mo
      have hb := hg.left hq.mo
      have h3 := dg_mul hq.ne ha.ne
      have := hq.d2
      rw [ih a b (by omega) ha hb fun r hr => by
        have := h r hr
        rw [val_mul hr hq.ne ha.ne, val_mul hr hq.ne hb.ne] at this
        omega]
theorem mo_eq {f g : Po P} (hf : Mo f) (hg : Mo g) (h : ∀ q, Irr q → val q f = val q g) : f = g := mo_ext _ f g (Nat.le_refl _) hf hg h
theorem dvd_of_val {f g : Po P} (hf : Mo f) (hg : g ≠ 0) (h : ∀ q, Irr q → val q f ≤ val q g) : f ∣ g := by
  have := mo_eq (gc_mo (f := f) (g := g) (.inl hf.ne)) hf fun q hq => by rw [val_gc hq hf.ne hg]; have := h q hq; omega
  rw [← this]; exact gc_dr f g
def derZ : List Int → List Int
  | [] => []
  | a :: l => addZ l (0 :: derZ l)
def ev' : List Int → Int → Int
  | [], _ => 0
  | a :: l, n => ev l n + n * ev' l n
theorem ev_derZ : ∀ (l : List Int) (n : Int), ev (derZ l) n = ev' l n
  | [], n => rfl
  | a :: l, n => by simp only [derZ, ev_addZ, ev, ev', ev_derZ l n]; omega
theorem ev'_addZ : ∀ (a b : List Int) (n : Int), ev' (addZ a b) n = ev' a n + ev' b n
  | [], b, n => by simp [addZ, ev']
  | a :: l, [], n => by simp [addZ, ev']
  | a :: l, b :: m, n => by simp only [addZ, ev', ev_addZ, ev'_addZ l m]; grind
theorem ev'_scZ (k : Int) : ∀ (l : List Int) (n : Int), ev' (scZ k l) n = k * ev' l n
  | [], n => by simp [scZ, ev']
  | a :: l, n => by
    have h1 := ev'_scZ k l n
    have h2 := ev_scZ k l n
    simp only [scZ] at h1 h2
    simp only [scZ, List.map_cons, ev', h1, h2]; grind
theorem ev'_mulZ : ∀ (a b : List Int) (n : Int), ev' (mulZ a b) n = ev' a n * ev b n + ev a n * ev' b n
  | [], b, n => by simp [mulZ, ev, ev']
  | a :: l, b, n => by simp only [mulZ, ev'_addZ, ev'_scZ, ev, ev', ev'_mulZ l b, ev_mulZ]; grind
theorem getD_derZ : ∀ (l : List Int) (i : Nat), (derZ l).getD i 0 = ((i : Int) + 1) * l.getD (i + 1) 0
  | [], i => by simp [derZ]
  | a :: l, i => by
    rw [derZ, getD_addZ]
    rcases i with _ | i
    · simp
    · simp only [List.getD_cons_succ, getD_derZ l i, Int.natCast_add, Int.natCast_one]; grind
theorem derZ_cg {p : Int} {a b : List Int} (h : Cg p a b) : Cg p (derZ a) (derZ b) := cg_of fun i => by
  rw [getD_derZ, getD_derZ, Int.mul_emod, h.coef, ← Int.mul_emod]
def der (f : Po P) : Po P := mk (derZ f.l)
theorem co_der (f : Po P) (i : Nat) : co (der f) i = (((i : Int) + 1) * co f (i + 1)) % P.p := by
  unfold der
  rw [co_mk, getD_derZ]; rfl
theorem mk_add (a b : List Int) : (mk (addZ a b) : Po P) = mk a + mk b := Po.co_ext fun i => by
  rw [co_add, co_mk, co_mk, co_mk, getD_addZ, Int.add_emod]
theorem mk_mul (a b : List Int) : (mk (mulZ a b) : Po P) = mk a * mk b := by
  refine mk_eq ?_
  obtain ⟨c, hc⟩ := mk_cg (P := P) a
  obtain ⟨d, hd⟩ := mk_cg (P := P) b
  refine ⟨addZ (scZ (-1) (mulZ (mk a : Po P).l d)) (scZ (-1) (mulZ c b)), fun n => ?_⟩
  have h1 := hc n
  have h2 := hd n
  simp only [ev_mulZ, ev_addZ, ev_scZ]
  grind
theorem der_mk (l : List Int) : der (mk l : Po P) = mk (derZ l) := mk_eq (derZ_cg (mk_cg l))
theorem der_mul (f g : Po P) : der (f * g) = der f * g + f * der g := by
  show der (mk (mulZ f.l g.l)) = _
  have e : der f * g + f * der g = mk (addZ (mulZ (derZ f.l) g.l) (mulZ f.l (derZ g.l))) := by
    rw [mk_add, mk_mul, mk_mul, mk_l, mk_l]; rfl
  rw [der_mk, e]
  exact mk_eq ⟨[], fun n => by simp only [ev_derZ, ev'_mulZ, ev_mulZ, ev_addZ, ev]; grind⟩
theorem der_dg {f : Po P} (h : der f ≠ 0) : dg (der f) + 1 ≤ dg f := by
  have h1 : dg (der f) ≤ dg f - 1 := dg_le fun i hi => by rw [co_der, co_big (by omega)]; simp
  have h2 := dg_pos h
  omega
theorem der_pw (f : Po P) : ∀ n, der (pw f (n + 1)) = cn (n + 1) * pw f n * der f
  | 0 => by
    rw [pw_1, pw_0]
    show der f = 1 * 1 * der f
    rw [mul_one, one_mul]
  | n + 1 => by
    rw [pw_s, der_mul, der_pw f n]
    have e : (cn (((n + 1 : Nat) : Int) + 1) : Po P) = cn ((n : Int) + 1) + 1 := by
      rw [show (((n + 1 : Nat) : Int) + 1) = ((n : Int) + 1) + 1 by omega, cn_add]; rfl
    rw [e, pw_s]
    exact rg_ [cn ((n : Int) + 1), pw f n, der f, f] (x0 * x1 * x2 * x3 + x1 * x3 * x2) ((x0 + 1) * (x1 * x3) * x2)
end Go.Proofs.Ytlnhembcfhfpkaa.Fx
end
