/- Polynomials: how large things get. -/
import Derived.Test.YtkidkimjdiichaaGreatPoJx
namespace Go.Proofs.YtkidkimjdiichaaGreat.M
open Go.RowKit
set_option linter.unusedSimpArgs false
set_option linter.unusedVariables false
theorem p2 {a s n : Nat} (h : a ≤ 2 ^ s) (hs : s < n) : a < 2 ^ n := Nat.lt_of_le_of_lt h (Nat.pow_lt_pow_right (by omega) hs)
theorem pm {a b s t : Nat} (h : a ≤ 2 ^ s) (k : b ≤ 2 ^ t) : a * b ≤ 2 ^ (s + t) := by rw [Nat.pow_add]; exact Nat.mul_le_mul h k
theorem pa {a b s : Nat} (h : a ≤ 2 ^ s) (k : b ≤ 2 ^ s) : a + b ≤ 2 ^ (s + 1) := by rw [Nat.pow_succ]; omega
theorem pp {a s : Nat} (h : a ≤ 2 ^ s) (k : Nat) : a ^ k ≤ 2 ^ (s * k) := by rw [Nat.pow_mul]; exact Nat.pow_le_pow_left h k
theorem pu {a s t : Nat} (h : a ≤ 2 ^ s) (hs : s ≤ t) : a ≤ 2 ^ t := Nat.le_trans h (Nat.pow_le_pow_right (by omega) hs)
structure In (e : Nat) (l : List Rat) (K : Nat) : Prop where
 lb : Lb K (2 ^ e) l
 k : K ≤ 2 ^ e
 nf : Nf l
 bl : Bl 4000 l
 len : l.length ≤ 201
theorem newQ_in (cs : List (List UInt8)) {e : Nat} (he : 808000 ≤ e) : ∃ K, In e (newQ cs).1 K := by
 have hb := newQ_bl cs
 have hl := newQ_len cs
 have hm : ∀ x ∈ (newQ cs).1, Bq 4000 x := fun x hx => by
  obtain ⟨i, hi, rfl⟩ := List.mem_iff_getElem.1 hx
  have := hb i
  simpa [cf, hi] using this
 refine ⟨dens (newQ cs).1, (Lb.of_bq hm).mono (Nat.pow_le_pow_right (by omega) (by omega)), ?_, newQ_nf cs, hb, hl⟩
 exact pu (dens_le fun x hx => Nat.le_of_lt (hm x hx).2) (by omega)
section
variable {l m : List Rat} {K K' e n : Nat} (hl : In e l K) (hm : In e m K')
include hl
theorem In.bn (hn : 4000 ≤ n) : Bl n l := hl.bl.mono hn
include hm
theorem In.add (hn : 2 * e + 1 < n) (i : Nat) : Bq n (cf l i + cf m i) := by
 have h := hl.lb.add hm.lb i
 rw [cf_add] at h
 exact h.Bq (p2 (pm hl.k hm.k) (by omega)) (p2 (pa (pm (Nat.le_refl _) hm.k) (pm (Nat.le_refl _) hl.k)) (by omega))
theorem In.sub (hn : 2 * e + 1 < n) (i : Nat) : Bq n (cf l i - cf m i) := by
 have h := ((hl.lb i).up hm.lb.pos).sub (by rw [Nat.mul_comm K K']; exact (hm.lb i).up hl.lb.pos)
 exact h.Bq (p2 (pm hl.k hm.k) (by omega)) (p2 (pa (pm (Nat.le_refl _) hm.k) (pm (Nat.le_refl _) hl.k)) (by omega))
theorem In.prod (i j : Nat) : Db (K * K') (2 ^ e * 2 ^ e) (cf l i * cf m j) := (hl.lb i).mul (hm.lb j)
theorem In.hK (hn : 2 * e < n) : K * K' < 2 ^ n := p2 (pm hl.k hm.k) (by omega)
omit hm in
theorem In.hH (hn : 2 * e + 8 < n) : (l.length + 1) * (2 ^ e * 2 ^ e) < 2 ^ n := by
 have h := hl.len
 exact p2 (pm (show l.length + 1 ≤ 2 ^ 8 by omega) (pm (Nat.le_refl _) (Nat.le_refl _))) (by omega)
theorem In.mul (hn : 2 * e + 8 < n) : Bl n (mulQ l m) := Bl.ofLb (hl.lb.mul hm.lb) (In.hK hl hm (by omega)) (Nat.lt_of_le_of_lt (Nat.mul_le_mul_right _ (by omega)) (In.hH hl hn))
theorem In.div (hm0 : m ≠ []) (he : 4000 ≤ e) (hn : 203 * e + 4205 < n) (hb : n ≤ big) (hlen : m.length ≤ l.length) : ∃ E, DivB l m K (2 ^ e) E (2 ^ e) 4000 n (l.length + 1 - m.length) := by
 obtain ⟨E, h1, h2, h3⟩ := hm.lb.top (ld_ne hm.nf hm0)
 have hp := List.length_pos_iff.2 hm0
 have hL := hl.len
 have hS : l.length + 1 - m.length ≤ 201 := by omega
 have hmul : e * (l.length + 1 - m.length) ≤ e * 201 := Nat.mul_le_mul_left _ hS
 have hmul2 : (e + 1) * (l.length + 1 - m.length) ≤ (e + 1) * 201 := Nat.mul_le_mul_left _ hS
 refine ⟨E, hl.lb, h2, h3, hm.bl _, hm.bl.mono (by omega), by omega, ?_, ?_, hb⟩
 ·exact p2 (pm (pm hl.k (pp h1 _)) (Nat.le_refl _)) (by omega)
 ·exact p2 (pm (pm (Nat.le_refl _) (pp (pa h1 (Nat.le_refl _)) _)) (Nat.le_refl _)) (by omega)
theorem In.cK (hn : 203 * e < n) : K * K' ^ l.length < 2 ^ n := by
 have hL := hl.len
 have hmul : e * l.length ≤ e * 201 := Nat.mul_le_mul_left _ hL
 exact p2 (pm hl.k (pp hm.k _)) (by omega)
omit hl in
theorem In.cX (L : Nat) (hL : L ≤ 1000) : (L + 1) * (2 ^ e + K') ≤ 2 ^ (10 + (e + 1)) := pm (by omega) (pa (Nat.le_refl _) hm.k)
theorem In.cH (hn : 203 * e + 2300 < n) : 2 ^ e * ((201 + 1) * (2 ^ e + K')) ^ l.length < 2 ^ n := by
 have hL := hl.len
 have hmul : (10 + (e + 1)) * l.length ≤ (10 + (e + 1)) * 201 := Nat.mul_le_mul_left _ hL
 exact p2 (pm (Nat.le_refl _) (pp (In.cX hm 201 (by omega)) _)) (by omega)
end
theorem divB_out {p d : List Rat} {K H E G b n S : Nat} (h : DivB p d K H E G b n S) (nd : Nf d) (hd : d ≠ []) : Bl n (quoQ p d) ∧ Bl n (remQ p d) ∧ (quoQ p d).length ≤ S ∧ (remQ p d).length < d.length := by
 obtain ⟨q, r, h1, h2, h3, h4⟩ := div_ex nd hd h.e0 h.eg S p K H (by have := h.len; omega) h.lb
 obtain ⟨rfl, rfl⟩ := div_eq nd h1
 obtain ⟨g1, g2, g3, g4⟩ := lb_le h (Nat.le_refl S)
 refine ⟨fun i => ?_, Bl.ofLb h3 g1 g2, h2, h1.lt⟩
 have h0 := ld_ne nd hd
 have h5 := (h4 i).mul (Db.of_self (ld d)⁻¹)
 have e : cf (quoQ p d) i * ld d * (ld d)⁻¹ = cf (quoQ p d) i := by
  rw [Rat.mul_assoc, Rat.mul_inv_cancel _ h0, Rat.mul_one]
 rw [e] at h5
 refine h5.Bq (Nat.lt_of_le_of_lt (Nat.mul_le_mul_left _ ?_) g3) (Nat.lt_of_le_of_lt (Nat.mul_le_mul_left _ ?_) g4)
 ·rw [Rat.den_inv]
  split
  ·exact Nat.pow_pos (by omega)
  ·exact Nat.le_of_lt h.ld.1
 ·rw [Rat.num_inv, Int.natAbs_mul]
  have h4 := h.ld.2
  rcases Int.lt_trichotomy (ld d).num 0 with h5 | h5 | h5
  ·rw [Int.sign_eq_neg_one_of_neg h5]; simp; omega
  ·rw [h5]; simp
  ·rw [Int.sign_eq_one_of_pos h5]; simp; omega
end Go.Proofs.YtkidkimjdiichaaGreat.M
