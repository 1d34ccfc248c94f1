/- Polynomials modulo a prime: powers by squares; Fermat's theorem for polynomials. -/
import Derived.Test.YtlnhembcfhfpkaaFxIx
namespace Go.Proofs.Ytlnhembcfhfpkaa.Fx
open Go.RowKit Go.Proofs.Ytlnhembcfhfpkaa.M
set_option linter.unusedSimpArgs false
set_option linter.unusedVariables false
variable {P : Pr}
theorem rm_l (f g : Po P) : (rm f g).l = rem f.l g.l P.p := rfl
theorem rm_cong {f g m : Po P} (hm : m ≠ 0) (h : m ∣ f - g) : rm f m = rm g m := rm_unique hm (by
  have := dvd_add h (dvd_rm (f := g) hm)
  rwa [show f - g + (g - rm g m) = f - rm g m from rg_ [f, g, rm g m] (x0 - x1 + (x1 - x2)) (x0 - x2)] at this) (rm_dg g hm)
theorem rm_eq_iff {f g m : Po P} (hm : m ≠ 0) : rm f m = rm g m ↔ m ∣ f - g := by
  refine ⟨fun h => ?_, rm_cong hm⟩
  have := dvd_sub (dvd_rm (f := f) hm) (dvd_rm (f := g) hm)
  rwa [h, show f - rm g m - (g - rm g m) = f - g from rg_ [f, g, rm g m] (x0 - x2 - (x1 - x2)) (x0 - x1)] at this
theorem rm_self {f m : Po P} (hm : m ≠ 0) (h : dg f < dg m) : rm f m = f := rm_unique hm (by rw [sub_self]; exact dvd_0 m) h
theorem powL_ok {m : Po P} (hm : m ≠ 0) : ∀ (n : Nat) (o f : Po P), dg o < dg m → ∃ r : Po P, r.l = powL m.l P.p o.l f.l n ∧ m ∣ o * pw f n - r ∧ dg r < dg m := by
  intro n
  induction n using Nat.strongRecOn with
  | _ n ih =>
    intro o f ho
    by_cases h0 : n = 0
    · subst h0
      exact ⟨o, by rw [powL_0], by rw [pw_0, mul_one, sub_self]; exact dvd_0 m, ho⟩
    · rw [powL_s h0, ← mul_l, ← mul_l, ← rm_l, ← rm_l]
      have e : (if n % 2 = 1 then (rm (o * f) m).l else o.l) = (if n % 2 = 1 then rm (o * f) m else o).l := by split <;> rfl
      rw [e]
      obtain ⟨r, h1, h2, h3⟩ := ih (n / 2) (by omega) (if n % 2 = 1 then rm (o * f) m else o) (rm (f * f) m) (by split; exact rm_dg _ hm; exact ho)
      refine ⟨r, h1, ?_, h3⟩
      have hsq : m ∣ pw (f * f) (n / 2) - pw (rm (f * f) m) (n / 2) := pw_sub_dvd m _ _ (dvd_rm hm) _
      have hff : pw (f * f) (n / 2) = pw f (2 * (n / 2)) := by rw [pw_pw, pw_s, pw_1]
      rw [hff] at hsq
      by_cases hodd : n % 2 = 1
      · rw [if_pos hodd] at h2
        have hn : n = 2 * (n / 2) + 1 := by omega
        have e2 : pw f n = pw f (2 * (n / 2)) * f := by
          conv => lhs; rw [hn]
          rfl
        rw [e2]
        have ho2 := dvd_rm (f := o * f) hm
        have h4 := dvd_add (dvd_add (dvd_mul_of ho2 (pw f (2 * (n / 2)))) (dvd_mul_of' hsq (rm (o * f) m))) h2
        rwa [show (o * f - rm (o * f) m) * pw f (2 * (n / 2)) + rm (o * f) m * (pw f (2 * (n / 2)) - pw (rm (f * f) m) (n / 2)) + (rm (o * f) m * pw (rm (f * f) m) (n / 2) - r) = o * (pw f (2 * (n / 2)) * f) - r from
          rg_ [o, f, rm (o * f) m, pw f (2 * (n / 2)), pw (rm (f * f) m) (n / 2), r] ((x0 * x1 - x2) * x3 + x2 * (x3 - x4) + (x2 * x4 - x5)) (x0 * (x3 * x1) - x5)] at h4
      · rw [if_neg hodd] at h2
        have hn : n = 2 * (n / 2) := by omega
        have e2 : pw f n = pw f (2 * (n / 2)) := by conv => lhs; rw [hn]
        rw [e2]
        have h4 := dvd_add (dvd_mul_of' hsq o) h2
        rwa [show o * (pw f (2 * (n / 2)) - pw (rm (f * f) m) (n / 2)) + (o * pw (rm (f * f) m) (n / 2) - r) = o * pw f (2 * (n / 2)) - r from
          rg_ [o, pw f (2 * (n / 2)), pw (rm (f * f) m) (n / 2), r] (x0 * (x1 - x2) + (x0 * x2 - x3)) (x0 * x1 - x3)] at h4
theorem one_l : (1 : Po P).l = [1] := td_ext (1 : Po P).td (by simp [Td, trim]) fun i => by
  show co (cn 1) i = _
  rw [co_cn]
  rcases i with _ | i
  · rw [if_pos rfl, em_self (by have := P.p2; omega)]; rfl
  · simp
theorem powP_ok {f m : Po P} (hm : m ≠ 0) (n : Nat) : powP f.l n m.l P.p = (rm (pw f n) m).l := by
  unfold powP
  rw [← one_l (P := P), ← rm_l, ← rm_l]
  obtain ⟨r, h1, h2, h3⟩ := powL_ok hm n (rm 1 m) (rm f m) (rm_dg 1 hm)
  rw [← h1]
  congr 1
  symm
  refine rm_unique hm ?_ h3
  have h4 := dvd_rm (f := (1 : Po P)) hm
  have h5 := pw_sub_dvd m _ _ (dvd_rm (f := f) hm) n
  have h6 := dvd_add (dvd_add h5 (dvd_mul_of h4 (pw (rm f m) n))) h2
  rwa [show pw f n - pw (rm f m) n + (1 - rm 1 m) * pw (rm f m) n + (rm 1 m * pw (rm f m) n - r) = pw f n - r from
    rg_ [pw f n, pw (rm f m) n, rm 1 m, r] (x0 - x1 + (1 - x2) * x1 + (x2 * x1 - x3)) (x0 - x3)] at h6
def al (P : Pr) : Nat → List (Po P)
  | 0 => [0]
  | d + 1 => (List.range (pn P)).flatMap fun c : Nat => (al P d).map fun g => cn (c : Int) + X * g
theorem al_len : ∀ d, (al P d).length = pn P ^ d
  | 0 => rfl
  | d + 1 => by
    rw [al, List.length_flatMap]
    have : (List.range (pn P)).map (fun c : Nat => ((al P d).map fun g => cn (c : Int) + X * g).length) = List.replicate (pn P) (pn P ^ d) := by
      apply List.ext_getElem <;> simp [al_len d]
    rw [this, List.sum_replicate_nat, Nat.pow_succ, Nat.mul_comm]
theorem co_cX (c : Int) (g : Po P) (i : Nat) : co (cn c + X * g) i = if i = 0 then c % P.p else co g (i - 1) := by
  rw [co_add, co_cn, co_X_mul]
  split
  · simp
  · rw [Int.zero_add, co_mod]
theorem al_dg : ∀ d, ∀ g ∈ al P d, dg g ≤ d
  | 0, g, h => by
    simp only [al, List.mem_singleton] at h
    rw [h, dg_0]; omega
  | d + 1, g, h => by
    rw [al, List.mem_flatMap] at h
    obtain ⟨c, hc, h⟩ := h
    obtain ⟨g', hg', rfl⟩ := List.mem_map.1 h
    refine dg_le fun i hi => ?_
    rw [co_cX, if_neg (by omega)]
    exact co_big (by have := al_dg d g' hg'; omega)
theorem al_mem : ∀ d (g : Po P), dg g ≤ d → g ∈ al P d
  | 0, g, h => by rw [dg_eq_0.1 (show dg g = 0 by omega)]; simp [al]
  | d + 1, g, h => by
    rw [al, List.mem_flatMap]
    have h1 := co_rg g 0
    refine ⟨(co g 0).toNat, List.mem_range.2 (by have := pn_p P; omega), List.mem_map.2 ⟨mk g.l.tail, al_mem d (mk g.l.tail) (dg_le fun i hi => ?_), ?_⟩⟩
    · rw [co_mk]
      have : g.l.tail.getD i 0 = co g (i + 1) := by unfold co; cases g.l <;> simp
      rw [this, co_big (by omega)]; simp
    · refine Po.co_ext fun i => ?_
      rw [co_cX]
      rcases i with _ | i
      · rw [if_pos rfl, show (((co g 0).toNat : Nat) : Int) = co g 0 by omega, co_mod]
      · rw [if_neg (by omega), Nat.add_sub_cancel, co_mk]
        have : g.l.tail.getD i 0 = co g (i + 1) := by unfold co; cases g.l <;> simp
        rw [this, co_mod]
theorem al_nd : ∀ d, (al P d).Nodup
  | 0 => by simp [al]
  | d + 1 => by
    rw [al]
    unfold List.Nodup
    rw [List.pairwise_flatMap]
    refine ⟨fun c hc => ?_, ?_⟩
    · rw [List.pairwise_map]
      refine (al_nd d).imp fun {a b} hne he => hne ?_
      refine Po.co_ext fun i => ?_
      have := congrArg (fun f => co f (i + 1)) he
      simp only [co_cX, Nat.succ_ne_zero, if_false, Nat.add_sub_cancel] at this
      exact this
    · refine List.Pairwise.imp_of_mem ?_ List.nodup_range
      intro a b ha hb hne x hx y hy he
      obtain ⟨g, hg, rfl⟩ := List.mem_map.1 hx
      obtain ⟨g', hg', rfl⟩ := List.mem_map.1 hy
      have := congrArg (fun f => co f 0) he
      simp only [co_cX, if_true] at this
      have h1 := List.mem_range.1 ha
      have h2 := List.mem_range.1 hb
      have h3 := pn_p P
      rw [em_self (by omega), em_self (by omega)] at this
      omega
def pr_ : List (Po P) → Po P
  | [] => 1
  | a :: l => a * pr_ l
theorem pr_app (a b : List (Po P)) : pr_ (a ++ b) = pr_ a * pr_ b := by
  induction a with
  | nil => exact (one_mul _).symm
  | cons x a ih => rw [List.cons_append, pr_, ih, pr_, mul_assoc]
theorem pr_perm : ∀ (l m : List (Po P)), l.Nodup → (∀ x ∈ l, x ∈ m) → l.length = m.length → pr_ l = pr_ m
  | [], m, _, _, hl => by
    have : m = [] := List.eq_nil_of_length_eq_zero hl.symm
    rw [this]
  | x :: l, m, hn, hs, hl => by
    obtain ⟨a, b, rfl⟩ := List.append_of_mem (hs x (by simp))
    have hn' := List.nodup_cons.1 hn
    have h1 := pr_perm l (a ++ b) hn'.2 (fun y hy => by
      have h2 := hs y (by simp [hy])
      have h3 : y ≠ x := fun e => hn'.1 (e ▸ hy)
      simp only [List.mem_append, List.mem_cons] at h2 ⊢
      rcases h2 with h2 | h2 | h2
      · exact .inl h2
      · exact absurd h2 h3
      · exact .inr h2) (by simp at hl ⊢; omega)
    rw [pr_, h1, pr_app, pr_app, pr_]
    exact rg_ [x, pr_ a, pr_ b] (x0 * (x1 * x2)) (x1 * (x0 * x2))
theorem lagrange {q a : Po P} (hq : Irr q) (ha : ¬ q ∣ a) {d : Nat} (hd : dg q = d + 1) : q ∣ pw a (pn P ^ d) - a := by
  have hq0 := hq.ne
  let l := (al P d).filter fun g => 0 < dg g
  have hl : ∀ g, g ∈ l ↔ dg g ≤ d ∧ g ≠ 0 := fun g => by
    rw [List.mem_filter]
    constructor
    · rintro ⟨h1, h2⟩; exact ⟨al_dg d g h1, ne_0 (by simpa using h2)⟩
    · rintro ⟨h1, h2⟩; exact ⟨al_mem d g h1, by simpa using dg_pos h2⟩
  have hnd : l.Nodup := (al_nd d).filter _
  have hn : ∀ g, g ∈ l → ¬ q ∣ g := fun g hg hx => by
    have h1 := (hl g).1 hg
    have := dg_dvd hx h1.2
    omega
  have hinj : ∀ g h, g ∈ l → h ∈ l → rm (a * g) q = rm (a * h) q → g = h := fun g h hg hh he => by
    have h1 := (rm_eq_iff hq0).1 he
    rw [show a * g - a * h = a * (g - h) from rg_ [a, g, h] (x0 * x1 - x0 * x2) (x0 * (x1 - x2))] at h1
    rcases hq.pr h1 with h2 | h2
    · exact absurd h2 ha
    · apply Classical.byContradiction
      intro hne
      have h3 : g - h ≠ 0 := fun e => hne (sub_eq_zero e)
      have h4 := dg_dvd h2 h3
      have h5 := dg_sub_le g h
      have := ((hl g).1 hg).1
      have := ((hl h).1 hh).1
      omega
  have hp : pr_ (l.map fun g => rm (a * g) q) = pr_ l := by
    refine pr_perm _ _ ?_ (fun x hx => ?_) (by simp)
    · unfold List.Nodup
      rw [List.pairwise_map]
      refine List.Pairwise.imp_of_mem ?_ hnd
      intro g h hg hh hne he
      exact hne (hinj g h hg hh he)
    · obtain ⟨g, hg, rfl⟩ := List.mem_map.1 hx
      rw [hl]
      refine ⟨by have := rm_dg (a * g) hq0; omega, fun e => ?_⟩
      have h1 := dvd_rm (f := a * g) hq0
      rw [e, show a * g - 0 = a * g from rg_ [a, g] (x0 * x1 - 0) (x0 * x1)] at h1
      rcases hq.pr h1 with h2 | h2
      · exact ha h2
      · exact hn g hg h2
  have hc : ∀ m : List (Po P), q ∣ pw a m.length * pr_ m - pr_ (m.map fun g => rm (a * g) q) := by
    intro m
    induction m with
    | nil => rw [List.map_nil, pr_, List.length_nil, pw_0, mul_one, sub_self]; exact dvd_0 q
    | cons g m ih =>
      rw [List.map_cons, pr_, pr_, List.length_cons, pw_s]
      have h1 := dvd_add (dvd_mul_of' ih (a * g)) (dvd_mul_of (dvd_rm (f := a * g) hq0) (pr_ (m.map fun g => rm (a * g) q)))
      rwa [show a * g * (pw a m.length * pr_ m - pr_ (m.map fun g => rm (a * g) q)) + (a * g - rm (a * g) q) * pr_ (m.map fun g => rm (a * g) q) = pw a m.length * a * (g * pr_ m) - rm (a * g) q * pr_ (m.map fun g => rm (a * g) q) from
        rg_ [a, g, pw a m.length, pr_ m, pr_ (m.map fun g => rm (a * g) q), rm (a * g) q] (x0 * x1 * (x2 * x3 - x4) + (x0 * x1 - x5) * x4) (x2 * x0 * (x1 * x3) - x5 * x4)] at h1
  have hpn : ∀ m : List (Po P), (∀ g ∈ m, ¬ q ∣ g) → ¬ q ∣ pr_ m := by
    intro m
    induction m with
    | nil => exact fun _ h => hq.not_one h
    | cons g m ih =>
      intro h hx
      rcases hq.pr hx with h1 | h1
      · exact h g (by simp) h1
      · exact ih (fun g hg => h g (by simp [hg])) h1
  have h1 := hc l
  rw [hp, show pw a l.length * pr_ l - pr_ l = (pw a l.length - 1) * pr_ l from rg_ [pw a l.length, pr_ l] (x0 * x1 - x1) ((x0 - 1) * x1)] at h1
  have h2 : q ∣ pw a l.length - 1 := by
    rcases hq.pr h1 with h | h
    · exact h
    · exact absurd h (hpn l hn)
  have hlen : l.length + 1 = pn P ^ d := by
    rw [← al_len d]
    have h3 : ((0 : Po P) :: l).length = (al P d).length := by
      have key : ∀ m : List (Po P), m.Nodup → (0 : Po P) ∈ m → (m.filter fun g => 0 < dg g).length + 1 = m.length := by
        intro m
        induction m with
        | nil => intro _ h; simp at h
        | cons g m ih =>
          intro hn h
          have hn' := List.nodup_cons.1 hn
          by_cases hg : g = 0
          · subst hg
            have : ∀ x ∈ m, decide (0 < dg x) = true := fun x hx => by
              have : x ≠ 0 := fun e => hn'.1 (e ▸ hx)
              simpa using dg_pos this
            rw [List.filter_cons_of_neg (by simp [dg_0]), List.filter_eq_self.2 this, List.length_cons]
          · rw [List.filter_cons_of_pos (by simpa using dg_pos hg), List.length_cons, List.length_cons]
            have := ih hn'.2 (by
              rcases List.mem_cons.1 h with h | h
              · exact absurd h.symm hg
              · exact h)
            omega
      rw [List.length_cons]
      exact key _ (al_nd d) (al_mem d 0 (by rw [dg_0]; omega))
    simpa using h3
  rw [← hlen, pw_s]
  have h3 := dvd_mul_of h2 a
  rwa [show (pw a l.length - 1) * a = pw a l.length * a - a from rg_ [pw a l.length, a] ((x0 - 1) * x1) (x0 * x1 - x1)] at h3
theorem fermat_all {q : Po P} (hq : Irr q) {d : Nat} (hd : dg q = d + 1) (a : Po P) : q ∣ pw a (pn P ^ d) - a := by
  by_cases ha : q ∣ a
  · obtain ⟨m, hm⟩ : ∃ m, pn P ^ d = m + 1 := ⟨pn P ^ d - 1, by have := Nat.pow_pos (n := d) (show 0 < pn P by have := pn_2 P; omega); omega⟩
    rw [hm, pw_s]
    exact dvd_sub (dvd_mul_of' ha _) ha
  · exact lagrange hq ha hd
theorem fermat_mul {q : Po P} (hq : Irr q) {d : Nat} (hd : dg q = d + 1) (a : Po P) : ∀ k, q ∣ pw a (pn P ^ (d * k)) - a
  | 0 => by rw [Nat.mul_zero, Nat.pow_zero, pw_1, sub_self]; exact dvd_0 q
  | k + 1 => by
    rw [Nat.mul_succ, Nat.pow_add, pw_pw]
    have h1 := pw_sub_dvd q _ _ (fermat_mul hq hd a k) (pn P ^ d)
    have h2 := dvd_add h1 (fermat_all hq hd a)
    rwa [show pw (pw a (pn P ^ (d * k))) (pn P ^ d) - pw a (pn P ^ d) + (pw a (pn P ^ d) - a) = pw (pw a (pn P ^ (d * k))) (pn P ^ d) - a from
      rg_ [pw (pw a (pn P ^ (d * k))) (pn P ^ d), pw a (pn P ^ d), a] (x0 - x1 + (x1 - x2)) (x0 - x2)] at h2
theorem frob_sb_n (g : Po P) (l : List Int) : ∀ r, pw (sb g l) (pn P ^ r) = sb (pw g (pn P ^ r)) l
  | 0 => by rw [Nat.pow_zero, pw_1, pw_1]
  | r + 1 => by rw [Nat.pow_succ, pw_pw, frob_sb_n g l r, frob_sb, pw_pw]
theorem sb_cong {q g h : Po P} (hd : q ∣ g - h) : ∀ l : List Int, q ∣ sb g l - sb h l
  | [] => by rw [sb, sb, sub_self]; exact dvd_0 q
  | a :: l => by
    rw [sb, sb]
    have h1 := dvd_add (dvd_mul_of hd (sb g l)) (dvd_mul_of' (sb_cong hd l) h)
    rwa [show (g - h) * sb g l + h * (sb g l - sb h l) = cn a + g * sb g l - (cn a + h * sb h l) from rg_ [g, h, sb g l, sb h l, cn a] ((x0 - x1) * x2 + x1 * (x2 - x3)) (x4 + x0 * x2 - (x4 + x1 * x3))] at h1
theorem fermat {q : Po P} (hq : Irr q) {d : Nat} (hd : dg q = d + 1) (n : Nat) : q ∣ pw X (pn P ^ n) - X ↔ n % d = 0 := by
  have hd1 : 1 ≤ d := by have := hq.d2; omega
  refine ⟨fun h => ?_, fun h => ?_⟩
  · apply Classical.byContradiction
    intro hr
    have hrd : n % d < d := Nat.mod_lt _ (by omega)
    have hn : n = d * (n / d) + n % d := (Nat.div_add_mod n d).symm
    generalize n % d = r at *
    have h1 : q ∣ pw X (pn P ^ r) - X := by
      rw [hn, Nat.pow_add, pw_pw] at h
      have h2 := pw_sub_dvd q _ _ (fermat_mul hq hd X (n / d)) (pn P ^ r)
      have h3 := dvd_sub h h2
      rwa [show pw (pw X (pn P ^ (d * (n / d)))) (pn P ^ r) - X - (pw (pw X (pn P ^ (d * (n / d)))) (pn P ^ r) - pw X (pn P ^ r)) = pw X (pn P ^ r) - X from
        rg_ [pw (pw X (pn P ^ (d * (n / d)))) (pn P ^ r), X, pw X (pn P ^ r)] (x0 - x1 - (x0 - x2)) (x2 - x1)] at h3
    have h2 : ∀ g : Po P, q ∣ pw g (pn P ^ r) - g := fun g => by
      have h3 := sb_cong h1 g.l
      rw [← frob_sb_n, sb_X, mk_l] at h3
      exact h3
    have hp2 := pn_2 P
    have h3 := few_roots hq (N := pn P ^ r) (by
      obtain ⟨k, rfl⟩ : ∃ k, r = k + 1 := ⟨r - 1, by omega⟩
      rw [Nat.pow_succ]
      have : 1 * 2 ≤ pn P ^ k * pn P := Nat.mul_le_mul (Nat.pow_pos (by omega)) hp2
      omega) (ys := al P d) (fun y _ => h2 y) (by
      refine List.Pairwise.imp_of_mem ?_ (al_nd d)
      intro a b ha hb hne hx
      have h5 : b - a ≠ 0 := fun e => hne (sub_eq_zero e).symm
      have h6 := dg_dvd hx h5
      have h7 := dg_sub_le b a
      have := al_dg d a ha
      have := al_dg d b hb
      omega)
    rw [al_len] at h3
    have := (Nat.pow_le_pow_iff_right (by omega)).1 h3
    omega
  · obtain ⟨k, hk⟩ := Nat.dvd_of_mod_eq_zero h
    rw [hk]
    exact fermat_mul hq hd X k
end Go.Proofs.Ytlnhembcfhfpkaa.Fx
