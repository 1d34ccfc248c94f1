/- Polynomials modulo a prime: the p-th power of a sum; what has the derivative 0 is a p-th power. -/
import Derived.Test.YtlnhembcfhfpkaaK6
namespace Go.Proofs.Ytlnhembcfhfpkaa.Fx
open Go.RowKit Go.Proofs.Ytlnhembcfhfpkaa.M
set_option linter.unusedSimpArgs false
set_option linter.unusedVariables false
variable {P : Pr}
def ch : Nat → Nat → Nat
  | _, 0 => 1
  | 0, _ + 1 => 0
  | n + 1, k + 1 => ch n k + ch n (k + 1)
theorem ch_big : ∀ {n k : Nat}, n < k → ch n k = 0
  | 0, k + 1, _ => rfl
  | n + 1, k + 1, h => by rw [ch, ch_big (by omega), ch_big (by omega)]
theorem ch_self : ∀ n, ch n n = 1
  | 0 => rfl
  | n + 1 => by rw [ch, ch_self n, ch_big (by omega)]
theorem ch_0 (n : Nat) : ch n 0 = 1 := by cases n <;> rfl
theorem ch_id : ∀ (n k : Nat), (k + 1) * ch (n + 1) (k + 1) = (n + 1) * ch n k
  | 0, 0 => rfl
  | 0, k + 1 => by simp [ch]
  | n + 1, 0 => by
    have ih := ch_id n 0
    have e : ch (n + 1 + 1) (0 + 1) = ch (n + 1) 0 + ch (n + 1) (0 + 1) := rfl
    rw [e, ch_0]
    rw [ch_0] at ih
    omega
  | n + 1, k + 1 => by
    have h1 := ch_id n k
    have h2 := ch_id n (k + 1)
    have e1 : ch (n + 1 + 1) (k + 1 + 1) = ch (n + 1) (k + 1) + ch (n + 1) (k + 1 + 1) := rfl
    have e2 : ch (n + 1) (k + 1) = ch n k + ch n (k + 1) := rfl
    rw [e1]
    generalize ch (n + 1) (k + 1 + 1) = z at *
    rw [e2] at h1 ⊢
    generalize ch n k = x at *
    generalize ch n (k + 1) = y at *
    grind
def sm (f : Nat → Po P) : Nat → Po P
  | 0 => 0
  | n + 1 => sm f n + f n
theorem sm_congr {f g : Nat → Po P} : ∀ {n : Nat}, (∀ i, i < n → f i = g i) → sm f n = sm g n
  | 0, _ => rfl
  | n + 1, h => by rw [sm, sm, sm_congr fun i hi => h i (by omega), h n (by omega)]
theorem sm_add (f g : Nat → Po P) : ∀ n, sm (fun i => f i + g i) n = sm f n + sm g n
  | 0 => (add_zero _).symm
  | n + 1 => by
    rw [sm, sm_add f g n, sm, sm]
    exact rg_ [sm f n, sm g n, f n, g n] (x0 + x1 + (x2 + x3)) (x0 + x2 + (x1 + x3))
theorem sm_mul (f : Nat → Po P) (a : Po P) : ∀ n, sm (fun i => f i * a) n = sm f n * a
  | 0 => (zero_mul _).symm
  | n + 1 => by rw [sm, sm_mul f a n, sm, add_mul]
theorem sm_head (f : Nat → Po P) : ∀ n, sm f (n + 1) = f 0 + sm (fun i => f (i + 1)) n
  | 0 => by rw [sm, sm, sm, zero_add, add_zero]
  | n + 1 => by rw [sm, sm_head f n, sm, add_assoc]
theorem sm_zero {f : Nat → Po P} : ∀ {n : Nat}, (∀ i, i < n → f i = 0) → sm f n = 0
  | 0, _ => rfl
  | n + 1, h => by rw [sm, sm_zero fun i hi => h i (by omega), h n (by omega), add_zero]
def tm_ (a b : Po P) (n k : Nat) : Po P := cn (ch n k) * (pw a k * pw b (n - k))
theorem tm_0 (a b : Po P) (n : Nat) : tm_ a b n 0 = pw b n := by
  unfold tm_
  rw [ch_0, pw_0, one_mul, Nat.sub_zero]
  exact one_mul _
theorem tm_big (a b : Po P) (n : Nat) : tm_ a b n (n + 1) = 0 := by
  unfold tm_
  rw [ch_big (by omega)]
  exact zero_mul _
theorem tm_s (a b : Po P) {n k : Nat} (h : k ≤ n) : tm_ a b (n + 1) (k + 1) = tm_ a b n k * a + tm_ a b n (k + 1) * b := by
  by_cases hk : k = n
  · subst hk
    rw [tm_big, zero_mul, add_zero]
    unfold tm_
    rw [ch_self, ch_self, Nat.sub_self, Nat.sub_self, pw_s]
    exact rg_ [cn ((1 : Nat) : Int), pw a k, pw b 0, a] (x0 * (x1 * x3 * x2)) (x0 * (x1 * x2) * x3)
  · unfold tm_
    have e : n - k = n - (k + 1) + 1 := by omega
    rw [Nat.add_sub_add_right, ch, e, pw_s, pw_s, Int.natCast_add, cn_add]
    exact rg_ [cn (ch n k : Int), cn (ch n (k + 1) : Int), pw a k, a, pw b (n - (k + 1)), b] ((x0 + x1) * (x2 * x3 * (x4 * x5))) (x0 * (x2 * (x4 * x5)) * x3 + x1 * (x2 * x3 * x4) * x5)
theorem binom (a b : Po P) : ∀ n, pw (a + b) n = sm (tm_ a b n) (n + 1)
  | 0 => by rw [pw_0, sm, sm, zero_add, tm_0, pw_0]
  | n + 1 => by
    have e : sm (fun i => tm_ a b n (i + 1) * b) (n + 1) = sm (fun i => tm_ a b n (i + 1) * b) n + tm_ a b n (n + 1) * b := rfl
    rw [pw_s, binom a b n, mul_add, ← sm_mul, ← sm_mul, sm_head (tm_ a b (n + 1)), sm_head (fun i => tm_ a b n i * b) n, tm_0, tm_0, pw_s,
      sm_congr (f := fun i => tm_ a b (n + 1) (i + 1)) (g := fun i => tm_ a b n i * a + tm_ a b n (i + 1) * b) fun i hi => tm_s a b (by omega), sm_add,
      e, tm_big, zero_mul, add_zero]
    exact rg_ [sm (fun i => tm_ a b n i * a) (n + 1), pw b n * b, sm (fun i => tm_ a b n (i + 1) * b) n] (x0 + (x1 + x2)) (x1 + (x0 + x2))
def pn (P : Pr) : Nat := P.p.toNat
theorem pn_p (P : Pr) : (pn P : Int) = P.p := by have := P.p2; unfold pn; omega
theorem pn_2 (P : Pr) : 2 ≤ pn P := by have := P.p2; unfold pn; omega
theorem int_pr {a b : Int} (h : (a * b) % P.p = 0) : a % P.p = 0 ∨ b % P.p = 0 := by
  apply Classical.byContradiction
  intro hn
  have h1 := md (a := a) P.pos
  have h2 := md (a := b) P.pos
  refine int_prime P.h (a := a % P.p) (b := b % P.p) ?_ ?_ (by rw [← Int.mul_emod]; exact h)
  · have : a % P.p ≠ 0 := fun e => hn (.inl e); omega
  · have : b % P.p ≠ 0 := fun e => hn (.inr e); omega
theorem cn_mod {k : Int} (h : k % P.p = 0) : (cn k : Po P) = 0 := Po.co_ext fun i => by
  rw [co_cn, co_0]; split
  · exact h
  · rfl
theorem ch_p {k : Nat} (h0 : 0 < k) (h1 : k < pn P) : (cn (ch (pn P) k) : Po P) = 0 := by
  obtain ⟨j, rfl⟩ : ∃ j, k = j + 1 := ⟨k - 1, by omega⟩
  obtain ⟨m, hm⟩ : ∃ m, pn P = m + 1 := ⟨pn P - 1, by omega⟩
  have h := ch_id m j
  rw [← hm] at h
  refine cn_mod ?_
  have h2 : (((j + 1 : Nat) : Int) * (ch (pn P) (j + 1) : Int)) % P.p = 0 := by
    rw [← Int.natCast_mul, h, Int.natCast_mul, pn_p, Int.mul_emod_right]
  rcases int_pr h2 with h3 | h3
  · have := pn_p P
    rw [em_self (by omega)] at h3
    omega
  · exact h3
theorem frob_add (a b : Po P) : pw (a + b) (pn P) = pw a (pn P) + pw b (pn P) := by
  obtain ⟨m, hm⟩ : ∃ m, pn P = m + 1 := ⟨pn P - 1, by have := pn_2 P; omega⟩
  rw [binom, sm, hm, sm_head, tm_0, sm_zero (n := m)]
  · unfold tm_
    rw [ch_self, Nat.sub_self, pw_0, mul_one, add_zero]
    rw [show (cn ((1 : Nat) : Int) : Po P) = 1 from rfl, one_mul, add_comm]
  · intro i hi
    unfold tm_
    rw [← hm, ch_p (by omega) (by omega), zero_mul]
theorem frob_nat : ∀ n : Nat, pw (cn n : Po P) (pn P) = cn n
  | 0 => pw_zero _ (by have := pn_2 P; omega)
  | n + 1 => by
    rw [Int.natCast_add, cn_add, frob_add, frob_nat n, show (cn ((1 : Nat) : Int) : Po P) = 1 from rfl, pw_one]
theorem cn_em (k : Int) : (cn k : Po P) = cn (k % P.p) := Po.co_ext fun i => by rw [co_cn, co_cn, Int.emod_emod]
theorem frob_cn (k : Int) : pw (cn k : Po P) (pn P) = cn k := by
  obtain ⟨n, hn⟩ := Int.eq_ofNat_of_zero_le (md (a := k) P.pos).1
  rw [cn_em, hn]
  exact frob_nat n
def sb (g : Po P) : List Int → Po P
  | [] => 0
  | a :: l => cn a + g * sb g l
theorem frob_sb (g : Po P) : ∀ l, pw (sb g l) (pn P) = sb (pw g (pn P)) l
  | [] => pw_zero _ (by have := pn_2 P; omega)
  | a :: l => by rw [sb, frob_add, frob_cn, pw_mul, frob_sb g l, sb]
theorem co_X_mul (f : Po P) (i : Nat) : co (X * f) i = if i = 0 then 0 else co f (i - 1) := by
  have e : X * f = mk (0 :: f.l) := by
    have : mulZ [0, 1] f.l = addZ (scZ 0 f.l) (0 :: addZ (scZ 1 f.l) [0]) := rfl
    calc X * f = mk [0, 1] * mk f.l := by rw [mk_l]; rfl
      _ = mk (mulZ [0, 1] f.l) := (mk_mul _ _).symm
      _ = _ := mk_eq (cg_of fun i => by
        rw [this, getD_addZ, getD_scZ]
        rcases i with _ | i
        · simp
        · simp only [List.getD_cons_succ]
          rw [getD_addZ, getD_scZ]
          rcases i with _ | i <;> simp)
  rw [e, co_mk]
  rcases i with _ | i
  · simp
  · simp only [List.getD_cons_succ, Nat.add_sub_cancel, if_neg (Nat.succ_ne_zero i)]
    exact co_mod f i
theorem co_Xp_mul (f : Po P) : ∀ (m i : Nat), co (pw X m * f) i = if i < m then 0 else co f (i - m)
  | 0, i => by rw [pw_0, one_mul]; simp
  | m + 1, i => by
    rw [pw_s, mul_comm (pw X m) X, mul_assoc, co_X_mul]
    by_cases h : i = 0
    · rw [if_pos h, if_pos (by omega)]
    · rw [if_neg h, co_Xp_mul f m (i - 1)]
      by_cases h2 : i < m + 1
      · rw [if_pos (by omega), if_pos h2]
      · rw [if_neg (by omega), if_neg h2, show i - 1 - m = i - (m + 1) by omega]
theorem sb_X : ∀ l : List Int, sb (X : Po P) l = mk l
  | [] => rfl
  | a :: l => Po.co_ext fun i => by
    rw [sb, co_add, co_cn, co_X_mul, sb_X l]
    rcases i with _ | i
    · rw [co_mk (a :: l)]; simp
    · simp only [Nat.succ_ne_zero, if_false, Nat.add_sub_cancel, List.getD_cons_succ, Int.zero_add, co_mk, Int.emod_emod]
theorem co_sb (m : Nat) (hm : 0 < m) : ∀ (l : List Int) (i : Nat), co (sb (pw X m : Po P) l) i = if i % m = 0 then l.getD (i / m) 0 % P.p else 0
  | [], i => by rw [sb, co_0]; simp
  | a :: l, i => by
    rw [sb, co_add, co_cn, co_Xp_mul, co_sb m hm l]
    by_cases h : i < m
    · rw [if_pos h]
      by_cases h0 : i = 0
      · subst h0; simp
      · rw [if_neg h0, if_neg (by rw [Nat.mod_eq_of_lt h]; exact h0)]; simp
    · rw [if_neg h, if_neg (by omega)]
      have e1 : (i - m) % m = i % m := (Nat.mod_eq_sub_mod (by omega)).symm
      have e2 : i / m = (i - m) / m + 1 := by
        rw [Nat.div_eq i m, if_pos ⟨hm, by omega⟩]
      rw [e1, e2, List.getD_cons_succ]
      split <;> simp
def rtl (f : List Int) (m : Nat) : List Int := (List.range ((f.length + (m - 1)) / m)).map fun i => f.getD (m * i) 0
theorem getD_rtl (f : List Int) {m : Nat} (hm : 0 < m) (i : Nat) : (rtl f m).getD i 0 = f.getD (m * i) 0 := by
  unfold rtl
  rw [getD_range_map]
  split
  · rfl
  · rename_i h
    rw [getD_big]
    have h1 : (f.length + (m - 1)) / m ≤ i := by omega
    have h2 := Nat.lt_mul_div_succ (f.length + (m - 1)) hm
    have h3 : m * ((f.length + (m - 1)) / m + 1) ≤ m * (i + 1) := Nat.mul_le_mul_left _ (by omega)
    have h4 : m * ((f.length + (m - 1)) / m + 1) = m * ((f.length + (m - 1)) / m) + m := Nat.mul_succ _ _
    have h5 : m * (i + 1) = m * i + m := Nat.mul_succ m i
    omega
def rt (f : Po P) : Po P := mk (rtl f.l (pn P))
theorem co_rt (f : Po P) (i : Nat) : co (rt f) i = co f (pn P * i) := by
  unfold rt
  rw [co_mk, getD_rtl _ (by have := pn_2 P; omega)]
  exact co_mod f _
theorem rt_dg (f : Po P) : pn P * (dg (rt f) - 1) + 1 ≤ dg f ∨ rt f = 0 := by
  by_cases h : rt f = 0
  · exact .inr h
  · refine .inl ?_
    have h1 := lc_ne h
    unfold lc at h1
    rw [co_rt] at h1
    rcases Nat.lt_or_ge (pn P * (dg (rt f) - 1)) (dg f) with h2 | h2
    · exact h2
    · exact absurd (co_big h2) h1
theorem co_pp (f : Po P) (i : Nat) : co (pw f (pn P)) i = if i % pn P = 0 then co f (i / pn P) else 0 := by
  have h := frob_sb (X : Po P) f.l
  rw [sb_X, mk_l] at h
  rw [h, co_sb _ (by have := pn_2 P; omega)]
  split
  · exact co_mod f _
  · rfl
theorem der_zero {f : Po P} (h : der f = 0) {i : Nat} (hi : i % pn P ≠ 0) : co f i = 0 := by
  have hi0 : i ≠ 0 := by rintro rfl; simp at hi
  obtain ⟨j, rfl⟩ : ∃ j, i = j + 1 := ⟨i - 1, by omega⟩
  have h1 := congrArg (fun f => co f j) h
  simp only [co_der, co_0] at h1
  rcases int_pr h1 with h2 | h2
  · exfalso
    apply hi
    have h3 : (((j + 1 : Nat) : Int)) % (pn P : Int) = 0 := by rw [pn_p]; exact_mod_cast h2
    omega
  · rw [co_mod] at h2; exact h2
theorem rt_pw {f : Po P} (h : der f = 0) : pw (rt f) (pn P) = f := Po.co_ext fun i => by
  rw [co_pp]
  split
  · rename_i hi
    rw [co_rt, Nat.mul_div_cancel' (Nat.dvd_of_mod_eq_zero hi)]
  · rename_i hi
    exact (der_zero h hi).symm
theorem pw_p_mo {f : Po P} (h : Mo (pw f (pn P))) : Mo f := by
  have hf : f ≠ 0 := by
    rintro rfl
    rw [pw_zero _ (by have := pn_2 P; omega)] at h
    exact h.ne rfl
  have h1 := lc_pos hf
  have h2 : pw f (pn P) = cn (lc f) * pw (mon f) (pn P) := by
    have := pw_mul (cn (lc f)) (mon f) (pn P)
    rw [mon_back hf, frob_cn] at this
    exact this
  have h3 := mul_top (cn_ne h1) (pw_ne (mon_mo hf).ne (pn P))
  have h4 : lc (cn (lc f) : Po P) = lc f := by
    have h5 : dg (cn (lc f) : Po P) = 1 := by
      have := dg_cn_le (P := P) (lc f)
      have := dg_pos (cn_ne h1)
      omega
    show co (cn (lc f) : Po P) (dg (cn (lc f) : Po P) - 1) = lc f
    rw [h5, co_cn, if_pos rfl, em_self (by omega)]
  rw [← h2, h4, (pw_mo (mon_mo hf) (pn P)), Int.mul_one, em_self (by omega)] at h3
  unfold Mo
  rw [← h3.2]
  exact h
theorem irr_der {q : Po P} (h : Irr q) : ¬ q ∣ der q := by
  intro hd
  by_cases h0 : der q = 0
  · have h1 := rt_pw h0
    obtain ⟨m, hm⟩ : ∃ m, pn P = m + 1 := ⟨pn P - 1, by have := pn_2 P; omega⟩
    have h2 : q = pw (rt q) m * rt q := by rw [← pw_s, ← hm, h1]
    have hr : rt q ≠ 0 := mul_ne_r (h2 ▸ h.ne)
    have key : dg (rt q) ≤ 1 := by
      rcases h.ir _ _ h2 with h3 | h3
      · rcases Nat.lt_or_ge 1 (dg (rt q)) with h4 | h4
        · have := pw_dg (show 2 ≤ dg (rt q) from h4) m
          have := pn_2 P
          omega
        · exact h4
      · exact h3
    have hmo : Mo (rt q) := pw_p_mo (by rw [h1]; exact h.mo)
    rw [hmo.one key, pw_one] at h1
    have := h.d2
    rw [← h1, dg_1] at this
    omega
  · have := dg_dvd hd h0
    have := der_dg h0
    omega
theorem val_der {q f : Po P} (hq : Irr q) (hf : f ≠ 0) (hd : der f ≠ 0) : (val q f % pn P = 0 → val q f ≤ val q (der f)) ∧ (val q f % pn P ≠ 0 → val q (der f) + 1 = val q f) := by
  obtain ⟨h, hh, hn⟩ := val_split hq hf
  generalize val q f = e at *
  rcases e with _ | e
  · exact ⟨fun _ => by omega, fun hx => absurd (by simp) hx⟩
  have h1 : der f = pw q e * (cn ((e : Int) + 1) * der q * h + q * der h) := by
    rw [hh, der_mul, der_pw, pw_s]
    exact rg_ [cn ((e : Int) + 1), pw q e, der q, h, q, der h] (x0 * x1 * x2 * x3 + x1 * x4 * x5) (x1 * (x0 * x2 * x3 + x4 * x5))
  refine ⟨fun hx => ?_, fun hx => ?_⟩
  · have h2 : (cn ((e : Int) + 1) : Po P) = 0 := cn_mod (by
      have := pn_p P
      rw [← this]
      have h3 : ((e : Int) + 1) = ((e + 1 : Nat) : Int) := by omega
      rw [h3]
      omega)
    refine (pw_dvd_iff hq hd (e + 1)).1 ⟨der h, ?_⟩
    rw [h1, h2, pw_s]
    exact rg_ [pw q e, der q, h, q, der h] (x0 * (0 * x1 * x2 + x3 * x4)) (x0 * x3 * x4)
  · rw [h1, val_of hq e]
    intro h3
    have h4 := dvd_of_add (b := q * der h) (c := cn ((e : Int) + 1) * der q * h) (by rw [add_comm]; exact h3) (dvd_mul_r _ _)
    rcases hq.pr h4 with h5 | h5
    · rcases hq.pr h5 with h6 | h6
      · have h7 : 0 < ((e : Int) + 1) % P.p ∧ ((e : Int) + 1) % P.p < P.p := by
          have h8 := md (a := (e : Int) + 1) P.pos
          have : ((e : Int) + 1) % P.p ≠ 0 := by
            have := pn_p P
            rw [← this]
            have h3 : ((e : Int) + 1) = ((e + 1 : Nat) : Int) := by omega
            rw [h3]
            omega
          omega
        rw [cn_em] at h6
        have h8 := (dvd_iff hq (cn_ne h7)).1 h6
        rw [val_cn hq h7] at h8
        omega
      · exact irr_der hq h6
    · exact hn h5
end Go.Proofs.Ytlnhembcfhfpkaa.Fx
