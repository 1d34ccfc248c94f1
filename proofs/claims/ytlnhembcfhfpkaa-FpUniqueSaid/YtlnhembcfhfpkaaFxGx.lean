/- Polynomials modulo a prime: rows brought to steps; they tell what is its own p-th power modulo f. -/
import Derived.Test.YtlnhembcfhfpkaaFxFx
namespace Go.Proofs.Ytlnhembcfhfpkaa.Fx
open Go.RowKit Go.Proofs.Ytlnhembcfhfpkaa.M
set_option linter.unusedSimpArgs false
set_option linter.unusedVariables false
variable {P : Pr}
theorem sm_swap (f : Nat → Po P) {n k t : Nat} (hk : k < n) (ht : t < n) : sm (fun i => f (if i = k then t else if i = t then k else i)) n = sm f n := by
  by_cases h : k = t
  · subst h
    refine sm_congr fun i _ => ?_
    split
    · rename_i e; rw [e]
    · rfl
  · have a1 := sm_diff (f := f) (g := fun i => if i = k then 0 else f i) (e := f k) hk (fun i _ hne => (if_neg hne).symm) (by rw [if_pos rfl, zero_add])
    have a2 := sm_diff (f := fun i => if i = k then 0 else f i) (g := fun i => if i = k then 0 else if i = t then 0 else f i) (e := f t) ht (fun i _ hne => by simp only [if_neg hne]) (by rw [if_neg (fun e => h e.symm), if_neg (fun e => h e.symm), if_pos rfl, zero_add])
    have b1 := sm_diff (f := fun i => f (if i = k then t else if i = t then k else i)) (g := fun i => if i = k then 0 else f (if i = k then t else if i = t then k else i)) (e := f t) hk (fun i _ hne => (if_neg hne).symm) (by rw [if_pos rfl, if_pos rfl, zero_add])
    have b2 := sm_diff (f := fun i => if i = k then 0 else f (if i = k then t else if i = t then k else i)) (g := fun i => if i = k then 0 else if i = t then 0 else f i) (e := f k) ht (fun i _ hne => by
      by_cases hik : i = k
      · rw [if_pos hik, if_pos hik]
      · rw [if_neg hik, if_neg hik, if_neg hik, if_neg hne, if_neg hne]) (by simp only [show (t = k) = False from eq_false fun e => h e.symm, if_false, eq_self, if_true, zero_add])
    rw [b1, b2, a1, a2]
    exact rg_ [sm (fun i => if i = k then 0 else if i = t then 0 else f i) n, f k, f t] (x0 + x1 + x2) (x0 + x2 + x1)
structure Bs (n : Nat) (R : Nat → Po P) : Prop where
  sp : ∀ v, dg v ≤ n → ∃ a : Nat → Int, v = li a R n
  ind : ∀ a : Nat → Int, li a R n = 0 → ∀ i, i < n → a i % P.p = 0
theorem Bs.swap {n : Nat} {R : Nat → Po P} (h : Bs n R) {k t : Nat} (hk : k < n) (ht : t < n) : Bs n (fun i => R (if i = k then t else if i = t then k else i)) := by
  have key : ∀ a : Nat → Int, li (fun i => a (if i = k then t else if i = t then k else i)) (fun i => R (if i = k then t else if i = t then k else i)) n = li a R n := fun a => sm_swap (fun i => cn (a i) * R i) hk ht
  have inv : ∀ i : Nat, (if (if i = k then t else if i = t then k else i) = k then t else if (if i = k then t else if i = t then k else i) = t then k else (if i = k then t else if i = t then k else i)) = i := by
    intro i
    by_cases h1 : i = k
    · rw [if_pos h1]
      by_cases h2 : t = k
      · rw [if_pos h2]; omega
      · rw [if_neg h2, if_pos rfl]; omega
    · rw [if_neg h1]
      by_cases h2 : i = t
      · rw [if_pos h2, if_pos rfl]; omega
      · rw [if_neg h2, if_neg h1, if_neg h2]
  refine ⟨fun v hv => ?_, fun a h0 i hi => ?_⟩
  · obtain ⟨a, ha⟩ := h.sp v hv
    exact ⟨_, by rw [ha]; exact (key a).symm⟩
  · have h1 := h.ind (fun i => a (if i = k then t else if i = t then k else i)) (by
      have := key (fun i => a (if i = k then t else if i = t then k else i))
      simp only [inv] at this
      rw [← this]; exact h0)
    have h2 := h1 (if i = k then t else if i = t then k else i) (by split <;> (try split) <;> omega)
    simp only [inv] at h2
    exact h2
theorem li_const {a c : Nat → Int} {n : Nat} : (cn (co (li a (fun i => (cn (c i) : Po P)) n) 0) : Po P) = li a (fun i => cn (c i)) n := (eq_cn (li_dg fun i _ => dg_cn_le _)).symm
theorem li_upd {a b : Nat → Int} {R : Nat → Po P} {n t : Nat} {s : Int} (ht : t < n) (h : ∀ i, i ≠ t → b i = a i) (h1 : b t = a t + s) : li b R n = li a R n + cn s * R t :=
  sm_diff ht (fun i _ hne => by rw [h i hne]) (by rw [h1, cn_add, add_mul])
theorem Bs.el {n : Nat} {R R' : Nat → Po P} {c : Nat → Int} {t : Nat} (h : Bs n R) (ht : t < n) (hc : c t = 0) (hR : ∀ i, i < n → R' i = R i + cn (c i) * R t) : Bs n R' := by
  have hRt : R' t = R t := by rw [hR t ht, hc, show (cn 0 : Po P) = 0 from rfl, zero_mul, add_zero]
  have key : ∀ a : Nat → Int, li a R' n = li a R n + cn (co (li a (fun i => (cn (c i) : Po P)) n) 0) * R t := by
    intro a
    rw [li_const]
    unfold li
    rw [← sm_mul, ← sm_add]
    refine sm_congr fun i hi => ?_
    rw [hR i hi]
    exact rg_ [cn (a i), R i, cn (c i), R t] (x0 * (x1 + x2 * x3)) (x0 * x1 + x0 * x2 * x3)
  refine ⟨fun v hv => ?_, fun a h0 i hi => ?_⟩
  · obtain ⟨a, ha⟩ := h.sp v hv
    let s := co (li a (fun i => (cn (c i) : Po P)) n) 0
    refine ⟨fun i => if i = t then a i + -1 * s else a i, ?_⟩
    rw [li_upd (a := a) (b := fun i => if i = t then a i + -1 * s else a i) (s := -1 * s) ht (fun i hne => if_neg hne) (if_pos rfl), key a, hRt, ha, cn_mul]
    exact rg_ [li a R n, cn s, R t] x0 (.add (.add x0 (.mul x1 x2)) (.mul (.mul (.c (-1)) x1) x2)) (by intro r; show r 0 = r 0 + r 1 * r 2 + -1 * r 1 * r 2; grind)
  · let s := co (li a (fun i => (cn (c i) : Po P)) n) 0
    have h1 : li (fun i => if i = t then a i + s else a i) R n = 0 := by
      rw [li_upd (a := a) (b := fun i => if i = t then a i + s else a i) (s := s) ht (fun i hne => if_neg hne) (if_pos rfl), ← key a, h0]
    have h2 := h.ind _ h1
    have h3 : ∀ i, i < n → i ≠ t → a i % P.p = 0 := fun i hi hne => by have := h2 i hi; rwa [if_neg hne] at this
    by_cases hit : i = t
    · subst hit
      have h4 := h2 i hi
      rw [if_pos rfl] at h4
      have h5 : s = 0 := by
        show co (sm _ n) 0 = 0
        rw [sm_zero, co_0]
        intro j hj
        show cn (a j) * cn (c j) = 0
        by_cases hji : j = i
        · rw [hji, hc, show (cn 0 : Po P) = 0 from rfl, mul_zero]
        · rw [cn_mod (h3 j hj hji), zero_mul]
      rwa [h5, Int.add_zero] at h4
    · exact h3 i hi hit
noncomputable def phi (f v : Po P) : Po P := rm (pw v (pn P) - v) f
theorem rm_add {f u v : Po P} (hf : f ≠ 0) : rm (u + v) f = rm u f + rm v f := rm_unique hf (by
    have := dvd_add (dvd_rm (f := u) hf) (dvd_rm (f := v) hf)
    rwa [show u - rm u f + (v - rm v f) = u + v - (rm u f + rm v f) from rg_ [u, rm u f, v, rm v f] (x0 - x1 + (x2 - x3)) (x0 + x2 - (x1 + x3))] at this) (by
    have := dg_add_le (rm u f) (rm v f)
    have := rm_dg u hf
    have := rm_dg v hf
    omega)
theorem rm_scale {f u : Po P} (hf : f ≠ 0) (k : Int) : rm (cn k * u) f = cn k * rm u f := rm_unique hf (by
    have := dvd_mul_of' (dvd_rm (f := u) hf) (cn k)
    rwa [show cn k * (u - rm u f) = cn k * u - cn k * rm u f from rg_ [cn k, u, rm u f] (x0 * (x1 - x2)) (x0 * x1 - x0 * x2)] at this) (by
    have h3 : dg (cn k * rm u f) ≤ dg (rm u f) := dg_le fun i hi => by rw [co_cn_mul, co_big hi]; simp
    have := rm_dg u hf
    omega)
theorem phi_add {f u v : Po P} (hf : f ≠ 0) : phi f (u + v) = phi f u + phi f v := by
  unfold phi
  rw [frob_add, ← rm_add hf]
  congr 1
  exact rg_ [pw u (pn P), pw v (pn P), u, v] (x0 + x1 - (x2 + x3)) (x0 - x2 + (x1 - x3))
theorem phi_scale {f u : Po P} (hf : f ≠ 0) (k : Int) : phi f (cn k * u) = cn k * phi f u := by
  unfold phi
  rw [pw_mul, frob_cn, ← rm_scale hf]
  congr 1
  exact rg_ [cn k, pw u (pn P), u] (x0 * x1 - x0 * x2) (x0 * (x1 - x2))
theorem rm_zero {f : Po P} (hf : f ≠ 0) : rm (0 : Po P) f = 0 := rm_0 hf (dvd_0 f)
theorem phi_0 {f : Po P} (hf : f ≠ 0) : phi f (0 : Po P) = 0 := by
  unfold phi
  rw [pw_zero _ (by have := pn_2 P; omega), sub_self, rm_zero hf]
theorem phi_li {f : Po P} (hf : f ≠ 0) (a : Nat → Int) (R : Nat → Po P) : ∀ n, phi f (li a R n) = li a (fun i => phi f (R i)) n
  | 0 => phi_0 hf
  | n + 1 => by
    show phi f (li a R n + cn (a n) * R n) = li a (fun i => phi f (R i)) n + cn (a n) * phi f (R n)
    rw [phi_add hf, phi_scale hf, phi_li hf a R n]
theorem phi_iff {f v : Po P} (hf : f ≠ 0) : phi f v = 0 ↔ f ∣ pw v (pn P) - v := by
  refine ⟨fun h => ?_, fun h => rm_0 hf h⟩
  have := dvd_rm (f := pw v (pn P) - v) hf
  unfold phi at h
  rw [h] at this
  rwa [show pw v (pn P) - v - 0 = pw v (pn P) - v from rg_ [pw v (pn P), v] (x0 - x1 - 0) (x0 - x1)] at this
structure Kn (f : Po P) (n : Nat) (R : Nat → Po P) (top j : Nat) : Prop where
  bs : Bs n R
  dgr : ∀ i, i < n → dg (R i) ≤ n
  piv : ∃ v : Nat → Nat, ∀ i, i < top → co (phi f (R i)) (v i) ≠ 0 ∧ ∀ i', i' < n → i < i' → co (phi f (R i')) (v i) = 0
  zr : ∀ i, top ≤ i → i < n → ∀ c, c < j → co (phi f (R i)) c = 0
  tj : top ≤ j
theorem Kn.skip {f : Po P} {n : Nat} {R : Nat → Po P} {top j : Nat} (h : Kn f n R top j) (h0 : ∀ i, top ≤ i → i < n → co (phi f (R i)) j = 0) : Kn f n R top (j + 1) :=
  ⟨h.bs, h.dgr, h.piv, fun i h1 h2 c hc => by
    by_cases e : c = j
    · rw [e]; exact h0 i h1 h2
    · exact h.zr i h1 h2 c (by omega), by have := h.tj; omega⟩
theorem Kn.swap {f : Po P} {n : Nat} {R : Nat → Po P} {top j k : Nat} (h : Kn f n R top j) (hk : k < n) (ht : top ≤ k) : Kn f n (fun i => R (if i = k then top else if i = top then k else i)) top j := by
  obtain ⟨v, hv⟩ := h.piv
  have hs : ∀ i, i < n → (if i = k then top else if i = top then k else i) < n := fun i hi => by split <;> (try split) <;> omega
  refine ⟨h.bs.swap hk (by omega), fun i hi => h.dgr _ (hs i hi), ⟨v, fun i hi => ?_⟩, fun i h1 h2 c hc => ?_, h.tj⟩
  · have h1 := hv i hi
    rw [if_neg (show ¬ i = k by omega), if_neg (show ¬ i = top by omega)]
    refine ⟨h1.1, fun i' h2 h3 => h1.2 _ (hs i' h2) ?_⟩
    split <;> (try split) <;> omega
  · exact h.zr _ (by split <;> (try split) <;> omega) (hs i h2) c hc
theorem Kn.step {f : Po P} {n : Nat} {R R' : Nat → Po P} {top j : Nat} {c : Nat → Int} (hf : f ≠ 0) (h : Kn f n R top j) (ht : top < n) (hp : co (phi f (R top)) j ≠ 0) (hc0 : ∀ i, i ≤ top → c i = 0) (hR : ∀ i, i < n → R' i = R i + cn (c i) * R top)
    (hz : ∀ i, i < n → top < i → (co (phi f (R i)) j + c i * co (phi f (R top)) j) % P.p = 0) : Kn f n R' (top + 1) (j + 1) := by
  have hphi : ∀ i, i < n → ∀ m, co (phi f (R' i)) m = (co (phi f (R i)) m + c i * co (phi f (R top)) m) % P.p := fun i hi m => by
    rw [hR i hi, phi_add hf, phi_scale hf, co_add, co_cn_mul, Int.add_emod, Int.emod_emod, ← Int.add_emod, Int.mul_comm]
  have hsame : ∀ i, i ≤ top → ∀ m, co (phi f (R' i)) m = co (phi f (R i)) m := fun i hi m => by
    rw [hphi i (by omega), hc0 i hi, Int.zero_mul, Int.add_zero, co_mod]
  obtain ⟨v, hv⟩ := h.piv
  refine ⟨h.bs.el ht (hc0 top (Nat.le_refl _)) hR, fun i hi => ?_, ⟨fun i => if i = top then j else v i, fun i hi => ?_⟩, fun i h1 h2 m hm => ?_, by have := h.tj; omega⟩
  · rw [hR i hi]
    have h1 := dg_add_le (R i) (cn (c i) * R top)
    have h2 : dg (cn (c i) * R top) ≤ dg (R top) := dg_le fun m hm => by rw [co_cn_mul, co_big hm]; simp
    have := h.dgr i hi
    have := h.dgr top ht
    omega
  · by_cases e : i = top
    · subst e
      simp only [if_true]
      rw [hsame i (Nat.le_refl _)]
      exact ⟨hp, fun i' h2 h3 => by rw [hphi i' h2]; exact hz i' h2 h3⟩
    · simp only [if_neg e]
      have h1 := hv i (by omega)
      rw [hsame i (by omega)]
      refine ⟨h1.1, fun i' h2 h3 => ?_⟩
      rw [hphi i' h2, h1.2 i' h2 h3, h1.2 top ht (by omega)]; simp
  · rw [hphi i h2]
    by_cases e : m = j
    · rw [e]; exact hz i h2 (by omega)
    · rw [h.zr i (by omega) h2 m (by omega), h.zr top (Nat.le_refl _) ht m (by omega)]; simp
structure KerOk (f : Po P) (B : List (Po P)) : Prop where
  dgb : ∀ b ∈ B, dg b < dg f
  fx : ∀ b ∈ B, f ∣ pw b (pn P) - b
  sp : ∀ v, dg v < dg f → f ∣ pw v (pn P) - v → ∃ a : Nat → Int, v = li a (fun i => B.getD i 0) B.length
  ind : ∀ a : Nat → Int, li a (fun i => B.getD i 0) B.length = 0 → ∀ i, i < B.length → a i % P.p = 0
theorem li_tail {a : Nat → Int} {R : Nat → Po P} {t : Nat} (h : ∀ i, i < t → cn (a i) * R i = 0) : ∀ m, li a R (t + m) = li (fun i => a (t + i)) (fun i => R (t + i)) m
  | 0 => sm_zero h
  | m + 1 => by
    show li a R (t + m) + cn (a (t + m)) * R (t + m) = _
    rw [li_tail h m]; rfl
theorem Kn.done {f : Po P} {n : Nat} {R : Nat → Po P} {top : Nat} (hn : dg f = n + 1) (ht : top ≤ n) (h : Kn f n R top n) : KerOk f ((List.range (n - top)).map fun i => R (top + i)) := by
  have hf : f ≠ 0 := ne_0 (by omega)
  have hg : ∀ i, i < n - top → ((List.range (n - top)).map fun i => R (top + i)).getD i 0 = R (top + i) := fun i hi => by simp [hi]
  have hl : ((List.range (n - top)).map fun i => R (top + i)).length = n - top := by simp
  have hphi : ∀ i, top ≤ i → i < n → phi f (R i) = 0 := fun i h1 h2 => dg_eq_0.1 (by
    have h3 : dg (phi f (R i)) ≤ n := by have := rm_dg (pw (R i) (pn P) - R i) hf; unfold phi; omega
    refine Nat.le_zero.1 (dg_le fun c _ => ?_)
    by_cases hc : c < n
    · exact h.zr i h1 h2 c hc
    · exact co_big (by omega))
  refine ⟨fun b hb => ?_, fun b hb => ?_, fun v hv hx => ?_, fun a h0 i hi => ?_⟩
  · obtain ⟨i, hi, rfl⟩ := List.mem_map.1 hb
    have := h.dgr (top + i) (by have := List.mem_range.1 hi; omega)
    omega
  · obtain ⟨i, hi, rfl⟩ := List.mem_map.1 hb
    exact (phi_iff hf).1 (hphi _ (by omega) (by have := List.mem_range.1 hi; omega))
  · obtain ⟨a, ha⟩ := h.bs.sp v (by omega)
    have h1 := (phi_iff hf).2 hx
    rw [ha, phi_li hf] at h1
    obtain ⟨w, hw⟩ := h.piv
    have h2 : ∀ m i, i < m → i < top → a i % P.p = 0 := by
      intro m
      induction m with
      | zero => intro i hi; omega
      | succ m ih =>
        intro i hi hit
        have h3 := co_li a (fun i => phi f (R i)) (w i) (k := i) (n := n) (by omega) (fun i' hi' hne => by
          rcases Nat.lt_or_ge i' i with hlt | hge
          · have := ih i' (by omega) (by omega)
            rw [Int.mul_emod, this]; simp
          · rw [(hw i hit).2 i' hi' (by omega)]; simp)
        rw [h1, co_0] at h3
        rcases int_pr h3.symm with h4 | h4
        · exact h4
        · rw [co_mod] at h4
          exact absurd h4 (hw i hit).1
    refine ⟨fun i => a (top + i), ?_⟩
    have h3 := li_tail (a := a) (R := R) (t := top) (fun i hi => by rw [cn_mod (h2 _ i (Nat.lt_succ_self i) hi), zero_mul]) (n - top)
    rw [show top + (n - top) = n by omega] at h3
    rw [hl, ha, h3]
    unfold li
    refine sm_congr fun i hi => ?_
    exact congrArg (cn (a (top + i)) * ·) (hg i hi).symm
  · rw [hl] at h0 hi
    have h1 : li (fun i => if i < top then 0 else a (i - top)) R n = 0 := by
      have h3 := li_tail (a := fun i => if i < top then 0 else a (i - top)) (R := R) (t := top) (fun i hi => by rw [if_pos hi]; exact zero_mul _) (n - top)
      rw [show top + (n - top) = n by omega] at h3
      rw [h3, ← h0]
      unfold li
      refine sm_congr fun i hi => ?_
      show cn (if top + i < top then 0 else a (top + i - top)) * R (top + i) = cn (a i) * _
      rw [if_neg (by omega), Nat.add_sub_cancel_left]
      exact congrArg (cn (a i) * ·) (hg i hi).symm
    have h2 := h.bs.ind _ h1 (top + i) (by omega)
    rwa [if_neg (by omega), Nat.add_sub_cancel_left] at h2
end Go.Proofs.Ytlnhembcfhfpkaa.Fx
