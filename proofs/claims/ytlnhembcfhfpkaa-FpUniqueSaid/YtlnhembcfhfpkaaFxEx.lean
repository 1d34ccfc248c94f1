/- Polynomials modulo a prime: parts without squares. -/
import Derived.Test.YtlnhembcfhfpkaaFxDx
namespace Go.Proofs.Ytlnhembcfhfpkaa.Fx
open Go.RowKit Go.Proofs.Ytlnhembcfhfpkaa.M
set_option linter.unusedSimpArgs false
set_option linter.unusedVariables false
variable {P : Pr}
noncomputable def sqW : Nat → Po P → Po P → Nat → Nat → List (Po P × Nat) × Po P
  | 0, _, c, _, _ => ([], c)
  | k + 1, w, c, n, t => if dg w ≤ 1 then ([], c) else
    let y := gc w c
    let r := sqW k y (qo c y) (n + 1) t
    ((if 1 < dg (qo w y) then [(qo w y, n * t)] else []) ++ r.1, r.2)
noncomputable def sqL : Nat → Po P → Nat → List (Po P × Nat)
  | 0, _, _ => []
  | k + 1, f, t => if dg f < 2 then [] else if dg (der f) = 0 then sqL k (rt f) (t * pn P) else
    let c := gc f (der f)
    let r := sqW (dg (qo f c) + dg c) (qo f c) c 1 t
    r.1 ++ if 1 < dg r.2 then sqL k (rt r.2) (t * pn P) else []
structure Jw (f w c : Po P) (n : Nat) : Prop where
  wm : Mo w
  cm : Mo c
  w1 : ∀ q, Irr q → val q f % pn P ≠ 0 → val q w = if n ≤ val q f then 1 else 0
  w0 : ∀ q, Irr q → val q f % pn P = 0 → val q w = 0
  c1 : ∀ q, Irr q → val q f % pn P ≠ 0 → val q c = val q f - n
  c0 : ∀ q, Irr q → val q f % pn P = 0 → val q c = val q f
theorem qo_mo {f g : Po P} (hf : Mo f) (hg : Mo g) (h : g ∣ f) : Mo (qo f g) := by
  have := qo_mul hg.ne h
  rw [mul_comm] at this
  exact Mo.left (by rw [this]; exact hf) hg
theorem qo_val {q f g : Po P} (hq : Irr q) (hf : Mo f) (hg : Mo g) (h : g ∣ f) : val q (qo f g) + val q g = val q f := by
  have h1 := val_mul hq (qo_mo hf hg h).ne hg.ne
  rw [qo_mul hg.ne h] at h1
  omega
theorem qo_dg {f g : Po P} (hf : Mo f) (hg : Mo g) (h : g ∣ f) : dg (qo f g) + dg g = dg f + 1 := by
  have h1 := dg_mul (qo_mo hf hg h).ne hg.ne
  rw [qo_mul hg.ne h] at h1
  omega
theorem Jw.next {f w c : Po P} {n : Nat} (h : Jw f w c n) : Jw f (gc w c) (qo c (gc w c)) (n + 1) := by
  have hy : Mo (gc w c) := gc_mo (.inl h.wm.ne)
  have hv : ∀ q, Irr q → val q (gc w c) = min (val q w) (val q c) := fun q hq => val_gc hq h.wm.ne h.cm.ne
  have hc : ∀ q, Irr q → val q (qo c (gc w c)) + val q (gc w c) = val q c := fun q hq => qo_val hq h.cm hy (gc_dr w c)
  refine ⟨hy, qo_mo h.cm hy (gc_dr w c), fun q hq hp => ?_, fun q hq hp => ?_, fun q hq hp => ?_, fun q hq hp => ?_⟩
  · rw [hv q hq, h.w1 q hq hp, h.c1 q hq hp]; split <;> split <;> omega
  · rw [hv q hq, h.w0 q hq hp]; omega
  · have h1 := hc q hq
    rw [hv q hq, h.w1 q hq hp, h.c1 q hq hp] at h1
    split at h1 <;> omega
  · have h1 := hc q hq
    rw [hv q hq, h.w0 q hq hp, h.c0 q hq hp] at h1
    omega
theorem Jw.out {f w c : Po P} {n : Nat} (h : Jw f w c n) : Mo (qo w (gc w c)) ∧ (∀ q, Irr q → val q (qo w (gc w c)) = if val q f % pn P ≠ 0 ∧ val q f = n then 1 else 0) := by
  have hy : Mo (gc w c) := gc_mo (.inl h.wm.ne)
  refine ⟨qo_mo h.wm hy (gc_dl w c), fun q hq => ?_⟩
  have h1 := qo_val hq h.wm hy (gc_dl w c)
  rw [val_gc hq h.wm.ne h.cm.ne] at h1
  by_cases hp : val q f % pn P = 0
  · rw [h.w0 q hq hp] at h1
    rw [if_neg (fun hh => hh.1 hp)]
    omega
  · rw [h.w1 q hq hp, h.c1 q hq hp] at h1
    split at h1
    · split <;> omega
    · rw [if_neg (by omega)]; omega
theorem Jw.dec {f w c : Po P} {n : Nat} (h : Jw f w c n) (hw : 2 ≤ dg w) : dg (gc w c) + dg (qo c (gc w c)) < dg w + dg c := by
  have hy : Mo (gc w c) := gc_mo (.inl h.wm.ne)
  have h1 := qo_dg h.cm hy (gc_dr w c)
  have h2 := dg_pos hy.ne
  omega
structure SqOk (f : Po P) (t : Nat) (l : List (Po P × Nat)) : Prop where
  mo : ∀ x ∈ l, Mo x.1 ∧ 2 ≤ dg x.1
  vl : ∀ x ∈ l, ∀ q, Irr q → q ∣ x.1 → val q x.1 = 1 ∧ x.2 = t * val q f ∧ 1 ≤ val q f
  ex : ∀ q, Irr q → 1 ≤ val q f → ∃ x ∈ l, q ∣ x.1
  pw : l.Pairwise fun x y => ∀ q, Irr q → ¬ (q ∣ x.1 ∧ q ∣ y.1)
theorem sqW_ok (f : Po P) (t : Nat) : ∀ (k : Nat) (w c : Po P) (n : Nat), 1 ≤ n → dg w + dg c ≤ k → Jw f w c n →
    Mo (sqW k w c n t).2 ∧ (∀ q, Irr q → val q (sqW k w c n t).2 = if val q f % pn P = 0 then val q f else 0) ∧
    (∀ x ∈ (sqW k w c n t).1, (Mo x.1 ∧ 2 ≤ dg x.1) ∧ ∀ q, Irr q → q ∣ x.1 → val q x.1 = 1 ∧ x.2 = t * val q f ∧ n ≤ val q f ∧ val q f % pn P ≠ 0) ∧
    (∀ q, Irr q → n ≤ val q f → val q f % pn P ≠ 0 → ∃ x ∈ (sqW k w c n t).1, q ∣ x.1) ∧
    (sqW k w c n t).1.Pairwise fun x y => ∀ q, Irr q → ¬ (q ∣ x.1 ∧ q ∣ y.1) := by
  intro k
  induction k with
  | zero =>
    intro w c n hn hk h
    have := dg_pos h.wm.ne
    omega
  | succ k ih =>
    intro w c n hn hk h
    rw [sqW]
    split
    · rename_i hw
      have h1 := h.wm.one hw
      refine ⟨h.cm, fun q hq => ?_, fun x hx => by simp at hx, fun q hq h2 h3 => ?_, List.Pairwise.nil⟩
      · split
        · rename_i hp; exact h.c0 q hq hp
        · rename_i hp
          have h2 := h.w1 q hq hp
          rw [h1, val_1 hq] at h2
          rw [h.c1 q hq hp]
          split at h2 <;> omega
      · have h4 := h.w1 q hq h3
        rw [h1, val_1 hq, if_pos h2] at h4
        omega
    · rename_i hw
      have hd := h.dec (by omega)
      obtain ⟨i1, i2, i3, i4, i5⟩ := ih _ _ (n + 1) (by omega) (by omega) h.next
      obtain ⟨o1, o2⟩ := h.out
      refine ⟨i1, i2, fun x hx => ?_, fun q hq h2 h3 => ?_, ?_⟩
      · rcases List.mem_append.1 hx with hx | hx
        · split at hx
          · rename_i hz
            simp only [List.mem_singleton] at hx
            subst hx
            refine ⟨⟨o1, hz⟩, fun q hq hqd => ?_⟩
            have h2 := (dvd_iff hq o1.ne).1 hqd
            simp only
            rw [o2 q hq] at h2 ⊢
            split at h2
            · rename_i hh
              rw [if_pos hh]
              exact ⟨rfl, by rw [hh.2, Nat.mul_comm], by omega, hh.1⟩
            · omega
          · simp at hx
        · obtain ⟨a1, a2⟩ := i3 x hx
          exact ⟨a1, fun q hq hqd => by have := a2 q hq hqd; exact ⟨this.1, this.2.1, by omega, this.2.2.2⟩⟩
      · by_cases he : val q f = n
        · have h4 := o2 q hq
          rw [if_pos ⟨h3, he⟩] at h4
          have h5 := (dvd_iff hq o1.ne).2 (by omega)
          have h6 := dg_dvd h5 o1.ne
          have := hq.d2
          exact ⟨_, List.mem_append_left _ (by rw [if_pos (by omega)]; exact List.mem_singleton.2 rfl), h5⟩
        · obtain ⟨x, hx, hxd⟩ := i4 q hq (by omega) h3
          exact ⟨x, List.mem_append_right _ hx, hxd⟩
      · refine List.pairwise_append.2 ⟨?_, i5, fun x hx y hy q hq hh => ?_⟩
        · split
          · exact List.pairwise_singleton _ _
          · exact List.Pairwise.nil
        · split at hx
          · simp only [List.mem_singleton] at hx
            subst hx
            have h2 := (dvd_iff hq o1.ne).1 hh.1
            rw [o2 q hq] at h2
            have h3 := (i3 y hy).2 q hq hh.2
            split at h2 <;> omega
          · simp at hx
theorem Jw.start {f : Po P} (hf : Mo f) (hd : der f ≠ 0) : Jw f (qo f (gc f (der f))) (gc f (der f)) 1 := by
  have hc : Mo (gc f (der f)) := gc_mo (.inl hf.ne)
  have hv : ∀ q, Irr q → val q (gc f (der f)) = min (val q f) (val q (der f)) := fun q hq => val_gc hq hf.ne hd
  have hw : ∀ q, Irr q → val q (qo f (gc f (der f))) + val q (gc f (der f)) = val q f := fun q hq => qo_val hq hf hc (gc_dl f (der f))
  refine ⟨qo_mo hf hc (gc_dl f (der f)), hc, fun q hq hp => ?_, fun q hq hp => ?_, fun q hq hp => ?_, fun q hq hp => ?_⟩
  · have h1 := hw q hq
    have h2 := (val_der hq hf.ne hd).2 hp
    rw [hv q hq] at h1
    have : val q f ≠ 0 := by intro e; rw [e] at hp; simp at hp
    rw [if_pos (by omega)]; omega
  · have h1 := hw q hq
    have h2 := (val_der hq hf.ne hd).1 hp
    rw [hv q hq] at h1
    omega
  · have h2 := (val_der hq hf.ne hd).2 hp
    rw [hv q hq]; omega
  · have h2 := (val_der hq hf.ne hd).1 hp
    rw [hv q hq]; omega
theorem der_of_pp {c : Po P} (hc : Mo c) (h : ∀ q, Irr q → val q c % pn P = 0) : der c = 0 := by
  apply Classical.byContradiction
  intro hd
  have h1 := dvd_of_val hc hd fun q hq => (val_der hq hc.ne hd).1 (h q hq)
  have := dg_dvd h1 hd
  have := der_dg hd
  omega
theorem rt_mo {f : Po P} (hf : Mo f) (hd : der f = 0) : Mo (rt f) := pw_p_mo (by rw [rt_pw hd]; exact hf)
theorem rt_val {q f : Po P} (hq : Irr q) (hf : Mo f) (hd : der f = 0) : val q f = pn P * val q (rt f) := by
  have := val_pw hq (rt_mo hf hd).ne (pn P)
  rwa [rt_pw hd] at this
theorem rt_lt {f : Po P} (hf : Mo f) (hd : der f = 0) (h2 : 2 ≤ dg f) : dg (rt f) < dg f ∧ pn P * (dg (rt f) - 1) + 1 ≤ dg f := by
  have h3 := pn_2 P
  have h5 : pn P * (dg (rt f) - 1) + 1 ≤ dg f := by
    rcases rt_dg f with h | h
    · exact h
    · exact absurd h (rt_mo hf hd).ne
  have h6 : 2 * (dg (rt f) - 1) ≤ pn P * (dg (rt f) - 1) := Nat.mul_le_mul_right _ h3
  omega
theorem sqL_ok : ∀ (k : Nat) (f : Po P) (t : Nat), Mo f → dg f ≤ k → SqOk f t (sqL k f t) := by
  intro k
  induction k with
  | zero => intro f t hf hk; have := dg_pos hf.ne; omega
  | succ k ih =>
    intro f t hf hk
    rw [sqL]
    split
    · rename_i h1
      have h2 := hf.one (by omega)
      exact ⟨fun x hx => by simp at hx, fun x hx => by simp at hx, fun q hq h3 => by rw [h2, val_1 hq] at h3; omega, List.Pairwise.nil⟩
    · rename_i h1
      split
      · rename_i hd
        have hd := dg_eq_0.1 hd
        have h2 := rt_lt hf hd (by omega)
        have i := ih (rt f) (t * pn P) (rt_mo hf hd) (by omega)
        have hp := pn_2 P
        have hv : ∀ q, Irr q → (1 ≤ val q f ↔ 1 ≤ val q (rt f)) := fun q hq => by
          rw [rt_val hq hf hd]
          constructor
          · intro h
            rcases Nat.eq_zero_or_pos (val q (rt f)) with h0 | h0
            · rw [h0] at h; simp at h
            · exact h0
          · intro h
            have : 1 * 1 ≤ pn P * val q (rt f) := Nat.mul_le_mul (by omega) h
            omega
        refine ⟨i.mo, fun x hx q hq hqd => ?_, fun q hq h3 => i.ex q hq ((hv q hq).1 h3), i.pw⟩
        obtain ⟨a1, a2, a3⟩ := i.vl x hx q hq hqd
        exact ⟨a1, by rw [a2, rt_val hq hf hd, Nat.mul_assoc], (hv q hq).2 a3⟩
      · rename_i hd
        have hd : der f ≠ 0 := fun e => hd (dg_eq_0.2 e)
        have hJ := Jw.start hf hd
        obtain ⟨o1, o2, o3, o4, o5⟩ := sqW_ok f t _ _ _ 1 (Nat.le_refl _) (Nat.le_refl _) hJ
        simp only
        generalize sqW (dg (qo f (gc f (der f))) + dg (gc f (der f))) (qo f (gc f (der f))) (gc f (der f)) 1 t = r at *
        have hcd : der r.2 = 0 := der_of_pp o1 fun q hq => by
          rw [o2 q hq]; split
          · assumption
          · simp
        have hle : dg r.2 ≤ dg f := dg_dvd (dvd_of_val o1 hf.ne fun q hq => by rw [o2 q hq]; split <;> omega) hf.ne
        by_cases hc : 1 < dg r.2
        · rw [if_pos hc]
          have h2 := rt_lt o1 hcd hc
          have i := ih (rt r.2) (t * pn P) (rt_mo o1 hcd) (by omega)
          have hp := pn_2 P
          have hv : ∀ q, Irr q → 1 ≤ val q (rt r.2) → val q f % pn P = 0 ∧ val q f = pn P * val q (rt r.2) ∧ 1 ≤ val q f := fun q hq h3 => by
            have h4 := rt_val hq o1 hcd
            rw [o2 q hq] at h4
            have : 1 * 1 ≤ pn P * val q (rt r.2) := Nat.mul_le_mul (by omega) h3
            split at h4
            · rename_i h5
              exact ⟨h5, h4, by omega⟩
            · omega
          refine ⟨fun x hx => ?_, fun x hx q hq hqd => ?_, fun q hq h3 => ?_, ?_⟩
          · rcases List.mem_append.1 hx with hx | hx
            · exact (o3 x hx).1
            · exact i.mo x hx
          · rcases List.mem_append.1 hx with hx | hx
            · have := (o3 x hx).2 q hq hqd
              exact ⟨this.1, this.2.1, this.2.2.1⟩
            · obtain ⟨a1, a2, a3⟩ := i.vl x hx q hq hqd
              have h5 := hv q hq a3
              exact ⟨a1, by rw [a2, h5.2.1, Nat.mul_assoc], h5.2.2⟩
          · by_cases h4 : val q f % pn P = 0
            · have h5 := rt_val hq o1 hcd
              rw [o2 q hq, if_pos h4] at h5
              have h6 : 1 ≤ val q (rt r.2) := by
                rcases Nat.eq_zero_or_pos (val q (rt r.2)) with h0 | h0
                · rw [h0] at h5; simp at h5; omega
                · exact h0
              obtain ⟨x, hx, hxd⟩ := i.ex q hq h6
              exact ⟨x, List.mem_append_right _ hx, hxd⟩
            · obtain ⟨x, hx, hxd⟩ := o4 q hq h3 h4
              exact ⟨x, List.mem_append_left _ hx, hxd⟩
          · refine List.pairwise_append.2 ⟨o5, i.pw, fun x hx y hy q hq hh => ?_⟩
            have h3 := ((o3 x hx).2 q hq hh.1).2.2.2
            have h4 := (i.vl y hy q hq hh.2).2.2
            exact h3 (hv q hq h4).1
        · rw [if_neg hc, List.append_nil]
          have h2 := o1.one (by omega)
          refine ⟨fun x hx => (o3 x hx).1, fun x hx q hq hqd => ?_, fun q hq h3 => ?_, o5⟩
          · have := (o3 x hx).2 q hq hqd
            exact ⟨this.1, this.2.1, this.2.2.1⟩
          · refine o4 q hq h3 fun h4 => ?_
            have h5 := o2 q hq
            rw [h2, val_1 hq, if_pos h4] at h5
            omega
end Go.Proofs.Ytlnhembcfhfpkaa.Fx
