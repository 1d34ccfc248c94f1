/- Polynomials modulo a prime: Berlekamp's way to the irreducible factors. -/
import Derived.Test.YtlnhembcfhfpkaaFxGx
namespace Go.Proofs.Ytlnhembcfhfpkaa.Fx
open Go.RowKit Go.Proofs.Ytlnhembcfhfpkaa.M
set_option linter.unusedSimpArgs false
set_option linter.unusedVariables false
variable {P : Pr}
def at_ (o : List (Po P)) (a : Nat) : Po P := o.getD a 0
theorem at_upd {o : List (Po P)} {i a : Nat} {y g : Po P} (hi : i < o.length) : at_ (o.set i y ++ [g]) a = if a = i then y else if a = o.length then g else at_ o a := by
  unfold at_
  rw [List.getD_eq_getElem?_getD, List.getD_eq_getElem?_getD]
  by_cases h1 : a < o.length
  · rw [List.getElem?_append_left (by simpa using h1), List.getElem?_set]
    by_cases h2 : i = a
    · subst h2; simp [hi]
    · rw [if_neg h2, if_neg (fun e => h2 e.symm), if_neg (by omega)]
  · rw [List.getElem?_append_right (by simpa using Nat.not_lt.1 h1), if_neg (by omega)]
    by_cases h2 : a = o.length
    · subst h2; simp
    · rw [if_neg h2, List.getElem?_eq_none (by simp; omega), List.getElem?_eq_none (by omega)]
theorem len_upd (o : List (Po P)) (i : Nat) (y g : Po P) : (o.set i y ++ [g]).length = o.length + 1 := by simp
theorem mem_at {o : List (Po P)} {x : Po P} : x ∈ o ↔ ∃ a, a < o.length ∧ at_ o a = x := by
  rw [List.mem_iff_getElem]
  constructor
  · rintro ⟨a, h, rfl⟩; exact ⟨a, h, by simp [at_, h]⟩
  · rintro ⟨a, h, rfl⟩; exact ⟨a, h, by simp [at_, h]⟩
structure Sqf (f : Po P) : Prop where
  mo : Mo f
  d2 : 2 ≤ dg f
  sq : ∀ q, Irr q → val q f ≤ 1
structure SI (f : Po P) (o : List (Po P)) : Prop where
  mo : ∀ a, a < o.length → Mo (at_ o a)
  d2 : ∀ a, a < o.length → 2 ≤ dg (at_ o a)
  dv : ∀ a, a < o.length → at_ o a ∣ f
  ex : ∀ q, Irr q → q ∣ f → ∃ a, a < o.length ∧ q ∣ at_ o a
  pw : ∀ a b, a < o.length → b < o.length → a ≠ b → ∀ q, Irr q → q ∣ at_ o a → ¬ q ∣ at_ o b
theorem SI.start {f : Po P} (h : Sqf f) : SI f [f] := by
  have e : ∀ a, a < ([f] : List (Po P)).length → at_ [f] a = f := fun a ha => by
    obtain rfl : a = 0 := by simpa using ha
    rfl
  refine ⟨fun a ha => by rw [e a ha]; exact h.mo, fun a ha => by rw [e a ha]; exact h.d2, fun a ha => by rw [e a ha]; exact dvd_refl f, fun q hq hd => ⟨0, by simp, hd⟩, fun a b ha hb hne => ?_⟩
  simp at ha hb
  omega
theorem Sqf.no {f x g q : Po P} (h : Sqf f) (hx : x ∣ f) (hm : Mo x) (hg : Mo g) (hgx : g ∣ x) (hq : Irr q) (h1 : q ∣ qo x g) (h2 : q ∣ g) : False := by
  have a1 := qo_val hq hm hg hgx
  have a2 := (dvd_iff hq (qo_mo hm hg hgx).ne).1 h1
  have a3 := (dvd_iff hq hg.ne).1 h2
  have a4 := val_dvd hq hx h.mo.ne
  have a5 := h.sq q hq
  omega
theorem SI.step {f g : Po P} {o : List (Po P)} {i : Nat} (hf : Sqf f) (h : SI f o) (hi : i < o.length) (hg : Mo g) (hd : g ∣ at_ o i) (h1 : 1 < dg g) (h2 : dg g < dg (at_ o i)) : SI f (o.set i (qo (at_ o i) g) ++ [g]) := by
  have hm := h.mo i hi
  have hqm := qo_mo hm hg hd
  have hqd := qo_dg hm hg hd
  have hdv : qo (at_ o i) g ∣ at_ o i := ⟨g, (qo_mul hg.ne hd).symm⟩
  refine ⟨fun a ha => ?_, fun a ha => ?_, fun a ha => ?_, fun q hq hqf => ?_, fun a b ha hb hne q hq => ?_⟩
  · rw [len_upd] at ha
    rw [at_upd hi]
    split
    · exact hqm
    · split
      · exact hg
      · exact h.mo a (by omega)
  · rw [len_upd] at ha
    rw [at_upd hi]
    split
    · omega
    · split
      · omega
      · exact h.d2 a (by omega)
  · rw [len_upd] at ha
    rw [at_upd hi]
    split
    · exact dvd_trans hdv (h.dv i hi)
    · split
      · exact dvd_trans hd (h.dv i hi)
      · exact h.dv a (by omega)
  · obtain ⟨a, ha, hqa⟩ := h.ex q hq hqf
    by_cases e : a = i
    · subst e
      have h3 : q ∣ qo (at_ o a) g * g := by rw [qo_mul hg.ne hd]; exact hqa
      rcases hq.pr h3 with h4 | h4
      · exact ⟨a, by rw [len_upd]; omega, by rw [at_upd hi, if_pos rfl]; exact h4⟩
      · exact ⟨o.length, by rw [len_upd]; omega, by rw [at_upd hi, if_neg (by omega), if_pos rfl]; exact h4⟩
    · exact ⟨a, by rw [len_upd]; omega, by rw [at_upd hi, if_neg e, if_neg (by omega)]; exact hqa⟩
  · rw [len_upd] at ha hb
    rw [at_upd hi, at_upd hi]
    by_cases ea : a = i
    · rw [if_pos ea, if_neg (by omega)]
      by_cases eb : b = o.length
      · rw [if_pos eb]
        exact fun h3 h4 => hf.no (h.dv i hi) hm hg hd hq h3 h4
      · rw [if_neg eb]
        exact fun h3 => h.pw i b hi (by omega) (by omega) q hq (dvd_trans h3 hdv)
    · rw [if_neg ea]
      by_cases ea2 : a = o.length
      · rw [if_pos ea2]
        by_cases eb : b = i
        · rw [if_pos eb]
          exact fun h3 h4 => hf.no (h.dv i hi) hm hg hd hq h4 h3
        · rw [if_neg eb, if_neg (by omega)]
          exact fun h3 => h.pw i b hi (by omega) (by omega) q hq (dvd_trans h3 hd)
      · rw [if_neg ea2]
        by_cases eb : b = i
        · rw [if_pos eb]
          exact fun h3 h4 => h.pw a i (by omega) hi (by omega) q hq h3 (dvd_trans h4 hdv)
        · rw [if_neg eb]
          by_cases eb2 : b = o.length
          · rw [if_pos eb2]
            exact fun h3 h4 => h.pw a i (by omega) hi (by omega) q hq h3 (dvd_trans h4 hd)
          · rw [if_neg eb2]
            exact h.pw a b (by omega) (by omega) hne q hq
def Cst (v x : Po P) : Prop := ∃ s : Nat, x ∣ v - cn s
theorem Cst.of {v x y : Po P} (h : Cst v x) (hd : y ∣ x) : Cst v y := by
  obtain ⟨s, hs⟩ := h
  exact ⟨s, dvd_trans hd hs⟩
theorem cst_lin (v : Po P) {x : Po P} (h : x ≠ 0) (h2 : dg x ≤ 2) : Cst v x := by
  have h1 := rm_dg v h
  have h3 := eq_cn (f := rm v x) (by omega)
  have h4 := dvd_rm (f := v) h
  have h5 := (co_rg (rm v x) 0).1
  refine ⟨(co (rm v x) 0).toNat, ?_⟩
  rw [show ((co (rm v x) 0).toNat : Int) = co (rm v x) 0 by omega, ← h3]
  exact h4
noncomputable def spI (m : Nat) (v : Po P) (i : Nat) : Nat → Nat → List (Po P) → List (Po P)
  | 0, _, o => o
  | k + 1, s, o => if s < pn P ∧ o.length < m ∧ 2 < dg (at_ o i) then
      let g := gc (at_ o i) (v - cn s)
      if 1 < dg g ∧ dg g < dg (at_ o i) then spI m v i k (s + 1) (o.set i (qo (at_ o i) g) ++ [g]) else spI m v i k (s + 1) o
    else o
noncomputable def spM (m : Nat) (v : Po P) : Nat → Nat → List (Po P) → List (Po P)
  | 0, _, o => o
  | k + 1, i, o => if i < o.length ∧ o.length < m then spM m v k (i + 1) (spI m v i (pn P) 0 o) else o
noncomputable def spB (m : Nat) (B : List (Po P)) (o : List (Po P)) : List (Po P) := B.foldl (fun o v => spM m v m 0 o) o
structure Fin_ (f : Po P) (m : Nat) (o o' : List (Po P)) : Prop where
  si : SI f o'
  le : o.length ≤ o'.length
  lm : o.length ≤ m → o'.length ≤ m
  sub : ∀ a, a < o'.length → ∃ b, b < o.length ∧ at_ o' a ∣ at_ o b
theorem Fin_.rfl_ {f : Po P} {m : Nat} {o : List (Po P)} (h : SI f o) : Fin_ f m o o := ⟨h, Nat.le_refl _, id, fun a ha => ⟨a, ha, dvd_refl _⟩⟩
theorem Fin_.tr {f : Po P} {m : Nat} {o o' o'' : List (Po P)} (h : Fin_ f m o o') (h' : Fin_ f m o' o'') : Fin_ f m o o'' := ⟨h'.si, Nat.le_trans h.le h'.le, fun x => h'.lm (h.lm x), fun a ha => by
  obtain ⟨b, hb, hd⟩ := h'.sub a ha
  obtain ⟨c, hc, hd'⟩ := h.sub b hb
  exact ⟨c, hc, dvd_trans hd hd'⟩⟩
theorem spI_ok {f v : Po P} (hf : Sqf f) (hv : f ∣ pw v (pn P) - v) (m i : Nat) : ∀ (k s : Nat) (o : List (Po P)), pn P ≤ k + s → i < o.length → SI f o →
    (∀ s', s' < s → ∀ q, Irr q → q ∣ at_ o i → q ∣ v - cn s' → Cst v (at_ o i)) →
    Fin_ f m o (spI m v i k s o) ∧ (∀ a, a < o.length → a ≠ i → at_ (spI m v i k s o) a = at_ o a) ∧
    (∀ a, o.length ≤ a → a < (spI m v i k s o).length → Cst v (at_ (spI m v i k s o) a)) ∧
    ((spI m v i k s o).length < m → Cst v (at_ (spI m v i k s o) i)) := by
  have stop : ∀ (s : Nat) (o : List (Po P)), pn P ≤ s → i < o.length → SI f o → (∀ s', s' < s → ∀ q, Irr q → q ∣ at_ o i → q ∣ v - cn s' → Cst v (at_ o i)) → Cst v (at_ o i) := by
    intro s o hs hi h hH
    obtain ⟨q, hq, hqd⟩ := irr_of (h.d2 i hi)
    obtain ⟨s', hs', hd⟩ := fix_cn hq (dvd_trans (dvd_trans hqd (h.dv i hi)) hv)
    exact hH s' (by omega) q hq hqd hd
  intro k
  induction k with
  | zero =>
    intro s o hk hi h hH
    exact ⟨Fin_.rfl_ h, fun a _ _ => rfl, fun a h1 h2 => absurd h2 (by rw [spI]; omega), fun _ => stop s o (by omega) hi h hH⟩
  | succ k ih =>
    intro s o hk hi h hH
    rw [spI]
    split
    · rename_i hc
      have hg : Mo (gc (at_ o i) (v - cn s)) := gc_mo (.inl (h.mo i hi).ne)
      have hgd := gc_dl (at_ o i) (v - cn s)
      simp only
      split
      · rename_i hsp
        have hS := h.step hf hi hg hgd hsp.1 hsp.2
        have hdv : qo (at_ o i) (gc (at_ o i) (v - cn s)) ∣ at_ o i := ⟨_, (qo_mul hg.ne hgd).symm⟩
        have hat : at_ (o.set i (qo (at_ o i) (gc (at_ o i) (v - cn s))) ++ [gc (at_ o i) (v - cn s)]) i = qo (at_ o i) (gc (at_ o i) (v - cn s)) := by rw [at_upd hi, if_pos rfl]
        obtain ⟨i1, i2, i3, i4⟩ := ih (s + 1) (o.set i (qo (at_ o i) (gc (at_ o i) (v - cn s))) ++ [gc (at_ o i) (v - cn s)]) (by omega) (by rw [len_upd]; omega) hS (fun s' hs' q hq hqd hqs => by
          rw [hat] at hqd ⊢
          by_cases e : s' = s
          · subst e
            exact (hf.no (h.dv i hi) (h.mo i hi) hg hgd hq hqd (dvd_gc (dvd_trans hqd hdv) hqs)).elim
          · exact (hH s' (by omega) q hq (dvd_trans hqd hdv) hqs).of hdv)
        have hF : Fin_ f m o (o.set i (qo (at_ o i) (gc (at_ o i) (v - cn s))) ++ [gc (at_ o i) (v - cn s)]) := ⟨hS, by rw [len_upd]; omega, fun _ => by rw [len_upd]; omega, fun a ha => by
          rw [at_upd hi]
          rw [len_upd] at ha
          split
          · exact ⟨i, hi, hdv⟩
          · split
            · exact ⟨i, hi, hgd⟩
            · exact ⟨a, by omega, dvd_refl _⟩⟩
        refine ⟨hF.tr i1, fun a ha hne => ?_, fun a h1 h2 => ?_, i4⟩
        · rw [i2 a (by rw [len_upd]; omega) hne, at_upd hi, if_neg hne, if_neg (by omega)]
        · by_cases e : a = o.length
          · subst e
            rw [i2 _ (by rw [len_upd]; omega) (by omega), at_upd hi, if_neg (by omega), if_pos rfl]
            exact ⟨s, gc_dr _ _⟩
          · exact i3 a (by rw [len_upd]; omega) h2
      · rename_i hsp
        refine ih (s + 1) o (by omega) hi h fun s' hs' q hq hqd hqs => ?_
        by_cases e : s' = s
        · subst e
          have h1 := dvd_gc hqd hqs
          have h2 := dg_dvd h1 hg.ne
          have h3 := hq.d2
          have h4 : dg (at_ o i) ≤ dg (gc (at_ o i) (v - cn s')) := by
            apply Classical.byContradiction
            intro h5
            exact hsp ⟨by omega, by omega⟩
          have h5 := dvd_eq hgd hg (h.mo i hi) h4
          exact ⟨s', by rw [← h5]; exact gc_dr _ _⟩
        · exact hH s' (by omega) q hq hqd hqs
    · rename_i hc
      refine ⟨Fin_.rfl_ h, fun a _ _ => rfl, fun a h1 h2 => absurd h2 (by omega), fun hm => ?_⟩
      by_cases h1 : s < pn P
      · exact cst_lin v (h.mo i hi).ne (by
          apply Classical.byContradiction
          intro h2
          exact hc ⟨h1, hm, by omega⟩)
      · exact stop s o (by omega) hi h hH
theorem spM_ok {f v : Po P} (hf : Sqf f) (hv : f ∣ pw v (pn P) - v) (m : Nat) : ∀ (k i : Nat) (o : List (Po P)), m ≤ k + i → SI f o → (∀ a, a < i → a < o.length → Cst v (at_ o a)) →
    Fin_ f m o (spM m v k i o) ∧ ((spM m v k i o).length < m → ∀ a, a < (spM m v k i o).length → Cst v (at_ (spM m v k i o) a)) := by
  intro k
  induction k with
  | zero => exact fun i o hk h hC => ⟨Fin_.rfl_ h, fun h1 a ha => hC a (by rw [spM] at h1 ha; omega) ha⟩
  | succ k ih =>
    intro i o hk h hC
    rw [spM]
    split
    · rename_i hc
      obtain ⟨a1, a2, a3, a4⟩ := spI_ok hf hv m i (pn P) 0 o (by omega) hc.1 h (fun s' hs' => by omega)
      by_cases hlt : (spI m v i (pn P) 0 o).length < m
      · obtain ⟨b1, b2⟩ := ih (i + 1) (spI m v i (pn P) 0 o) (by omega) a1.si (fun a ha hal => by
          by_cases e : a = i
          · rw [e]; exact a4 hlt
          · rw [a2 a (by omega) e]
            exact hC a (by omega) (by omega))
        exact ⟨a1.tr b1, b2⟩
      · have e : spM m v k (i + 1) (spI m v i (pn P) 0 o) = spI m v i (pn P) 0 o := by
          cases k with
          | zero => rfl
          | succ k => rw [spM, if_neg (fun h => hlt h.2)]
        rw [e]
        exact ⟨a1, fun h => absurd h hlt⟩
    · rename_i hc
      exact ⟨Fin_.rfl_ h, fun h1 a ha => hC a (by
        apply Classical.byContradiction
        intro h2
        exact hc ⟨by omega, h1⟩) ha⟩
theorem spB_ok {f : Po P} (hf : Sqf f) (m : Nat) : ∀ (B : List (Po P)) (o : List (Po P)), (∀ v ∈ B, f ∣ pw v (pn P) - v) → SI f o → Fin_ f m o (spB m B o) ∧ ((spB m B o).length < m → ∀ v ∈ B, ∀ a, a < (spB m B o).length → Cst v (at_ (spB m B o) a))
  | [], o, _, h => ⟨Fin_.rfl_ h, fun _ v hv => by simp at hv⟩
  | v :: B, o, hB, h => by
    obtain ⟨a1, a2⟩ := spM_ok hf (hB v (by simp)) m m 0 o (by omega) h (fun a ha => by omega)
    obtain ⟨b1, b2⟩ := spB_ok hf m B (spM m v m 0 o) (fun w hw => hB w (by simp [hw])) a1.si
    show Fin_ f m o (spB m B (spM m v m 0 o)) ∧ _
    refine ⟨a1.tr b1, fun hlt w hw a ha => ?_⟩
    rcases List.mem_cons.1 hw with rfl | hw
    · obtain ⟨b, hb, hd⟩ := b1.sub a ha
      have := b1.le
      exact (a2 (by have : (spB m (w :: B) o).length = (spB m B (spM m w m 0 o)).length := rfl; omega) b hb).of hd
    · exact b2 hlt w hw a ha
end Go.Proofs.Ytlnhembcfhfpkaa.Fx
