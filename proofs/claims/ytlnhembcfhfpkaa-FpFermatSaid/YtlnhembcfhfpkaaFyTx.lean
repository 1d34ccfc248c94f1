/- Polynomials modulo a prime: the list of the irreducible factors in plain Lean. -/
import Derived.Test.YtlnhembcfhfpkaaFyHx
import Derived.Test.YtlnhembcfhfpkaaFyPx
namespace Go.Proofs.Ytlnhembcfhfpkaa.M
open Go.RowKit Go.Proofs.Ytlnhembcfhfpkaa.Fx
set_option linter.unusedSimpArgs false
set_option linter.unusedVariables false
variable {P : Pr}
noncomputable def sqF (f : Po P) : List (Po P × Nat) := sqL 65 (mon f) 1
noncomputable def facU (f : Po P) : List (List Int × Int) := (sqF f).flatMap fun x => (Nw.spF x.1).map fun g => (g.l, (x.2 : Int))
def leO (x y : List Int × Int) : Bool := decide (ordL x.1 y.1 ≤ 0)
noncomputable def facL (f : Po P) : List (List Int × Int) := (facU f).mergeSort leO
theorem facL_perm (f : Po P) : (facU f).Perm (facL f) := (List.mergeSort_perm _ _).symm
theorem sq_sqf {f z : Po P} {t : Nat} {l : List (Po P × Nat)} (h : SqOk f t l) {x : Po P × Nat} (hx : x ∈ l) : Sqf x.1 := ⟨(h.mo x hx).1, (h.mo x hx).2, fun q hq => by
  by_cases hd : q ∣ x.1
  · rw [(h.vl x hx q hq hd).1]; exact Nat.le_refl _
  · rw [val_0 hd hq]; omega⟩
theorem facU_mem {f : Po P} (hf : f ≠ 0) (hl : dg f ≤ 65) (x : List Int × Int) : x ∈ facU f ↔ ∃ g : Po P, x.1 = g.l ∧ Irr g ∧ g ∣ f ∧ x.2 = (val g f : Int) := by
  have hS : SqOk (mon f) 1 (sqF f) := sqL_ok 65 (mon f) 1 (mon_mo hf) (by rw [mon_dg]; exact hl)
  unfold facU
  rw [List.mem_flatMap]
  constructor
  · rintro ⟨s, hs, hx⟩
    obtain ⟨g, hg, rfl⟩ := List.mem_map.1 hx
    have hsq := sq_sqf (z := 0) hS hs
    have hsp : SpOk s.1 (Nw.spF s.1) := split_ok hsq (kerB_ok hsq.d2)
    obtain ⟨hi, hd⟩ := hsp.ir g hg
    obtain ⟨v1, v2, v3⟩ := hS.vl s hs g hi hd
    rw [val_mon hi hf] at v2 v3
    exact ⟨g, rfl, hi, (dvd_iff hi hf).2 v3, by simp only; rw [v2, Nat.one_mul]⟩
  · rintro ⟨g, h1, hi, hd, h2⟩
    have hv := (dvd_iff hi hf).1 hd
    obtain ⟨s, hs, hgs⟩ := hS.ex g hi (by rw [val_mon hi hf]; exact hv)
    have hsq := sq_sqf (z := 0) hS hs
    have hsp : SpOk s.1 (Nw.spF s.1) := split_ok hsq (kerB_ok hsq.d2)
    refine ⟨s, hs, List.mem_map.2 ⟨g, hsp.ex g hi hgs, ?_⟩⟩
    obtain ⟨v1, v2, v3⟩ := hS.vl s hs g hi hgs
    rw [val_mon hi hf, Nat.one_mul] at v2
    exact Prod.ext h1.symm (by simp only; rw [h2, v2])
theorem facU_nd {f : Po P} (hf : f ≠ 0) (hl : dg f ≤ 65) : (facU f).Pairwise fun x y => x.1 ≠ y.1 := by
  have hS : SqOk (mon f) 1 (sqF f) := sqL_ok 65 (mon f) 1 (mon_mo hf) (by rw [mon_dg]; exact hl)
  unfold facU
  rw [List.pairwise_flatMap]
  refine ⟨fun s hs => ?_, ?_⟩
  · have hsq := sq_sqf (z := 0) hS hs
    have hsp : SpOk s.1 (Nw.spF s.1) := split_ok hsq (kerB_ok hsq.d2)
    rw [List.pairwise_map]
    exact hsp.nd.imp fun {a b} h e => h (Po.ext e)
  · refine List.Pairwise.imp_of_mem ?_ hS.pw
    intro a b ha hb h x hx y hy e
    obtain ⟨g, hg, rfl⟩ := List.mem_map.1 hx
    obtain ⟨g', hg', rfl⟩ := List.mem_map.1 hy
    have e2 : g = g' := Po.ext e
    subst e2
    have ha' := sq_sqf (z := 0) hS ha
    have hb' := sq_sqf (z := 0) hS hb
    have h1 := (split_ok ha' (kerB_ok ha'.d2)).ir g hg
    have h2 := (split_ok hb' (kerB_ok hb'.d2)).ir g hg'
    exact h g h1.1 ⟨h1.2, h2.2⟩
theorem facL_sorted {f : Po P} (hf : f ≠ 0) (hl : dg f ≤ 65) : (facL f).Pairwise fun x y => ordL x.1 y.1 < 0 := by
  have h1 : (facL f).Pairwise fun x y => leO x y = true := List.pairwise_mergeSort (fun a b c h1 h2 => by
    unfold leO at *
    simp only [decide_eq_true_eq] at *
    exact (ordL_trans h1 h2).1) (fun a b => by
    unfold leO
    have := ordL_anti a.1 b.1
    rw [Bool.or_eq_true, decide_eq_true_eq, decide_eq_true_eq]
    omega) (facU f)
  have h2 : (facL f).Pairwise fun x y => x.1 ≠ y.1 := (facL_perm f).pairwise (facU_nd hf hl) fun {a b} h e => h e.symm
  refine (h1.and h2).imp fun {a b} h => ?_
  unfold leO at h
  have h3 : ordL a.1 b.1 ≤ 0 := by simpa using h.1
  have h4 : ordL a.1 b.1 ≠ 0 := fun e => h.2 (ordL_0 e)
  omega
theorem facL_mem {f : Po P} (hf : f ≠ 0) (hl : dg f ≤ 65) (x : List Int × Int) : x ∈ facL f ↔ ∃ g : Po P, x.1 = g.l ∧ Irr g ∧ g ∣ f ∧ x.2 = (val g f : Int) := by
  rw [← (facL_perm f).mem_iff]; exact facU_mem hf hl x
theorem flat_len {α β : Type} (h : α → List β) (B : Nat) : ∀ l : List α, (∀ x ∈ l, (h x).length ≤ B) → (l.flatMap h).length ≤ l.length * B
  | [], _ => by simp
  | x :: l, hx => by
    have h1 := flat_len h B l fun y hy => hx y (by simp [hy])
    have h2 := hx x (by simp)
    rw [List.flatMap_cons, List.length_append, List.length_cons, Nat.succ_mul]
    omega
theorem spF_len {f : Po P} (hf : Sqf f) : (Nw.spF f).length ≤ dg f := by
  have hk := kerB_ok hf.d2
  have h1 := hk.pos hf
  have h2 := (spB_ok hf (kerB f).length (kerB f) [f] hk.fx (SI.start hf)).1.lm (by simpa using h1)
  have h3 : (kerB f).length ≤ dg f - 1 := by unfold kerB; simp
  unfold Nw.spF
  omega
theorem facU_total {f : Po P} (hf : f ≠ 0) (hl : dg f ≤ 65) : (facU f).length ≤ 10000000 := by
  have hS : SqOk (mon f) 1 (sqF f) := sqL_ok 65 (mon f) 1 (mon_mo hf) (by rw [mon_dg]; exact hl)
  have h1 : (sqF f).length ≤ 65 * 1001 := sqL_len 65 (mon f) 1 (mon_mo hf) (by rw [mon_dg]; omega)
  have h2 := flat_len (fun x : Po P × Nat => (Nw.spF x.1).map fun g => (g.l, (x.2 : Int))) 65 (sqF f) fun x hx => by
    rw [List.length_map]
    have hsq := sq_sqf (z := 0) hS hx
    have h3 := spF_len hsq
    have h4 : dg x.1 ≤ dg (mon f) := dg_dvd (dvd_of_val hsq.mo (mon_mo hf).ne fun q hq => by
      by_cases hd : q ∣ x.1
      · obtain ⟨v1, v2, v3⟩ := hS.vl x hx q hq hd
        omega
      · rw [val_0 hd hq]; omega) (mon_mo hf).ne
    rw [mon_dg] at h4
    omega
  have h3 : (sqF f).length * 65 ≤ 65 * 1001 * 65 := Nat.mul_le_mul_right _ h1
  unfold facU
  omega
theorem facU_len {f : Po P} (hf : f ≠ 0) (hl : dg f ≤ 65) : ∀ x ∈ facU f, x.1.length ≤ 65 := fun x hx => by
  obtain ⟨g, h1, h2, h3, -⟩ := (facU_mem hf hl x).1 hx
  rw [h1]
  exact Nat.le_trans (dg_dvd h3 hf) hl
end Go.Proofs.Ytlnhembcfhfpkaa.M
