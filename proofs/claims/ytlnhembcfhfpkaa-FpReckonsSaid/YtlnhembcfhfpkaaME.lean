/- The small machine: one operation at a time, part two: the lemmas of each operation. -/
import Derived.Test.YtlnhembcfhfpkaaMD
namespace Go.Proofs.Ytlnhembcfhfpkaa.M
open Go.RowKit

section
variable {w : World} {N : Nat → Prop} {loc : Locs}

theorem RV.inv {v : Value} {d : D} (h : RV w N loc v (.p d)) : V w N v d := by cases h; assumption

theorem rv_agg {cs : Array Value} {l : List AV} (h1 : cs.size = l.length) (h2 : ∀ d ∈ l, d.one = true) (h3 : ∀ i d, l[i]? = some d → RV w N loc (cs.getD i undef) d) : RV w N loc (.agg cs) (.agg l) := .agg cs l h1 h2 h3

theorem pureL_spec : ∀ {l : List AV} {ds : List D}, pureL l = some ds → l.length = ds.length ∧ ∀ (i : Nat) (d : D), ds[i]? = some d → ∃ e : AV, l[i]? = some e ∧ e.pure = some d
  | [], ds, h => by
    simp only [pureL, Option.some.injEq] at h
    subst h
    exact ⟨rfl, fun i d h => by simp at h⟩
  | v :: l, ds, h => by
    simp only [pureL] at h
    split at h
    · rename_i d ds' h1 h2
      simp only [Option.some.injEq] at h
      subst h
      obtain ⟨g1, g2⟩ := pureL_spec h2
      refine ⟨by simp [g1], fun i d' hi => ?_⟩
      match i, hi with
      | 0, hi => simp at hi; subst hi; exact ⟨v, rfl, h1⟩
      | i + 1, hi => simpa using g2 i d' (by simpa using hi)
    · cases h

theorem RV.pure : ∀ {v : Value} {x : AV} {d : D}, RV w N loc v x → x.pure = some d → V w N v d := by
  intro v x d h
  induction h generalizing d with
  | p v e h => intro hx; simp only [AV.pure, Option.some.injEq] at hx; subst hx; exact h
  | nils T sz => intro hx; simp only [AV.pure, Option.some.injEq] at hx; subst hx; exact .empty _ _ _ _ (by omega)
  | agg cs l h1 h2 _ ih =>
    intro hx
    simp only [AV.pure, Option.map_eq_some_iff] at hx
    obtain ⟨ds, hds, rfl⟩ := hx
    obtain ⟨g1, g2⟩ := pureL_spec hds
    refine .agg cs ds (h1.trans g1) (fun e he => ?_) (fun i e hi => ?_)
    · obtain ⟨i, hi⟩ := List.getElem?_of_mem he
      obtain ⟨x, hx, hp⟩ := g2 i e hi
      have := h2 x (List.mem_of_getElem? hx)
      cases x <;> simp [AV.one] at this <;> simp [AV.pure] at hp
      · subst hp; exact this
      · subst hp; rfl
    · obtain ⟨x, hx, hp⟩ := g2 i e hi
      exact ih i x hx hp
  | _ => intro hx; simp [AV.pure] at hx

theorem rv_mk {cs : Array Value} {l : List AV} (h1 : cs.size = l.length) (h2 : ∀ d ∈ l, d.one = true) (h3 : ∀ i d, l[i]? = some d → RV w N loc (cs.getD i undef) d) : RV w N loc (.agg cs) (AV.mk l) := by
  unfold AV.mk
  split
  · rename_i ds hds
    exact .p _ _ (RV.pure (rv_agg h1 h2 h3) (by simp [AV.pure, hds]))
  · exact rv_agg h1 h2 h3

/-- What stands in some cells of a block. -/
theorem rv_get {c : Array Value} {T : TypeId} {fr : Nat × Nat} {b o osz off sz : Nat} {v u : AV} {ag : Bool} {P : Program} {T' : TypeId} (hb : w.heap[b]? = some (.cells c T fr)) (ho : o + osz ≤ c.size) (hl : v.cells.length = osz) (h1 : ∀ e ∈ v.cells, e.one = true)
    (hc : ∀ j d, v.cells[j]? = some d → RV w N loc (c.getD (o + j) undef) d) (hg : v.get off sz osz ag = some u) (hT : TyOk P T' ag sz) (hs : ag = false → sz = 1) :
    ∃ x, (Instr.loadAt T' (.pointer (some ⟨b, o + off, none⟩))).run P w = .ok x w ∧ RV w N loc x u := by
  have hload : (Instr.loadAt T' (.pointer (some ⟨b, o + off, none⟩))).run P w = (loadVar T' ⟨b, o + off, none⟩).run P w := by
    simp [Instr.loadAt, Instr.sureAddr]
  rw [hload]
  have hpart : v.part off sz ag = some u → ∃ x, (loadVar T' ⟨b, o + off, none⟩).run P w = .ok x w ∧ RV w N loc x u := by
    intro hp
    have hp' : partA v.cells off sz ag = some u ∨ ∃ d, v = .p d ∧ ∃ e, d.part off sz ag = some e ∧ u = .p e := by
      cases v with
      | p d =>
        simp only [AV.part, Option.map_eq_some_iff] at hp
        obtain ⟨e, he, rfl⟩ := hp
        exact .inr ⟨d, rfl, e, he, rfl⟩
      | _ => exact .inl hp
    clear hp
    rcases hp' with hp | ⟨d, rfl, e, hp, rfl⟩
    · unfold partA at hp
      cases ag with
      | true =>
        simp only [if_true] at hp
        split at hp
        · rename_i hle
          simp only [Option.some.injEq] at hp
          subst hp
          refine ⟨_, run_loadAgg hT hb (by omega), rv_agg (by simp; omega) (fun d hd => h1 d (List.mem_of_mem_drop (List.mem_of_mem_take hd))) (fun i d hi => ?_)⟩
          have hlt : i < sz := by have := (List.getElem?_eq_some_iff.1 hi).1; simp at this; omega
          rw [rd_get _ _ _ _ hlt, Nat.add_assoc]
          refine hc (off + i) d ?_
          rw [List.getElem?_take_of_lt hlt, List.getElem?_drop] at hi
          exact hi
        · cases hp
      | false =>
        simp only [Bool.false_eq_true, if_false] at hp
        have hlt := (List.getElem?_eq_some_iff.1 hp).1
        exact ⟨_, run_loadOne hT hb (by omega), hc off u hp⟩
    · have hl' : d.cells.length = osz := by simpa [AV.cells] using hl
      have hV : ∀ j e, d.cells[j]? = some e → e.one = true ∧ V w N (c.getD (o + j) undef) e := by
        intro j e he
        have hm : (AV.p d).cells[j]? = some (.p e) := by simp [AV.cells, he]
        refine ⟨h1 (.p e) (List.mem_of_getElem? hm), ?_⟩
        exact (hc j (.p e) hm).inv
      unfold D.part partD at hp
      cases ag with
      | true =>
        simp only [if_true] at hp
        split at hp
        · rename_i hle
          simp only [Option.some.injEq] at hp
          subst hp
          refine ⟨_, run_loadAgg hT hb (by omega), .p _ _ (.agg _ _ (by simp; omega) (fun d' hd => ?_) (fun i d' hi => ?_))⟩
          · obtain ⟨i, hi⟩ := List.getElem?_of_mem (List.mem_of_mem_drop (List.mem_of_mem_take hd))
            exact (hV i d' hi).1
          · have hlt : i < sz := by have := (List.getElem?_eq_some_iff.1 hi).1; simp at this; omega
            rw [rd_get _ _ _ _ hlt, Nat.add_assoc]
            rw [List.getElem?_take_of_lt hlt, List.getElem?_drop] at hi
            exact (hV (off + i) d' hi).2
        · cases hp
      | false =>
        simp only [Bool.false_eq_true, if_false] at hp
        have hlt := (List.getElem?_eq_some_iff.1 hp).1
        exact ⟨_, run_loadOne hT hb (by omega), .p _ _ (hV off e hp).2⟩
  unfold AV.get at hg
  split at hg
  · rename_i hcond
    obtain ⟨rfl, rfl, hag⟩ := hcond
    simp only [Option.some.injEq] at hg
    subst hg
    cases ag with
    | true =>
      refine ⟨_, run_loadAgg hT hb (by omega), ?_⟩
      cases v with
      | p d =>
        cases d with
        | agg l =>
          have hl' : l.length = sz := by simpa [AV.cells, D.cells] using hl
          have hm : ∀ (j : Nat) (e : D), l[j]? = some e → (AV.p (.agg l)).cells[j]? = some (AV.p e) := fun j e he => by simp [AV.cells, D.cells, he]
          refine .p _ _ (.agg _ _ (by simp; omega) (fun d' hd => ?_) (fun i d' hi => ?_))
          · obtain ⟨i, hi⟩ := List.getElem?_of_mem hd
            exact h1 (.p d') (List.mem_of_getElem? (hm i d' hi))
          · have hlt : i < sz := by have := (List.getElem?_eq_some_iff.1 hi).1; omega
            rw [rd_get _ _ _ _ hlt]
            exact (hc i _ (hm i d' hi)).inv
        | _ => simp [AV.isAgg, D.isAgg] at hag
      | agg l =>
        have hl' : l.length = sz := by simpa [AV.cells] using hl
        refine rv_agg (by simp; omega) (fun d' hd => h1 d' hd) (fun i d' hi => ?_)
        have hlt : i < sz := by have := (List.getElem?_eq_some_iff.1 hi).1; omega
        rw [rd_get _ _ _ _ hlt]
        exact hc i d' hi
      | _ => simp [AV.isAgg] at hag
    | false =>
      have hs' := hs rfl
      subst hs'
      refine ⟨_, run_loadOne hT hb (by omega), ?_⟩
      rw [Nat.add_zero]
      have h0 : v.cells[0]? = some v := by
        cases v with
        | p d => cases d <;> simp [AV.isAgg, D.isAgg] at hag <;> rfl
        | agg l => simp [AV.isAgg] at hag
        | und => simp [AV.isAgg] at hag
        | _ => rfl
      have := hc 0 v h0
      rwa [Nat.add_zero] at this
  · exact hpart hg
end

end Go.Proofs.Ytlnhembcfhfpkaa.M
