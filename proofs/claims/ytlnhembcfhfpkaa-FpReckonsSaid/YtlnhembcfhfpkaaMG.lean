/- The small machine: the model does what the small machine says: operations that write nothing. -/
import Derived.Test.YtlnhembcfhfpkaaMF
namespace Go.Proofs.Ytlnhembcfhfpkaa.M
open Go.RowKit

/-- Carried out in a and w, o gives what d says, and leaves what t says. -/
def Good (P : Program) (w0 : World) (base : Bs) (nt : Nat) (o : Oper) (a : Act) (w : World) (t : St) (d : AV) : Prop :=
  ∃ v w' loc', ((execOp a.eval o).run P w = .ok (.value v) w' ∨ ((execOp a.eval o).run P w = .ok .skip w' ∧ v = undef)) ∧ Rel w0 base nt loc' t a w' ∧ RV w' (NB base t.m loc' w') loc' v d

section
variable {P : Program} {w0 : World} {base : Bs} {nt : Nat} {loc : Locs} {s t : St} {a : Act} {w : World} {o : Oper} {id : Nat} {d : AV}

theorem Rel.opd (h : Rel w0 base nt loc s a w) (T : Option TypeId) (x : Operand) : RV w (NB base s.m loc w) loc (a.eval x) ((opd P T x).ev s.r) := opd_ok P T x h.tmps

theorem good_same (h : Rel w0 base nt loc s a w) {v : Value} (hr : (execOp a.eval o).run P w = .ok (.value v) w) (hv : RV w (NB base s.m loc w) loc v d) : Good P w0 base nt o a w s d :=
  ⟨v, w, loc, .inl hr, h, hv⟩

theorem run_v {s : Sem Value} {v : Value} {w' : World} (h : s.run P w = .ok v w') : (do pure (Next.value (← s)) : Sem Next).run P w = .ok (.value v) w' := by
  simp [h]

theorem sim_mov {x : Operand} (h : Rel w0 base nt loc s a w) (ho : o.op = .move x ∨ o.op = .assign x) {T : Option TypeId} (he : ev (.mov (opd P T x)) id s = some (true, d, t)) : Good P w0 base nt o a w t d := by
  simp only [ev, Option.some.injEq, Prod.mk.injEq, true_and] at he
  obtain ⟨rfl, rfl⟩ := he
  refine good_same h (v := a.eval x) ?_ (h.opd T x)
  rcases ho with ho | ho <;> simp [execOp, ho]

theorem sim_nilCheck {x : Operand} (h : Rel w0 base nt loc s a w) (ho : o.op = .nilCheck x) {T : Option TypeId} (he : ev (.nilCheck (opd P T x)) id s = some (true, d, t)) : Good P w0 base nt o a w t d := by
  have hx := h.opd (P := P) T x
  simp only [ev] at he
  split at he
  · rename_i i j k hk
    simp only [Option.some.injEq, Prod.mk.injEq, true_and] at he
    obtain ⟨rfl, rfl⟩ := he
    rw [hk] at hx
    refine good_same h (v := a.eval x) ?_ hx
    generalize hv : a.eval x = v at hx
    cases hx
    simp [execOp, ho, hv]
  · rename_i e hk
    simp only [Option.some.injEq, Prod.mk.injEq, true_and] at he
    obtain ⟨rfl, rfl⟩ := he
    rw [hk] at hx
    refine good_same h (v := a.eval x) ?_ hx
    have hx := hx.inv
    generalize hv : a.eval x = v at hx
    cases hx
    simp [execOp, ho, hv]
  · cases he

theorem sim_pick {c x y : Operand} (h : Rel w0 base nt loc s a w) (ho : o.op = .pick c x y) {T U W : Option TypeId} (he : ev (.pick (opd P T c) (opd P U x) (opd P W y)) id s = some (true, d, t)) : Good P w0 base nt o a w t d := by
  have hc := h.opd (P := P) T c
  simp only [ev] at he
  split at he
  · rename_i hk
    simp only [Option.some.injEq, Prod.mk.injEq, true_and] at he
    obtain ⟨rfl, rfl⟩ := he
    rw [hk] at hc
    have hc := hc.inv
    refine good_same h (v := a.eval x) ?_ (h.opd U x)
    generalize hcv : a.eval c = v at hc
    cases hc
    simp [execOp, ho, hcv, asBool]
  · rename_i hk
    simp only [Option.some.injEq, Prod.mk.injEq, true_and] at he
    obtain ⟨rfl, rfl⟩ := he
    rw [hk] at hc
    have hc := hc.inv
    refine good_same h (v := a.eval y) ?_ (h.opd W y)
    generalize hcv : a.eval c = v at hc
    cases hc
    simp [execOp, ho, hcv, asBool]
  · cases he

theorem sim_load {T : TypeId} {x : Operand} {ag : Bool} {sz : Nat} (h : Rel w0 base nt loc s a w) (ho : o.op = .load T x) (hT : TyOk P T ag sz) (hs : ag = false → sz = 1) {U : Option TypeId}
    (he : ev (.load ag sz (opd P U x)) id s = some (true, d, t)) : Good P w0 base nt o a w t d := by
  have hx := h.opd (P := P) U x
  simp only [ev] at he
  split at he
  · rename_i i j off hk
    rw [hk] at hx
    generalize hxv : a.eval x = v at hx
    cases hx with
    | ptr L _ _ _ hL hn =>
    have goal : ∀ osz (u z : AV) (T' : TypeId) (k : Cont) (frz : Bool), s.m i = some ⟨T', osz, k, frz⟩ → u.get off sz osz ag = some z →
        (∀ c fr, w.heap[L.b]? = some (.cells c T' fr) → ContOk w (NB base s.m loc w) loc c L.o osz k → L.o + j * osz + osz ≤ c.size ∧ u.cells.length = osz ∧ (∀ e ∈ u.cells, e.one = true) ∧ (∀ p e, u.cells[p]? = some e → RV w (NB base s.m loc w) loc (c.getD (L.o + j * osz + p) undef) e)) →
        Good P w0 base nt o a w s z := by
      intro osz u z T' k frz hm hg hcc
      obtain ⟨L', hL', hok⟩ := h.objs i _ hm
      rw [hL] at hL'
      cases hL'
      obtain ⟨c, fr, h1, h2, h3, -⟩ := hok.at_ hn
      obtain ⟨g1, g2, g3, g4⟩ := hcc c fr h1 h3
      obtain ⟨v, hv1, hv2⟩ := rv_get (P := P) (T' := T) h1 g1 g2 g3 g4 hg hT hs
      refine good_same h (v := v) ?_ hv2
      have hsz : L.sz = osz := hok.sz
      rw [show L.o + (j * L.sz + off) = L.o + j * osz + off by rw [hsz]; omega] at hxv
      simp [execOp, ho, hxv, hv1]
    split at he
    · rename_i T' osz l frz hm
      split at he
      · rename_i z hz
        simp only [Option.some.injEq, Prod.mk.injEq, decide_eq_true_eq] at he
        obtain ⟨hj, rfl, rfl⟩ := he
        refine goal osz _ z T' _ frz hm hz ?_
        intro c fr _ hcont
        obtain ⟨k1, k2, k3⟩ := hcont
        have he' : l[j]? = some (l.getD j default) := by simp [hj]
        have hmul : j * osz + osz ≤ l.length * osz := by
          have := Nat.mul_le_mul_right osz (show j + 1 ≤ l.length by omega)
          rw [Nat.add_mul] at this; omega
        refine ⟨by omega, by simpa [AV.cells] using k2 _ (List.mem_of_getElem? he'), fun e hem => ?_, fun p e hp => ?_⟩
        · simp only [AV.cells, List.mem_map] at hem
          obtain ⟨q, hq, rfl⟩ := hem
          obtain ⟨n, hn'⟩ := List.getElem?_of_mem hq
          exact (k3 j _ n q he' hn').1
        · simp only [AV.cells, List.getElem?_map, Option.map_eq_some_iff] at hp
          obtain ⟨q, hq, rfl⟩ := hp
          have := (k3 j _ p q he' hq).2
          rw [← Nat.add_assoc] at this
          exact .p _ _ this
      · cases he
    · rename_i T' osz u frz hm
      split at he
      · rename_i hj
        subst hj
        split at he
        · rename_i z hz
          simp only [Option.some.injEq, Prod.mk.injEq, true_and] at he
          obtain ⟨rfl, rfl⟩ := he
          refine goal osz u z T' _ frz hm hz ?_
          intro c fr _ hcont
          obtain ⟨k1, k2, k3, k4⟩ := hcont
          simp only [Nat.zero_mul, Nat.add_zero]
          exact ⟨k1, k2, k3, k4⟩
        · cases he
      · cases he
    · cases he
  · rename_i e hk
    rw [hk] at hx
    have hx := hx.inv
    split at he
    · rename_i hag
      simp only [Option.some.injEq, Prod.mk.injEq, decide_eq_true_eq] at he
      obtain ⟨⟨hlen, hpos⟩, rfl, rfl⟩ := he
      generalize hxv : a.eval x = v at hx
      cases hx with
      | ref b p T' _ c fr g1 g2 g0 g3 g4 =>
      have hl : ∀ i, i < e.cells.length → p + i < c.size := fun i hi => g3 i e.cells[i] (by simp [hi])
      cases ag with
      | true =>
        cases e with
        | agg l =>
          have hlen' : l.length = sz := by simpa [D.cells] using hlen
          have hfit : p + sz ≤ c.size := by
            have := hl (sz - 1) (by rw [hlen]; omega)
            omega
          refine good_same h (v := .agg (rd c p sz)) ?_ (.p _ _ (.agg _ _ (by simp [hlen']) (fun q hq => g0 q hq) (fun i q hi => ?_)))
          · have := run_loadAgg (P := P) hT g1 hfit
            simp [execOp, ho, hxv, Instr.loadAt, Instr.sureAddr, this]
          · have hlt : i < sz := by have := (List.getElem?_eq_some_iff.1 hi).1; omega
            rw [rd_get _ _ _ _ hlt]
            exact g4 i q hi
        | _ => simp [D.isAgg] at hag
      | false =>
        have := hs rfl
        subst this
        have h0 : e.cells[0]? = some e := by cases e <;> simp [D.isAgg] at hag <;> rfl
        refine good_same h (v := c.getD p undef) ?_ (.p _ _ ?_)
        · have := run_loadOne (P := P) hT g1 (by have := hl 0 (by omega); rwa [Nat.add_zero] at this)
          simp [execOp, ho, hxv, Instr.loadAt, Instr.sureAddr, this]
        · have := g4 0 e h0
          rwa [Nat.add_zero] at this
    · cases he
  · cases he

end

end Go.Proofs.Ytlnhembcfhfpkaa.M
