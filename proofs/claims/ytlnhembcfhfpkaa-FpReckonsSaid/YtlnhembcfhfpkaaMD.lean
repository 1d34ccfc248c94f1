/- The small machine: the model does what the small machine says, one operation at a time. -/
import Derived.Test.YtlnhembcfhfpkaaMC
namespace Go.Proofs.Ytlnhembcfhfpkaa.M
open Go.RowKit

def aggT : TypeDesc → Bool
  | .struct _ => true
  | .array _ _ => true
  | _ => false
def TyOk (P : Program) (T : TypeId) (ag : Bool) (sz : Nat) : Prop := ∃ d i, P.underlying T = some d ∧ aggT d = ag ∧ P.info? T = some i ∧ i.size = sz

section
variable {P : Program} {w : World}

theorem run_isAgg {T : TypeId} {ag : Bool} {sz : Nat} (h : TyOk P T ag sz) : (isAgg T).run P w = .ok ag w := by
  obtain ⟨d, i, h1, h2, h3, h4⟩ := h
  subst h2
  unfold isAgg
  simp only [Sem.run_bind, run_underlying h1, Result.andThen]
  cases d <;> rfl
theorem run_sizeOf {T : TypeId} {ag : Bool} {sz : Nat} (h : TyOk P T ag sz) : (sizeOf T).run P w = .ok sz w := by
  obtain ⟨d, i, h1, h2, h3, h4⟩ := h
  simp [sizeOf, typeInfo, h3, h4]

def rd (c : Array Value) (o n : Nat) : Array Value := ((List.range n).map fun j => c.getD (o + j) undef).toArray
@[simp] theorem rd_size (c : Array Value) (o n : Nat) : (rd c o n).size = n := by simp [rd]
theorem rd_get (c : Array Value) (o n i : Nat) (h : i < n) : (rd c o n).getD i undef = c.getD (o + i) undef := by
  simp [rd, Array.getD_eq_getD_getElem?, h]

theorem add_mid (b o j : Nat) : (⟨b, o, none⟩ : Addr).add j = ⟨b, o + j, none⟩ := by
  unfold Addr.add; split <;> simp_all

theorem cell_at {b o : Nat} {c : Array Value} {T : TypeId} {fr : Nat × Nat} (hb : w.heap[b]? = some (.cells c T fr)) (ho : o < c.size) : w.cell? ⟨b, o, none⟩ = some (c.getD o undef) := by
  rw [cell_of_row w b o c T fr hb]
  simp [ho]

theorem run_cells {b o n : Nat} {c : Array Value} {T : TypeId} {fr : Nat × Nat} (hb : w.heap[b]? = some (.cells c T fr)) (hn : o + n ≤ c.size) : (loadCells ⟨b, o, none⟩ n).run P w = .ok (rd c o n) w := by
  rw [run_loadCells (P := P) w ⟨b, o, none⟩ n (fun j => c.getD (o + j) undef) (fun j hj => by rw [add_mid]; exact cell_at hb (by omega))]
  rfl

theorem run_loadAgg {T : TypeId} {b o n : Nat} {c : Array Value} {T' : TypeId} {fr : Nat × Nat} (hT : TyOk P T true n) (hb : w.heap[b]? = some (.cells c T' fr)) (hn : o + n ≤ c.size) :
    (loadVar T ⟨b, o, none⟩).run P w = .ok (.agg (rd c o n)) w := by
  unfold loadVar
  simp only [Sem.run_bind, run_isAgg hT, Result.andThen, if_true, run_sizeOf hT, run_cells hb hn]
  rfl
theorem run_loadOne {T : TypeId} {b o n : Nat} {c : Array Value} {T' : TypeId} {fr : Nat × Nat} (hT : TyOk P T false n) (hb : w.heap[b]? = some (.cells c T' fr)) (hn : o < c.size) :
    (loadVar T ⟨b, o, none⟩).run P w = .ok (c.getD o undef) w := by
  unfold loadVar
  simp only [Sem.run_bind, run_isAgg hT, Result.andThen, Bool.false_eq_true, if_false]
  simp [cell_at hb hn]

theorem run_storeAt {T : TypeId} {ag : Bool} {b o n : Nat} {c : Array Value} {T' : TypeId} {fr : Nat × Nat} {v : Value} (hT : TyOk P T ag n) (hb : w.heap[b]? = some (.cells c T' fr)) (hn : o + n ≤ c.size) (hv : v.cells.size = n)
    (hfr : ∀ x, x < c.size → (decide (fr.1 ≤ x) && decide (x < fr.2)) = false) (h1 : ∀ u ∈ v.cells.toList, u.oneCell' = true) :
    (Instr.storeAt T (.pointer (some ⟨b, o, none⟩)) v).run P w = .ok () (w.setCells b o v.cells.toList) := by
  have hl : v.cells.toList.length = n := by simpa using hv
  have := run_storeCells_cells (P := P) b o v.cells.toList 0 w (fun j hj => by rw [Nat.add_zero, cell_at hb (by omega)]; rfl) (fun j hj => by
    rw [Nat.add_zero]
    have := hfr (o + j) (by omega)
    simp only [World.frozen?, hb]
    exact this) h1
  rw [Nat.add_zero] at this
  unfold Instr.storeAt Instr.sureAddr storeVar
  simp only [Sem.run_bind, Result.andThen, run_sizeOf hT, hv, ne_eq, not_true, if_false]
  simp [this]

/-- A block after some of its cells are set. -/
def setC (c : Array Value) : Nat → List Value → Array Value
  | _, [] => c
  | o, v :: r => setC (c.setIfInBounds o v) (o + 1) r
theorem heap_setCells {b : Nat} {T : TypeId} {fr : Nat × Nat} : ∀ (vs : List Value) (o : Nat) (w : World) (c : Array Value), w.heap[b]? = some (.cells c T fr) → (w.setCells b o vs).heap[b]? = some (.cells (setC c o vs) T fr)
  | [], _, _, _, h => h
  | v :: r, o, w, c, h => by
    rw [World.setCells, setC]
    refine heap_setCells r (o + 1) _ _ ?_
    simp [World.setCell, Array.getElem?_modify, h]
theorem heap_setCells_ne {b b' : Nat} (hne : b' ≠ b) : ∀ (vs : List Value) (o : Nat) (w : World), (w.setCells b o vs).heap[b']? = w.heap[b']?
  | [], _, _ => rfl
  | v :: r, o, w => by
    rw [World.setCells, heap_setCells_ne hne r (o + 1)]
    exact Below.heap_setCell _ _ _ _ hne
theorem below_setCells {B b : Nat} (hb : B ≤ b) : ∀ (vs : List Value) (o : Nat) (w : World), Below B w (w.setCells b o vs)
  | [], _, _ => Below.refl _ _
  | v :: r, o, _ => ((Below.refl _ _).setCell (p := ⟨b, o, none⟩) hb v).trans (below_setCells hb r (o + 1) _)
theorem size_setCells {b : Nat} : ∀ (vs : List Value) (o : Nat) (w : World), (w.setCells b o vs).heap.size = w.heap.size
  | [], _, _ => rfl
  | v :: r, o, _ => by rw [World.setCells, size_setCells r (o + 1)]; simp [World.setCell]
@[simp] theorem size_setC : ∀ (vs : List Value) (o : Nat) (c : Array Value), (setC c o vs).size = c.size
  | [], _, _ => rfl
  | v :: r, o, c => by rw [setC, size_setC r (o + 1)]; simp
theorem setC_out : ∀ (vs : List Value) (o : Nat) (c : Array Value) (i : Nat), (i < o ∨ o + vs.length ≤ i) → (setC c o vs).getD i undef = c.getD i undef
  | [], _, _, _, _ => rfl
  | v :: r, o, c, i, h => by
    simp only [List.length_cons] at h
    rw [setC, setC_out r (o + 1) _ i (by omega)]
    simp only [Array.getD_eq_getD_getElem?]
    rw [Array.getElem?_setIfInBounds_ne (by omega)]
theorem setC_in : ∀ (vs : List Value) (o : Nat) (c : Array Value) (i : Nat), o + vs.length ≤ c.size → i < vs.length → (setC c o vs).getD (o + i) undef = vs.getD i undef
  | v :: r, o, c, 0, hc, _ => by
    simp only [List.length_cons] at hc
    rw [setC, setC_out r (o + 1) _ _ (by omega)]
    simp only [Array.getD_eq_getD_getElem?, Nat.add_zero, Array.getElem?_setIfInBounds_self, List.getD_cons_zero]
    rw [if_pos (by omega)]; rfl
  | v :: r, o, c, i + 1, hc, hi => by
    simp only [List.length_cons] at hc hi
    have := setC_in r (o + 1) (c.setIfInBounds o v) i (by simp; omega) (by omega)
    rw [setC, show o + (i + 1) = o + 1 + i by omega, this]
    simp
end

section
variable {w0 : World} {base : Bs} {nt : Nat} {loc : Locs} {s : St} {a : Act} {w : World}

theorem ExtL.set {B : Bs} {a u : World} (h : ExtL B a u) {b p : Nat} (hb : a.heap.size ≤ b ∨ B.lent b) {vs : List Value} {c0 : Array Value} {T0 : TypeId} {fr0 : Nat × Nat} (hc0 : u.heap[b]? = some (.cells c0 T0 fr0)) : ExtL B a (u.setCells b p vs) := by
  have h0 := below_setCells (B := 0) (Nat.zero_le b) vs p u
  refine ⟨h0.os.trans h.os, h0.tape.trans h.tape, h0.output.trans h.output, by rw [size_setCells]; exact h.size, fun k hk hl => ?_, fun k c T fr hc => ?_, fun k c T fr hk hc => ?_⟩
  · rw [heap_setCells_ne (fun e => by rcases hb with hb | hb; · omega
                                      · exact hl (e ▸ hb))]
    exact h.block k hk hl
  · obtain ⟨c', h1, h2⟩ := h.lentB k c T fr hc
    by_cases e : k = b
    · subst e
      exact ⟨setC c' p vs, by rw [size_setC]; exact h1, heap_setCells _ _ _ _ h2⟩
    · exact ⟨c', h1, by rw [heap_setCells_ne e]; exact h2⟩
  · by_cases e : k = b
    · subst e
      rw [heap_setCells _ _ _ _ hc0] at hc
      injection hc with hc
      injection hc with h1 h2 h3
      obtain ⟨c', g1, g2⟩ := h.lentT k c0 T0 fr0 hk hc0
      refine ⟨c', ?_, ?_⟩
      · rw [g1, ← h1, size_setC]
      · rw [g2, h2, h3]
    · rw [heap_setCells_ne e] at hc
      exact h.lentT k c T fr hk hc
/-- A store into an object that may be written. -/
theorem Rel.write (h : Rel w0 base nt loc s a w) {id : Nat} {o : AObj} {L : Loc} (ho : s.m id = some o) (hf : o.frz = false) (hL : loc id = some L) (hn : L.nil = false) {k : Cont} {p : Nat} {vs : List Value}
    (hk : ∀ (w' : World) (c : Array Value), w.heap.size ≤ w'.heap.size → (∀ b, NB base s.m loc w b → w'.heap[b]? = w.heap[b]?) → ContOk w' (NB base s.m loc w') loc c L.o o.sz o.cont → c.size = L.n → ContOk w' (NB base s.m loc w') loc (setC c p vs) L.o o.sz k) :
    Rel w0 base nt loc ⟨s.r, upd s.m id (some ⟨o.T, o.sz, k, false⟩)⟩ a (w.setCells L.b p vs) := by
  obtain ⟨L', hL', hok⟩ := h.objs id o ho
  rw [hL] at hL'
  cases hL'
  obtain ⟨c, fr, h1, h2, h3, h4, h5⟩ := hok.at_ hn
  have h4 := h4 hf
  have hlt := h.obj_lt ho hL hn
  have hown : ∀ b, ownB (upd s.m id (some ⟨o.T, o.sz, k, false⟩)) loc b ↔ ownB s.m loc b := by
    intro b
    constructor
    · rintro ⟨i, o', L', ho', hf', hL', hn', hb'⟩
      by_cases e : i = id
      · subst e
        exact ⟨i, o, L', ho, hf, hL', hn', hb'⟩
      · rw [upd_ne _ _ e] at ho'
        exact ⟨i, o', L', ho', hf', hL', hn', hb'⟩
    · rintro ⟨i, o', L', ho', hf', hL', hn', hb'⟩
      by_cases e : i = id
      · subst e
        exact ⟨i, _, L', upd_same _ _ _, rfl, hL', hn', hb'⟩
      · exact ⟨i, o', L', by rw [upd_ne _ _ e]; exact ho', hf', hL', hn', hb'⟩
  have hself : ownB s.m loc L.b := ⟨id, o, L, ho, hf, hL, hn, rfl⟩
  have hsz : (w.setCells L.b p vs).heap.size = w.heap.size := size_setCells _ _ _
  have hs : ∀ b, b ≠ L.b → (w.setCells L.b p vs).heap[b]? = w.heap[b]? := fun b hb => heap_setCells_ne hb _ _ _
  have hNs : ∀ b, NB base s.m loc w b → (w.setCells L.b p vs).heap[b]? = w.heap[b]? := fun b hb => hs b (fun e => hb.2.2 (e ▸ hself))
  have hN : ∀ b, NB base s.m loc w b → NB base (upd s.m id (some ⟨o.T, o.sz, k, false⟩)) loc (w.setCells L.b p vs) b := fun b hb => ⟨by rw [hsz]; exact hb.1, hb.2.1, fun e => hb.2.2 ((hown b).1 e)⟩
  have hN' : ∀ b, NB base s.m loc (w.setCells L.b p vs) b → NB base (upd s.m id (some ⟨o.T, o.sz, k, false⟩)) loc (w.setCells L.b p vs) b := fun b hb => ⟨hb.1, hb.2.1, fun e => hb.2.2 ((hown b).1 e)⟩
  refine ⟨?_, h.defers, h.size, h.low, ?_, fun t => (h.tmps t).mono hNs hN (fun _ _ x => x), ?_, ?_, h.keepL.put fun _ => ⟨_, rfl, rfl⟩⟩
  · exact h.ext.set h4.1 h1
  · intro i hi
    dsimp only at hi
    by_cases e : i = id
    · subst e; rw [upd_same] at hi; cases hi
    · rw [upd_ne _ _ e] at hi; exact h.dom i hi
  · intro i o' ho'
    dsimp only at ho'
    by_cases e : i = id
    · subst e
      rw [upd_same] at ho'
      cases ho'
      refine ⟨L, hL, hok.sz, fun e => (by rw [hn] at e; cases e), fun _ => ⟨setC c p vs, fr, heap_setCells _ _ _ _ h1, by simpa using h2, ?_, fun _ => h4, by simp⟩⟩
      have := hk (w.setCells L.b p vs) c (by rw [hsz]; exact Nat.le_refl _) hNs (h3.mono hNs (fun b hb => ⟨by rw [hsz]; exact hb.1, hb.2⟩) (fun _ _ x => x)) h2
      exact this.mono (fun _ _ => rfl) hN' (fun _ _ x => x)
    · rw [upd_ne _ _ e] at ho'
      obtain ⟨L', hL', hok'⟩ := h.objs i o' ho'
      refine ⟨L', hL', hok'.sz, hok'.nil, fun hnil => ?_⟩
      obtain ⟨c', fr', g1, g2, g3, g4, g5⟩ := hok'.at_ hnil
      have hne : L'.b ≠ L.b := fun hb => by
        have := h.inj id i o o' L L' ho ho' hf hL hL' hn hnil hb.symm
        exact e this.symm
      exact ⟨c', fr', (hs _ hne).trans g1, g2, g3.mono hNs hN (fun _ _ x => x), g4, fun hf' => hN _ (g5 hf')⟩
  · intro i i' o1 o2 L1 L2 ho1 ho2 hf1 hL1 hL2 hn1 hn2 hb
    dsimp only at ho1 ho2
    have old : ∀ j oj, upd s.m id (some ⟨o.T, o.sz, k, false⟩) j = some oj → ∃ oj', s.m j = some oj' ∧ oj'.frz = oj.frz := by
      intro j oj hj
      by_cases e : j = id
      · subst e; rw [upd_same] at hj; cases hj; exact ⟨o, ho, hf⟩
      · rw [upd_ne _ _ e] at hj; exact ⟨oj, hj, rfl⟩
    obtain ⟨o1', g1, g1'⟩ := old i o1 ho1
    obtain ⟨o2', g2, _⟩ := old i' o2 ho2
    exact h.inj i i' o1' o2' L1 L2 g1 g2 (g1'.trans hf1) hL1 hL2 hn1 hn2 hb
/-- What a call has made: a new object of the call's own. -/
theorem Rel.adopt (h : Rel w0 base nt loc s a w) {w' : World} (hext : Ext w w') {id : Nat} (hid : s.m id = none) {T : TypeId} {sz : Nat} {l : List D} (L : Loc) (hsz : L.sz = sz) (hnl : L.nil = true → l = [])
    (hobj : L.nil = false → w.heap.size ≤ L.b ∧ ∃ c fr, w'.heap[L.b]? = some (.cells c T fr) ∧ c.size = L.n ∧ ContOk w' (fun x => (x < w'.heap.size ∧ ¬ (base.own x ∨ ownB s.m loc x)) ∧ x ≠ L.b) (fun _ => none) c L.o sz (.row l) ∧ ∀ x, x < L.n → (decide (fr.1 ≤ x) && decide (x < fr.2)) = false) :
    Rel w0 base nt (upd loc id (some L)) ⟨s.r, upd s.m id (some ⟨T, sz, .row l, false⟩)⟩ a w' := by
  have hloc := h.dom id hid
  have hl : ∀ i K, loc i = some K → upd loc id (some L) i = some K := fun i K hi => by
    rw [upd_ne]; exact hi
    rintro rfl; rw [hloc] at hi; cases hi
  have hs : ∀ b, NB base s.m loc w b → w'.heap[b]? = w.heap[b]? := fun b hb => hext.block b hb.1
  have hn : ∀ b, NB base s.m loc w b → NB base (upd s.m id (some ⟨T, sz, .row l, false⟩)) (upd loc id (some L)) w' b := by
    rintro b ⟨h1, h2, h3⟩
    refine ⟨Nat.lt_of_lt_of_le h1 hext.size, h2, ?_⟩
    rintro ⟨i, o, K, ho, hf, hK, hnil, hb⟩
    by_cases hi : i = id
    · subst hi
      rw [upd_same] at hK
      cases hK
      have := (hobj hnil).1
      omega
    · rw [upd_ne _ _ hi] at ho hK
      exact h3 ⟨i, o, K, ho, hf, hK, hnil, hb⟩
  refine ⟨h.ext.tr hext, h.defers, h.size, h.low, ?_, fun t => (h.tmps t).mono hs hn hl, ?_, ?_, h.keepL.new hid _ _⟩
  · intro i hi
    dsimp only at hi
    by_cases e : i = id
    · subst e; rw [upd_same] at hi; cases hi
    · rw [upd_ne _ _ e] at hi ⊢; exact h.dom i hi
  · intro i o ho
    dsimp only at ho
    by_cases e : i = id
    · subst e
      rw [upd_same] at ho
      cases ho
      refine ⟨L, upd_same _ _ _, hsz, fun hnil => by rw [hnl hnil], fun hnil => ?_⟩
      obtain ⟨g1, c, fr, g2, g3, g4, g5⟩ := hobj hnil
      refine ⟨c, fr, g2, g3, ⟨g4.1, g4.2.1, fun p0 e0 j0 d0 q1 q2 => ⟨(g4.2.2 p0 e0 j0 d0 q1 q2).1, (g4.2.2 p0 e0 j0 d0 q1 q2).2.mono (fun _ _ => rfl) fun b hb => ⟨hb.1.1, fun g => hb.1.2 (.inl g), ?_⟩⟩⟩, fun _ => ⟨.inl (Nat.le_trans h.ext.size g1), g5⟩, by simp⟩
      rintro ⟨i', o', K, k1, k2, k3, k4, k5⟩
      by_cases e' : i' = i
      · subst e'
        dsimp only at k1 k3
        rw [upd_same] at k3
        cases k3
        exact hb.2 k5.symm
      · dsimp only at k1 k3
        rw [upd_ne _ _ e'] at k1 k3
        exact hb.1.2 (.inr ⟨i', o', K, k1, k2, k3, k4, k5⟩)
    · rw [upd_ne _ _ e] at ho
      obtain ⟨K, hK, hok⟩ := h.objs i o ho
      refine ⟨K, hl i K hK, hok.sz, hok.nil, fun hnil => ?_⟩
      obtain ⟨c', fr, h1, h2, h3, h4, h5⟩ := hok.at_ hnil
      have hlt := h.obj_lt ho hK hnil
      exact ⟨c', fr, (hext.block _ hlt).trans h1, h2, h3.mono hs hn hl, h4, fun hf => hn _ (h5 hf)⟩
  · intro i i' o o' K K' ho ho' hf hK hK' hnil hnil' hb
    dsimp only at ho ho'
    by_cases e : i = id
    · subst e
      rw [upd_same] at hK
      cases hK
      by_cases e' : i' = i
      · exact e'.symm
      · rw [upd_ne _ _ e'] at ho' hK'
        have := h.obj_lt ho' hK' hnil'
        have := (hobj hnil).1
        omega
    · rw [upd_ne _ _ e] at ho hK
      by_cases e' : i' = id
      · subst e'
        rw [upd_same] at hK'
        cases hK'
        have := h.obj_lt ho hK hnil
        have := (hobj hnil').1
        omega
      · rw [upd_ne _ _ e'] at ho' hK'
        exact h.inj i i' o o' K K' ho ho' hf hK hK' hnil hnil' hb
/-- Behind a call to which an object was lent. -/
theorem Rel.turn (h : Rel w0 base nt loc s a w) {id : Nat} {o : AObj} {L : Loc} (ho : s.m id = some o) (hf : o.frz = false) (hL : loc id = some L) (hn : L.nil = false) {w' : World} {c c' : Array Value} {fr : Nat × Nat} {l' : List D} {B : Bs} (hw : ExtL B w w')
    (hB : ∀ b, B.lent b → b = L.b) (hc : w.heap[L.b]? = some (.cells c o.T fr)) (hc' : w'.heap[L.b]? = some (.cells c' o.T fr)) (hcs : c'.size = c.size)
    (hk : ContOk w' (fun b => b < w'.heap.size ∧ ¬ (base.own b ∨ ownB s.m loc b)) (fun _ => none) c' L.o o.sz (.row l')) :
    Rel w0 base nt loc ⟨s.r, upd s.m id (some ⟨o.T, o.sz, .row l', false⟩)⟩ a w' := by
  obtain ⟨L', hL', hok⟩ := h.objs id o ho
  rw [hL] at hL'
  cases hL'
  obtain ⟨c0, fr0, h1, h2, h3, h4, h5⟩ := hok.at_ hn
  rw [hc] at h1
  injection h1 with h1
  injection h1 with e1 e2 e3
  subst e1 e3
  have h4 := h4 hf
  have hown : ∀ b, ownB (upd s.m id (some ⟨o.T, o.sz, .row l', false⟩)) loc b ↔ ownB s.m loc b := by
    intro b
    constructor
    · rintro ⟨i, o', L', ho', hf', hL', hn', hb'⟩
      by_cases e : i = id
      · subst e
        exact ⟨i, o, L', ho, hf, hL', hn', hb'⟩
      · rw [upd_ne _ _ e] at ho'
        exact ⟨i, o', L', ho', hf', hL', hn', hb'⟩
    · rintro ⟨i, o', L', ho', hf', hL', hn', hb'⟩
      by_cases e : i = id
      · subst e
        exact ⟨i, _, L', upd_same _ _ _, rfl, hL', hn', hb'⟩
      · exact ⟨i, o', L', by rw [upd_ne _ _ e]; exact ho', hf', hL', hn', hb'⟩
  have hself : ownB s.m loc L.b := ⟨id, o, L, ho, hf, hL, hn, rfl⟩
  have hs : ∀ b, b < w.heap.size → b ≠ L.b → w'.heap[b]? = w.heap[b]? := fun b hb hne => hw.block b hb fun e => hne (hB b e)
  have hNs : ∀ b, NB base s.m loc w b → w'.heap[b]? = w.heap[b]? := fun b hb => hs b hb.1 (fun e => hb.2.2 (e ▸ hself))
  have hN : ∀ b, NB base s.m loc w b → NB base (upd s.m id (some ⟨o.T, o.sz, .row l', false⟩)) loc w' b := fun b hb => ⟨Nat.lt_of_lt_of_le hb.1 hw.size, hb.2.1, fun e => hb.2.2 ((hown b).1 e)⟩
  refine ⟨⟨hw.os.trans h.ext.os, hw.tape.trans h.ext.tape, hw.output.trans h.ext.output, Nat.le_trans h.ext.size hw.size, fun k hk' hl => ?_, fun k c1 T fr1 hc1 => ?_, fun k c1 T fr1 hk' hc1 => ?_⟩, h.defers, h.size, h.low, ?_, fun t => (h.tmps t).mono hNs hN (fun _ _ x => x), ?_, ?_, h.keepL.put fun _ => ⟨_, rfl, rfl⟩⟩
  · rw [hs k (Nat.lt_of_lt_of_le hk' h.ext.size) (fun e => by
      subst e
      rcases h4.1 with g | g
      · omega
      · exact hl g)]
    exact h.ext.block k hk' hl
  · obtain ⟨c2, g1, g2⟩ := h.ext.lentB k c1 T fr1 hc1
    obtain ⟨c3, g3, g4⟩ := hw.lentB k c2 T fr1 g2
    exact ⟨c3, g3.trans g1, g4⟩
  · obtain ⟨c2, g1, g2⟩ := hw.lentT k c1 T fr1 (Nat.lt_of_lt_of_le hk' h.ext.size) hc1
    obtain ⟨c3, g3, g4⟩ := h.ext.lentT k c2 T fr1 hk' g2
    exact ⟨c3, g3.trans g1, g4⟩
  · intro i hi
    dsimp only at hi
    by_cases e : i = id
    · subst e; rw [upd_same] at hi; cases hi
    · rw [upd_ne _ _ e] at hi; exact h.dom i hi
  · intro i o' ho'
    dsimp only at ho'
    by_cases e : i = id
    · subst e
      rw [upd_same] at ho'
      cases ho'
      refine ⟨L, hL, hok.sz, fun e => (by rw [hn] at e; cases e), fun _ => ⟨c', fr, hc', hcs.trans h2, ?_, fun _ => h4, by simp⟩⟩
      exact ⟨hk.1, hk.2.1, fun i e j d g1 g2 => ⟨(hk.2.2 i e j d g1 g2).1, (hk.2.2 i e j d g1 g2).2.mono (fun _ _ => rfl) fun b hb => ⟨hb.1, fun g => hb.2 (.inl g), fun g => hb.2 (.inr ((hown b).1 g))⟩⟩⟩
    · rw [upd_ne _ _ e] at ho'
      obtain ⟨L', hL', hok'⟩ := h.objs i o' ho'
      refine ⟨L', hL', hok'.sz, hok'.nil, fun hnil => ?_⟩
      obtain ⟨c', fr', g1, g2, g3, g4, g5⟩ := hok'.at_ hnil
      have hne : L'.b ≠ L.b := fun hb => by
        have := h.inj id i o o' L L' ho ho' hf hL hL' hn hnil hb.symm
        exact e this.symm
      exact ⟨c', fr', (hs _ (lt_of_heap g1) hne).trans g1, g2, g3.mono hNs hN (fun _ _ x => x), g4, fun hf' => hN _ (g5 hf')⟩
  · intro i i' o1 o2 L1 L2 ho1 ho2 hf1 hL1 hL2 hn1 hn2 hb
    dsimp only at ho1 ho2
    have old : ∀ j oj, upd s.m id (some ⟨o.T, o.sz, .row l', false⟩) j = some oj → ∃ oj', s.m j = some oj' ∧ oj'.frz = oj.frz := by
      intro j oj hj
      by_cases e : j = id
      · subst e; rw [upd_same] at hj; cases hj; exact ⟨o, ho, hf⟩
      · rw [upd_ne _ _ e] at hj; exact ⟨oj, hj, rfl⟩
    obtain ⟨o1', g1, g1'⟩ := old i o1 ho1
    obtain ⟨o2', g2, _⟩ := old i' o2 ho2
    exact h.inj i i' o1' o2' L1 L2 g1 g2 (g1'.trans hf1) hL1 hL2 hn1 hn2 hb
end

end Go.Proofs.Ytlnhembcfhfpkaa.M
