/- The small machine: what is known of a call's own memory, and what a step leaves of it. -/
import Derived.Test.YtlnhembcfhfpkaaMA
namespace Go.Proofs.Ytlnhembcfhfpkaa.M
open Go.RowKit

/-- What is known of a slot: nothing; plain data; a struct or a tuple of such; a nil slice; a slice of, or a pointer into, an object of the call's own. -/
inductive AV where
  | und
  | p (d : D)
  | agg (l : List AV)
  | tup (l : List AV)
  | nils (T : TypeId) (sz : Nat)
  | slice (id off len : Nat)
  | ptr (id i off : Nat)
  | arr (id off len : Nat)
  deriving Inhabited

inductive Cont where
  | row (l : List D)
  | box (v : AV)
  | junk

/-- An object of the call's own: a row of elements, or one variable; 'frz': it is not written any more. -/
structure AObj where
  T : TypeId
  sz : Nat
  cont : Cont
  frz : Bool

abbrev Mem := Nat → Option AObj
def upd {α : Type} (f : Nat → α) (i : Nat) (v : α) : Nat → α := fun j => if j = i then v else f j
theorem upd_same {α : Type} (f : Nat → α) (i : Nat) (v : α) : upd f i v i = v := by simp [upd]
theorem upd_ne {α : Type} (f : Nat → α) {i j : Nat} (v : α) (h : j ≠ i) : upd f i v j = f j := by simp [upd, h]
theorem upd_comm {α : Type} (f : Nat → α) {i j : Nat} (v u : α) (h : i ≠ j) : upd (upd f i v) j u = upd (upd f j u) i v := by
  funext k
  unfold upd
  by_cases h1 : k = i <;> by_cases h2 : k = j <;> simp_all

structure St where
  r : Nat → AV
  m : Mem

/-- Where an object lies: block, place of its first cell in it, the block's cells, cells of an element; nil: a nil slice as yet. -/
structure Loc where
  b : Nat
  o : Nat
  n : Nat
  sz : Nat
  nil : Bool
abbrev Locs := Nat → Option Loc

def AV.cells : AV → List AV
  | .p d => d.cells.map .p
  | .agg l => l
  | v => [v]
def AV.one : AV → Bool
  | .p d => d.one
  | .nils .. | .slice .. | .ptr .. | .arr .. => true
  | _ => false
def AV.isAgg : AV → Option Bool
  | .p d => some d.isAgg
  | .agg _ => some true
  | .und => none
  | _ => some false

inductive RV (w : World) (N : Nat → Prop) (loc : Locs) : Value → AV → Prop where
  | und (v : Value) : RV w N loc v .und
  | p (v : Value) (d : D) : V w N v d → RV w N loc v (.p d)
  | agg (cs : Array Value) (l : List AV) : cs.size = l.length → (∀ d ∈ l, d.one = true) → (∀ i d, l[i]? = some d → RV w N loc (cs.getD i undef) d) → RV w N loc (.agg cs) (.agg l)
  | tup (cs : Array Value) (l : List AV) : cs.size = l.length → (∀ i d, l[i]? = some d → RV w N loc (cs.getD i undef) d) → RV w N loc (.tuple cs) (.tup l)
  | nils (T : TypeId) (sz : Nat) : RV w N loc (.slice none 0 0) (.nils T sz)
  | slice (L : Loc) (id off len cap : Nat) : loc id = some L → L.nil = false → len ≤ cap → cap ≤ 9223372036854775807 → L.o + (off * L.sz + cap * L.sz) ≤ L.n →
      RV w N loc (.slice (some ⟨L.b, L.o + off * L.sz, none⟩) len cap) (.slice id off len)
  | sliceEmp (L : Loc) (id off : Nat) (p : Option Addr) : loc id = some L → RV w N loc (.slice p 0 0) (.slice id off 0)
  | arr (L : Loc) (id off len cap : Nat) : loc id = some L → L.nil = false → len ≤ cap → cap ≤ 9223372036854775807 → L.o + (off + cap) ≤ L.n → RV w N loc (.slice (some ⟨L.b, L.o + off, none⟩) len cap) (.arr id off len)
  | arrEmp (L : Loc) (id off : Nat) (p : Option Addr) : loc id = some L → RV w N loc (.slice p 0 0) (.arr id off 0)
  | ptr (L : Loc) (id i off : Nat) : loc id = some L → L.nil = false → RV w N loc (.pointer (some ⟨L.b, L.o + (i * L.sz + off), none⟩)) (.ptr id i off)

theorem RV.mono {w w' : World} {N N' : Nat → Prop} {loc loc' : Locs} {v : Value} {d : AV} (h : RV w N loc v d) (hs : ∀ b, N b → w'.heap[b]? = w.heap[b]?) (hn : ∀ b, N b → N' b)
    (hl : ∀ id L, loc id = some L → loc' id = some L) : RV w' N' loc' v d := by
  induction h with
  | und v => exact .und v
  | p v d h => exact .p v d (h.mono hs hn)
  | agg cs l h1 h2 _ ih => exact .agg cs l h1 h2 ih
  | tup cs l h1 _ ih => exact .tup cs l h1 ih
  | nils T sz => exact .nils T sz
  | slice L id off len cap h1 h2 h3 h4 h5 => exact .slice L id off len cap (hl _ _ h1) h2 h3 h4 h5
  | sliceEmp L id off p h1 => exact .sliceEmp L id off p (hl _ _ h1)
  | arr L id off len cap h1 h2 h3 h4 h5 => exact .arr L id off len cap (hl _ _ h1) h2 h3 h4 h5
  | arrEmp L id off p h1 => exact .arrEmp L id off p (hl _ _ h1)
  | ptr L id i off h1 h2 => exact .ptr L id i off (hl _ _ h1) h2

theorem RV.one {w : World} {N : Nat → Prop} {loc : Locs} {v : Value} {d : AV} (h : RV w N loc v d) (ho : d.one = true) : v.oneCell' = true := by
  cases h with
  | p v d h => exact h.one ho
  | _ => first | rfl | simp [AV.one] at ho

/-- The cells of a value, one by one. -/
theorem RV.cells {w : World} {N : Nat → Prop} {loc : Locs} {v : Value} {d : AV} (h : RV w N loc v d) (ho : ∀ e ∈ d.cells, e.one = true) :
    v.cells.size = d.cells.length ∧ ∀ i e, d.cells[i]? = some e → RV w N loc (v.cells.getD i undef) e := by
  cases h with
  | und => simp [AV.cells, AV.one] at ho
  | tup => simp [AV.cells, AV.one] at ho
  | p v d h =>
    have ht : ∀ l, d ≠ .tup l := by rintro l rfl; simp [AV.cells, D.cells, AV.one, D.one] at ho
    obtain ⟨h1, h2⟩ := h.cells ht
    refine ⟨by simpa [AV.cells] using h1, fun i e he => ?_⟩
    simp only [AV.cells, List.getElem?_map, Option.map_eq_some_iff] at he
    obtain ⟨x, hx, rfl⟩ := he
    exact .p _ _ (h2 i x hx).2
  | agg cs l h1 h2 h3 => exact ⟨h1, h3⟩
  | _ =>
    refine ⟨rfl, fun i e he => ?_⟩
    match i, he with
    | 0, he =>
      simp only [AV.cells, List.getElem?_cons_zero, Option.some.injEq] at he
      subst he
      simp only [Value.cells, Array.getD_eq_getD_getElem?, List.getElem?_toArray, List.getElem?_cons_zero, Option.getD_some]
      first
        | exact .nils _ _
        | exact .slice _ _ _ _ _ ‹_› ‹_› ‹_› ‹_› ‹_›
        | exact .sliceEmp _ _ _ _ ‹_›
        | exact .arr _ _ _ _ _ ‹_› ‹_› ‹_› ‹_› ‹_›
        | exact .arrEmp _ _ _ _ ‹_›
        | exact .ptr _ _ _ _ ‹_› ‹_›
    | i + 1, he => simp [AV.cells] at he

/-- The number of the object that a caller lends. -/
def lentId : Nat := 999999
/-- What the callers own: no data lies in it; one of their objects may be lent. -/
structure Bs where
  own : Nat → Prop
  L0 : Option Loc
def Bs.lent (B : Bs) (b : Nat) : Prop := ∃ L, B.L0 = some L ∧ L.b = b
/-- All blocks stay as they were, but what is lent; that keeps its type and size. -/
structure ExtL (B : Bs) (w w' : World) : Prop where
  os : w'.os = w.os
  tape : w'.tape = w.tape
  output : w'.output = w.output
  size : w.heap.size ≤ w'.heap.size
  block : ∀ k, k < w.heap.size → ¬ B.lent k → w'.heap[k]? = w.heap[k]?
  lentB : ∀ (k : Nat) (c : Array Value) (T : TypeId) (fr : Nat × Nat), w.heap[k]? = some (.cells c T fr) → ∃ c' : Array Value, c'.size = c.size ∧ w'.heap[k]? = some (.cells c' T fr)
  lentT : ∀ (k : Nat) (c : Array Value) (T : TypeId) (fr : Nat × Nat), k < w.heap.size → w'.heap[k]? = some (.cells c T fr) → ∃ c' : Array Value, c'.size = c.size ∧ w.heap[k]? = some (.cells c' T fr)
theorem lt_of_heap {w : World} {k : Nat} {x : Obj} (h : w.heap[k]? = some x) : k < w.heap.size := by
  rcases Nat.lt_or_ge k w.heap.size with hlt | hge
  · exact hlt
  · rw [Array.getElem?_eq_none hge] at h; cases h
theorem ExtL.rf (B : Bs) (w : World) : ExtL B w w := ⟨rfl, rfl, rfl, Nat.le_refl _, fun _ _ _ => rfl, fun _ c _ _ h => ⟨c, rfl, h⟩, fun _ c _ _ _ h => ⟨c, rfl, h⟩⟩
theorem ExtL.tr {B : Bs} {a b c : World} (h : ExtL B a b) (k : Ext b c) : ExtL B a c :=
  ⟨k.os.trans h.os, k.tape.trans h.tape, k.output.trans h.output, Nat.le_trans h.size k.size, fun i hi hl => (k.block i (Nat.lt_of_lt_of_le hi h.size)).trans (h.block i hi hl),
    fun i c0 T fr hc => by
      obtain ⟨c', h1, h2⟩ := h.lentB i c0 T fr hc
      exact ⟨c', h1, (k.block i (lt_of_heap h2)).trans h2⟩,
    fun i c0 T fr hi hc => h.lentT i c0 T fr hi (by rw [← k.block i (Nat.lt_of_lt_of_le hi h.size)]; exact hc)⟩
theorem ExtL.ext {B : Bs} {a b : World} (h : ExtL B a b) (h0 : B.L0 = none) : Ext a b :=
  ⟨h.os, h.tape, h.output, h.size, fun k hk => h.block k hk (by rintro ⟨L, hL, _⟩; rw [h0] at hL; cases hL)⟩
/-- A block of the call's own that may be written. -/
def ownB (M : Mem) (loc : Locs) (b : Nat) : Prop := ∃ id o L, M id = some o ∧ o.frz = false ∧ loc id = some L ∧ L.nil = false ∧ L.b = b
/-- The blocks that nobody writes while the call lasts. -/
def NB (base : Bs) (M : Mem) (loc : Locs) (w : World) (b : Nat) : Prop := b < w.heap.size ∧ ¬ base.own b ∧ ¬ ownB M loc b

/-- What the cells of an object hold. -/
def ContOk (w : World) (N : Nat → Prop) (loc : Locs) (c : Array Value) (o sz : Nat) : Cont → Prop
  | .row l => o + l.length * sz ≤ c.size ∧ (∀ e ∈ l, e.cells.length = sz) ∧ (∀ i e j d, l[i]? = some e → e.cells[j]? = some d → d.one = true ∧ V w N (c.getD (o + (i * sz + j)) undef) d)
  | .junk => o + sz ≤ c.size
  | .box v => o + sz ≤ c.size ∧ v.cells.length = sz ∧ (∀ e ∈ v.cells, e.one = true) ∧ (∀ j d, v.cells[j]? = some d → RV w N loc (c.getD (o + j) undef) d)

structure ObjOk (w0 : World) (base : Bs) (M : Mem) (loc : Locs) (w : World) (o : AObj) (L : Loc) : Prop where
  sz : L.sz = o.sz
  nil : L.nil = true → o.cont = .row []
  at_ : L.nil = false → ∃ c fr, w.heap[L.b]? = some (.cells c o.T fr) ∧ c.size = L.n ∧ ContOk w (NB base M loc w) loc c L.o o.sz o.cont ∧
    (o.frz = false → (w0.heap.size ≤ L.b ∨ base.lent L.b) ∧ ∀ x, x < L.n → (decide (fr.1 ≤ x) && decide (x < fr.2)) = false) ∧ (o.frz = true → NB base M loc w L.b)

/-- The object that is lent lies where it lay. -/
def KeepL (base : Bs) (m : Mem) (loc : Locs) : Prop := ∀ L, base.L0 = some L → loc lentId = some L ∧ base.own L.b ∧ L.nil = false ∧ ∃ o, m lentId = some o ∧ o.frz = false
theorem KeepL.none_ {base : Bs} (h : base.L0 = none) (m : Mem) (loc : Locs) : KeepL base m loc := fun L hL => by rw [h] at hL; cases hL
theorem KeepL.turn {base : Bs} {m m' : Mem} {loc loc' : Locs} (h : KeepL base m loc) (hm : ∀ o, m lentId = some o → o.frz = false → ∃ o', m' lentId = some o' ∧ o'.frz = false) (hl : m lentId ≠ none → loc' lentId = loc lentId) : KeepL base m' loc' := fun L hL => by
  obtain ⟨h1, h2, h3, o, h4, h5⟩ := h L hL
  exact ⟨(hl (by rw [h4]; simp)).trans h1, h2, h3, hm o h4 h5⟩
theorem KeepL.put {base : Bs} {m : Mem} {loc : Locs} (h : KeepL base m loc) {i : Nat} {x : Option AObj} (hx : i = lentId → ∃ o, x = some o ∧ o.frz = false) : KeepL base (upd m i x) loc :=
  h.turn (fun o h1 h2 => by
    by_cases e : lentId = i
    · obtain ⟨o', e1, e2⟩ := hx e.symm
      exact ⟨o', by rw [e, upd_same, e1], e2⟩
    · exact ⟨o, by rw [upd_ne _ _ e]; exact h1, h2⟩) (fun _ => rfl)
theorem KeepL.new {base : Bs} {m : Mem} {loc : Locs} (h : KeepL base m loc) {i : Nat} (hi : m i = none) (x : Option AObj) (y : Option Loc) : KeepL base (upd m i x) (upd loc i y) :=
  h.turn (fun o h1 h2 => by
    have e : lentId ≠ i := by rintro rfl; rw [hi] at h1; cases h1
    exact ⟨o, by rw [upd_ne _ _ e]; exact h1, h2⟩) (fun h1 => by
    have e : lentId ≠ i := by rintro rfl; exact h1 hi
    exact upd_ne _ _ e)
structure Rel (w0 : World) (base : Bs) (nt : Nat) (loc : Locs) (s : St) (a : Act) (w : World) : Prop where
  ext : ExtL base w0 w
  defers : a.defers = []
  size : a.tmps.size = nt
  low : ∀ b, base.own b → b < w0.heap.size
  dom : ∀ id, s.m id = none → loc id = none
  tmps : ∀ t, RV w (NB base s.m loc w) loc (a.tmps.getD t undef) (s.r t)
  objs : ∀ id o, s.m id = some o → ∃ L, loc id = some L ∧ ObjOk w0 base s.m loc w o L
  inj : ∀ id id' o o' L L', s.m id = some o → s.m id' = some o' → o.frz = false → loc id = some L → loc id' = some L' → L.nil = false → L'.nil = false → L.b = L'.b → id = id'
  keepL : KeepL base s.m loc

section
variable {w0 : World} {base : Bs} {nt : Nat} {loc : Locs} {s : St} {a : Act} {w : World}

theorem Rel.put (h : Rel w0 base nt loc s a w) {t : Nat} (ht : t < nt) {v : Value} {d : AV} (hv : RV w (NB base s.m loc w) loc v d) :
    Rel w0 base nt loc ⟨upd s.r t d, s.m⟩ (a.put (some t) v) w := by
  refine ⟨h.ext, h.defers, by simp [Act.put, h.size], h.low, h.dom, fun u => ?_, h.objs, h.inj, h.keepL⟩
  by_cases hu : u = t
  · subst hu
    simp only [upd_same, Act.put, Array.getD_eq_getD_getElem?, Array.getElem?_setIfInBounds_self, h.size, ht, if_true, Option.getD_some]
    exact hv
  · have hu' : t ≠ u := fun e => hu e.symm
    simp only [upd_ne _ _ hu, Act.put, Array.getD_eq_getD_getElem?, Array.getElem?_setIfInBounds_ne hu']
    have := h.tmps u
    rwa [Array.getD_eq_getD_getElem?] at this

theorem ContOk.mono {w w' : World} {N N' : Nat → Prop} {loc loc' : Locs} {c : Array Value} {o sz : Nat} {k : Cont} (h : ContOk w N loc c o sz k) (hs : ∀ b, N b → w'.heap[b]? = w.heap[b]?) (hn : ∀ b, N b → N' b)
    (hl : ∀ id L, loc id = some L → loc' id = some L) : ContOk w' N' loc' c o sz k := by
  cases k with
  | row l => exact ⟨h.1, h.2.1, fun i e j d h1 h2 => ⟨(h.2.2 i e j d h1 h2).1, (h.2.2 i e j d h1 h2).2.mono hs hn⟩⟩
  | box v => exact ⟨h.1, h.2.1, h.2.2.1, fun j d h1 => (h.2.2.2 j d h1).mono hs hn hl⟩
  | junk => exact h

/-- Behind whatever leaves all blocks as they were. -/
theorem Rel.later (h : Rel w0 base nt loc s a w) {w' : World} (he : Ext w w') : Rel w0 base nt loc s a w' := by
  have hs : ∀ b, NB base s.m loc w b → w'.heap[b]? = w.heap[b]? := fun b hb => he.block b hb.1
  have hn : ∀ b, NB base s.m loc w b → NB base s.m loc w' b := fun b hb => ⟨Nat.lt_of_lt_of_le hb.1 he.size, hb.2⟩
  refine ⟨h.ext.tr he, h.defers, h.size, h.low, h.dom, fun t => (h.tmps t).mono hs hn (fun _ _ x => x), fun id o ho => ?_, h.inj, h.keepL⟩
  obtain ⟨L, hL, hok⟩ := h.objs id o ho
  refine ⟨L, hL, hok.sz, hok.nil, fun hnil => ?_⟩
  obtain ⟨c, fr, h1, h2, h3, h4, h5⟩ := hok.at_ hnil
  have hlt : L.b < w.heap.size := by
    rcases Nat.lt_or_ge L.b w.heap.size with hlt | hge
    · exact hlt
    · rw [Array.getElem?_eq_none hge] at h1; cases h1
  exact ⟨c, fr, (he.block _ hlt).trans h1, h2, h3.mono hs hn (fun _ _ x => x), h4, fun hf => hn _ (h5 hf)⟩

theorem Rel.obj_lt (h : Rel w0 base nt loc s a w) {id : Nat} {o : AObj} {L : Loc} (ho : s.m id = some o) (hL : loc id = some L) (hn : L.nil = false) : L.b < w.heap.size := by
  obtain ⟨L', hL', hok⟩ := h.objs id o ho
  rw [hL] at hL'
  cases hL'
  obtain ⟨c, fr, h1, _⟩ := hok.at_ hn
  rcases Nat.lt_or_ge L.b w.heap.size with hlt | hge
  · exact hlt
  · rw [Array.getElem?_eq_none hge] at h1; cases h1

/-- A new object in a new block. -/
theorem Rel.alloc (h : Rel w0 base nt loc s a w) {id : Nat} (hid : s.m id = none) {T : TypeId} {sz : Nat} {k : Cont} {c : Array Value}
    (hk : ContOk w (NB base s.m loc w) loc c 0 sz k) :
    ∃ loc', loc' id = some ⟨w.heap.size, 0, c.size, sz, false⟩ ∧ Rel w0 base nt loc' ⟨s.r, upd s.m id (some ⟨T, sz, k, false⟩)⟩ a (w.alloc (.cells c T)) := by
  have hloc := h.dom id hid
  refine ⟨upd loc id (some ⟨w.heap.size, 0, c.size, sz, false⟩), upd_same _ _ _, ?_⟩
  have hl : ∀ i L, loc i = some L → upd loc id (some ⟨w.heap.size, 0, c.size, sz, false⟩) i = some L := fun i L hi => by
    rw [upd_ne]; exact hi
    rintro rfl; rw [hloc] at hi; cases hi
  have hext : Ext w (w.alloc (.cells c T)) := (Below.refl _ _).alloc (Nat.le_refl _) _
  have hs : ∀ b, NB base s.m loc w b → (w.alloc (.cells c T)).heap[b]? = w.heap[b]? := fun b hb => hext.block b hb.1
  have hn : ∀ b, NB base s.m loc w b → NB base (upd s.m id (some ⟨T, sz, k, false⟩)) (upd loc id (some ⟨w.heap.size, 0, c.size, sz, false⟩)) (w.alloc (.cells c T)) b := by
    rintro b ⟨h1, h2, h3⟩
    refine ⟨by simp; omega, h2, ?_⟩
    rintro ⟨i, o, L, ho, hf, hL, hnil, hb⟩
    by_cases hi : i = id
    · subst hi
      rw [upd_same] at hL
      cases hL
      simp at hb; omega
    · rw [upd_ne _ _ hi] at ho hL
      exact h3 ⟨i, o, L, ho, hf, hL, hnil, hb⟩
  refine ⟨h.ext.tr hext, h.defers, h.size, h.low, ?_, fun t => (h.tmps t).mono hs hn hl, ?_, ?_, h.keepL.new hid _ _⟩
  · intro i hi
    dsimp only at hi
    by_cases e : i = id
    · subst e; rw [upd_same] at hi; cases hi
    · rw [upd_ne _ _ e] at hi ⊢; exact h.dom i hi
  · intro i o ho
    dsimp only at ho
    by_cases e : i = id
    · subst e
      rw [upd_same] at ho
      cases ho
      refine ⟨_, upd_same _ _ _, rfl, by simp, fun _ => ⟨c, (0, 0), heap_alloc_new w _, rfl, hk.mono hs hn hl, fun _ => ⟨.inl h.ext.size, ?_⟩, by simp⟩⟩
      intro x _
      simp
    · rw [upd_ne _ _ e] at ho
      obtain ⟨L, hL, hok⟩ := h.objs i o ho
      refine ⟨L, hl i L hL, hok.sz, hok.nil, fun hnil => ?_⟩
      obtain ⟨c', fr, h1, h2, h3, h4, h5⟩ := hok.at_ hnil
      have hlt := h.obj_lt ho hL hnil
      exact ⟨c', fr, (hext.block _ hlt).trans h1, h2, h3.mono hs hn hl, h4, fun hf => hn _ (h5 hf)⟩
  · intro i i' o o' L L' ho ho' hf hL hL' hnil hnil' hb
    dsimp only at ho ho'
    by_cases e : i = id
    · subst e
      rw [upd_same] at hL
      cases hL
      by_cases e' : i' = i
      · exact e'.symm
      · rw [upd_ne _ _ e'] at ho' hL'
        have := h.obj_lt ho' hL' hnil'
        simp at hb; omega
    · rw [upd_ne _ _ e] at ho hL
      by_cases e' : i' = id
      · subst e'
        rw [upd_same] at hL'
        cases hL'
        have := h.obj_lt ho hL hnil
        simp at hb; omega
      · rw [upd_ne _ _ e'] at ho' hL'
        exact h.inj i i' o o' L L' ho ho' hf hL hL' hnil hnil' hb
end

end Go.Proofs.Ytlnhembcfhfpkaa.M
