/- A block of numbers that the call has made, known whole. -/
import Derived.Test.YtbbidekjbgjooaaBase
import Derived.BigQuiet
import Derived.Deep.QuietTactic
import Derived.Deep.RegionHeld3
namespace Go.Proofs.Ytbbidekjbgjooaa
open Go.RowKit

/-- Block b is just the numbers l, of kind k; nothing in it is frozen. -/
def Own (w : World) (b : Nat) (T : TypeId) (k : IntKind) (l : List Int) : Prop := w.heap[b]? = some (.cells (l.map (Value.int k)).toArray T (0, 0))

section
variable {w w' : World} {b : Nat} {T : TypeId} {k : IntKind} {l : List Int}

theorem Own.lt (h : Own w b T k l) : b < w.heap.size := by
  rcases Nat.lt_or_ge b w.heap.size with hlt | hge
  · exact hlt
  · unfold Own at h; rw [Array.getElem?_eq_none hge] at h; cases h

theorem Own.ty (h : Own w b T k l) : Ty w b T := ⟨_, _, h⟩

theorem Own.cell (h : Own w b T k l) {i : Nat} (hi : i < l.length) : w.cell? ⟨b, i, none⟩ = some (.int k (at_ l i)) := by
  rw [cell_of_row w b i _ T (0, 0) h]
  simp [at_, hi]

theorem Own.frozen (h : Own w b T k l) (i : Nat) : w.frozen? ⟨b, i, none⟩ = false := by
  unfold Own at h
  simp [World.frozen?, h]

theorem Own.keep (h : Own w b T k l) (e : Ext w w') : Own w' b T k l := (e.block b h.lt).trans h
theorem Own.kept (h : Own w b T k l) (e : Kept T w w') : Own w' b T k l := (e b h.ty).trans h
theorem Own.al (h : Own w b T k l) (o : Obj) : Own (w.alloc o) b T k l := (Below.heap_alloc w o b h.lt).trans h
theorem Own.dr (h : Own w b T k l) : Own w.drew b T k l := h
theorem Own.far (h : Own w b T k l) {p : Addr} (hp : b ≠ p.block) (u : Value) : Own (w.setCell p u) b T k l := (Below.heap_setCell w p u b hp).trans h
theorem Own.below {B : Nat} (h : Own w b T k l) (e : Below B w w') (hb : b < B) : Own w' b T k l := (e.block b hb).trans h

theorem Own.new {w : World} {n : Nat} {c : Array Value} {T : TypeId} {k : IntKind} {l : List Int} (hn : n = w.heap.size) (hc : c = (l.map (Value.int k)).toArray) : Own (w.alloc (.cells c T)) n T k l := by
  subst hn; subst hc; exact heap_alloc_new w _

theorem Own.set (h : Own w b T k l) (i : Nat) (v : Int) : Own (w.setCell ⟨b, i, none⟩ (.int k v)) b T k (l.set i v) := by
  unfold Own at h ⊢
  simp [World.setCell, Array.getElem?_modify, h, List.map_set]

theorem Own.isL (h : Own w b (ET k) k l) (hm : l.length ≤ 9223372036854775807) (hf : ∀ x ∈ l, Fit k x) : IsL w ⟨some ⟨b, 0, none⟩, l.length, l.length⟩ k l :=
  IsL.mk_ (Nat.le_refl _) hm (fun _ => ⟨b, 0, rfl, h.ty, fun j hj => by rw [Nat.zero_add]; exact h.cell hj⟩) hf

/-- What was known of a block at the head of a row of the call's own, full to its capacity. -/
theorem Own.of_row {base n : Nat} (h : w.ownsRow base T 1 (.slice (some ⟨b, 0, none⟩) n n) n (l.map (Value.int k))) : Own w b T k l := by
  obtain ⟨h1, h2⟩ := h
  rcases h2 with ⟨h2, _⟩ | ⟨g, cap, cur, hv, _, hg, _, _, hs, ht⟩
  · cases h2
  · injection hv with e1 e2 e3
    injection e1 with e1
    injection e1 with e1
    subst e1; subst e3
    unfold Own
    rw [hg, ← ht, List.take_of_length_le (by simp; omega)]
end

theorem grown_ext {a b : World} (h : a.grownBy b none) : Ext a b := (Ext.rf a).gr h (fun _ h => by cases h)

/-- 'make([]T, n)' of numbers, n a variable. -/
theorem wpL_make {P : Program} (w : World) {ops : Array Oper} {rest : List Oper} {o : Oper} {a : Act} {Q : Exit → Act → World → Prop}
    (hg : o.guard = none) (l c : Operand) (t : TypeId) (hop : o.op = Op.makeSlice t l c)
    (e : TypeId) (k : IntKind) (bytes : Nat) (h1 : P.underlying t = some (.slice e)) (hinfo : (P.info? e).map (fun i => (i.zero, i.size, i.bytes)) = some (some (.int k 0), 1, bytes))
    (kl kc : IntKind) (L C : Int) (n : Nat) (hl : a.eval l = .int kl L) (hc : a.eval c = .int kc C) (hL : L = (n : Int)) (hC : C = (n : Int)) (b2 : bytes * n ≤ 281474976710656) (b3 : n ≤ 9223372036854775807)
    (hK : ∀ w', Own w' w.heap.size e k (List.replicate n 0) → Ext w w' → w.heap.size < w'.heap.size → wpList P ops Q rest (a.put o.dst (.slice (some ⟨w.heap.size, 0, none⟩) n n)) w') :
    wpList P ops Q (o :: rest) a w := by
  obtain ⟨i, hi, hz0, hz1, hz2⟩ := info_parts hinfo
  refine wpList_make_full w hg l c t hop w.heap.size e i _ 1 h1 hi hz0 hz1 kl kc L C n hl hc hL hC (by rw [hz2]; exact b2) b3 (Nat.le_refl _) fun w' hown hgr => ?_
  have ho : Own w' w.heap.size e k (List.replicate n 0) := by
    have hx : (madeCells (Value.int k 0).cells (n * 1)).toList = (List.replicate n (0 : Int)).map (Value.int k) := by
      rw [Nat.mul_one]
      show (madeCells #[Value.int k 0] n).toList = _
      rw [toList_madeCells_one]; simp
    rw [hx] at hown
    exact Own.of_row hown
  exact hK w' ho (grown_ext hgr) ho.lt

/-- What is read below stays as it is: for the walk. -/
theorem bcell {W w1 : World} (hb : Ext W w1) : (∀ b o, b < W.heap.size → w1.cell? ⟨b, o, none⟩ = W.cell? ⟨b, o, none⟩) ∧ (∀ b o, b < W.heap.size → w1.frozen? ⟨b, o, none⟩ = W.frozen? ⟨b, o, none⟩) :=
  ⟨fun b o h => hb.cell (p := ⟨b, o, none⟩) h, fun b o h => hb.frozen (p := ⟨b, o, none⟩) h⟩

/-- A new block of numbers, written out. -/
theorem isL_new {w : World} {n m : Nat} {c : Array Value} {k : IntKind} {l : List Int} (hn : n = w.heap.size) (hc : c = (l.map (Value.int k)).toArray) (hm : m = l.length) (hb : l.length ≤ 9223372036854775807) (hf : ∀ x ∈ l, Fit k x) :
    IsL (w.alloc (.cells c (ET k))) ⟨some ⟨n, 0, none⟩, m, m⟩ k l := by
  subst hm
  exact Own.isL (Own.new hn hc) hb hf

/-- What a region that calls keeps, for its loads. -/
def HeldR (W w' : World) : Prop := ∀ b o, b < W.heap.size → w'.cell? ⟨b, o, none⟩ = W.cell? ⟨b, o, none⟩
theorem held_of {W w' : World} (e : Ext W w') : Ext W w' ∧ (∀ b o, b < W.heap.size → w'.cell? ⟨b, o, none⟩ = W.cell? ⟨b, o, none⟩) := ⟨e, (bcell e).1⟩
theorem held_ext {W w' : World} {R : Prop} (e : Ext W w' ∧ R) : Ext W w' := e.1

/-- A box of two cells, of a struct of type T, that may be written. -/
def Bx (w : World) (T : TypeId) (n : Nat) : Prop := (∃ u, w.cell? ⟨n, 0, none⟩ = some u) ∧ (∃ u, w.cell? ⟨n, 1, none⟩ = some u) ∧ w.frozen? ⟨n, 0, none⟩ = false ∧ w.frozen? ⟨n, 1, none⟩ = false ∧ Ty w n T
theorem Bx.keep {w w' : World} {T : TypeId} {n : Nat} (h : Bx w T n) (e : Ext w w') : Bx w' T n := by
  obtain ⟨⟨u, h0⟩, ⟨v, h1⟩, f0, f1, t⟩ := h
  exact ⟨⟨u, cell_later e h0⟩, ⟨v, cell_later e h1⟩, (e.frozen (p := ⟨n, 0, none⟩) t.lt).trans f0, (e.frozen (p := ⟨n, 1, none⟩) t.lt).trans f1, t.keep e⟩
theorem Bx.dr {w : World} {T : TypeId} {n : Nat} (h : Bx w T n) : Bx w.drew T n := h
theorem Bx.new {w : World} {T : TypeId} {n : Nat} {x y : Value} (hn : n = w.heap.size) : Bx (w.alloc (.cells #[x, y] T)) T n := by
  subst hn
  exact ⟨⟨x, by simp⟩, ⟨y, by simp⟩, by simp, by simp, Ty.new _ _ _⟩
theorem Bx.st2 {w : World} {T : TypeId} {n : Nat} (h : Bx w T n) (x y : Value) : Bx ((w.setCell ⟨n, 0, none⟩ x).setCell ⟨n, 1, none⟩ y) T n := by
  obtain ⟨⟨u, h0⟩, ⟨v, h1⟩, f0, f1, t⟩ := h
  have h1' : (w.setCell ⟨n, 0, none⟩ x).cell? ⟨n, 1, none⟩ = some v := by rw [World.cell?_setCell_other _ _ _ _ (by simp)]; exact h1
  refine ⟨⟨x, ?_⟩, ⟨y, World.cell?_setCell_same _ _ _ h1'⟩, by simpa using f0, by simpa using f1, (t.st _ _).st _ _⟩
  rw [World.cell?_setCell_other _ _ _ _ (by simp)]
  exact World.cell?_setCell_same _ _ _ h0
theorem sb_ext {W w' : World} {R R' : Prop} (e : (Ext W w' ∧ R) ∧ R') : Ext W w' := e.1.1
theorem sb_bx {w' : World} {A : Prop} {T : TypeId} {n : Nat} (e : A ∧ Bx w' T n) : Bx w' T n := e.2

end Go.Proofs.Ytbbidekjbgjooaa
