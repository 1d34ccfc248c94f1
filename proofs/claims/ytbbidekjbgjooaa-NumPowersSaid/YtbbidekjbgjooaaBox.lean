/- Boxes: a variable's block, known whole. -/
import Derived.Test.YtbbidekjbgjooaaDivD
namespace Go.Proofs.Ytbbidekjbgjooaa
open Go.RowKit

/-- Block n is a variable of type T that holds vs. -/
def Box (w : World) (n : Nat) (T : TypeId) (vs : Array Value) : Prop := w.heap[n]? = some (.cells vs T (0, 0))

/-- An Int's two cells. -/
abbrev iv (x : IV) : Array Value := #[.bool x.n, .slice x.s.a x.s.len x.s.cap]
/-- The number 0, as it lies in a new variable. -/
abbrev zI : IV := ⟨false, ⟨none, 0, 0⟩⟩

section
variable {w w' : World} {n : Nat} {T : TypeId} {vs : Array Value}

theorem Box.lt (h : Box w n T vs) : n < w.heap.size := by
  rcases Nat.lt_or_ge n w.heap.size with hlt | hge
  · exact hlt
  · unfold Box at h; rw [Array.getElem?_eq_none hge] at h; cases h
theorem Box.ty (h : Box w n T vs) : Ty w n T := ⟨_, _, h⟩
theorem Box.cell (h : Box w n T vs) (i : Nat) {v : Value} (hi : vs[i]? = some v) : w.cell? ⟨n, i, none⟩ = some v := by
  unfold Box at h
  simp [World.cell?, h, hi]
theorem Box.frozen (h : Box w n T vs) (i : Nat) : w.frozen? ⟨n, i, none⟩ = false := by
  unfold Box at h
  simp [World.frozen?, h]
theorem Box.keep (h : Box w n T vs) (e : Ext w w') : Box w' n T vs := (e.block n h.lt).trans h
theorem Box.dr (h : Box w n T vs) : Box w.drew n T vs := h
theorem Box.al (h : Box w n T vs) (o : Obj) : Box (w.alloc o) n T vs := h.keep ((Ext.rf w).al o)
theorem Box.far (h : Box w n T vs) {p : Addr} (hp : n ≠ p.block) (u : Value) : Box (w.setCell p u) n T vs := (Below.heap_setCell w p u n hp).trans h
theorem Box.far2 {m : Nat} (h : Box w n T vs) (hm : n ≠ m) (u v : Value) : Box ((w.setCell ⟨m, 0, none⟩ u).setCell ⟨m, 1, none⟩ v) n T vs := (h.far (p := ⟨m, 0, none⟩) hm u).far (p := ⟨m, 1, none⟩) hm v
theorem Box.new {w : World} {n : Nat} {T : TypeId} {vs : Array Value} (hn : n = w.heap.size) : Box (w.alloc (.cells vs T)) n T vs := by subst hn; exact heap_alloc_new w _
theorem Box.set2 {a b : Value} (h : Box w n T #[a, b]) (u v : Value) : Box ((w.setCell ⟨n, 0, none⟩ u).setCell ⟨n, 1, none⟩ v) n T #[u, v] := by
  unfold Box at h ⊢
  simp [World.setCell, Array.getElem?_modify, h]

/-- What the walk asks of a variable of two cells. -/
theorem Box.facts {a b : Value} (h : Box w n T #[a, b]) : w.cell? ⟨n, 0, none⟩ = some a ∧ w.cell? ⟨n, 1, none⟩ = some b ∧ w.frozen? ⟨n, 0, none⟩ = false ∧ w.frozen? ⟨n, 1, none⟩ = false :=
  ⟨h.cell 0 rfl, h.cell 1 rfl, h.frozen 0, h.frozen 1⟩
end

theorem IsI.st2 {w : World} {n : Nat} {T : TypeId} {vs : Array Value} {x : IV} {z : Int} (h : IsI w x z) (hb : Box w n T vs) (hT : 93 ≠ T) (u v : Value) : IsI ((w.setCell ⟨n, 0, none⟩ u).setCell ⟨n, 1, none⟩ v) x z :=
  h.kept ((Kept.rf _ _).st2 hb.ty hT u v)
theorem IsI.dr {w : World} {x : IV} {z : Int} (h : IsI w x z) : IsI w.drew x z := h.keep (Ext.rf w).dr

theorem Bx.far2 {w : World} {T : TypeId} {n m : Nat} (h : Bx w T n) (hm : n ≠ m) (u v : Value) : Bx ((w.setCell ⟨m, 0, none⟩ u).setCell ⟨m, 1, none⟩ v) T n := by
  obtain ⟨⟨a, h0⟩, ⟨b, h1⟩, f0, f1, t⟩ := h
  refine ⟨⟨a, ?_⟩, ⟨b, ?_⟩, by simpa using f0, by simpa using f1, (t.st _ _).st _ _⟩
  · rw [World.cell?_setCell_other _ _ _ _ (by simp), World.cell?_setCell_other _ _ _ _ (by simp)]; exact h0
  · rw [World.cell?_setCell_other _ _ _ _ (by simp), World.cell?_setCell_other _ _ _ _ (by simp)]; exact h1
theorem Box.bx {w : World} {n : Nat} {T : TypeId} {a b : Value} (h : Box w n T #[a, b]) : Bx w T n := ⟨⟨a, h.cell 0 rfl⟩, ⟨b, h.cell 1 rfl⟩, h.frozen 0, h.frozen 1, h.ty⟩

/-- A statement's end: from wc on, only the boxes of L (the results', say) may have been written; w: the world as the call began. -/
def EndSt (L : List (Nat × TypeId)) (w wc w' : World) : Prop :=
  Ext w w' ∧ Kept 93 wc w' ∧ ∀ e ∈ L, w.heap.size ≤ e.1 ∧ Bx w' e.2 e.1 ∧ 93 ≠ e.2

section
variable {L : List (Nat × TypeId)} {w wc w' w'' : World}
theorem EndSt.keep (h : EndSt L w wc w') (e : Ext w' w'') : EndSt L w wc w'' :=
  ⟨h.1.tr e, h.2.1.ex e, fun x hx => ⟨(h.2.2 x hx).1, (h.2.2 x hx).2.1.keep e, (h.2.2 x hx).2.2⟩⟩
theorem EndSt.st2 (h : EndSt L w wc w') {b : Nat} {T : TypeId} (hb : (b, T) ∈ L) (u v : Value) : EndSt L w wc ((w'.setCell ⟨b, 0, none⟩ u).setCell ⟨b, 1, none⟩ v) := by
  have h0 := h.2.2 _ hb
  refine ⟨h.1.st2 h0.1 _ _, h.2.1.st2 h0.2.1.2.2.2.2 h0.2.2 _ _, fun x hx => ⟨(h.2.2 x hx).1, ?_, (h.2.2 x hx).2.2⟩⟩
  by_cases e : x.1 = b
  · have h1 := (h.2.2 x hx).2.1
    rw [e] at h1 ⊢
    exact h1.st2 _ _
  · exact (h.2.2 x hx).2.1.far2 e _ _

theorem cell_st2 {w : World} {b : Nat} {p : Addr} {x : Value} (h : w.cell? p = some x) (hp : b ≠ p.block) (u v : Value) : ((w.setCell ⟨b, 0, none⟩ u).setCell ⟨b, 1, none⟩ v).cell? p = some x := by
  rw [World.cell?_setCell_other _ _ _ _ (by intro e; exact hp (by rw [← e])), World.cell?_setCell_other _ _ _ _ (by intro e; exact hp (by rw [← e]))]
  exact h
end

end Go.Proofs.Ytbbidekjbgjooaa
