/- A call's variables: which blocks they are, what they hold. -/
import Derived.Test.YtbbidekjbgjooaaGcd
namespace Go.Proofs.Ytbbidekjbgjooaa
open Go.RowKit

/-- The call began in w; in wc its variables are the blocks of L, with what they hold. -/
def St (w wc : World) (L : List (Nat × TypeId × Array Value)) : Prop :=
  Ext w wc ∧ (L.map (·.1)).Pairwise (· > ·) ∧ ∀ e ∈ L, w.heap.size ≤ e.1 ∧ Box wc e.1 e.2.1 e.2.2

theorem Box.set1 {w : World} {n : Nat} {T : TypeId} {vs : Array Value} (h : Box w n T vs) (k : Nat) (u : Value) : Box (w.setCell ⟨n, k, none⟩ u) n T (vs.setIfInBounds k u) := by
  unfold Box at h ⊢
  simp [World.setCell, Array.getElem?_modify, h]

section
variable {w wc w' : World} {L : List (Nat × TypeId × Array Value)} {n i k : Nat} {T : TypeId} {vs : Array Value}
/-- The blocks' order, newest first. -/
def Desc : List (Nat × TypeId × Array Value) → Prop
  | [] => True
  | [_] => True
  | a :: b :: t => b.1 < a.1 ∧ Desc (b :: t)
theorem Desc.of : ∀ {L : List (Nat × TypeId × Array Value)}, (L.map (·.1)).Pairwise (· > ·) → Desc L
  | [], _ => trivial
  | [_], _ => trivial
  | a :: b :: t, h => by
    rw [List.map_cons, List.pairwise_cons] at h
    exact ⟨h.1 _ (by simp), Desc.of h.2⟩
theorem St.desc (h : St w wc L) : Desc L := .of h.2.1
theorem St.nil (w : World) : St w w [] := ⟨Ext.rf w, by simp, fun e he => by cases he⟩
theorem St.ext (h : St w wc L) : Ext w wc := h.1
theorem St.keep (h : St w wc L) (e : Ext wc w') : St w w' L := ⟨h.1.tr e, h.2.1, fun x hx => ⟨(h.2.2 x hx).1, (h.2.2 x hx).2.keep e⟩⟩
theorem St.dr (h : St w wc L) : St w wc.drew L := h.keep (Ext.rf _).dr
theorem St.add (h : St w wc L) (vs : Array Value) (T : TypeId) : St w (wc.alloc (.cells vs T)) ((wc.heap.size, T, vs) :: L) := by
  refine ⟨h.1.al _, ?_, ?_⟩
  · rw [List.map_cons, List.pairwise_cons]
    refine ⟨fun m hm => ?_, h.2.1⟩
    obtain ⟨e, he, rfl⟩ := List.mem_map.1 hm
    exact (h.2.2 e he).2.lt
  · intro e he
    rcases List.mem_cons.1 he with rfl | he
    · exact ⟨h.1.size, Box.new rfl⟩
    · exact ⟨(h.2.2 e he).1, (h.2.2 e he).2.al _⟩
theorem St.add' (h : St w wc L) {vs : Array Value} {T : TypeId} (hn : n = wc.heap.size) : St w (wc.alloc (.cells vs T)) ((n, T, vs) :: L) := by subst hn; exact h.add vs T
theorem St.own (h : St w wc L) (hb : Box wc n T vs) (hw : w.heap.size ≤ n) (hn : ∀ e ∈ L, e.1 < n) : St w wc ((n, T, vs) :: L) := by
  refine ⟨h.1, ?_, ?_⟩
  · rw [List.map_cons, List.pairwise_cons]
    refine ⟨fun m hm => ?_, h.2.1⟩
    obtain ⟨e, he, rfl⟩ := List.mem_map.1 hm
    exact hn e he
  · intro e he
    rcases List.mem_cons.1 he with rfl | he
    · exact ⟨hw, hb⟩
    · exact h.2.2 e he
theorem St.own' {w2 : World} (h : St w wc L) (e : Ext wc w2) (hb : Box w2 n T vs) (hn : n = wc.heap.size) : St w w2 ((n, T, vs) :: L) := by
  subst hn
  exact (h.keep e).own hb h.1.size (fun x hx => (h.2.2 x hx).2.lt)
theorem St.box (h : St w wc L) (i : Nat) (hi : L[i]? = some (n, T, vs)) : Box wc n T vs := (h.2.2 _ (List.mem_of_getElem? hi)).2
theorem St.ge (h : St w wc L) (i : Nat) (hi : L[i]? = some (n, T, vs)) : w.heap.size ≤ n := (h.2.2 _ (List.mem_of_getElem? hi)).1
theorem St.lt (h : St w wc L) (i : Nat) (hi : L[i]? = some (n, T, vs)) : n < wc.heap.size := (h.box i hi).lt
theorem St.ne (h : St w wc L) (i j : Nat) {m : Nat} {U : TypeId} {us : Array Value} (hi : L[i]? = some (n, T, vs)) (hj : L[j]? = some (m, U, us)) (hij : i ≠ j) : n ≠ m := by
  rintro rfl
  have h1 : (L.map (·.1))[i]? = some n := by rw [List.getElem?_map, hi]; rfl
  have h2 : (L.map (·.1))[j]? = some n := by rw [List.getElem?_map, hj]; rfl
  exact hij ((List.getElem?_inj (List.getElem?_eq_some_iff.1 h1).1 (h.2.1.imp (fun h e => by omega))).1 (h1.trans h2.symm))
theorem St.set1 (h : St w wc L) (i : Nat) (hi : L[i]? = some (n, T, vs)) (k : Nat) (u : Value) : St w (wc.setCell ⟨n, k, none⟩ u) (L.set i (n, T, vs.setIfInBounds k u)) := by
  refine ⟨h.1.st (h.ge i hi) _, ?_, ?_⟩
  · have : (L.set i (n, T, vs.setIfInBounds k u)).map (·.1) = L.map (·.1) := by
      rw [List.map_set]
      apply List.ext_getElem?
      intro j
      rw [List.getElem?_set]
      split
      · rename_i e
        subst e
        have hl := (List.getElem?_eq_some_iff.1 hi).1
        rw [if_pos (by simpa using hl), List.getElem?_map, hi]
        rfl
      · rfl
    rw [this]; exact h.2.1
  · intro e he
    obtain ⟨j, hj⟩ := List.mem_iff_getElem?.1 he
    by_cases hij : i = j
    · subst hij
      have hl := (List.getElem?_eq_some_iff.1 hi).1
      rw [List.getElem?_set_self hl] at hj
      injection hj with hj
      subst hj
      exact ⟨h.ge i hi, (h.box i hi).set1 _ _⟩
    · rw [List.getElem?_set_ne hij] at hj
      have hm := h.2.2 e (List.mem_of_getElem? hj)
      exact ⟨hm.1, hm.2.far (h.ne j i hj hi (fun e => hij e.symm)) _⟩
theorem St.set2 (h : St w wc L) (i : Nat) {a b : Value} (hi : L[i]? = some (n, T, #[a, b])) (u v : Value) : St w ((wc.setCell ⟨n, 0, none⟩ u).setCell ⟨n, 1, none⟩ v) (L.set i (n, T, #[u, v])) := by
  have h1 := h.set1 i hi 0 u
  have hl := (List.getElem?_eq_some_iff.1 hi).1
  have h2 := h1.set1 i (n := n) (T := T) (vs := #[u, b]) (by rw [List.getElem?_set_self hl]; rfl) 1 v
  rw [List.set_set] at h2
  exact h2
theorem St.facts (h : St w wc L) (i : Nat) {a b : Value} (hi : L[i]? = some (n, T, #[a, b])) : wc.cell? ⟨n, 0, none⟩ = some a ∧ wc.cell? ⟨n, 1, none⟩ = some b ∧ wc.frozen? ⟨n, 0, none⟩ = false ∧ wc.frozen? ⟨n, 1, none⟩ = false := (h.box i hi).facts
theorem St.kept2 (h : St w wc L) (i : Nat) {U : TypeId} (hi : L[i]? = some (n, T, vs)) (hT : U ≠ T) (u v : Value) : Kept U wc ((wc.setCell ⟨n, 0, none⟩ u).setCell ⟨n, 1, none⟩ v) := (Kept.rf _ _).st2 (h.box i hi).ty hT u v

/-- Behind w3, all blocks are as they were but block n, a variable of two cells. -/
def Wr (n : Nat) (T : TypeId) (w3 w' : World) : Prop := (∀ b, b < w3.heap.size → b ≠ n → w'.heap[b]? = w3.heap[b]?) ∧ w3.heap.size ≤ w'.heap.size ∧ Bx w' T n
theorem Wr.of {w3 w' : World} (h : Ext w3 w') (hb : Bx w' T n) : Wr n T w3 w' := ⟨fun b hb _ => h.block b hb, h.size, hb⟩
theorem Wr.keep {w3 w' w'' : World} (h : Wr n T w3 w') (e : Ext w' w'') : Wr n T w3 w'' := ⟨fun b hb hn => (e.block b (Nat.lt_of_lt_of_le hb h.2.1)).trans (h.1 b hb hn), Nat.le_trans h.2.1 e.size, h.2.2.keep e⟩
theorem Wr.st2 {w3 w' : World} (h : Wr n T w3 w') (u v : Value) : Wr n T w3 ((w'.setCell ⟨n, 0, none⟩ u).setCell ⟨n, 1, none⟩ v) :=
  ⟨fun b hb hn => (Below.heap_setCell _ ⟨n, 1, none⟩ _ b hn).trans ((Below.heap_setCell _ ⟨n, 0, none⟩ _ b hn).trans (h.1 b hb hn)), by simpa using h.2.1, h.2.2.st2 _ _⟩
theorem Wr.cell {w3 w' : World} (h : Wr n T w3 w') {m k : Nat} {v : Value} (hm : w3.cell? ⟨m, k, none⟩ = some v) (hn : m ≠ n) : w'.cell? ⟨m, k, none⟩ = some v := by
  have hl : m < w3.heap.size := by
    rcases Nat.lt_or_ge m w3.heap.size with h | h
    · exact h
    · simp [World.cell?, Array.getElem?_eq_none h] at hm
  exact (World.cell?_of_block (w := w3) (w' := w') (a := ⟨m, k, none⟩) (h.1 m hl hn)).trans hm
end

end Go.Proofs.Ytbbidekjbgjooaa
