/- A call's variables, in no order of their blocks. -/
import Derived.Test.YtbbidekjbgjooaaLate
namespace Go.Proofs.Ytbbidekjbgjooaa
open Go.RowKit

/-- The call began in w; in wc its variables are the blocks of L, with what they hold; in no order. -/
def Vs (w wc : World) (L : List (Nat × TypeId × Array Value)) : Prop :=
  Ext w wc ∧ (L.map (·.1)).Nodup ∧ ∀ e ∈ L, w.heap.size ≤ e.1 ∧ Box wc e.1 e.2.1 e.2.2

section
variable {w wc w' : World} {L : List (Nat × TypeId × Array Value)} {n i k : Nat} {T : TypeId} {vs : Array Value}
theorem Vs.nil (w : World) : Vs w w [] := ⟨Ext.rf w, by simp, fun e he => by cases he⟩
theorem Vs.ext (h : Vs w wc L) : Ext w wc := h.1
theorem Vs.keep (h : Vs w wc L) (e : Ext wc w') : Vs w w' L := ⟨h.1.tr e, h.2.1, fun x hx => ⟨(h.2.2 x hx).1, (h.2.2 x hx).2.keep e⟩⟩
theorem Vs.dr (h : Vs w wc L) : Vs w wc.drew L := h.keep (Ext.rf _).dr
theorem Vs.add (h : Vs w wc L) (vs : Array Value) (T : TypeId) : Vs w (wc.alloc (.cells vs T)) ((wc.heap.size, T, vs) :: L) := by
  refine ⟨h.1.al _, ?_, ?_⟩
  · rw [List.map_cons, List.nodup_cons]
    refine ⟨fun hm => ?_, h.2.1⟩
    obtain ⟨e, he, he1⟩ := List.mem_map.1 hm
    have := (h.2.2 e he).2.lt
    omega
  · intro e he
    rcases List.mem_cons.1 he with rfl | he
    · exact ⟨h.1.size, Box.new rfl⟩
    · exact ⟨(h.2.2 e he).1, (h.2.2 e he).2.al _⟩
theorem Vs.add' (h : Vs w wc L) {vs : Array Value} {T : TypeId} (hn : n = wc.heap.size) : Vs w (wc.alloc (.cells vs T)) ((n, T, vs) :: L) := by subst hn; exact h.add vs T
theorem Vs.box (h : Vs w wc L) (i : Nat) (hi : L[i]? = some (n, T, vs)) : Box wc n T vs := (h.2.2 _ (List.mem_of_getElem? hi)).2
theorem Vs.ge (h : Vs w wc L) (i : Nat) (hi : L[i]? = some (n, T, vs)) : w.heap.size ≤ n := (h.2.2 _ (List.mem_of_getElem? hi)).1
theorem Vs.lt (h : Vs w wc L) (i : Nat) (hi : L[i]? = some (n, T, vs)) : n < wc.heap.size := (h.box i hi).lt
theorem Vs.ne (h : Vs w wc L) (i j : Nat) {m : Nat} {U : TypeId} {us : Array Value} (hi : L[i]? = some (n, T, vs)) (hj : L[j]? = some (m, U, us)) (hij : i ≠ j) : n ≠ m := by
  rintro rfl
  have h1 : (L.map (·.1))[i]? = some n := by rw [List.getElem?_map, hi]; rfl
  have h2 : (L.map (·.1))[j]? = some n := by rw [List.getElem?_map, hj]; rfl
  exact hij ((List.getElem?_inj (List.getElem?_eq_some_iff.1 h1).1 h.2.1).1 (h1.trans h2.symm))
theorem Vs.set1 (h : Vs w wc L) (i : Nat) (hi : L[i]? = some (n, T, vs)) (k : Nat) (u : Value) : Vs w (wc.setCell ⟨n, k, none⟩ u) (L.set i (n, T, vs.setIfInBounds k u)) := by
  refine ⟨h.1.st (h.ge i hi) _, ?_, ?_⟩
  · have : (L.set i (n, T, vs.setIfInBounds k u)).map (·.1) = L.map (·.1) := by
      rw [List.map_set]
      apply List.ext_getElem?
      intro j
      rw [List.getElem?_set]
      split
      · rename_i e
        subst e
        have hl := (List.getElem?_eq_some_iff.1 hi).1
        rw [if_pos (by simpa using hl), List.getElem?_map, hi]
        rfl
      · rfl
    rw [this]; exact h.2.1
  · intro e he
    obtain ⟨j, hj⟩ := List.mem_iff_getElem?.1 he
    by_cases hij : i = j
    · subst hij
      have hl := (List.getElem?_eq_some_iff.1 hi).1
      rw [List.getElem?_set_self hl] at hj
      injection hj with hj
      subst hj
      exact ⟨h.ge i hi, (h.box i hi).set1 _ _⟩
    · rw [List.getElem?_set_ne hij] at hj
      have hm := h.2.2 e (List.mem_of_getElem? hj)
      exact ⟨hm.1, hm.2.far (h.ne j i hj hi (fun e => hij e.symm)) _⟩
theorem Vs.set2 (h : Vs w wc L) (i : Nat) {a b : Value} (hi : L[i]? = some (n, T, #[a, b])) (u v : Value) : Vs w ((wc.setCell ⟨n, 0, none⟩ u).setCell ⟨n, 1, none⟩ v) (L.set i (n, T, #[u, v])) := by
  have h1 := h.set1 i hi 0 u
  have hl := (List.getElem?_eq_some_iff.1 hi).1
  have h2 := h1.set1 i (n := n) (T := T) (vs := #[u, b]) (by rw [List.getElem?_set_self hl]; rfl) 1 v
  rw [List.set_set] at h2
  exact h2
theorem Vs.tl {e : Nat × TypeId × Array Value} (h : Vs w wc (e :: L)) : Vs w wc L := ⟨h.1, (by have := h.2.1; rw [List.map_cons, List.nodup_cons] at this; exact this.2), fun x hx => h.2.2 x (.tail _ hx)⟩
/-- New variables, in whatever new blocks. -/
theorem Vs.more {W : World} {M : List (Nat × TypeId × Array Value)} (h : Vs w W L) (e : Ext W w') (hn : (M.map (·.1)).Nodup) (hg : ∀ x ∈ M, W.heap.size ≤ x.1) (hb : ∀ x ∈ M, Box w' x.1 x.2.1 x.2.2) : Vs w w' (M ++ L) := by
  refine ⟨h.1.tr e, ?_, fun x hx => ?_⟩
  · rw [List.map_append, List.nodup_append]
    refine ⟨hn, h.2.1, fun a ha b hb' => ?_⟩
    obtain ⟨x, hx, rfl⟩ := List.mem_map.1 ha
    obtain ⟨y, hy, rfl⟩ := List.mem_map.1 hb'
    have h1 := hg x hx
    have h2 := (h.2.2 y hy).2.lt
    omega
  · rcases List.mem_append.1 hx with hx | hx
    · exact ⟨Nat.le_trans h.1.size (hg x hx), hb x hx⟩
    · exact ⟨(h.2.2 x hx).1, (h.2.2 x hx).2.keep e⟩
theorem Vs.facts (h : Vs w wc L) (i : Nat) {a b : Value} (hi : L[i]? = some (n, T, #[a, b])) : wc.cell? ⟨n, 0, none⟩ = some a ∧ wc.cell? ⟨n, 1, none⟩ = some b ∧ wc.frozen? ⟨n, 0, none⟩ = false ∧ wc.frozen? ⟨n, 1, none⟩ = false := (h.box i hi).facts
theorem Vs.kept2 (h : Vs w wc L) (i : Nat) {U : TypeId} (hi : L[i]? = some (n, T, vs)) (hT : U ≠ T) (u v : Value) : Kept U wc ((wc.setCell ⟨n, 0, none⟩ u).setCell ⟨n, 1, none⟩ v) := (Kept.rf _ _).st2 (h.box i hi).ty hT u v


/-- The new variables of a region. -/
theorem more_of {W w' : World} {AL : List AE} : ∀ {ns : List Nat}, ns.length = AL.length → ns.Nodup → (∀ n ∈ ns, W.heap.size ≤ n) → (∀ e ∈ AL.zip ns, Box w' e.2 e.1.2.1 e.1.2.2) →
    (((AL.zip ns).map fun e => (e.2, e.1.2.1, e.1.2.2)).map (·.1)).Nodup ∧ (∀ x ∈ (AL.zip ns).map fun e => (e.2, e.1.2.1, e.1.2.2), W.heap.size ≤ x.1) ∧ (∀ x ∈ (AL.zip ns).map fun e => (e.2, e.1.2.1, e.1.2.2), Box w' x.1 x.2.1 x.2.2) := by
  intro ns hl hn hg hb
  refine ⟨?_, fun x hx => ?_, fun x hx => ?_⟩
  · rw [List.map_map]
    have e1 : ((fun x : Nat × TypeId × Array Value => x.1) ∘ fun e : AE × Nat => (e.2, e.1.2.1, e.1.2.2)) = Prod.snd := rfl
    rw [e1, List.map_snd_zip (by omega)]
    exact hn
  · obtain ⟨e, he, rfl⟩ := List.mem_map.1 hx
    exact hg _ (List.of_mem_zip he).2
  · obtain ⟨e, he, rfl⟩ := List.mem_map.1 hx
    exact hb e he
end

theorem bt_natAbs {z : Int} {n : Nat} (h : Bt z n) : Bt (z.natAbs : Int) n := h.le (by omega)

theorem madeSg_any (m : Bool) (x : IV) (z : Int) (w : World) (h : IsI w x z) : Calls Try.prog 64 #[.bool m, .slice x.s.a x.s.len x.s.cap] w (RetI w (sg m (z.natAbs : Int))) := by
  obtain ⟨l, hl, hv, hs⟩ := isI_abs h
  rw [sg_false] at hv hs
  have := made_any m x.s l w hl (hs.le (by rw [natAbs_sg]; exact Nat.le_refl _))
  rw [hv] at this
  exact this

theorem madeAbs_any (x : IV) (z : Int) (w : World) (h : IsI w x z) : Calls Try.prog 64 #[.bool false, .slice x.s.a x.s.len x.s.cap] w (RetI w (z.natAbs : Int)) := madeSg_any false x z w h

end Go.Proofs.Ytbbidekjbgjooaa
