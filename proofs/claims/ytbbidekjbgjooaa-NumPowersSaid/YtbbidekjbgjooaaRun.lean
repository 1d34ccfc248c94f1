/- Regions that draw their order: what the cells hold till a store comes; one operation 'append(own, more...)'. -/
import Derived.Test.YtbbidekjbgjooaaSt
import Derived.Test.YtbbidekjbgjooaaAppN
namespace Go.Proofs.Ytbbidekjbgjooaa
open Go.RowKit

/-- These cells hold these values. -/
def Cs (w : World) (L : List (Nat × Nat × Value)) : Prop := ∀ e ∈ L, w.cell? ⟨e.1, e.2.1, none⟩ = some e.2.2

section
variable {w w' : World} {L : List (Nat × Nat × Value)}
theorem Cs.nil (w : World) : Cs w [] := fun e he => by cases he
theorem Cs.cons {b k : Nat} {v : Value} (h : w.cell? ⟨b, k, none⟩ = some v) (t : Cs w L) : Cs w ((b, k, v) :: L) := fun e he => by
  rcases List.mem_cons.1 he with rfl | he
  · exact h
  · exact t e he
theorem cs_cons {b k : Nat} {v : Value} : Cs w ((b, k, v) :: L) ↔ w.cell? ⟨b, k, none⟩ = some v ∧ Cs w L :=
  ⟨fun h => ⟨h _ (.head _), fun e he => h e (.tail _ he)⟩, fun h => Cs.cons h.1 h.2⟩
theorem cs_nil : Cs w [] ↔ True := ⟨fun _ => trivial, fun _ => Cs.nil w⟩
theorem Cs.keep (h : Cs w L) (e : Ext w w') : Cs w' L := fun x hx => cell_later e (h x hx)
/-- Block n is none of these. -/
def Off (n : Nat) : List (Nat × Nat × Value) → Prop
  | [] => True
  | e :: t => n ≠ e.1 ∧ Off n t
theorem Off.mem {n : Nat} (h : Off n L) : ∀ e ∈ L, n ≠ e.1 := by
  induction L with
  | nil => intro e he; cases he
  | cons x t ih =>
    intro e he
    rcases List.mem_cons.1 he with rfl | he
    · exact h.1
    · exact ih h.2 e he
theorem Cs.st2 {n : Nat} (h : Cs w L) (hn : Off n L) (u v : Value) : Cs ((w.setCell ⟨n, 0, none⟩ u).setCell ⟨n, 1, none⟩ v) L := fun e he => cell_st2' (h e he) (hn.mem e he) _ _
theorem Cs.st1 {n k : Nat} (h : Cs w L) (hn : Off n L) (u : Value) : Cs (w.setCell ⟨n, k, none⟩ u) L := fun e he => by
  rw [World.cell?_setCell_other _ _ _ _ (by intro e'; have := hn.mem e he; rw [Addr.mk.injEq] at e'; omega)]
  exact h e he
end

theorem run_append_none_any {P : Program} {w : World} (base : Nat) (t ty e : TypeId) (i : TypeInfo) (size : Nat) (c : Nat) (ht : P.underlying t = some (.slice e)) (hi : P.info? e = some i)
    (v : Value) (n : Nat) (xs : List Value) (hown : w.ownsRow base e size v n xs) :
    (Builtin.append_ #[t, t] ty #[v, .slice none 0 c]).run P w = .ok v w := by
  rcases hown.2 with ⟨rfl, rfl⟩ | ⟨g, cap, cur, rfl, _, _, hnc, _⟩
  · simp [Builtin.append_, run_underlying ht, sizeOf, typeInfo, hi, Builtin.lenOf, Builtin.firstCells]
  · simp [Builtin.append_, run_underlying ht, sizeOf, typeInfo, hi, Builtin.lenOf, Builtin.firstCells, hnc, storeCells]

/-- One operation 'append(own, more...)': s, the row; u: what is appended, read as numbers. -/
theorem op_appN {P : Program} (w : World) {o : Oper} {a : Act} {K : Act → World → Prop} {Q : Exit → Act → World → Prop} (sl x : Operand) (t : TypeId)
    (ho : o.op = .call { callee := .builtin .append, args := #[sl, x], argTypes := #[t, t] })
    (k : IntKind) (bytes : Nat) (ht : P.underlying t = some (.slice (ET k))) (hinfo : (P.info? (ET k)).map (fun i => (i.zero, i.size, i.bytes)) = some (some (.int k 0), 1, bytes))
    (W0 : World) (s u : SV) (l m : List Int) (hs : a.eval sl = .slice s.a s.len s.cap) (hx : a.eval x = .slice u.a u.len u.cap) (hown : Rw w W0.heap.size k s l) (hu : IsL w u k m) (hE : Ext W0 w)
    (hb : (l.length + m.length) * bytes ≤ 140737488355328) (h63 : l.length + m.length ≤ 9223372036854775807)
    (h : ∀ (s' : SV) (w' : World), Rw w' W0.heap.size k s' (l ++ m) → Ext W0 w' → K (a.put o.dst (.slice s'.a s'.len s'.cap)) w') :
    o.wp P a w K Q := by
  obtain ⟨i, hi, hz0, hz1, hz2⟩ := info_parts hinfo
  obtain ⟨ao, cap, rfl, hc1, hc2, hop⟩ := hu.open_
  rcases ao with _ | ad
  · have h0 : m.length = 0 := by
      rcases Nat.eq_zero_or_pos m.length with h0 | h0
      · exact h0
      · obtain ⟨b, off, ha, _⟩ := hop h0
        cases ha
    have hm : m = [] := List.eq_nil_of_length_eq_zero h0
    subst hm
    have hrun := run_append_none_any (P := P) (w := w) W0.heap.size t o.type (ET k) i 1 cap ht hi (.slice s.a s.len s.cap) l.length (l.map (Value.int k)) hown
    unfold Oper.wp
    simp [execOp, ho, resolve, invoke, builtin, hs, hx, hrun, Result.andThen]
    exact h s w (by simpa using hown) hE
  · refine wp_append_own (P := P) w sl x t ho W0.heap.size (ET k) i _ 1 bytes ht hi hz0 hz1 hz2 rfl (by omega) (.slice s.a s.len s.cap) l.length (l.map (Value.int k)) hs hown ad m.length cap (m.map (Value.int k)) hx (by simp)
      ?_ (by intro v hv; obtain ⟨z, _, rfl⟩ := List.mem_map.1 hv; rfl) h63 hb hE.size ?_
    · intro j v hv
      have hj : j < m.length := by
        have := (List.getElem?_eq_some_iff.1 hv).1
        simpa using this
      obtain ⟨b, off, ha, _, hc⟩ := hop (by omega)
      injection ha with ha
      subst ha
      have h1 := hc j hj
      rw [at_lt hj] at h1
      simp [hj] at hv
      rw [← hv]
      by_cases hj0 : j = 0
      · subst hj0; simpa [Addr.add] using h1
      · simpa [Addr.add, hj0] using h1
    · intro v' w' hown' hgr _
      have hform : ∃ s' : SV, v' = .slice s'.a s'.len s'.cap := by
        rcases hown'.2 with ⟨e, _⟩ | ⟨g, cap, cur, e, _⟩
        · exact ⟨⟨none, 0, 0⟩, e⟩
        · exact ⟨⟨some ⟨g, 0, none⟩, _, cap⟩, e⟩
      obtain ⟨s', rfl⟩ := hform
      refine h s' w' ?_ (hE.gr hgr ?_)
      · unfold Rw
        rw [List.length_append, List.map_append]
        exact hown'
      · intro g hg
        rcases hown.2 with ⟨e, _⟩ | ⟨g', cap, cur, e, hb', _⟩
        · rw [e] at hg; cases hg
        · rw [e] at hg
          simp only [Value.ownBlock, Option.some.injEq] at hg
          omega

end Go.Proofs.Ytbbidekjbgjooaa
