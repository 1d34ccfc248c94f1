/- append of many numbers onto a row of the call's own. -/
import Derived.Test.YtbbidekjbgjooaaRow
import Derived.Laws.AppendOwnNone
namespace Go.Proofs.Ytbbidekjbgjooaa
open Go.RowKit

/-- One operation 'append(own, more...)': s, the row; t: what is appended, read as numbers (nil, it may be). -/
theorem wp_appN {P : Program} (w : World) {ops : Array Oper} {o : Oper} {a : Act} {Q : Exit → Act → World → Prop} (hgd : o.guard = none) (sl x : Operand) (t : TypeId)
    (ho : o.op = .call { callee := .builtin .append, args := #[sl, x], argTypes := #[t, t] })
    (k : IntKind) (bytes : Nat) (ht : P.underlying t = some (.slice (ET k))) (hinfo : (P.info? (ET k)).map (fun i => (i.zero, i.size, i.bytes)) = some (some (.int k 0), 1, bytes))
    (W0 : World) (s u : SV) (l m : List Int) (hs : a.eval sl = .slice s.a s.len s.cap) (hx : a.eval x = .slice u.a u.len u.cap) (hown : Rw w W0.heap.size k s l) (hu : IsL w u k m) (hnil : u.a = none → u.cap = 0) (hE : Ext W0 w)
    (hb : (l.length + m.length) * bytes ≤ 140737488355328) (h63 : l.length + m.length ≤ 9223372036854775807) {rest : List Oper}
    (h : ∀ (s' : SV) (w' : World), Rw w' W0.heap.size k s' (l ++ m) → Ext W0 w' → wpList P ops Q rest (a.put o.dst (.slice s'.a s'.len s'.cap)) w') :
    wpList P ops Q (o :: rest) a w := by
  obtain ⟨i, hi, hz0, hz1, hz2⟩ := info_parts hinfo
  obtain ⟨ao, cap, rfl, hc1, hc2, hop⟩ := hu.open_
  rcases ao with _ | ad
  · have h0 : m.length = 0 := by
      rcases Nat.eq_zero_or_pos m.length with h0 | h0
      · exact h0
      · obtain ⟨b, off, ha, _⟩ := hop h0
        cases ha
    have hm : m = [] := List.eq_nil_of_length_eq_zero h0
    subst hm
    have hc := hnil rfl
    simp only at hc
    subst hc
    refine wpList_append_own_none hgd sl x t ho W0.heap.size (ET k) i 1 ht hi (.slice s.a s.len s.cap) l.length (l.map (Value.int k)) hs hown hx ?_
    exact h s w (by simpa using hown) hE
  · refine wpList_append_own _ hgd sl x t ho W0.heap.size (ET k) i _ 1 bytes ht hi hz0 hz1 hz2 rfl (by omega) (.slice s.a s.len s.cap) l.length (l.map (Value.int k)) hs hown ad m.length cap (m.map (Value.int k)) hx (by simp)
      ?_ (by intro v hv; obtain ⟨z, _, rfl⟩ := List.mem_map.1 hv; rfl) h63 hb hE.size ?_
    · intro j v hv
      have hj : j < m.length := by
        have := (List.getElem?_eq_some_iff.1 hv).1
        simpa using this
      obtain ⟨b, off, ha, _, hc⟩ := hop (by omega)
      injection ha with ha
      subst ha
      have h1 := hc j hj
      rw [at_lt hj] at h1
      simp [hj] at hv
      rw [← hv]
      by_cases hj0 : j = 0
      · subst hj0; simpa [Addr.add] using h1
      · simpa [Addr.add, hj0] using h1
    · intro v' w' hown' hgr _
      have hform : ∃ s' : SV, v' = .slice s'.a s'.len s'.cap := by
        rcases hown'.2 with ⟨e, _⟩ | ⟨g, cap, cur, e, _⟩
        · exact ⟨⟨none, 0, 0⟩, e⟩
        · exact ⟨⟨some ⟨g, 0, none⟩, _, cap⟩, e⟩
      obtain ⟨s', rfl⟩ := hform
      refine h s' w' ?_ (hE.gr hgr ?_)
      · unfold Rw
        rw [List.length_append, List.map_append]
        exact hown'
      · intro g hg
        rcases hown.2 with ⟨e, _⟩ | ⟨g', cap, cur, e, hb', _⟩
        · rw [e] at hg; cases hg
        · rw [e] at hg
          simp only [Value.ownBlock, Option.some.injEq] at hg
          omega

end Go.Proofs.Ytbbidekjbgjooaa
