/- A slice of numbers that the call itself appends to. -/
import Derived.Test.YtbbidekjbgjooaaOwn
namespace Go.Proofs.Ytbbidekjbgjooaa
open Go.RowKit

/-- The slice s owns the numbers l, in a row among the blocks from base on (or is nil and owns nothing). -/
def Rw (w : World) (base : Nat) (k : IntKind) (s : SV) (l : List Int) : Prop := w.ownsRow base (ET k) 1 (.slice s.a s.len s.cap) l.length (l.map (Value.int k))

section
variable {w w' : World} {base : Nat} {k : IntKind} {s : SV} {l : List Int}

theorem Rw.nil_ (w : World) (base : Nat) (k : IntKind) : Rw w base k ⟨none, 0, 0⟩ [] := World.ownsRow_nil _ _ _ _
theorem Rw.len (h : Rw w base k s l) : s.len = l.length := by
  rcases h.2 with ⟨hv, hl⟩ | ⟨g, cap, cur, hv, _⟩
  · injection hv with _ e _; omega
  · injection hv
theorem Rw.cap_ (h : Rw w base k s l) : l.length ≤ s.cap ∧ s.cap ≤ 9223372036854775807 := by
  rcases h.2 with ⟨hv, hl⟩ | ⟨g, cap, cur, hv, _, _, h1, h2, _⟩
  · injection hv with _ _ e; omega
  · injection hv with _ _ e; subst e; exact ⟨h1, h2⟩
theorem Rw.keep (h : Rw w base k s l) (e : Ext w w') : Rw w' base k s l := by
  obtain ⟨h1, h2⟩ := h
  refine ⟨h1, ?_⟩
  rcases h2 with h2 | ⟨g, cap, cur, hv, hb, hg, rest⟩
  · exact .inl h2
  · exact .inr ⟨g, cap, cur, hv, hb, (e.block g (Array.getElem?_eq_some_iff.1 hg).1).trans hg, rest⟩
theorem Rw.al (h : Rw w base k s l) (o : Obj) : Rw (w.alloc o) base k s l := h.keep ((Ext.rf w).al o)
theorem Rw.dr (h : Rw w base k s l) : Rw w.drew base k s l := h
theorem Rw.kept (h : Rw w base k s l) (e : Kept (ET k) w w') : Rw w' base k s l := by
  obtain ⟨h1, h2⟩ := h
  refine ⟨h1, ?_⟩
  rcases h2 with h2 | ⟨g, cap, cur, hv, hb, hg, rest⟩
  · exact .inl h2
  · exact .inr ⟨g, cap, cur, hv, hb, (e g ⟨_, _, hg⟩).trans hg, rest⟩
theorem Rw.open_ (h : Rw w base k s l) (hl : 0 < l.length) : ∃ g cap, s = ⟨some ⟨g, 0, none⟩, l.length, cap⟩ ∧ base ≤ g ∧ Ty w g (ET k) ∧ l.length ≤ cap ∧ cap ≤ 9223372036854775807 ∧
    (∀ j, j < l.length → w.cell? ⟨g, j, none⟩ = some (.int k (at_ l j))) ∧ (∀ j, w.frozen? ⟨g, j, none⟩ = false) := by
  have h0 := h
  rcases h.2 with ⟨hv, hn⟩ | ⟨g, cap, cur, hv, hb, hg, h1, h2, _⟩
  · omega
  · obtain ⟨a, n, c⟩ := s
    simp only [Value.slice.injEq] at hv
    obtain ⟨rfl, rfl, rfl⟩ := hv
    refine ⟨g, c, rfl, hb, ⟨_, _, hg⟩, h1, h2, fun j hj => ?_, fun j => World.ownsRow.frozenAt h0 j⟩
    have := World.ownsRow.cellAt h0 j (by simpa using hj)
    rw [this]
    simp [at_, hj]
theorem Rw.set {g cap : Nat} (h : Rw w base k ⟨some ⟨g, 0, none⟩, l.length, cap⟩ l) (j : Nat) (v : Int) : Rw (w.setCell ⟨g, j, none⟩ (.int k v)) base k ⟨some ⟨g, 0, none⟩, l.length, cap⟩ (l.set j v) := by
  have := (World.ownsRow.stored h j (.int k v)).1
  unfold Rw
  rw [List.length_set, List.map_set]
  exact this
theorem Rw.set' {g n cap : Nat} (h : Rw w base k ⟨some ⟨g, 0, none⟩, n, cap⟩ l) (j : Nat) (v : Int) : Rw (w.setCell ⟨g, j, none⟩ (.int k v)) base k ⟨some ⟨g, 0, none⟩, n, cap⟩ (l.set j v) := by
  obtain rfl : n = l.length := h.len
  exact h.set j v
theorem Rw.isL (h : Rw w base k s l) (hf : ∀ x ∈ l, Fit k x) : IsL w s k l := by
  have h1 := h.len
  have h2 := h.cap_
  obtain ⟨a, n, c⟩ := s
  simp only at h1 h2
  subst h1
  refine IsL.mk_ h2.1 h2.2 (fun hl => ?_) hf
  obtain ⟨g, cap, he, hb, ht, _, _, hc, _⟩ := h.open_ hl
  simp only [SV.mk.injEq] at he
  exact ⟨g, 0, he.1, ht, fun j hj => by rw [Nat.zero_add]; exact hc j hj⟩
theorem Rw.take {g n cap m : Nat} (h : Rw w base k ⟨some ⟨g, 0, none⟩, n, cap⟩ l) (hm : m ≤ n) : Rw w base k ⟨some ⟨g, 0, none⟩, m, cap⟩ (l.take m) := by
  obtain rfl : n = l.length := h.len
  have hl : (l.take m).length = m := by simp; omega
  rcases h.2 with ⟨hv, _⟩ | ⟨g', cap', cur, hv, hb, hg, h1, h2, h3, h4⟩
  · cases hv
  · simp only [Value.slice.injEq] at hv
    obtain ⟨e1, -, rfl⟩ := hv
    unfold Rw
    rw [hl]
    refine ⟨by simp; omega, .inr ⟨g', cap, cur, by rw [e1], hb, hg, by omega, h2, h3, ?_⟩⟩
    rw [List.map_take, ← h4, List.take_take]
    congr 1; omega
theorem Rw.of_own {b : Nat} (h : Own w b (ET k) k l) (hb : base ≤ b) (hm : l.length ≤ 9223372036854775807) : Rw w base k ⟨some ⟨b, 0, none⟩, l.length, l.length⟩ l :=
  ⟨by simp, .inr ⟨b, l.length, _, rfl, hb, h, Nat.le_refl _, hm, by simp, by simpa using List.take_of_length_le (by simp)⟩⟩
end

/-- 'out = append(out, x)' of one number: it may grow. W0: the world when the call's own rows began. -/
theorem wpL_app1 {P : Program} (w : World) {ops : Array Oper} {rest : List Oper} {o : Oper} {a : Act} {Q : Exit → Act → World → Prop} (hgd : o.guard = none) (sl x : Operand) (t : TypeId)
    (ho : o.op = .call { callee := .builtin .append, args := #[sl, x], argTypes := #[t, t] })
    (k : IntKind) (bytes : Nat) (ht : P.underlying t = some (.slice (ET k))) (hinfo : (P.info? (ET k)).map (fun i => (i.zero, i.size, i.bytes)) = some (some (.int k 0), 1, bytes))
    (W0 : World) (s : SV) (l : List Int) (v : Int) (hs : a.eval sl = .slice s.a s.len s.cap) (hx : a.eval x = .slice (some ⟨w.heap.size, 0, none⟩) 1 1) (hown : Rw w W0.heap.size k s l) (hE : Ext W0 w)
    (hb : (l.length + 1) * bytes ≤ 140737488355328) (h63 : l.length + 1 ≤ 9223372036854775807)
    (h : ∀ (s' : SV) (w' : World), Rw w' W0.heap.size k s' (l ++ [v]) → Ext W0 w' → (∀ T, T ≠ ET k → Kept T w w') → wpList P ops Q rest (a.put o.dst (.slice s'.a s'.len s'.cap)) w') :
    wpList P ops Q (o :: rest) a (w.alloc (.cells #[.int k v] (ET k))) := by
  obtain ⟨i, hi, hz0, hz1, hz2⟩ := info_parts hinfo
  refine wpList_append_own _ hgd sl x t ho W0.heap.size (ET k) i _ 1 bytes ht hi hz0 hz1 hz2 rfl (by omega) (.slice s.a s.len s.cap) l.length (l.map (Value.int k)) hs (hown.al _) ⟨w.heap.size, 0, none⟩ 1 1 [.int k v] hx rfl
    (by intro j u hu; match j, hu with | 0, hu => simp at hu; subst hu; simp [Addr.add]) (by intro u hu; simp at hu; subst hu; rfl) h63 hb (Nat.le_trans hE.size (by simp)) ?_
  intro v' w' hown' hgr hnil
  have hform : ∃ s' : SV, v' = .slice s'.a s'.len s'.cap := by
    rcases hown'.2 with ⟨e, _⟩ | ⟨g, cap, cur, e, _⟩
    · exact ⟨⟨none, 0, 0⟩, e⟩
    · exact ⟨⟨some ⟨g, 0, none⟩, _, cap⟩, e⟩
  obtain ⟨s', rfl⟩ := hform
  refine h s' w' ?_ ((hE.al _).gr hgr ?_) ?_
  · unfold Rw
    rw [List.length_append, List.map_append]
    exact hown'
  · intro g hg
    rcases hown.2 with ⟨e, _⟩ | ⟨g', cap, cur, e, hb', _⟩
    · rw [e] at hg; cases hg
    · rw [e] at hg
      simp only [Value.ownBlock, Option.some.injEq] at hg
      omega
  · intro T hT b hb
    refine (hgr.block b (by have := hb.lt; simp; omega) ?_).trans (Below.heap_alloc _ _ _ hb.lt)
    intro e
    rcases hown.2 with ⟨e', _⟩ | ⟨g', cap, cur, e', _, hg', _⟩
    · rw [e'] at e; cases e
    · rw [e'] at e
      simp only [Value.ownBlock, Option.some.injEq] at e
      subst e
      exact Ty.ne_ hb ⟨_, _, hg'⟩ hT rfl

end Go.Proofs.Ytbbidekjbgjooaa
