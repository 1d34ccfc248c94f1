/- The small machine: regions, in their own order and in any. -/
import Derived.Test.YtlnhembcfhfpkaaMS
namespace Go.Proofs.Ytlnhembcfhfpkaa.M
open Go.RowKit

/-- No edge leads from x back to y. -/
def noEdge (ops : Array Oper) (x y : Nat) : Bool := match ops[x]? with
  | some o => o.after.all fun e => !Region.binds .any e || e.on != y
  | none => true
def beforeB (am : List Nat) (x y : Nat) : Bool := (am.getD y 0).testBit x
def pairsOk (ops : Array Oper) (am : List Nat) (ap : List (Nat × Nat)) : List (Nat × COp) → Bool
  | [] => true
  | x :: l => noEdge ops x.1 x.1 && l.all (fun y => noEdge ops x.1 y.1 && x.1 != y.1 && (beforeB am x.1 y.1 || swapOk ap x.2 y.2)) && pairsOk ops am ap l
def ancOk (ops : Array Oper) (am : List Nat) (n : Nat) : Bool := (List.range n).all fun i => match ops[i]? with
  | some o => o.after.all (fun e => !Region.binds .any e || decide (e.on < n)) && (List.range n).all fun j => !beforeB am j i || o.after.any fun e => Region.binds .any e && (e.on == j || beforeB am j e.on)
  | none => true
def regOk (ops : Array Oper) (am : List Nat) (ap : List (Nat × Nat)) (l : List (Nat × COp)) : Bool :=
  l.length == ops.size && (List.range ops.size).all (fun i => (l.map (·.1)).contains i) && l.all (fun x => decide (x.1 < ops.size) && apFree ap x.2) && ancOk ops am ops.size && pairsOk ops am ap l

section
variable {C : Ctx} {s : St} {a : Act} {w : World} {ops : Array Oper} {Q : Exit → Act → World → Prop} {K : St → Prop} {am : List Nat} {ap : List (Nat × Nat)}

def Rp (ops : Array Oper) (am : List Nat) (ap : List (Nat × Nat)) (x y : Nat × COp) : Prop := noEdge ops x.1 y.1 = true ∧ x.1 ≠ y.1 ∧ (beforeB am x.1 y.1 = true ∨ swapOk ap x.2 y.2 = true)
theorem pairs_spec : ∀ {l : List (Nat × COp)}, pairsOk ops am ap l = true → l.Pairwise (Rp ops am ap) ∧ ∀ x ∈ l, noEdge ops x.1 x.1 = true
  | [], _ => ⟨.nil, by simp⟩
  | x :: l, h => by
    simp only [pairsOk, Bool.and_eq_true, List.all_eq_true, Bool.or_eq_true, bne_iff_ne, ne_eq] at h
    obtain ⟨⟨h1, h2⟩, h3⟩ := h
    obtain ⟨g1, g2⟩ := pairs_spec h3
    refine ⟨.cons (fun y hy => ⟨(h2 y hy).1.1, (h2 y hy).1.2, (h2 y hy).2⟩) g1, fun y hy => ?_⟩
    rcases List.mem_cons.1 hy with rfl | hy
    · exact h1
    · exact g2 y hy

theorem noEdge_spec {x y : Nat} {o : Oper} (ho : ops[x]? = some o) (h : noEdge ops x y = true) : ∀ e ∈ o.after, Region.binds .any e = true → e.on ≠ y := by
  intro e he hb heq
  simp only [noEdge, ho, Array.all_eq_true_iff_forall_mem, Bool.or_eq_true, Bool.not_eq_true', bne_iff_ne, ne_eq] at h
  rcases h e he with h | h
  · rw [hb] at h; cases h
  · exact h heq

theorem anyRegion {al : Nat → Prop} (hC : C.Ok) (hanc : ancOk ops am ops.size = true) (hQ : ∀ t a' w', Is C t a' w' → K t → Q .normal a' w') :
    ∀ (n : Nat) (l : List (Nat × COp)) (listed : Array Bool) (s : St) (a : Act) (w : World), l.length = n → listed.size = ops.size →
      (∀ i, i < ops.size → (listed.getD i true = false ↔ i ∈ l.map (·.1))) → l.Pairwise (Rp ops am ap) → (∀ x ∈ l, noEdge ops x.1 x.1 = true ∧ x.1 < ops.size ∧ (apFree ap x.2 = true ∧ (x.2.alc = true → ∀ t, x.2.dst = some t → al t)) ∧ ∃ o, ops[x.1]? = some o ∧ cop C.P C.nt C.OT ops o = some x.2) →
      (∀ j, j < ops.size → listed.getD j true = true → ∀ k, k < ops.size → beforeB am k j = true → listed.getD k true = true) →
      Is C s a w → ApI al ap s.r → cops (ConX C.P C.A) (l.map (·.2)) K s → wpAny C.P .any ops Q n listed a w := by
  intro n
  induction n with
  | zero =>
    intro l listed s a w hl hsz hlist _ _ _ his _ hK
    have hnil : l = [] := List.eq_nil_of_length_eq_zero hl
    subst hnil
    refine ⟨?_, hQ s a w his hK⟩
    rw [List.eq_nil_iff_forall_not_mem]
    intro i hi
    obtain ⟨h1, o, ho, _⟩ := mem_ready.1 hi
    have := (hlist i (Array.getElem?_eq_some_iff.1 ho).1).1 h1
    simp at this
  | succ n ih =>
    intro l listed s a w hl hsz hlist hp hall hcl his hap hK
    refine ⟨fun h0 => ?_, fun i hi => ?_⟩
    · exfalso
      match l, hl, hlist, hp, hall with
      | x :: l', _, hlist, hp, hall =>
        obtain ⟨g1, g2, g3, o, ho, -⟩ := hall x (by simp)
        have hmem : x.1 ∈ Region.ready .any ops listed := by
          rw [mem_ready]
          refine ⟨(hlist x.1 g2).2 (by simp), o, ho, fun e he hb => ?_⟩
          have hon : e.on < ops.size := by
            simp only [ancOk, List.all_eq_true, List.mem_range] at hanc
            have := hanc x.1 g2
            rw [ho] at this
            simp only [Bool.and_eq_true, Array.all_eq_true_iff_forall_mem, Bool.or_eq_true, Bool.not_eq_true', decide_eq_true_eq] at this
            rcases this.1 e he with h | h
            · rw [hb] at h; cases h
            · exact h
          have hnot : ¬ (listed.getD e.on true = false) := by
            intro hf
            have := (hlist e.on hon).1 hf
            simp only [List.map_cons, List.mem_cons, List.mem_map] at this
            rcases this with h | ⟨y, hy, h⟩
            · exact noEdge_spec ho g1 e he hb h
            · exact noEdge_spec ho ((List.pairwise_cons.1 hp).1 y hy).1 e he hb h.symm
          have hlt : e.on < listed.size := by omega
          simp [hlt] at hnot ⊢
          exact hnot
        rw [h0] at hmem
        cases hmem
    · obtain ⟨h1, o, ho, hpre⟩ := mem_ready.1 hi
      have hin : i < ops.size := (Array.getElem?_eq_some_iff.1 ho).1
      have hmem := (hlist i hin).1 h1
      obtain ⟨x, hx, rfl⟩ := List.mem_map.1 hmem
      obtain ⟨l1, l2, rfl⟩ := List.append_of_mem hx
      obtain ⟨g1, g2, g3, o', ho', hcop⟩ := hall x hx
      rw [ho] at ho'
      cases ho'
      -- what has to come first has come
      have hbef : ∀ k, k < ops.size → beforeB am k x.1 = true → listed.getD k true = true := by
        intro k hk hb
        simp only [ancOk, List.all_eq_true, List.mem_range] at hanc
        have := hanc x.1 hin
        rw [ho] at this
        simp only [Bool.and_eq_true, List.all_eq_true, List.mem_range, Bool.or_eq_true, Bool.not_eq_true'] at this
        rcases this.2 k hk with h | h
        · rw [hb] at h; cases h
        · obtain ⟨e, he, hh⟩ := Array.any_eq_true'.1 h
          simp only [Bool.and_eq_true, Bool.or_eq_true, beq_iff_eq] at hh
          have hl' := hpre e he hh.1
          have hon : e.on < ops.size := by
            rw [← hsz]
            rcases Nat.lt_or_ge e.on listed.size with h' | h'
            · exact h'
            · simp [Array.getElem?_eq_none h'] at hl'
          have hlt : e.on < listed.size := by omega
          have hl'' : listed.getD e.on true = true := by simp [hlt] at hl' ⊢; exact hl'
          rcases hh.2 with rfl | hh2
          · exact hl''
          · exact hcl e.on hon hl'' k hk hh2
      have hsw : ∀ c' ∈ l1.map (·.2), swapOk ap c' x.2 = true ∧ apFree ap c' = true ∧ (c'.alc = true → ∀ t, c'.dst = some t → al t) := by
        intro c' hc'
        obtain ⟨y, hy, rfl⟩ := List.mem_map.1 hc'
        obtain ⟨q1, q2, q3, -⟩ := hall y (by simp [hy])
        have hR := (List.pairwise_append.1 hp).2.2 y hy x (by simp)
        refine ⟨hR.2.2.resolve_left fun hb => ?_, q3⟩
        have := hbef y.1 q2 hb
        have hf := (hlist y.1 q2).2 (by simp; exact .inl ⟨_, hy⟩)
        rw [hf] at this
        cases this
      have hK' : cops (ConX C.P C.A) (l1.map (·.2) ++ x.2 :: l2.map (·.2)) K s := by simpa using hK
      have hg := gstep_keep g3.1 g3.2 hap (cops_pull (l1.map (·.2)) (l2.map (·.2)) s hsw hap hK')
      refine wp_cop hC ho hcop his (fun t a' w' ht hk => ?_) hg
      have hsub : (l1 ++ l2).Sublist (l1 ++ x :: l2) := List.Sublist.append (List.Sublist.refl _) (List.sublist_cons_self _ _)
      have hxn : x.1 ∉ (l1 ++ l2).map (·.1) := by
        intro hm
        obtain ⟨y, hy, he⟩ := List.mem_map.1 hm
        rcases List.mem_append.1 hy with hy | hy
        · exact ((List.pairwise_append.1 hp).2.2 y hy x (by simp)).2.1 he
        · exact ((List.pairwise_cons.1 (List.pairwise_append.1 hp).2.1).1 y hy).2.1 he.symm
      refine ih (l1 ++ l2) _ t a' w' (by simp at hl ⊢; omega) (by simpa using hsz) (fun k hk' => ?_) (hp.sublist hsub) (fun y hy => hall y (hsub.subset hy)) (fun j hj hlj k hk' hb => ?_) ht hk.1 (by simpa using hk.2)
      · by_cases hkx : x.1 = k
        · subst hkx
          have hlt : x.1 < listed.size := by omega
          simp only [Array.getD_eq_getD_getElem?, Array.getElem?_setIfInBounds_self, hlt, if_true, Option.getD_some]
          exact ⟨fun h => (by cases h), fun h => absurd h hxn⟩
        · rw [getD_set_ne true hkx, hlist k hk']
          constructor
          · intro hm
            obtain ⟨y, hy, rfl⟩ := List.mem_map.1 hm
            simp only [List.mem_append, List.mem_cons] at hy
            rcases hy with hy | rfl | hy
            · exact List.mem_map.2 ⟨y, by simp [hy], rfl⟩
            · exact absurd rfl hkx
            · exact List.mem_map.2 ⟨y, by simp [hy], rfl⟩
          · intro hm
            obtain ⟨y, hy, rfl⟩ := List.mem_map.1 hm
            exact List.mem_map.2 ⟨y, hsub.subset hy, rfl⟩
      · have hset : ∀ q, listed.getD q true = true → (listed.setIfInBounds x.1 true).getD q true = true := by
          intro q hq
          by_cases hqx : x.1 = q
          · subst hqx
            have hlt : x.1 < listed.size := by omega
            simp [hlt]
          · rw [getD_set_ne true hqx]; exact hq
        by_cases hjx : x.1 = j
        · subst hjx
          exact hset k (hbef k hk' hb)
        · rw [getD_set_ne true hjx] at hlj
          exact hset k (hcl j hj hlj k hk' hb)
end

end Go.Proofs.Ytlnhembcfhfpkaa.M
