/- The small machine: code, and functions. -/
import Derived.Test.YtlnhembcfhfpkaaMT
namespace Go.Proofs.Ytlnhembcfhfpkaa.M
open Go.RowKit

/-- Code, in the small machine's words. -/
inductive CC where
  | skip
  | ops (ap : List (Nat × Nat)) (l : List COp)
  | seq (a b : CC)
  | cond (x : Opd) (a b : CC)
  | block (id : Nat) (a : CC)
  | loop (a : CC)
  | exit (id : Nat)
  | ret
inductive AExit where
  | normal
  | exit (id : Nat)
  | ret

/-- Whoever knows s knows t. -/
def Sub (OT : List TypeId) (s t : St) : Prop := ∀ (C : Ctx) (a : Act) (w : World), C.OT = OT → Is C s a w → Is C t a w
theorem Sub.rf {OT : List TypeId} (s : St) : Sub OT s s := fun _ _ _ _ h => h
theorem Sub.tr {OT : List TypeId} {s t u : St} (h : Sub OT s t) (k : Sub OT t u) : Sub OT s u := fun C a w e hs => k C a w e (h C a w e hs)

def cw (OT : List TypeId) (G : FuncId → List D → D → Prop) : CC → (AExit → St → Prop) → St → Prop
  | .skip, Q, s => Q .normal s
  | .ops ap l, Q, s => apOk ap s.r = true ∧ cops G l (Q .normal) s
  | .seq a b, Q, s => cw OT G a (fun e t => match e with
    | .normal => ∃ u, Sub OT t u ∧ cw OT G b Q u
    | e => Q e t) s
  | .cond x a b, Q, s => match x.ev s.r with
    | .p (.bool c) => (c = true → cw OT G a Q s) ∧ (c = false → cw OT G b Q s)
    | _ => False
  | .block id a, Q, s => cw OT G a (fun e t => match e with
    | .exit j => if j = id then Q .normal t else Q (.exit j) t
    | e => Q e t) s
  | .loop a, Q, s => ∀ R : St → Prop, (∀ t, cw OT G a (fun e t => match e with
    | .normal => ∃ u, Sub OT t u ∧ R u
    | e => Q e t) t → R t) → ∃ u, Sub OT s u ∧ R u
  | .exit id, Q, s => Q (.exit id) s
  | .ret, Q, s => Q .ret s

structure Hint where
  id : Nat
  ord : List Nat
  am : List Nat
  ap : List (Nat × Nat)

def copsAt (P : Program) (nt : Nat) (OT : List TypeId) (ops : Array Oper) : List Nat → Option (List (Nat × COp))
  | [] => some []
  | i :: l => match ops[i]? with
    | some o => match cop P nt OT ops o, copsAt P nt OT ops l with
      | some c, some m => some ((i, c) :: m)
      | _, _ => none
    | none => none

def comp (P : Program) (nt : Nat) (OT : List TypeId) (H : List Hint) : Code → Option CC
  | .skip => some .skip
  | .region id ops draw => if draw then
      match H.find? (·.id == id) with
      | some h => match copsAt P nt OT ops h.ord with
        | some l => if regOk ops h.am h.ap l then some (.ops h.ap (l.map (·.2))) else none
        | none => none
      | none => none
    else (copsAt P nt OT ops (List.range ops.size)).map fun l => .ops [] (l.map (·.2))
  | .seq a b => match comp P nt OT H a, comp P nt OT H b with
    | some x, some y => some (.seq x y)
    | _, _ => none
  | .cond c a b => match comp P nt OT H a, comp P nt OT H b with
    | some x, some y => some (.cond (opd P none c) x y)
    | _, _ => none
  | .block id a => (comp P nt OT H a).map (.block id)
  | .loop a => (comp P nt OT H a).map .loop
  | .exit id => some (.exit id)
  | .ret => some .ret
  | _ => none

section
variable {C : Ctx} {s : St} {a : Act} {w : World}

def Qm (C : Ctx) (Q : AExit → St → Prop) : Exit → Act → World → Prop
  | .normal, a, w => ∃ t, Is C t a w ∧ Q .normal t
  | .exit id, a, w => ∃ t, Is C t a w ∧ Q (.exit id) t
  | .ret, a, w => ∃ t, Is C t a w ∧ Q .ret t
  | _, _, _ => False

theorem copsAt_spec {P : Program} {nt : Nat} {OT : List TypeId} {ops : Array Oper} : ∀ {l : List Nat} {m : List (Nat × COp)}, copsAt P nt OT ops l = some m → m.map (·.1) = l ∧ ∀ x ∈ m, ∃ o, ops[x.1]? = some o ∧ cop P nt OT ops o = some x.2
  | [], m, h => by simp only [copsAt, Option.some.injEq] at h; subst h; exact ⟨rfl, by simp⟩
  | i :: l, m, h => by
    simp only [copsAt] at h
    split at h
    case h_2 => cases h
    rename_i o ho
    split at h
    case h_2 => cases h
    rename_i c m' h1 h2
    simp only [Option.some.injEq] at h
    subst h
    obtain ⟨g1, g2⟩ := copsAt_spec h2
    refine ⟨by simp [g1], fun x hx => ?_⟩
    rcases List.mem_cons.1 hx with rfl | hx
    · exact ⟨o, ho, h1⟩
    · exact g2 x hx

theorem seqOps {ops : Array Oper} {Q : Exit → Act → World → Prop} {K : St → Prop} (hC : C.Ok) (hQ : ∀ t a' w', Is C t a' w' → K t → Q .normal a' w') : ∀ (m : List (Nat × COp)) (s : St) (a : Act) (w : World),
    (∀ x ∈ m, ∃ o, ops[x.1]? = some o ∧ cop C.P C.nt C.OT ops o = some x.2) → Is C s a w → cops (ConX C.P C.A) (m.map (·.2)) K s → wpOps C.P ops Q (m.map (·.1)) a w
  | [], s, a, w, _, his, hK => hQ s a w his hK
  | x :: m, s, a, w, hm, his, hK => by
    obtain ⟨o, ho, hc⟩ := hm x (by simp)
    rw [List.map_cons, wpOps_cons]
    exact wp_cop hC ho hc his (fun t a' w' ht hk => seqOps hC hQ m t a' w' (fun y hy => hm y (by simp [hy])) ht hk) hK

theorem Is.later (h : Is C s a w) {w' : World} (he : Ext w w') : Is C s a w' := ⟨h.1.elim fun loc hr => ⟨loc, hr.later he⟩, h.2⟩

theorem cw_sound (hC : C.Ok) (hm : C.P.follows .mixedOrders = true) (H : List Hint) : ∀ (c : Code) (cc : CC) (Q : AExit → St → Prop) (s : St) (a : Act) (w : World), comp C.P C.nt C.OT H c = some cc → cw C.OT (ConX C.P C.A) cc Q s → Is C s a w → c.wp C.P (Qm C Q) a w := by
  intro c
  induction c with
  | skip => intro cc Q s a w h1 h2 h3; simp only [comp, Option.some.injEq] at h1; subst h1; exact wp_skip ⟨s, h3, h2⟩
  | region id ops draw =>
    intro cc Q s a w h1 h2 h3
    simp only [comp] at h1
    cases draw with
    | true =>
      simp only [if_true] at h1
      split at h1
      case h_2 => cases h1
      rename_i h _
      split at h1
      case h_2 => cases h1
      rename_i l hl
      split at h1
      case isFalse => cases h1
      rename_i hok
      simp only [Option.some.injEq] at h1
      subst h1
      obtain ⟨hap, hcw⟩ := h2
      simp only [regOk, Bool.and_eq_true, beq_iff_eq, List.all_eq_true, decide_eq_true_eq] at hok
      obtain ⟨⟨⟨⟨hlen, hevery⟩, hall⟩, hanc⟩, hpairs⟩ := hok
      obtain ⟨g1, g2⟩ := copsAt_spec hl
      obtain ⟨p1, p2⟩ := pairs_spec hpairs
      refine wp_region_any hm ?_
      have hw : Is C s a { w with drawn := w.drawn + 1 } := h3.later (Below.drew (Below.refl _ _))
      have hfull : ∀ i, i < ops.size → i ∈ l.map (·.1) := by
        intro i hi
        have := hevery i (List.mem_range.2 hi)
        simpa using this
      have hfree : ApI (fun t => ∃ c ∈ l.map (·.2), c.alc = true ∧ c.dst = some t) h.ap s.r := by
        refine ⟨hap, fun p hp ⟨c, hc, hca, hct⟩ j o he => ?_⟩
        have hk5 : ∀ c ∈ l.map (·.2), c.op.kind ≠ 5 := fun c hc => by
          obtain ⟨x, hx, rfl⟩ := List.mem_map.1 hc
          have hne : h.ap.isEmpty = false := by cases hq : h.ap with
            | nil => rw [hq] at hp; cases hp
            | cons => rfl
          have := (hall x hx).2
          simp only [apFree, hne, Bool.false_or, Bool.and_eq_true, bne_iff_ne, ne_eq] at this
          exact this.1
        have hm := cops_fresh _ s hk5 hcw c hc hca _ hct
        obtain ⟨⟨loc, hR⟩, -⟩ := h3
        have h5 := hR.tmps p.1
        rw [he] at h5
        generalize a.tmps.getD p.1 undef = vv at h5
        cases h5 with
        | ptr L id i off h1 h2 => rw [hR.dom _ hm] at h1; cases h1
      have := anyRegion (Q := Qm C Q) (K := Q .normal) (ap := h.ap) hC hanc (fun t a' w' ht hk => ⟨t, ht, hk⟩) l.length l (Array.replicate ops.size false) s a _ rfl (by simp) (fun i hi => by
          simp only [Array.getD_eq_getD_getElem?, Array.getElem?_replicate, hi, if_true, Option.getD_some, true_iff]
          exact hfull i hi) p1 (fun x hx => ⟨p2 x hx, (hall x hx).1, ⟨(hall x hx).2, fun ha t ht => ⟨x.2, List.mem_map.2 ⟨x, hx, rfl⟩, ha, ht⟩⟩, g2 x hx⟩) (fun j hj hlj => by simp [hj] at hlj) hw hfree hcw
      rwa [hlen] at this
    | false =>
      simp only [Bool.false_eq_true, if_false, Option.map_eq_some_iff] at h1
      obtain ⟨l, hl, rfl⟩ := h1
      obtain ⟨hap, hcw⟩ := h2
      obtain ⟨g1, g2⟩ := copsAt_spec hl
      refine wp_region ?_
      rw [← g1]
      exact seqOps hC (fun t a' w' ht hk => ⟨t, ht, hk⟩) l s a w g2 h3 hcw
  | seq x y ihx ihy =>
    intro cc Q s a w h1 h2 h3
    simp only [comp] at h1
    split at h1
    case h_2 => cases h1
    rename_i cx cy hx hy
    simp only [Option.some.injEq] at h1
    subst h1
    refine wp_seq (wp_mono (ihx cx _ s a w hx h2 h3) ?_)
    intro e a' w' hq
    cases e with
    | normal =>
      obtain ⟨t, ht, u, hsub, hu⟩ := hq
      exact ihy cy Q u a' w' hy hu (hsub C a' w' rfl ht)
    | exit id => exact hq
    | ret => exact hq
    | _ => exact hq.elim
  | cond o x y ihx ihy =>
    intro cc Q s a w h1 h2 h3
    simp only [comp] at h1
    split at h1
    case h_2 => cases h1
    rename_i cx cy hx hy
    simp only [Option.some.injEq] at h1
    subst h1
    simp only [cw] at h2
    split at h2
    case h_2 => exact h2.elim
    rename_i b hb
    obtain ⟨loc, hr⟩ := h3.1
    have hv := hr.opd (P := C.P) none o
    rw [hb] at hv
    have hv := hv.inv
    generalize hov : a.eval o = v at hv
    cases hv
    cases b with
    | true => exact wp_cond_true hov (ihx cx Q s a w hx (h2.1 rfl) h3)
    | false => exact wp_cond_false hov (ihy cy Q s a w hy (h2.2 rfl) h3)
  | block id x ih =>
    intro cc Q s a w h1 h2 h3
    simp only [comp, Option.map_eq_some_iff] at h1
    obtain ⟨cx, hx, rfl⟩ := h1
    refine wp_block (wp_mono (ih cx _ s a w hx h2 h3) ?_)
    intro e a' w' hq
    cases e with
    | normal => exact hq
    | exit j =>
      obtain ⟨t, ht, hq⟩ := hq
      simp only [Exit.inBlock]
      by_cases hj : j = id
      · rw [if_pos hj]; simp only [hj, if_true] at hq; exact ⟨t, ht, hq⟩
      · rw [if_neg hj]; simp only [hj, if_false] at hq; exact ⟨t, ht, hq⟩
    | ret => exact hq
    | _ => exact hq.elim
  | loop x ih =>
    intro cc Q s a w h1 h2 h3
    simp only [comp, Option.map_eq_some_iff] at h1
    obtain ⟨cx, hx, rfl⟩ := h1
    intro b k cs
    have key := h2 (fun t => ∀ (a : Act) (w : World), Is C t a w → ∃ e a' w', Qm C Q e a' w' ∧ Arrives C.P (lone (b.at a (.code x :: .inLoop x :: k)) cs w) b k cs e a' w') (fun t ht a w hI => by
      obtain ⟨e, a₁, w₁, hq, harr⟩ := ih cx _ t a w hx ht hI b (.inLoop x :: k) cs
      cases e with
      | normal =>
        obtain ⟨t', ht', u, hsub, hu⟩ := hq
        obtain ⟨e₂, a₂, w₂, hq₂, harr₂⟩ := hu a₁ w₁ (hsub C a₁ w₁ rfl ht')
        exact ⟨e₂, a₂, w₂, hq₂, .of_steps (Steps.trans harr (.one step_inLoop)) harr₂⟩
      | exit id => exact ⟨.exit id, a₁, w₁, hq, .pass (x := .inLoop x) rfl (fun _ _ => .inl (by simp)) harr⟩
      | ret => exact ⟨.ret, a₁, w₁, hq, .pass (x := .inLoop x) rfl (fun _ _ => .inl (by simp)) harr⟩
      | _ => exact hq.elim)
    obtain ⟨u, hsub, hu⟩ := key
    obtain ⟨e, a', w', hq, harr⟩ := hu a w (hsub C a w rfl h3)
    exact ⟨e, a', w', hq, .of_steps (.one step_loop) harr⟩
  | exit id => intro cc Q s a w h1 h2 h3; simp only [comp, Option.some.injEq] at h1; subst h1; exact wp_exit ⟨s, h3, h2⟩
  | ret => intro cc Q s a w h1 h2 h3; simp only [comp, Option.some.injEq] at h1; subst h1; exact wp_ret ⟨s, h3, h2⟩
  | _ => intro cc Q s a w h1; simp [comp] at h1

end

end Go.Proofs.Ytlnhembcfhfpkaa.M
