/- The small machine: a region that draws its order. -/
import Derived.Test.YtlnhembcfhfpkaaMR
namespace Go.Proofs.Ytlnhembcfhfpkaa.M
open Go.RowKit

def isT : Opd → Option Nat
  | .t n => some n
  | .k _ => none
/-- May c2 go ahead of c1? (ap: pairs of slots that do not point into one object.) -/
def swapOk (ap : List (Nat × Nat)) (c1 c2 : COp) : Bool :=
  (match c1.dst with | some t => !c2.reads.contains t && c2.dst != some t | none => true) &&
  (match c2.dst with | some t => !c1.reads.contains t | none => true) &&
  ((c1.op.kind ≤ 1 && c2.op.kind ≤ 3) || ((c1.op.kind == 2 || c1.op.kind == 3) && c2.op.kind == 0) || (c1.op.kind == 2 && (c2.op.kind == 2 && (c1.dst.isSome && c2.dst.isSome))) || (c1.op.kind == 0 && c2.op.kind == 4) || (c1.op.kind == 4 && c2.op.kind == 0) ||
    (match c1.op, c2.op with
     | .load _ _ (.t x), .store _ (.t y) _ => ap.contains (x, y)
     | _, _ => false))
/-- Does it make an object (whatever a guard says)? -/
def COp.alc (c : COp) : Bool := c.guard.isNone && match c.op with
  | .alloc .. => true
  | .box .. => true
  | _ => false
/-- The slots of ap are written by nobody in the region, but the second ones by what makes an object. -/
def apFree (ap : List (Nat × Nat)) (c : COp) : Bool := ap.isEmpty || (c.op.kind != 5) && match c.dst with
  | some t => ap.all fun p => p.1 != t && (p.2 != t || c.alc)
  | none => true
def apOk (ap : List (Nat × Nat)) (r : Nat → AV) : Bool := ap.all fun p => apartV (r p.1) (r p.2)

section
variable {G : FuncId → List D → D → Prop} {c c1 c2 : COp} {K K' : St → Prop} {s : St} {r r' : Nat → AV} {m m' : Mem} {v : AV} {ap : List (Nat × Nat)}

theorem GOut.cases_ (h : GOut G c r m v m') : Out G c r m v m' ∧ (∀ m2 v2 m2', Out G c r m2 v2 m2' → GOut G c r m2 v2 m2') ∨ (v = .p (.tup []) ∧ m' = m ∧ ∀ m2, GOut G c r m2 (.p (.tup [])) m2) := by
  unfold GOut at h ⊢
  cases hg : c.guard with
  | none => rw [hg] at h; exact .inl ⟨h, fun _ _ _ h => h⟩
  | some x =>
    obtain ⟨g, want⟩ := x
    rw [hg] at h
    simp only at h ⊢
    rcases h with ⟨b, hb, h1 | h1⟩ | ⟨hb, h1, h2⟩
    · exact .inl ⟨h1.2, fun m2 v2 m2' ho => .inl ⟨b, hb, .inl ⟨h1.1, ho⟩⟩⟩
    · exact .inr ⟨h1.2.1, h1.2.2, fun m2 => .inl ⟨b, hb, .inr (by simp [h1.1])⟩⟩
    · exact .inr ⟨h1, h2, fun m2 => .inr ⟨hb, by simp⟩⟩

/-- What each kind of operation does to memory. -/
theorem Out.le1 (hk : c.op.kind ≤ 1) (h : Out G c r m v m') : m' = m ∧ ∀ m2, (∀ i o, m i = some o → m2 i = some o) → Out G c r m2 v m2 := by
  rcases (by omega : c.op.kind = 0 ∨ c.op.kind = 1) with h0 | h1
  · exact ⟨(h.pure h0).1, fun m2 _ => (h.pure h0).2 m2⟩
  · exact h.read h1

theorem upd_more {m : Mem} {i : Nat} {o : AObj} (h : m i = none) : ∀ j q, m j = some q → upd m i (some o) j = some q := by
  intro j q hq
  rw [upd_ne]; exact hq
  rintro rfl; rw [h] at hq; cases hq

theorem memSwap {m1 m2 : Mem} {v1 v2 : AV} (hs : swapOk ap c1 c2 = true) (ha : apOk ap r = true) (h1 : GOut G c1 r m v1 m1) (h2 : GOut G c2 r m1 v2 m2) : ∃ m', GOut G c2 r m v2 m' ∧ GOut G c1 r m' v1 m2 := by
  rcases h1.cases_ with ⟨o1, g1⟩ | ⟨rfl, rfl, g1⟩
  case inr => exact ⟨m2, h2, g1 m2⟩
  rcases h2.cases_ with ⟨o2, g2⟩ | ⟨rfl, rfl, g2⟩
  case inr => exact ⟨m, g2 m, h1⟩
  simp only [swapOk, Bool.and_eq_true, Bool.or_eq_true, decide_eq_true_eq, beq_iff_eq] at hs
  obtain ⟨⟨hd1, hd2⟩, ((((hk | hk) | hk) | hk) | hk) | hk⟩ := hs
  · -- nothing is changed by the first
    obtain ⟨rfl, q1⟩ := o1.le1 hk.1
    rcases (by omega : c2.op.kind ≤ 1 ∨ c2.op.kind = 2 ∨ c2.op.kind = 3) with hk2 | hk2 | hk2
    · obtain ⟨rfl, q2⟩ := o2.le1 hk2
      exact ⟨_, h2, h1⟩
    · obtain ⟨e, ob, rfl, -⟩ := o2.made hk2
      exact ⟨_, h2, g1 _ _ _ (q1 _ (upd_more e))⟩
    · obtain ⟨e, ob, rfl⟩ := o2.built hk2
      exact ⟨_, h2, g1 _ _ _ (q1 _ (upd_more e))⟩
  · obtain ⟨rfl, q2⟩ := o2.pure hk.2
    exact ⟨m, g2 _ _ _ (q2 m), h1⟩
  · obtain ⟨hk1, hk2, s1, s2⟩ := hk
    obtain ⟨e2, ob2, rfl, q2⟩ := o2.made hk2
    have hne : c1.dst.getD 0 ≠ c2.dst.getD 0 := by
      obtain ⟨t1, h1'⟩ := Option.isSome_iff_exists.1 s1
      obtain ⟨t2, h2'⟩ := Option.isSome_iff_exists.1 s2
      rw [h1'] at hd1
      rw [h1', h2']
      rintro e
      simp only [Option.getD_some] at e
      subst e
      simp [h2'] at hd1
    obtain ⟨e1, ob1, rfl, q1⟩ := o1.made hk1
    rw [upd_ne _ _ hne.symm] at e2
    refine ⟨_, g2 _ _ _ (q2 m e2), ?_⟩
    rw [upd_comm _ _ _ hne]
    exact g1 _ _ _ (q1 _ (by rw [upd_ne _ _ hne]; exact e1))
  · obtain ⟨rfl, q1⟩ := o1.pure hk.1
    exact ⟨m2, h2, g1 _ _ _ (q1 m2)⟩
  · obtain ⟨rfl, q2⟩ := o2.pure hk.2
    exact ⟨m, g2 _ _ _ (q2 m), h1⟩
  · split at hk
    · rename_i ag sz x sz2 y z e1 e2
      have hap : apartV (r x) (r y) = true := by
        simp only [apOk, List.all_eq_true] at ha
        exact ha (x, y) (by simpa using hk)
      obtain ⟨rfl, -⟩ := o1.le1 (by rw [e1]; simp [AOp.kind])
      exact ⟨m2, h2, g1 _ _ _ (Out.load_store e1 e2 hap o1 o2)⟩
    · cases hk

theorem putr_at {t : Option Nat} {n : Nat} (h : ∀ k, t = some k → k ≠ n) (r : Nat → AV) (v : AV) : putr r t v n = r n := by
  cases t with
  | none => rfl
  | some k => exact upd_ne _ _ (h k rfl).symm

theorem swapOk_kind (hs : swapOk ap c1 c2 = true) : c1.op.kind ≠ 5 ∧ c2.op.kind ≠ 5 := by
  simp only [swapOk, Bool.and_eq_true, Bool.or_eq_true, decide_eq_true_eq, beq_iff_eq] at hs
  obtain ⟨-, ((((hk | hk) | hk) | hk) | hk) | hk⟩ := hs
  · exact ⟨by omega, by omega⟩
  · exact ⟨by omega, by omega⟩
  · exact ⟨by omega, by omega⟩
  · exact ⟨by omega, by omega⟩
  · exact ⟨by omega, by omega⟩
  · split at hk
    · rename_i e1 e2
      rw [e1, e2]
      exact ⟨by simp [AOp.kind], by simp [AOp.kind]⟩
    · cases hk
/-- Two operations change places. -/
theorem gstep_swap (hs : swapOk ap c1 c2 = true) (ha : apOk ap s.r = true) (h : gstep G c1 (gstep G c2 K) s) : gstep G c2 (gstep G c1 K) s := by
  obtain ⟨r, m⟩ := s
  have k1 := (swapOk_kind hs).1
  have k2 := (swapOk_kind hs).2
  obtain ⟨v1, m1, h1, h2⟩ := (gstep_out k1).1 h
  obtain ⟨v2, m2, h3, h4⟩ := (gstep_out k2).1 h2
  have hs' := hs
  simp only [swapOk, Bool.and_eq_true] at hs'
  obtain ⟨⟨hd1, hd2⟩, -⟩ := hs'
  have e1 : ∀ n ∈ c2.reads, putr r c1.dst v1 n = r n := fun n hn => putr_at (fun k hk e => by
    subst e; rw [hk] at hd1; simp at hd1; exact hd1.1 hn) r v1
  have e2 : ∀ n ∈ c1.reads, r n = putr r c2.dst v2 n := fun n hn => (putr_at (fun k hk e => by
    subst e; rw [hk] at hd2; simp at hd2; exact hd2 hn) r v2).symm
  obtain ⟨m', g1, g2⟩ := memSwap hs ha h1 (h3.congr e1)
  refine (gstep_out k2).2 ⟨v2, m', g1, (gstep_out k1).2 ⟨v1, m2, g2.congr e2, ?_⟩⟩
  have : putr (putr r c2.dst v2) c1.dst v1 = putr (putr r c1.dst v1) c2.dst v2 := by
    cases hc1 : c1.dst with
    | none => rfl
    | some t1 =>
      cases hc2 : c2.dst with
      | none => rfl
      | some t2 =>
        rw [hc1] at hd1
        exact upd_comm _ _ _ (fun e => by subst e; simp [hc2] at hd1)
  rw [this]
  exact h4

/-- What is known of ap's slots all through a region in which al tells the objects that are made. -/
def ApI (al : Nat → Prop) (ap : List (Nat × Nat)) (r : Nat → AV) : Prop := apOk ap r = true ∧ ∀ p ∈ ap, al p.2 → ∀ j o, r p.1 ≠ .ptr p.2 j o
theorem alc_out (ha : c.alc = true) (h : GOut G c r m v m') : v = .ptr (c.dst.getD 0) 0 0 := by
  simp only [COp.alc, Bool.and_eq_true, Option.isNone_iff_eq_none] at ha
  obtain ⟨h1, h2⟩ := ha
  unfold GOut at h
  rw [h1] at h
  unfold Out at h
  cases hc : c.op <;> rw [hc] at h h2 <;> first | (simp at h2; done) | skip
  case alloc T sz z =>
    obtain ⟨t, h3, -⟩ := outM_some h
    simp only [ev] at h3
    split at h3
    · simp only [Option.some.injEq, Prod.mk.injEq, true_and] at h3; exact h3.1.symm
    · cases h3
  case box T sz x =>
    obtain ⟨t, h3, -⟩ := outM_some h
    simp only [ev] at h3
    split at h3
    · split at h3
      · simp only [Option.some.injEq, Prod.mk.injEq, true_and] at h3; exact h3.1.symm
      · cases h3
    · cases h3
theorem apartV_und {a b : AV} (h : apartV a b = true) : (∃ i j o, a = .ptr i j o) ∨ ∃ d, a = .p (.ref d) := by
  unfold apartV at h
  split at h
  · exact .inl ⟨_, _, _, rfl⟩
  · exact .inr ⟨_, rfl⟩
  · exact .inl ⟨_, _, _, rfl⟩
  · exact .inr ⟨_, rfl⟩
  · cases h
theorem apI_put {al : Nat → Prop} (hf : apFree ap c = true) (hal : c.alc = true → ∀ t, c.dst = some t → al t) (ha : ApI al ap r) (v : AV) (hv : c.alc = true → v = .ptr (c.dst.getD 0) 0 0) : ApI al ap (putr r c.dst v) := by
  obtain ⟨ha, hi⟩ := ha
  simp only [apOk, List.all_eq_true] at ha
  have hx : ∀ p ∈ ap, putr r c.dst v p.1 = r p.1 := fun p hp => putr_at (fun k hk e => by
    subst e
    have hne : ap.isEmpty = false := by cases ap with
      | nil => cases hp
      | cons => rfl
    simp only [apFree, hne, hk, Bool.false_or, Bool.and_eq_true, List.all_eq_true] at hf
    have := (hf.2 p hp).1
    simp at this) r v
  refine ⟨?_, fun p hp hal' j o => by rw [hx p hp]; exact hi p hp hal' j o⟩
  simp only [apOk, List.all_eq_true]
  intro p hp
  rw [hx p hp]
  have hne : ap.isEmpty = false := by cases ap with
    | nil => cases hp
    | cons => rfl
  by_cases hd : c.dst = some p.2
  · have hf' := hf
    simp only [apFree, hne, hd, Bool.false_or, Bool.and_eq_true, List.all_eq_true] at hf'
    have h2 := (hf'.2 p hp).2
    simp only [bne_self_eq_false, Bool.false_or] at h2
    have hv' := hv h2
    rw [hd] at hv' ⊢
    simp only [Option.getD_some] at hv'
    rw [hv']
    show apartV (r p.1) (upd r p.2 _ p.2) = true
    rw [upd_same]
    rcases apartV_und (ha p hp) with ⟨i, j, o, e⟩ | ⟨d, e⟩
    · have := hi p hp (hal h2 _ hd)
      rw [e] at this ⊢
      simp only [apartV, bne_iff_ne, ne_eq]
      rintro rfl
      exact this j o rfl
    · rw [e]; rfl
  · rw [putr_at (fun k hk e => hd (by rw [hk, e])) r v]
    exact ha p hp

theorem gstep_keep {al : Nat → Prop} (hf : apFree ap c = true) (hal : c.alc = true → ∀ t, c.dst = some t → al t) (ha : ApI al ap s.r) (h : gstep G c K s) : gstep G c (fun t => ApI al ap t.r ∧ K t) s := by
  obtain ⟨r, m⟩ := s
  cases hap : ap with
  | nil => exact gstep_mono h fun t ht => ⟨⟨rfl, by simp⟩, ht⟩
  | cons p q =>
    have k : c.op.kind ≠ 5 := by
      simp only [apFree, hap, List.isEmpty_cons, Bool.false_or, Bool.and_eq_true, bne_iff_ne, ne_eq] at hf
      exact hf.1
    obtain ⟨v, m', h1, h2⟩ := (gstep_out k).1 h
    exact (gstep_out k).2 ⟨v, m', h1, hap ▸ apI_put hf hal ha v (fun hc => alc_out hc h1), h2⟩

/-- An operation that may go ahead of all that stand before it. -/
theorem cops_pull {al : Nat → Prop} : ∀ (l1 l2 : List COp) (s : St), (∀ c' ∈ l1, swapOk ap c' c = true ∧ apFree ap c' = true ∧ (c'.alc = true → ∀ t, c'.dst = some t → al t)) → ApI al ap s.r → cops G (l1 ++ c :: l2) K s → gstep G c (cops G (l1 ++ l2) K) s
  | [], _, _, _, _, h => h
  | c' :: l1, l2, s, hl, ha, h => by
    have hc' := hl c' (by simp)
    have h1 : gstep G c' (cops G (l1 ++ c :: l2) K) s := h
    have h2 : gstep G c' (gstep G c (cops G (l1 ++ l2) K)) s := gstep_mono (gstep_keep hc'.2.1 hc'.2.2 ha h1) fun t ht => cops_pull l1 l2 t (fun q hq => hl q (by simp [hq])) ht.1 ht.2
    exact gstep_swap hc'.1 ha.1 h2

theorem upd_dom {i j : Nat} {o : AObj} (hi : m i ≠ none) : upd m j (some o) i ≠ none := by
  unfold upd; split <;> simp_all
/-- What is in memory stays there. -/
theorem Out.dom (hk : c.op.kind ≠ 5) (h : Out G c r m v m') {i : Nat} (hi : m i ≠ none) : m' i ≠ none := by
  rcases (by omega : c.op.kind ≤ 1 ∨ c.op.kind = 2 ∨ c.op.kind = 3 ∨ c.op.kind = 4 ∨ 5 < c.op.kind) with h0 | h0 | h0 | h0 | h0
  · rw [(h.le1 h0).1]; exact hi
  · obtain ⟨-, ob, rfl, -⟩ := h.made h0
    exact upd_dom hi
  · obtain ⟨-, ob, rfl⟩ := h.built h0
    exact upd_dom hi
  · unfold Out at h
    cases hc : c.op <;> rw [hc] at h h0 <;> first | (simp [AOp.kind] at h0; done) | skip
    case store sz x z =>
      obtain ⟨t, g1, rfl⟩ := outM_some h
      simp only [ev] at g1
      (repeat' split at g1) <;> first | (cases g1; done) | (simp only [Option.some.injEq, Prod.mk.injEq] at g1; obtain ⟨-, -, rfl⟩ := g1; exact upd_dom hi)
  · exfalso; revert h0; cases c.op <;> simp [AOp.kind]
/-- An object that is there is not made. -/
theorem cops_fresh : ∀ (l : List COp) (s : St), (∀ c ∈ l, c.op.kind ≠ 5) → cops G l K s → ∀ c ∈ l, c.alc = true → ∀ t, c.dst = some t → s.m t = none
  | [], _, _, _, c, hc, _, _, _ => by cases hc
  | c' :: l, ⟨r, m⟩, hk, h, c, hc, ha, t, ht => by
    have k := hk c' (by simp)
    have h1 : gstep G c' (cops G l K) ⟨r, m⟩ := h
    obtain ⟨v, m', h2, h3⟩ := (gstep_out k).1 h1
    have hdom : ∀ i, m i ≠ none → m' i ≠ none := fun i hi => by
      rcases h2.cases_ with ⟨o, -⟩ | ⟨-, rfl, -⟩
      · exact o.dom k hi
      · exact hi
    rcases List.mem_cons.1 hc with rfl | hc
    · refine Classical.byContradiction fun hn => ?_
      have hg : c.guard = none := by
        simp only [COp.alc, Bool.and_eq_true, Option.isNone_iff_eq_none] at ha
        exact ha.1
      have o : Out G c r m v m' := by unfold GOut at h2; rwa [hg] at h2
      have k2 : c.op.kind = 2 := by
        simp only [COp.alc, Bool.and_eq_true] at ha
        have := ha.2
        cases hc : c.op <;> rw [hc] at this <;> first | rfl | (simp at this; done)
      have := (o.made k2).1
      rw [ht] at this
      exact hn this
    · refine Classical.byContradiction fun hn => ?_
      exact absurd (cops_fresh l _ (fun q hq => hk q (by simp [hq])) h3 c hc ha t ht) (hdom t hn)

end

end Go.Proofs.Ytlnhembcfhfpkaa.M
