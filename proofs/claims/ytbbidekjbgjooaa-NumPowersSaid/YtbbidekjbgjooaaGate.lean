/- A region in whatever order: what holds behind each operation (S), and two conditions more (A, B), of which each holds till one store (number xa, xb) has come: what is read under A is read ahead of that store. -/
import Derived.Test.YtbbidekjbgjooaaBox
namespace Go.Proofs.Ytbbidekjbgjooaa
open Go.RowKit

section
variable {P : Program} {ops : Array Oper} {Q : Exit → Act → World → Prop} {md : Region.Mode} {S A B : World → Prop} {xa xb : Nat}

/-- What is to be shown where these operations have come up. -/
def Shows (S A B : World → Prop) (xa xb : Nat) (listed : Array Bool) (w : World) : Prop := S w ∧ (listed.getD xa true = false → A w) ∧ (listed.getD xb true = false → B w)

theorem Shows.s {listed : Array Bool} {w : World} (h : Shows S A B xa xb listed w) : S w := h.1
theorem Shows.a {listed : Array Bool} {w : World} (h : Shows S A B xa xb listed w) (hl : listed.getD xa true = false) : A w := h.2.1 hl
theorem Shows.b {listed : Array Bool} {w : World} (h : Shows S A B xa xb listed w) (hl : listed.getD xb true = false) : B w := h.2.2 hl

theorem getD_of_set {listed : Array Bool} {i j : Nat} (h : (listed.setIfInBounds j true).getD i true = false) : listed.getD i true = false := by
  by_cases hij : j = i
  · subst hij
    rcases Nat.lt_or_ge j listed.size with h' | h'
    · simp [h'] at h
    · exfalso; simp [Array.getD, Nat.not_lt.2 h'] at h
  · rwa [getD_set_ne true hij] at h

theorem Shows.more {listed : Array Bool} {w : World} (h : Shows S A B xa xb listed w) (i : Nat) : Shows S A B xa xb (listed.setIfInBounds i true) w :=
  ⟨h.1, fun h' => h.2.1 (getD_of_set h'), fun h' => h.2.2 (getD_of_set h')⟩

/-- Whatever order is picked from here on. -/
def wpG (P : Program) (md : Region.Mode) (ops : Array Oper) (Q : Exit → Act → World → Prop) (S A B : World → Prop) (xa xb : Nat) : Nat → Array Bool → Act → World → Prop
  | 0, listed, a, w => Region.ready md ops listed = [] ∧ Q .normal a w
  | fuel + 1, listed, a, w =>
    (Region.ready md ops listed = [] → Q .normal a w) ∧
    ∀ i ∈ Region.ready md ops listed, wpOp P ops Q i (fun a' w' => Shows S A B xa xb (listed.setIfInBounds i true) w' ∧ wpG P md ops Q S A B xa xb fuel (listed.setIfInBounds i true) a' w') a w

theorem wpAny_of_wpG : ∀ (fuel : Nat) (listed : Array Bool) (a : Act) (w : World), wpG P md ops Q S A B xa xb fuel listed a w → wpAny P md ops Q fuel listed a w
  | 0, _, _, _, h => h
  | fuel + 1, _, _, _, h => ⟨h.1, fun i hi => wpOp_mono (fun a' w' h' => wpAny_of_wpG fuel _ a' w' h'.2) (h.2 i hi)⟩

theorem wpG_first {i : Nat} {oi : Oper} {v : Value} {C : World → Prop} {N : Array Bool → Prop} (hi : ops[i]? = some oi) (hsel : ∀ (j : Nat) (o : Oper) cs b, ops[j]? = some o → o.op ≠ .select cs b)
    (hQ : ∀ c a w, Q (.panic c) (a.put oi.dst v) w → Q (.panic c) a w) (hia : i ≠ xa) (hib : i ≠ xb)
    (hC : ∀ (listed : Array Bool) (w : World), N listed → Shows S A B xa xb listed w → C w)
    (hN : ∀ (listed : Array Bool) (j : Nat) (oj : Oper), N listed → ops[j]? = some oj → (∀ e ∈ oj.after, Region.binds md e = true → e.on ≠ i) → N (listed.setIfInBounds j true)) :
    ∀ (fuel : Nat) (listed : Array Bool) (a : Act) (w : World),
      (∀ j oj, ops[j]? = some oj → j ≠ i → listed.getD j true = false → (∀ e ∈ oj.after, Region.binds md e = true → e.on ≠ i) → oi.apart ops oj = true) →
      i ∈ Region.ready md ops listed → YieldsIf P ops C oi v a → N listed → Shows S A B xa xb listed w →
      wpG P md ops Q S A B xa xb fuel (listed.setIfInBounds i true) (a.put oi.dst v) w → wpG P md ops Q S A B xa xb (fuel + 1) listed a w := by
  intro fuel
  induction fuel with
  | zero =>
    intro listed a w _ hr hy hn hS H
    refine ⟨fun h => (by rw [h] at hr; cases hr), fun j hj => ?_⟩
    by_cases hji : j = i
    · subst hji; exact hy.wpOp hi (hC _ _ hn hS) ⟨hS.more _, H⟩
    · have := ready_mono hj hji
      rw [H.1] at this
      cases this
  | succ fuel ih =>
    intro listed a w hfree hr hy hn hS H
    refine ⟨fun h => (by rw [h] at hr; cases hr), fun j hj => ?_⟩
    by_cases hji : j = i
    · subst hji; exact hy.wpOp hi (hC _ _ hn hS) ⟨hS.more _, H⟩
    · have h1 := H.2 j (ready_mono hj hji)
      obtain ⟨hjun, oj, hoj, hall⟩ := mem_ready.1 hj
      have hnot : ∀ e ∈ oj.after, Region.binds md e = true → e.on ≠ i := fun e he hb heq => by
        have h1 := hall e he hb
        have h0 := (mem_ready.1 hr).1
        rw [heq] at h1
        rcases Nat.lt_or_ge i listed.size with h' | h'
        · simp [h'] at h0 h1; rw [h0] at h1; cases h1
        · simp [Array.getElem?_eq_none h'] at h1
      have h2 := wpOp_putIf hoj (hfree j oj hoj hji hjun hnot) (fun cs b => hsel i oi cs b hi) (fun cs b => hsel j oj cs b hoj) hQ hy h1
      have hfree' : ∀ k ok, ops[k]? = some ok → k ≠ i → (listed.setIfInBounds j true).getD k true = false →
          (∀ e ∈ ok.after, Region.binds md e = true → e.on ≠ i) → oi.apart ops ok = true := fun k ok hk hki hun hno => by
        refine hfree k ok hk hki ?_ hno
        by_cases hjk : j = k
        · subst hjk; exact hjun
        · rw [getD_set_ne true hjk] at hun; exact hun
      refine wpOp_mono (fun a' w' h3 => ?_) h2
      obtain ⟨h31, h32, h33⟩ := h3
      rw [Array.setIfInBounds_comm _ _ (Ne.symm hji)] at h32 h33
      have hb : Shows S A B xa xb (listed.setIfInBounds j true) w' := by
        refine ⟨h32.1, fun h => h32.2.1 ?_, fun h => h32.2.2 ?_⟩
        · rw [getD_set_ne true hia]; exact h
        · rw [getD_set_ne true hib]; exact h
      exact ⟨hb, ih (listed.setIfInBounds j true) a' w' hfree' (ready_mono hr (Ne.symm hji)) h31 (hN _ _ _ hn hoj hnot) hb h33⟩

theorem notF {b : Bool} {p : Prop} (h : b = true) (h' : b = false) : p := by rw [h] at h'; cases h'

/-- Does operation x wait for operation i? -/
def waitsB (md : Region.Mode) (ops : Array Oper) (x i : Nat) : Bool := match ops[x]? with
  | some o => o.after.any fun e => Region.binds md e && e.on == i
  | none => true

theorem waitsB_spec {i j x : Nat} {oj : Oper} (h : waitsB md ops x i = true) (hj : ops[j]? = some oj) (hno : ∀ e ∈ oj.after, Region.binds md e = true → e.on ≠ i) : j ≠ x := by
  rintro rfl
  unfold waitsB at h
  rw [hj] at h
  obtain ⟨e, he, hb⟩ := Array.any_eq_true'.1 h
  simp only [Bool.and_eq_true, beq_iff_eq] at hb
  exact hno e he hb.1 hb.2

/-- Take number i first: what it yields is known under S. -/
theorem wpG_take {i : Nat} {oi : Oper} {v : Value} {fuel : Nat} {listed : Array Bool} {a : Act} {w : World} (hi : ops[i]? = some oi)
    (hs : Region.noSelect ops = true) (hf : Region.free md ops listed i = true) (hr : (Region.ready md ops listed).contains i = true) (hia : i ≠ xa) (hib : i ≠ xb)
    (hQ : ∀ c a w, Q (.panic c) (a.put oi.dst v) w → Q (.panic c) a w) (hy : YieldsIf P ops S oi v a) (hS : Shows S A B xa xb listed w)
    (h : wpG P md ops Q S A B xa xb fuel (listed.setIfInBounds i true) (a.put oi.dst v) w) : wpG P md ops Q S A B xa xb (fuel + 1) listed a w :=
  wpG_first (C := S) (N := fun _ => True) hi (Region.noSelect_spec hs) hQ hia hib (fun _ _ _ h => h.1) (fun _ _ _ _ _ _ => trivial) fuel listed a w (Region.free_spec hi hf) (by simpa using hr) hy trivial hS h

/-- Take number i first: what it yields is known under A, and store xa waits for it. -/
theorem wpG_takeA {i : Nat} {oi : Oper} {v : Value} {fuel : Nat} {listed : Array Bool} {a : Act} {w : World} (hi : ops[i]? = some oi)
    (hs : Region.noSelect ops = true) (hf : Region.free md ops listed i = true) (hr : (Region.ready md ops listed).contains i = true) (hia : i ≠ xa) (hib : i ≠ xb) (hw : waitsB md ops xa i = true) (hl : listed.getD xa true = false)
    (hQ : ∀ c a w, Q (.panic c) (a.put oi.dst v) w → Q (.panic c) a w) (hy : YieldsIf P ops A oi v a) (hS : Shows S A B xa xb listed w)
    (h : wpG P md ops Q S A B xa xb fuel (listed.setIfInBounds i true) (a.put oi.dst v) w) : wpG P md ops Q S A B xa xb (fuel + 1) listed a w :=
  wpG_first (C := A) (N := fun l => l.getD xa true = false) hi (Region.noSelect_spec hs) hQ hia hib (fun _ _ hn h => h.2.1 hn) (fun _ _ _ hn hj hno => by rw [getD_set_ne true (waitsB_spec hw hj hno)]; exact hn) fuel listed a w (Region.free_spec hi hf) (by simpa using hr) hy hl hS h

/-- The same under B. -/
theorem wpG_takeB {i : Nat} {oi : Oper} {v : Value} {fuel : Nat} {listed : Array Bool} {a : Act} {w : World} (hi : ops[i]? = some oi)
    (hs : Region.noSelect ops = true) (hf : Region.free md ops listed i = true) (hr : (Region.ready md ops listed).contains i = true) (hia : i ≠ xa) (hib : i ≠ xb) (hw : waitsB md ops xb i = true) (hl : listed.getD xb true = false)
    (hQ : ∀ c a w, Q (.panic c) (a.put oi.dst v) w → Q (.panic c) a w) (hy : YieldsIf P ops B oi v a) (hS : Shows S A B xa xb listed w)
    (h : wpG P md ops Q S A B xa xb fuel (listed.setIfInBounds i true) (a.put oi.dst v) w) : wpG P md ops Q S A B xa xb (fuel + 1) listed a w :=
  wpG_first (C := B) (N := fun l => l.getD xb true = false) hi (Region.noSelect_spec hs) hQ hia hib (fun _ _ hn h => h.2.2 hn) (fun _ _ _ hn hj hno => by rw [getD_set_ne true (waitsB_spec hw hj hno)]; exact hn) fuel listed a w (Region.free_spec hi hf) (by simpa using hr) hy hl hS h

/-- Number i alone may come up. -/
theorem wpG_step {i : Nat} {o : Oper} {fuel : Nat} {listed : Array Bool} {a : Act} {w : World} (hr : Region.ready md ops listed = [i]) (ho : ops[i]? = some o)
    (h : ∀ K' : Act → World → Prop, Shut (∀ a w, Shows S A B xa xb (listed.setIfInBounds i true) w → (Shows S A B xa xb (listed.setIfInBounds i true) w → wpG P md ops Q S A B xa xb fuel (listed.setIfInBounds i true) a w) → K' a w) → if Region.wanted o (yielded ops a.tmps) = true then Oper.wp P o a w K' Q else K' (a.put o.dst undef) w) :
    wpG P md ops Q S A B xa xb (fuel + 1) listed a w := by
  refine ⟨fun h0 => (by rw [h0] at hr; cases hr), fun j hj => ?_⟩
  rw [hr] at hj
  obtain rfl : j = i := by simpa using hj
  exact wpOp_step ho (fun K' hK => h K' (fun a w hS hW => hK a w ⟨hS, hW hS⟩))

theorem wpG_done {listed : Array Bool} {a : Act} {w : World} (hr : Region.ready md ops listed = []) (h : Q .normal a w) :
    ∀ fuel, wpG P md ops Q S A B xa xb fuel listed a w
  | 0 => ⟨hr, h⟩
  | _ + 1 => ⟨fun _ => h, by rw [hr]; simp⟩

theorem wpG_region {id : Nat} {a : Act} {w : World} (A B : World → Prop) (xa xb : Nat) (hm : P.follows .mixedOrders = true) (hS : S w.drew ∧ A w.drew ∧ B w.drew)
    (h : Shows S A B xa xb (Array.replicate ops.size false) w.drew → wpG P .any ops Q S A B xa xb ops.size (Array.replicate ops.size false) a w.drew) : (Code.region id ops true).wp P Q a w :=
  wp_region_any hm (wpAny_of_wpG _ _ _ _ (h ⟨hS.1, fun _ => hS.2.1, fun _ => hS.2.2⟩))
end

section
variable {L : List (Nat × TypeId)} {w wc w' : World} {b c d : Nat} {T U V : TypeId}
theorem EndSt.h1 (h : EndSt ((b, T) :: L) w wc w') (u v : Value) : EndSt ((b, T) :: L) w wc ((w'.setCell ⟨b, 0, none⟩ u).setCell ⟨b, 1, none⟩ v) := h.st2 (T := T) (.head _) u v
theorem EndSt.h2 (h : EndSt ((c, U) :: (b, T) :: L) w wc w') (u v : Value) : EndSt ((c, U) :: (b, T) :: L) w wc ((w'.setCell ⟨b, 0, none⟩ u).setCell ⟨b, 1, none⟩ v) := h.st2 (T := T) (.tail _ (.head _)) u v
theorem EndSt.h3 (h : EndSt ((d, V) :: (c, U) :: (b, T) :: L) w wc w') (u v : Value) : EndSt ((d, V) :: (c, U) :: (b, T) :: L) w wc ((w'.setCell ⟨b, 0, none⟩ u).setCell ⟨b, 1, none⟩ v) := h.st2 (T := T) (.tail _ (.tail _ (.head _))) u v
theorem cell_st2' {n i : Nat} {x : Value} (h : w.cell? ⟨n, i, none⟩ = some x) (hn : b ≠ n) (u v : Value) : ((w.setCell ⟨b, 0, none⟩ u).setCell ⟨b, 1, none⟩ v).cell? ⟨n, i, none⟩ = some x := cell_st2 h hn u v
end

end Go.Proofs.Ytbbidekjbgjooaa
