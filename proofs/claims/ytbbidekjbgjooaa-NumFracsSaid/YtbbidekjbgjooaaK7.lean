/- Numbers in the small machine's words: what reads as a number, and contracts turned. A call's variables, in no order of their blocks. Variables of four cells: fractions. The reference's ZAbs. -/
import Derived.Test.YtbbidekjbgjooaaK3
import Derived.Test.YtbbidekjbgjooaaLawAx
import Derived.Test.YtbbidekjbgjooaaLatex
import Derived.Test.YtbbidekjbgjooaaK4
section
namespace Go.Proofs.Ytbbidekjbgjooaa.M
open Go.RowKit
set_option linter.unusedVariables false

/-- The places of n to the base B, the lowest first. -/
def digs (B n : Nat) : List Int := if h : n = 0 ∨ B < 2 then [] else ((n % B : Nat) : Int) :: digs B (n / B)
termination_by n
decreasing_by exact Nat.div_lt_self (by omega) (by omega)

theorem digs_eq {B : Nat} (hB : 2 ≤ B) {v : List Int → Int} (v0 : v [] = 0) (v1 : ∀ x t, v (x :: t) = x + B * v t) : ∀ l : List Int, (∀ x ∈ l, 0 ≤ x ∧ x < B) → (l = [] ∨ at_ l (l.length - 1) ≠ 0) → 0 ≤ v l ∧ (l ≠ [] → 0 < v l) ∧ digs B (v l).toNat = l
  | [], _, _ => by
    rw [v0]
    refine ⟨by omega, fun h => absurd rfl h, ?_⟩
    rw [digs]
    simp
  | x :: t, hd, hn => by
    have hx := hd x (by simp)
    have ih := digs_eq hB v0 v1 t (fun y hy => hd y (by simp [hy])) (by
      cases t with
      | nil => exact .inl rfl
      | cons y t =>
        right
        rcases hn with h | h
        · cases h
        · simpa [at_] using h)
    obtain ⟨i1, i2, i3⟩ := ih
    rw [v1]
    have hp0 : 0 ≤ (B : Int) * v t := Int.mul_nonneg (by omega) i1
    have hpos : 0 < x + B * v t := by
      cases t with
      | nil =>
        rcases hn with h | h
        · cases h
        · simp [at_] at h; omega
      | cons y t =>
        have := i2 (by simp)
        have : 0 < (B : Int) * v (y :: t) := Int.mul_pos (by omega) this
        omega
    refine ⟨by omega, fun _ => hpos, ?_⟩
    have e : (x + B * v t).toNat = x.toNat + B * (v t).toNat := by
      have : ((x.toNat + B * (v t).toNat : Nat) : Int) = x + B * v t := by
        rw [Int.natCast_add, Int.natCast_mul, Int.toNat_of_nonneg hx.1, Int.toNat_of_nonneg i1]
      omega
    rw [digs, dif_neg (by omega), e]
    have h1 : (x.toNat + B * (v t).toNat) % B = x.toNat := by rw [Nat.add_mul_mod_self_left]; exact Nat.mod_eq_of_lt (by omega)
    have h2 : (x.toNat + B * (v t).toNat) / B = (v t).toNat := by rw [Nat.add_mul_div_left _ _ (by omega), Nat.div_eq_of_lt (by omega)]; omega
    rw [h1, h2, i3, Int.toNat_of_nonneg hx.1]

theorem digs_spec {B : Nat} (hB : 2 ≤ B) {v : List Int → Int} (v0 : v [] = 0) (v1 : ∀ x t, v (x :: t) = x + B * v t) (n : Nat) : (∀ x ∈ digs B n, 0 ≤ x ∧ x < B) ∧ (digs B n = [] ∨ at_ (digs B n) ((digs B n).length - 1) ≠ 0) ∧ v (digs B n) = n := by
  induction n using Nat.strongRecOn with
  | _ n ih =>
    by_cases hn : n = 0
    · subst hn
      have e : digs B 0 = [] := by rw [digs]; simp
      rw [e, v0]
      exact ⟨by simp, .inl rfl, rfl⟩
    · have hlt := Nat.div_lt_self (n := n) (k := B) (by omega) (by omega)
      obtain ⟨i1, i2, i3⟩ := ih _ hlt
      have e : digs B n = ((n % B : Nat) : Int) :: digs B (n / B) := by rw [digs, dif_neg (by omega)]
      have hm := Nat.mod_lt n (show 0 < B by omega)
      rw [e, v1, i3]
      refine ⟨?_, .inr ?_, ?_⟩
      · intro x hx
        rcases List.mem_cons.1 hx with rfl | hx
        · exact ⟨by omega, by omega⟩
        · exact i1 x hx
      · rcases i2 with h | h
        · rw [h]
          simp only [at_, List.length_singleton, Nat.sub_self, List.getD_cons_zero]
          rw [h, v0] at i3
          have hq : n / B = 0 := by omega
          have := Nat.div_add_mod n B
          rw [hq] at this
          omega
        · have hne : digs B (n / B) ≠ [] := by
            intro h0
            rw [h0] at h
            exact h rfl
          have : (((n % B : Nat) : Int) :: digs B (n / B)).length - 1 = (digs B (n / B)).length - 1 + 1 := by
            have := List.length_pos_iff.2 hne
            simp only [List.length_cons]
            omega
          rw [this]
          exact h
      · have := Nat.div_add_mod n B
        have h2 : ((n % B : Nat) : Int) + (B : Int) * ((n / B : Nat) : Int) = ((n % B + B * (n / B) : Nat) : Int) := by rw [Int.natCast_add, Int.natCast_mul]
        rw [h2]
        congr 1
        omega

/-- The caller's own blocks hold no elements of A. -/
def Av (A : List TypeId) (base : Nat → Prop) (w : World) : Prop := ∀ b, base b → ∀ c T fr, w.heap[b]? = some (.cells c T fr) → T ∉ A
abbrev NBs (base : Nat → Prop) (w : World) : Nat → Prop := fun b => b < w.heap.size ∧ ¬ base b

section
variable {P : Program} {A : List TypeId} {f : FuncId} {d d1 d2 d3 : D} {w : World} {base : Nat → Prop} {N : Nat → Prop} {v : Value}

theorem V_str (t : List UInt8) : V w N (.string (bs t)) (.str t) := V.str (bs t)
theorem str_V {t : List UInt8} (h : V w N v (.str t)) : v = .string (bs t) := by
  generalize he : D.str t = e at h
  cases h with
  | str s => injection he with he; subst he; rfl
  | _ => cases he
theorem int_V {k : IntKind} {n : Int} (h : V w N v (.int k n)) : v = .int k n := by
  generalize he : D.int k n = e at h
  cases h with
  | int k n => injection he with h1 h2; subst h1 h2; rfl
  | _ => cases he
theorem bool_V {b : Bool} (h : V w N v (.bool b)) : v = .bool b := by
  generalize he : D.bool b = e at h
  cases h with
  | bool b => injection he with h1; subst h1; rfl
  | _ => cases he

theorem V_lst {k : IntKind} {s : SV} {l : List Int} (hA : ET k ∈ A) (hav : Av A base w) (h : IsL w s k l) : V w (NBs base w) (.slice s.a s.len s.cap) (.list (ET k) 1 (l.map (D.int k))) := by
  obtain ⟨ao, cap, rfl, h1, h2, h3⟩ := h.open_
  by_cases hl : l = []
  · subst hl
    exact .empty _ _ _ _ h2
  · obtain ⟨b, off, rfl, ⟨c, fr, hb⟩, hc⟩ := h3 (List.length_pos_iff.2 hl)
    have hlt : b < w.heap.size := Ty.lt ⟨c, fr, hb⟩
    have hcell : ∀ j, j < l.length → c[off + j]? = some (.int k (at_ l j)) := fun j hj => by
      have := hc j hj
      simp only [World.cell?, hb] at this
      simpa using this
    have := V.list (w := w) (N := NBs base w) b off cap (ET k) 1 (l.map (D.int k)) c fr hb ⟨hlt, fun hh => hav b hh _ _ _ hb hA⟩ (by simpa using h1) h2 ?_ ?_ ?_
    · rw [List.length_map] at this
      exact this
    · intro e he
      obtain ⟨x, hx, rfl⟩ := List.mem_map.1 he
      exact ⟨rfl, by simp [D.cells, D.one]⟩
    all_goals
      intro i e j q he hq
      rw [List.getElem?_map, Option.map_eq_some_iff] at he
      obtain ⟨x, hx, rfl⟩ := he
      obtain ⟨hi, hx⟩ := List.getElem?_eq_some_iff.1 hx
      have hci := hcell i hi
      match j, hq with
      | 0, hq =>
        simp only [D.cells, List.getElem?_cons_zero, Option.some.injEq] at hq
        subst hq
        simp only [Nat.mul_one, Nat.add_zero]
        first
          | (exact (Array.getElem?_eq_some_iff.1 hci).1)
          | (rw [Array.getD_eq_getD_getElem?, hci, at_lt hi, hx]; exact .int k x)
      | j + 1, hq => simp [D.cells] at hq

theorem V_isL {k : IntKind} {l : List Int} (h : V w N v (.list (ET k) 1 (l.map (D.int k)))) (hf : ∀ x ∈ l, Fit k x) : ∃ s : SV, v = .slice s.a s.len s.cap ∧ IsL w s k l := by
  generalize he : D.list (ET k) 1 (l.map (D.int k)) = e at h
  cases h with
  | empty a cap T sz hc =>
    injection he with e1 e2 e3
    have : l = [] := by simpa using e3
    subst this
    exact ⟨⟨a, 0, cap⟩, rfl, ⟨⟨rfl, Nat.zero_le _, hc, by simp⟩, by simp⟩⟩
  | list b o cap T sz m c fr hb hn h1 h2 h3 h4 h5 =>
    injection he with e1 e2 e3
    subst e1 e2 e3
    refine ⟨⟨some ⟨b, o, none⟩, l.length, cap⟩, by simp, IsL.mk_ (by simpa using h1) h2 (fun _ => ⟨b, o, rfl, ⟨c, fr, hb⟩, fun j hj => ?_⟩) hf⟩
    have hj' : (l.map (D.int k))[j]? = some (.int k (at_ l j)) := by simp [at_, hj]
    have q1 := h4 j _ 0 _ hj' rfl
    have q2 := h5 j _ 0 _ hj' rfl
    simp only [Nat.mul_one, Nat.add_zero] at q1 q2
    rw [cell_at hb q1, int_V q2]
  | _ => cases he

theorem agg2_V {v1 v2 : Value} (h1 : V w N v1 d1) (h2 : V w N v2 d2) (o1 : d1.one = true) (o2 : d2.one = true) : V w N (.agg #[v1, v2]) (.agg [d1, d2]) := by
  refine .agg _ _ rfl (by simp [o1, o2]) fun i e he => ?_
  match i, he with
  | 0, he => simp at he; subst he; exact h1
  | 1, he => simp at he; subst he; exact h2
  | i + 2, he => simp at he
theorem agg4_V {v1 v2 v3 v4 : Value} {d4 : D} (h1 : V w N v1 d1) (h2 : V w N v2 d2) (h3 : V w N v3 d3) (h4 : V w N v4 d4) (o1 : d1.one = true) (o2 : d2.one = true) (o3 : d3.one = true) (o4 : d4.one = true) : V w N (.agg #[v1, v2, v3, v4]) (.agg [d1, d2, d3, d4]) := by
  refine .agg _ _ rfl (by simp [o1, o2, o3, o4]) fun i e he => ?_
  match i, he with
  | 0, he => simp at he; subst he; exact h1
  | 1, he => simp at he; subst he; exact h2
  | 2, he => simp at he; subst he; exact h3
  | 3, he => simp at he; subst he; exact h4
  | i + 4, he => simp at he
theorem tup2_V {v1 v2 : Value} (h1 : V w N v1 d1) (h2 : V w N v2 d2) : V w N (.tuple #[v1, v2]) (.tup [d1, d2]) := by
  refine .tup _ _ rfl fun i e he => ?_
  match i, he with
  | 0, he => simp at he; subst he; exact h1
  | 1, he => simp at he; subst he; exact h2
  | i + 2, he => simp at he
theorem tup3_V {v1 v2 v3 : Value} (h1 : V w N v1 d1) (h2 : V w N v2 d2) (h3 : V w N v3 d3) : V w N (.tuple #[v1, v2, v3]) (.tup [d1, d2, d3]) := by
  refine .tup _ _ rfl fun i e he => ?_
  match i, he with
  | 0, he => simp at he; subst he; exact h1
  | 1, he => simp at he; subst he; exact h2
  | 2, he => simp at he; subst he; exact h3
  | i + 3, he => simp at he
theorem V_agg2 (h : V w N v (.agg [d1, d2])) : ∃ v1 v2, v = .agg #[v1, v2] ∧ V w N v1 d1 ∧ V w N v2 d2 := by
  generalize he : D.agg [d1, d2] = e at h
  cases h with
  | agg cs l h1 h2 h3 =>
    injection he with he
    subst he
    obtain ⟨cs⟩ := cs
    match cs, h1 with
    | [x, y], h1 => exact ⟨x, y, rfl, h3 0 _ rfl, h3 1 _ rfl⟩
    | [], h1 | [_], h1 | _ :: _ :: _ :: _, h1 => simp at h1
  | _ => cases he
theorem V_agg4 {d4 : D} (h : V w N v (.agg [d1, d2, d3, d4])) : ∃ v1 v2 v3 v4, v = .agg #[v1, v2, v3, v4] ∧ V w N v1 d1 ∧ V w N v2 d2 ∧ V w N v3 d3 ∧ V w N v4 d4 := by
  generalize he : D.agg [d1, d2, d3, d4] = e at h
  cases h with
  | agg cs l h1 h2 h3 =>
    injection he with he
    subst he
    obtain ⟨cs⟩ := cs
    match cs, h1 with
    | [x, y, z, t], h1 => exact ⟨x, y, z, t, rfl, h3 0 _ rfl, h3 1 _ rfl, h3 2 _ rfl, h3 3 _ rfl⟩
    | [], h1 | [_], h1 | [_, _], h1 | [_, _, _], h1 | _ :: _ :: _ :: _ :: _ :: _, h1 => simp at h1
  | _ => cases he

/-- A contract out of what a call does. -/
theorem Av.later {w' : World} (h : Av A base w) (hlow : ∀ b, base b → b < w.heap.size) (e : Ext w w') : Av A base w' := fun b hb c T fr hc => h b hb c T fr (by rw [← e.block b (hlow b hb)]; exact hc)
theorem con0 (H : ∀ w, Calls P f #[] w fun e w' => ∃ v, e = .returned v ∧ (∀ base, Av A base w' → V w' (NBs base w') v d) ∧ Ext w w') : Con P A f [] d := by
  intro base w vs hlow hav hsz hargs
  have e : vs = #[] := by simpa using hsz
  rw [e]
  refine (H w).mono ?_
  rintro e w' ⟨v, rfl, hv, hext⟩
  exact ⟨v, rfl, hv base (Av.later hav hlow hext), hext⟩
theorem con1 (H : ∀ (base : Nat → Prop) w v1, Av A base w → V w (NBs base w) v1 d1 → Calls P f #[v1] w fun e w' => ∃ v, e = .returned v ∧ (∀ base, Av A base w' → V w' (NBs base w') v d) ∧ Ext w w') : Con P A f [d1] d := by
  intro base w vs hlow hav hsz hargs
  have e : vs = #[vs.getD 0 undef] := by
    obtain ⟨vs⟩ := vs
    match vs, hsz with
    | [x], _ => rfl
    | [], h | _ :: _ :: _, h => simp at h
  rw [e]
  refine (H base w _ hav (hargs 0 _ rfl)).mono ?_
  rintro e w' ⟨v, rfl, hv, hext⟩
  exact ⟨v, rfl, hv base (Av.later hav hlow hext), hext⟩
theorem con2 (H : ∀ (base : Nat → Prop) w v1 v2, Av A base w → V w (NBs base w) v1 d1 → V w (NBs base w) v2 d2 → Calls P f #[v1, v2] w fun e w' => ∃ v, e = .returned v ∧ (∀ base, Av A base w' → V w' (NBs base w') v d) ∧ Ext w w') : Con P A f [d1, d2] d := by
  intro base w vs hlow hav hsz hargs
  have e : vs = #[vs.getD 0 undef, vs.getD 1 undef] := by
    obtain ⟨vs⟩ := vs
    match vs, hsz with
    | [x, y], _ => rfl
    | [], h | [_], h | _ :: _ :: _ :: _, h => simp at h
  rw [e]
  refine (H base w _ _ hav (hargs 0 _ rfl) (hargs 1 _ rfl)).mono ?_
  rintro e w' ⟨v, rfl, hv, hext⟩
  exact ⟨v, rfl, hv base (Av.later hav hlow hext), hext⟩
theorem con3 (H : ∀ (base : Nat → Prop) w v1 v2 v3, Av A base w → V w (NBs base w) v1 d1 → V w (NBs base w) v2 d2 → V w (NBs base w) v3 d3 → Calls P f #[v1, v2, v3] w fun e w' => ∃ v, e = .returned v ∧ (∀ base, Av A base w' → V w' (NBs base w') v d) ∧ Ext w w') : Con P A f [d1, d2, d3] d := by
  intro base w vs hlow hav hsz hargs
  have e : vs = #[vs.getD 0 undef, vs.getD 1 undef, vs.getD 2 undef] := by
    obtain ⟨vs⟩ := vs
    match vs, hsz with
    | [x, y, z], _ => rfl
    | [], h | [_], h | [_, _], h | _ :: _ :: _ :: _ :: _, h => simp at h
  rw [e]
  refine (H base w _ _ _ hav (hargs 0 _ rfl) (hargs 1 _ rfl) (hargs 2 _ rfl)).mono ?_
  rintro e w' ⟨v, rfl, hv, hext⟩
  exact ⟨v, rfl, hv base (Av.later hav hlow hext), hext⟩

/-- The two kinds of numbers. -/
def AN : List TypeId := [93, 3]
def encI (z : Int) : D := .agg [.bool (decide (z < 0)), .list 93 1 ((digs 4294967296 z.natAbs).map (D.int .u32))]
def encZ (z : Int) : D := .agg [.bool (decide (z < 0)), .list 3 1 ((digs 10000 z.natAbs).map (D.int .i64))]
def encFI (a b : Int) : D := .agg [.bool (decide (a < 0)), .list 93 1 ((digs 4294967296 a.natAbs).map (D.int .u32)), .bool (decide (b - 1 < 0)), .list 93 1 ((digs 4294967296 (b - 1).natAbs).map (D.int .u32))]
def encFZ (a b : Int) : D := .agg [.bool (decide (a < 0)), .list 3 1 ((digs 10000 a.natAbs).map (D.int .i64)), .bool (decide (b < 0)), .list 3 1 ((digs 10000 b.natAbs).map (D.int .i64))]

theorem I_parts {x : IV} {z : Int} (h : IsI w x z) : ∃ l, IsL w x.s .u32 l ∧ digs 4294967296 z.natAbs = l ∧ x.n = decide (z < 0) := by
  obtain ⟨l, h1, h2, h3, h4, h5⟩ := h
  obtain ⟨g1, g2, g3⟩ := digs_eq (B := 4294967296) (by omega) (v := valL) rfl (fun _ _ => rfl) l (fun x hx => by have := h1.2 x hx; simp only [Fit] at this; omega) h2
  refine ⟨l, h1, ?_, ?_⟩
  · rw [← g3]
    congr 1
    rw [h3]
    unfold sg
    split <;> omega
  · cases hn : x.n
    · rw [hn] at h3
      have : ¬ z < 0 := by rw [h3]; simp [sg]; omega
      simp [this]
    · have hl : l ≠ [] := fun e => by have := h4 e; rw [hn] at this; cases this
      have := g2 hl
      have : z < 0 := by rw [h3, hn]; simp [sg]; omega
      simp [this]
theorem Z_parts {x : IV} {z : Int} (h : Z4.IsZ w x z) : ∃ l, IsL w x.s .i64 l ∧ digs 10000 z.natAbs = l ∧ x.n = decide (z < 0) := by
  obtain ⟨l, h1, hd, h2, h3, h4, h5⟩ := h
  obtain ⟨g1, g2, g3⟩ := digs_eq (B := 10000) (by omega) (v := Z4.valL) rfl (fun _ _ => rfl) l (fun x hx => by have := hd x hx; omega) h2
  refine ⟨l, h1, ?_, ?_⟩
  · rw [← g3]
    congr 1
    rw [h3]
    unfold sg
    split <;> omega
  · cases hn : x.n
    · rw [hn] at h3
      have : ¬ z < 0 := by rw [h3]; simp [sg]; omega
      simp [this]
    · have hl : l ≠ [] := fun e => by have := h4 e; rw [hn] at this; cases this
      have := g2 hl
      have : z < 0 := by rw [h3, hn]; simp [sg]; omega
      simp [this]
theorem V_numI {x : IV} {z : Int} (h : IsI w x z) (hav : Av AN base w) : V w (NBs base w) (.bool x.n) (.bool (decide (z < 0))) ∧ V w (NBs base w) (.slice x.s.a x.s.len x.s.cap) (.list 93 1 ((digs 4294967296 z.natAbs).map (D.int .u32))) := by
  obtain ⟨l, h1, h2, h3⟩ := I_parts h
  rw [h2, h3]
  exact ⟨.bool _, V_lst (k := .u32) (by simp [AN, ET]) hav h1⟩
theorem V_numZ {x : IV} {z : Int} (h : Z4.IsZ w x z) (hav : Av AN base w) : V w (NBs base w) (.bool x.n) (.bool (decide (z < 0))) ∧ V w (NBs base w) (.slice x.s.a x.s.len x.s.cap) (.list 3 1 ((digs 10000 z.natAbs).map (D.int .i64))) := by
  obtain ⟨l, h1, h2, h3⟩ := Z_parts h
  rw [h2, h3]
  exact ⟨.bool _, V_lst (k := .i64) (by simp [AN, ET]) hav h1⟩
theorem V_encI {x : IV} {z : Int} (h : IsI w x z) (hav : Av AN base w) : V w (NBs base w) (.agg #[.bool x.n, .slice x.s.a x.s.len x.s.cap]) (encI z) := agg2_V (V_numI h hav).1 (V_numI h hav).2 rfl rfl
theorem V_encZ {x : IV} {z : Int} (h : Z4.IsZ w x z) (hav : Av AN base w) : V w (NBs base w) (.agg #[.bool x.n, .slice x.s.a x.s.len x.s.cap]) (encZ z) := agg2_V (V_numZ h hav).1 (V_numZ h hav).2 rfl rfl
theorem V_encFI {x y : IV} {a b : Int} (h : IsI w x a) (k : IsI w y (b - 1)) (hav : Av AN base w) : V w (NBs base w) (.agg #[.bool x.n, .slice x.s.a x.s.len x.s.cap, .bool y.n, .slice y.s.a y.s.len y.s.cap]) (encFI a b) := agg4_V (V_numI h hav).1 (V_numI h hav).2 (V_numI k hav).1 (V_numI k hav).2 rfl rfl rfl rfl
theorem V_encFZ {x y : IV} {a b : Int} (h : Z4.IsZ w x a) (k : Z4.IsZ w y b) (hav : Av AN base w) : V w (NBs base w) (.agg #[.bool x.n, .slice x.s.a x.s.len x.s.cap, .bool y.n, .slice y.s.a y.s.len y.s.cap]) (encFZ a b) := agg4_V (V_numZ h hav).1 (V_numZ h hav).2 (V_numZ k hav).1 (V_numZ k hav).2 rfl rfl rfl rfl

theorem sg_abs (z : Int) : z = sg (decide (z < 0)) (z.natAbs : Int) := by
  unfold sg
  by_cases h : z < 0
  · rw [if_pos (by simpa using h)]; omega
  · rw [if_neg (by simpa using h)]; omega
theorem numI_V {z : Int} {v1 v2 : Value} (h1 : V w N v1 (.bool (decide (z < 0)))) (h2 : V w N v2 (.list 93 1 ((digs 4294967296 z.natAbs).map (D.int .u32)))) (hs : Sm z) : ∃ x : IV, v1 = .bool x.n ∧ v2 = .slice x.s.a x.s.len x.s.cap ∧ IsI w x z := by
  obtain ⟨g1, g2, g3⟩ := digs_spec (B := 4294967296) (by omega) (v := valL) rfl (fun _ _ => rfl) z.natAbs
  obtain ⟨s, rfl, hl⟩ := V_isL (k := .u32) h2 (fun x hx => by have := g1 x hx; simp only [Fit]; omega)
  refine ⟨⟨decide (z < 0), s⟩, bool_V h1, rfl, _, hl, g2, ?_, fun e => ?_, hs⟩
  · rw [g3]; exact sg_abs z
  · rw [e] at g3
    have : (0 : Int) = (z.natAbs : Int) := g3
    have : ¬ z < 0 := by omega
    simp [this]
theorem numZ_V {z : Int} {v1 v2 : Value} (h1 : V w N v1 (.bool (decide (z < 0)))) (h2 : V w N v2 (.list 3 1 ((digs 10000 z.natAbs).map (D.int .i64)))) (hs : Sm z) : ∃ x : IV, v1 = .bool x.n ∧ v2 = .slice x.s.a x.s.len x.s.cap ∧ Z4.IsZ w x z := by
  obtain ⟨g1, g2, g3⟩ := digs_spec (B := 10000) (by omega) (v := Z4.valL) rfl (fun _ _ => rfl) z.natAbs
  obtain ⟨s, rfl, hl⟩ := V_isL (k := .i64) h2 (fun x hx => by have := g1 x hx; simp only [Fit]; omega)
  refine ⟨⟨decide (z < 0), s⟩, bool_V h1, rfl, _, hl, fun x hx => by have := g1 x hx; omega, g2, ?_, fun e => ?_, hs⟩
  · rw [g3]; exact sg_abs z
  · rw [e] at g3
    have : (0 : Int) = (z.natAbs : Int) := g3
    have : ¬ z < 0 := by omega
    simp [this]
theorem encI_V {z : Int} (h : V w N v (encI z)) (hs : Sm z) : ∃ x : IV, v = .agg #[.bool x.n, .slice x.s.a x.s.len x.s.cap] ∧ IsI w x z := by
  obtain ⟨v1, v2, rfl, h1, h2⟩ := V_agg2 h
  obtain ⟨x, rfl, rfl, hx⟩ := numI_V h1 h2 hs
  exact ⟨x, rfl, hx⟩
theorem encZ_V {z : Int} (h : V w N v (encZ z)) (hs : Sm z) : ∃ x : IV, v = .agg #[.bool x.n, .slice x.s.a x.s.len x.s.cap] ∧ Z4.IsZ w x z := by
  obtain ⟨v1, v2, rfl, h1, h2⟩ := V_agg2 h
  obtain ⟨x, rfl, rfl, hx⟩ := numZ_V h1 h2 hs
  exact ⟨x, rfl, hx⟩
theorem encFI_V {a b : Int} (h : V w N v (encFI a b)) (hs : Sm a) (hb : Sm (b - 1)) : ∃ x y : IV, v = .agg #[.bool x.n, .slice x.s.a x.s.len x.s.cap, .bool y.n, .slice y.s.a y.s.len y.s.cap] ∧ IsI w x a ∧ IsI w y (b - 1) := by
  obtain ⟨v1, v2, v3, v4, rfl, h1, h2, h3, h4⟩ := V_agg4 h
  obtain ⟨x, rfl, rfl, hx⟩ := numI_V h1 h2 hs
  obtain ⟨y, rfl, rfl, hy⟩ := numI_V h3 h4 hb
  exact ⟨x, y, rfl, hx, hy⟩
theorem encFZ_V {a b : Int} (h : V w N v (encFZ a b)) (hs : Sm a) (hb : Sm b) : ∃ x y : IV, v = .agg #[.bool x.n, .slice x.s.a x.s.len x.s.cap, .bool y.n, .slice y.s.a y.s.len y.s.cap] ∧ Z4.IsZ w x a ∧ Z4.IsZ w y b := by
  obtain ⟨v1, v2, v3, v4, rfl, h1, h2, h3, h4⟩ := V_agg4 h
  obtain ⟨x, rfl, rfl, hx⟩ := numZ_V h1 h2 hs
  obtain ⟨y, rfl, rfl, hy⟩ := numZ_V h3 h4 hb
  exact ⟨x, y, rfl, hx, hy⟩
def flt (c p : Int) : D := .agg [.int .i64 c, .int .i64 p]
theorem V_flt (c p : Int) : V w N (.agg #[.int .i64 c, .int .i64 p]) (flt c p) := agg2_V (.int _ _) (.int _ _) rfl rfl

end

end Go.Proofs.Ytbbidekjbgjooaa.M
end

section
namespace Go.Proofs.Ytbbidekjbgjooaa
open Go.RowKit

/-- The call began in w; in wc its variables are the blocks of L, with what they hold; in no order. -/
def Vs (w wc : World) (L : List (Nat × TypeId × Array Value)) : Prop :=
  Ext w wc ∧ (L.map (·.1)).Nodup ∧ ∀ e ∈ L, w.heap.size ≤ e.1 ∧ Box wc e.1 e.2.1 e.2.2

section
variable {w wc w' : World} {L : List (Nat × TypeId × Array Value)} {n i k : Nat} {T : TypeId} {vs : Array Value}
theorem Vs.nil (w : World) : Vs w w [] := ⟨Ext.rf w, by simp, fun e he => by cases he⟩
theorem Vs.ext (h : Vs w wc L) : Ext w wc := h.1
theorem Vs.keep (h : Vs w wc L) (e : Ext wc w') : Vs w w' L := ⟨h.1.tr e, h.2.1, fun x hx => ⟨(h.2.2 x hx).1, (h.2.2 x hx).2.keep e⟩⟩
theorem Vs.dr (h : Vs w wc L) : Vs w wc.drew L := h.keep (Ext.rf _).dr
theorem Vs.add (h : Vs w wc L) (vs : Array Value) (T : TypeId) : Vs w (wc.alloc (.cells vs T)) ((wc.heap.size, T, vs) :: L) := by
  refine ⟨h.1.al _, ?_, ?_⟩
  · rw [List.map_cons, List.nodup_cons]
    refine ⟨fun hm => ?_, h.2.1⟩
    obtain ⟨e, he, he1⟩ := List.mem_map.1 hm
    have := (h.2.2 e he).2.lt
    omega
  · intro e he
    rcases List.mem_cons.1 he with rfl | he
    · exact ⟨h.1.size, Box.new rfl⟩
    · exact ⟨(h.2.2 e he).1, (h.2.2 e he).2.al _⟩
theorem Vs.add' (h : Vs w wc L) {vs : Array Value} {T : TypeId} (hn : n = wc.heap.size) : Vs w (wc.alloc (.cells vs T)) ((n, T, vs) :: L) := by subst hn; exact h.add vs T
theorem Vs.box (h : Vs w wc L) (i : Nat) (hi : L[i]? = some (n, T, vs)) : Box wc n T vs := (h.2.2 _ (List.mem_of_getElem? hi)).2
theorem Vs.ge (h : Vs w wc L) (i : Nat) (hi : L[i]? = some (n, T, vs)) : w.heap.size ≤ n := (h.2.2 _ (List.mem_of_getElem? hi)).1
theorem Vs.lt (h : Vs w wc L) (i : Nat) (hi : L[i]? = some (n, T, vs)) : n < wc.heap.size := (h.box i hi).lt
theorem Vs.ne (h : Vs w wc L) (i j : Nat) {m : Nat} {U : TypeId} {us : Array Value} (hi : L[i]? = some (n, T, vs)) (hj : L[j]? = some (m, U, us)) (hij : i ≠ j) : n ≠ m := by
  rintro rfl
  have h1 : (L.map (·.1))[i]? = some n := by rw [List.getElem?_map, hi]; rfl
  have h2 : (L.map (·.1))[j]? = some n := by rw [List.getElem?_map, hj]; rfl
  exact hij ((List.getElem?_inj (List.getElem?_eq_some_iff.1 h1).1 h.2.1).1 (h1.trans h2.symm))
theorem Vs.set1 (h : Vs w wc L) (i : Nat) (hi : L[i]? = some (n, T, vs)) (k : Nat) (u : Value) : Vs w (wc.setCell ⟨n, k, none⟩ u) (L.set i (n, T, vs.setIfInBounds k u)) := by
  refine ⟨h.1.st (h.ge i hi) _, ?_, ?_⟩
  · have : (L.set i (n, T, vs.setIfInBounds k u)).map (·.1) = L.map (·.1) := by
      rw [List.map_set]
      apply List.ext_getElem?
      intro j
      rw [List.getElem?_set]
      split
      · rename_i e
        subst e
        have hl := (List.getElem?_eq_some_iff.1 hi).1
        rw [if_pos (by simpa using hl), List.getElem?_map, hi]
        rfl
      · rfl
    rw [this]; exact h.2.1
  · intro e he
    obtain ⟨j, hj⟩ := List.mem_iff_getElem?.1 he
    by_cases hij : i = j
    · subst hij
      have hl := (List.getElem?_eq_some_iff.1 hi).1
      rw [List.getElem?_set_self hl] at hj
      injection hj with hj
      subst hj
      exact ⟨h.ge i hi, (h.box i hi).set1 _ _⟩
    · rw [List.getElem?_set_ne hij] at hj
      have hm := h.2.2 e (List.mem_of_getElem? hj)
      exact ⟨hm.1, hm.2.far (h.ne j i hj hi (fun e => hij e.symm)) _⟩
theorem Vs.set2 (h : Vs w wc L) (i : Nat) {a b : Value} (hi : L[i]? = some (n, T, #[a, b])) (u v : Value) : Vs w ((wc.setCell ⟨n, 0, none⟩ u).setCell ⟨n, 1, none⟩ v) (L.set i (n, T, #[u, v])) := by
  have h1 := h.set1 i hi 0 u
  have hl := (List.getElem?_eq_some_iff.1 hi).1
  have h2 := h1.set1 i (n := n) (T := T) (vs := #[u, b]) (by rw [List.getElem?_set_self hl]; rfl) 1 v
  rw [List.set_set] at h2
  exact h2
theorem Vs.tl {e : Nat × TypeId × Array Value} (h : Vs w wc (e :: L)) : Vs w wc L := ⟨h.1, (by have := h.2.1; rw [List.map_cons, List.nodup_cons] at this; exact this.2), fun x hx => h.2.2 x (.tail _ hx)⟩
/-- New variables, in whatever new blocks. -/
theorem Vs.more {W : World} {M : List (Nat × TypeId × Array Value)} (h : Vs w W L) (e : Ext W w') (hn : (M.map (·.1)).Nodup) (hg : ∀ x ∈ M, W.heap.size ≤ x.1) (hb : ∀ x ∈ M, Box w' x.1 x.2.1 x.2.2) : Vs w w' (M ++ L) := by
  refine ⟨h.1.tr e, ?_, fun x hx => ?_⟩
  · rw [List.map_append, List.nodup_append]
    refine ⟨hn, h.2.1, fun a ha b hb' => ?_⟩
    obtain ⟨x, hx, rfl⟩ := List.mem_map.1 ha
    obtain ⟨y, hy, rfl⟩ := List.mem_map.1 hb'
    have h1 := hg x hx
    have h2 := (h.2.2 y hy).2.lt
    omega
  · rcases List.mem_append.1 hx with hx | hx
    · exact ⟨Nat.le_trans h.1.size (hg x hx), hb x hx⟩
    · exact ⟨(h.2.2 x hx).1, (h.2.2 x hx).2.keep e⟩
theorem Vs.facts (h : Vs w wc L) (i : Nat) {a b : Value} (hi : L[i]? = some (n, T, #[a, b])) : wc.cell? ⟨n, 0, none⟩ = some a ∧ wc.cell? ⟨n, 1, none⟩ = some b ∧ wc.frozen? ⟨n, 0, none⟩ = false ∧ wc.frozen? ⟨n, 1, none⟩ = false := (h.box i hi).facts
theorem Vs.kept2 (h : Vs w wc L) (i : Nat) {U : TypeId} (hi : L[i]? = some (n, T, vs)) (hT : U ≠ T) (u v : Value) : Kept U wc ((wc.setCell ⟨n, 0, none⟩ u).setCell ⟨n, 1, none⟩ v) := (Kept.rf _ _).st2 (h.box i hi).ty hT u v


/-- The new variables of a region. -/
theorem more_of {W w' : World} {AL : List AE} : ∀ {ns : List Nat}, ns.length = AL.length → ns.Nodup → (∀ n ∈ ns, W.heap.size ≤ n) → (∀ e ∈ AL.zip ns, Box w' e.2 e.1.2.1 e.1.2.2) →
    (((AL.zip ns).map fun e => (e.2, e.1.2.1, e.1.2.2)).map (·.1)).Nodup ∧ (∀ x ∈ (AL.zip ns).map fun e => (e.2, e.1.2.1, e.1.2.2), W.heap.size ≤ x.1) ∧ (∀ x ∈ (AL.zip ns).map fun e => (e.2, e.1.2.1, e.1.2.2), Box w' x.1 x.2.1 x.2.2) := by
  intro ns hl hn hg hb
  refine ⟨?_, fun x hx => ?_, fun x hx => ?_⟩
  · rw [List.map_map]
    have e1 : ((fun x : Nat × TypeId × Array Value => x.1) ∘ fun e : AE × Nat => (e.2, e.1.2.1, e.1.2.2)) = Prod.snd := rfl
    rw [e1, List.map_snd_zip (by omega)]
    exact hn
  · obtain ⟨e, he, rfl⟩ := List.mem_map.1 hx
    exact hg _ (List.of_mem_zip he).2
  · obtain ⟨e, he, rfl⟩ := List.mem_map.1 hx
    exact hb e he
end

theorem bt_natAbs {z : Int} {n : Nat} (h : Bt z n) : Bt (z.natAbs : Int) n := h.le (by omega)

theorem madeSg_any (m : Bool) (x : IV) (z : Int) (w : World) (h : IsI w x z) : Calls Try.prog 64 #[.bool m, .slice x.s.a x.s.len x.s.cap] w (RetI w (sg m (z.natAbs : Int))) := by
  obtain ⟨l, hl, hv, hs⟩ := isI_abs h
  rw [sg_false] at hv hs
  have := made_any m x.s l w hl (hs.le (by rw [natAbs_sg]; exact Nat.le_refl _))
  rw [hv] at this
  exact this

theorem madeAbs_any (x : IV) (z : Int) (w : World) (h : IsI w x z) : Calls Try.prog 64 #[.bool false, .slice x.s.a x.s.len x.s.cap] w (RetI w (z.natAbs : Int)) := madeSg_any false x z w h

end Go.Proofs.Ytbbidekjbgjooaa
end

section
namespace Go.Proofs.Ytbbidekjbgjooaa
open Go.RowKit

section
variable {w wc w' : World} {L : List (Nat × TypeId × Array Value)} {n i : Nat} {T : TypeId}
theorem Vs.set4 (h : Vs w wc L) (i : Nat) {a b c d : Value} (hi : L[i]? = some (n, T, #[a, b, c, d])) (p q r s : Value) :
    Vs w ((((wc.setCell ⟨n, 0, none⟩ p).setCell ⟨n, 1, none⟩ q).setCell ⟨n, 2, none⟩ r).setCell ⟨n, 3, none⟩ s) (L.set i (n, T, #[p, q, r, s])) := by
  have hl := (List.getElem?_eq_some_iff.1 hi).1
  have h1 := h.set1 i hi 0 p
  have h2 := h1.set1 i (n := n) (T := T) (vs := #[p, b, c, d]) (by rw [List.getElem?_set_self hl]; rfl) 1 q
  rw [List.set_set] at h2
  have h3 := h2.set1 i (n := n) (T := T) (vs := #[p, q, c, d]) (by rw [List.getElem?_set_self hl]; rfl) 2 r
  rw [List.set_set] at h3
  have h4 := h3.set1 i (n := n) (T := T) (vs := #[p, q, r, d]) (by rw [List.getElem?_set_self hl]; rfl) 3 s
  rw [List.set_set] at h4
  exact h4
theorem Vs.facts4 (h : Vs w wc L) (i : Nat) {a b c d : Value} (hi : L[i]? = some (n, T, #[a, b, c, d])) :
    wc.cell? ⟨n, 0, none⟩ = some a ∧ wc.cell? ⟨n, 1, none⟩ = some b ∧ wc.cell? ⟨n, 2, none⟩ = some c ∧ wc.cell? ⟨n, 3, none⟩ = some d ∧
    wc.frozen? ⟨n, 0, none⟩ = false ∧ wc.frozen? ⟨n, 1, none⟩ = false ∧ wc.frozen? ⟨n, 2, none⟩ = false ∧ wc.frozen? ⟨n, 3, none⟩ = false :=
  have hb := h.box i hi
  ⟨hb.cell 0 rfl, hb.cell 1 rfl, hb.cell 2 rfl, hb.cell 3 rfl, hb.frozen 0, hb.frozen 1, hb.frozen 2, hb.frozen 3⟩
theorem Vs.kept4 (h : Vs w wc L) (i : Nat) {U : TypeId} {vs : Array Value} (hi : L[i]? = some (n, T, vs)) (hT : U ≠ T) (p q r s : Value) :
    Kept U wc ((((wc.setCell ⟨n, 0, none⟩ p).setCell ⟨n, 1, none⟩ q).setCell ⟨n, 2, none⟩ r).setCell ⟨n, 3, none⟩ s) :=
  (((((Kept.rf U wc).st (p := ⟨n, 0, none⟩) (h.box i hi).ty hT p).st (p := ⟨n, 1, none⟩) ((h.box i hi).ty.st _ _) hT q).st (p := ⟨n, 2, none⟩) (((h.box i hi).ty.st _ _).st _ _) hT r).st (p := ⟨n, 3, none⟩) ((((h.box i hi).ty.st _ _).st _ _).st _ _) hT s)
theorem Cs.st4 {w : World} {L : List (Nat × Nat × Value)} {n : Nat} (h : Cs w L) (hn : Off n L) (p q r s : Value) :
    Cs ((((w.setCell ⟨n, 0, none⟩ p).setCell ⟨n, 1, none⟩ q).setCell ⟨n, 2, none⟩ r).setCell ⟨n, 3, none⟩ s) L := (((h.st1 hn p).st1 hn q).st1 hn r).st1 hn s
end

end Go.Proofs.Ytbbidekjbgjooaa
end

section
namespace Go.Proofs.Ytbbidekjbgjooaa.Z4
open Go.RowKit

theorem isZ_nonneg {w : World} {x : IV} {z : Int} (h : IsZ w x z) (hz : 0 ≤ z) : ∃ l, IsL w x.s .i64 l ∧ Norm l ∧ Dig l ∧ valL l = z ∧ l.length ≤ 1321528400 := by
  obtain ⟨l, hl, hn, hd, hle, he, _, _⟩ := h.open_
  refine ⟨l, hl, hn, hd, ?_, hle⟩
  have := valL_nonneg hd
  unfold sg at he
  split at he <;> omega

theorem isZ_size {w : World} {x : IV} {z : Int} (h : IsZ w x z) : ∃ l, IsL w x.s .i64 l ∧ Norm l ∧ Dig l ∧ valL l = z.natAbs ∧ l.length ≤ 1321528400 := by
  obtain ⟨l, hl, hn, hd, hle, he, _, _⟩ := h.open_
  refine ⟨l, hl, hn, hd, ?_, hle⟩
  have := valL_nonneg hd
  rw [he, natAbs_sg]
  omega

theorem madeAbs_any (x : IV) (z : Int) (w : World) (h : IsZ w x z) : Calls Try.prog 71 #[.bool false, .slice x.s.a x.s.len x.s.cap] w (RetZ w (z.natAbs : Int)) := by
  obtain ⟨l, hl, hn, hd, hv, _⟩ := isZ_size h
  have h1 : sg false (valL l) = (z.natAbs : Int) := hv
  have := made_any false x.s l w hl hd (by rw [h1]; obtain ⟨_, _, _, _, _, _, h6⟩ := h; exact h6.le (by omega))
  rw [h1] at this
  exact this

set_option maxHeartbeats 1000000 in
theorem abs_any (x : IV) (a : Int) (w : World) (hx : IsZ w x a) :
    Calls Try.prog 35 #[.agg #[.bool x.n, .slice x.s.a x.s.len x.s.cap]] w (RetZ w (a.natAbs : Int)) := by
  have hd : Bt a maxBits := by obtain ⟨_, _, _, _, _, _, h6⟩ := hx; exact h6
  have V0 := (((Vs.nil w).add' (n := w.heap.size) (vs := #[Value.bool x.n, Value.slice x.s.a x.s.len x.s.cap]) (T := 31) (by simp)).add' (n := w.heap.size + 1) (vs := #[Value.bool false, Value.slice none 0 0]) (T := 31) (by simp))
  replace hx := hx.keep V0.ext
  go_enter Try.func35, Try.ntmps35
  go_upto_region 1 with fail
  generalize ((w.alloc (Obj.cells #[Value.bool x.n, Value.slice x.s.a x.s.len x.s.cap] 31)).alloc (Obj.cells #[Value.bool false, Value.slice none 0 0] 31)) = W0 at *
  obtain ⟨c1_0, c1_1, c1_2, c1_3⟩ := V0.facts 1 rfl
  obtain ⟨c2_0, c2_1, c2_2, c2_3⟩ := V0.facts 0 rfl
  go_wp2_with fail
  (with_reducible refine (Z4.madeAbs_any x a _ (hx)).mono ?_)
  rintro e W1 ⟨r, rfl, hr, hxx⟩
  replace hx := hx.keep hxx
  clear c1_0 c1_1 c1_2 c1_3 c2_0 c2_1 c2_2 c2_3
  have V1 := V0.keep hxx
  clear V0 hxx
  obtain ⟨c2_0, c2_1, c2_2, c2_3⟩ := V1.facts 0 rfl
  go_wp2
  clear c2_0 c2_1 c2_2 c2_3
  have KZ := V1.kept2 (U := 3) 0 rfl (by decide) (Value.bool r.n) (Value.slice r.s.a r.s.len r.s.cap)
  replace hx := hx.kept KZ
  replace hr := hr.kept KZ
  clear KZ
  replace V1 := V1.set2 0 rfl (Value.bool r.n) (Value.slice r.s.a r.s.len r.s.cap)
  dsimp only [List.set] at V1
  generalize ((W1.setCell ⟨w.heap.size + 1, 0, none⟩ (Value.bool r.n)).setCell ⟨w.heap.size + 1, 1, none⟩ (Value.slice r.s.a r.s.len r.s.cap)) = W2 at *
  have V2 := V1
  clear V1
  obtain ⟨r2_0, r2_1, r2_2, r2_3⟩ := V2.facts 0 rfl
  go_wp2
  refine bodyPost_ret (v := .agg #[Value.bool r.n, Value.slice r.s.a r.s.len r.s.cap]) (by simp [results, Try.results35, go_sem, r2_0, r2_1]) rfl ?_
  exact ⟨r, rfl, hr, V2.ext⟩

end Go.Proofs.Ytbbidekjbgjooaa.Z4
end
