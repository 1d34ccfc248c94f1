/- Words for slices and worlds that the walks of this seat use: a slice that reads as a list of numbers; what a call keeps. -/
import Derived.Test.YtbbidekjbgjooaaRows
import Derived.WalkKit
import Derived.WalkSpells
import Derived.WalkLawsBesides
import Derived.Lib.Hide
namespace Go.Proofs.Ytbbidekjbgjooaa
open Go.RowKit

/-- A fact kept from the walk: simp does not look behind the name, and no tactic sees its form. -/
def Hd (p : Prop) : Prop := Unit → p
theorem Hd.out {p : Prop} (h : Hd p) : p := h ()
theorem hd_ {p : Prop} (h : p) : Hd p := fun _ => h

/-- A slice value: address, length, capacity. -/
structure SV where
  a : Option Addr
  len : Nat
  cap : Nat

/-- What a call keeps: all blocks that were there. -/
abbrev Ext (w w' : World) : Prop := Below w.heap.size w w'

theorem Ext.rf (w : World) : Ext w w := Below.refl _ _
theorem Ext.tr {a b c : World} (h : Ext a b) (k : Ext b c) : Ext a c := Below.trans h (k.mono h.size)
theorem Ext.al {a b : World} (h : Ext a b) (o : Obj) : Ext a (b.alloc o) := Below.alloc h h.size o
theorem Ext.dr {a b : World} (h : Ext a b) : Ext a b.drew := Below.drew h
theorem Ext.st {a b : World} (h : Ext a b) {p : Addr} (hp : a.heap.size ≤ p.block) (u : Value) : Ext a (b.setCell p u) := Below.setCell h hp u
theorem Ext.gr {a b c : World} {row : Option Nat} (h : Ext a b) (hg : b.grownBy c row) (hr : ∀ k, row = some k → a.heap.size ≤ k) : Ext a c := Below.grown h hg h.size hr

/-- Element i, kept closed to the walk. -/
def at_ (l : List Int) (i : Nat) : Int := l.getD i 0

theorem at_lt {l : List Int} {i : Nat} (h : i < l.length) : at_ l i = l[i] := by simp [at_, h]
theorem at_mem {l : List Int} {i : Nat} (h : i < l.length) : at_ l i ∈ l := by rw [at_lt h]; exact List.getElem_mem h
theorem at_ge {l : List Int} {i : Nat} (h : l.length ≤ i) : at_ l i = 0 := by simp [at_, List.getElem?_eq_none h]

/-- Block b holds elements of type T. -/
def Ty (w : World) (b : Nat) (T : TypeId) : Prop := ∃ c fr, w.heap[b]? = some (.cells c T fr)

theorem Ty.lt {w : World} {b : Nat} {T : TypeId} (h : Ty w b T) : b < w.heap.size := by
  obtain ⟨c, fr, h⟩ := h
  rcases Nat.lt_or_ge b w.heap.size with hlt | hge
  · exact hlt
  · rw [Array.getElem?_eq_none hge] at h; cases h
theorem Ty.keep {w w' : World} {b : Nat} {T : TypeId} (h : Ty w b T) (e : Ext w w') : Ty w' b T := by
  have hl := h.lt
  obtain ⟨c, fr, h⟩ := h
  exact ⟨c, fr, (e.block b hl).trans h⟩
theorem Ty.al {w : World} {b : Nat} {T : TypeId} (h : Ty w b T) (o : Obj) : Ty (w.alloc o) b T := h.keep ((Ext.rf w).al o)
theorem Ty.dr {w : World} {b : Nat} {T : TypeId} (h : Ty w b T) : Ty w.drew b T := h
theorem Ty.new (w : World) (c : Array Value) (T : TypeId) : Ty (w.alloc (.cells c T)) w.heap.size T := ⟨c, _, heap_alloc_new w _⟩
theorem Ty.st {w : World} {b : Nat} {T : TypeId} (h : Ty w b T) (p : Addr) (u : Value) : Ty (w.setCell p u) b T := by
  obtain ⟨c, fr, h⟩ := h
  by_cases e : b = p.block
  · subst e
    refine ⟨if p.spot.isSome then c else c.setIfInBounds p.off u, fr, ?_⟩
    simp [World.setCell, Array.getElem?_modify, h]
  · exact ⟨c, fr, (Below.heap_setCell w p u b e).trans h⟩
theorem Ty.ne_ {w : World} {b b' : Nat} {T T' : TypeId} (h : Ty w b T) (h' : Ty w b' T') (hne : T ≠ T') : b ≠ b' := by
  rintro rfl
  obtain ⟨c, fr, h⟩ := h
  obtain ⟨c', fr', h'⟩ := h'
  rw [h] at h'
  injection h' with h'
  injection h' with _ ht
  exact hne ht

theorem Ty.new' {w : World} {c : Array Value} {T : TypeId} {n : Nat} (hn : n = w.heap.size) : Ty (w.alloc (.cells c T)) n T := by subst hn; exact Ty.new w c T

/-- All blocks of elements of type T are as they were. -/
def Kept (T : TypeId) (w w' : World) : Prop := ∀ b, Ty w b T → w'.heap[b]? = w.heap[b]?

theorem Kept.rf (T : TypeId) (w : World) : Kept T w w := fun _ _ => rfl
theorem Kept.of {T : TypeId} {w w' : World} (e : Ext w w') : Kept T w w' := fun b h => e.block b h.lt
theorem Kept.ty {T : TypeId} {w w' : World} {b : Nat} (h : Kept T w w') (t : Ty w b T) : Ty w' b T := by
  have hb := h b t
  obtain ⟨c, fr, hc⟩ := t
  exact ⟨c, fr, hb.trans hc⟩
theorem Kept.tr {T : TypeId} {a b c : World} (h : Kept T a b) (k : Kept T b c) : Kept T a c := fun x hx => (k x (h.ty hx)).trans (h x hx)
theorem Kept.ex {T : TypeId} {a b c : World} (h : Kept T a b) (k : Ext b c) : Kept T a c := h.tr (.of k)
theorem Kept.al {T : TypeId} {a b : World} (h : Kept T a b) (o : Obj) : Kept T a (b.alloc o) := h.ex ((Ext.rf b).al o)
theorem Kept.dr {T : TypeId} {a b : World} (h : Kept T a b) : Kept T a b.drew := h
theorem Kept.st {T T' : TypeId} {a b : World} (h : Kept T a b) {p : Addr} (hp : Ty b p.block T') (hne : T ≠ T') (u : Value) : Kept T a (b.setCell p u) :=
  h.tr fun x hx => Below.heap_setCell b p u x (hx.ne_ hp hne)

theorem Kept.st2 {T T' : TypeId} {a w : World} {b : Nat} (h : Kept T a w) (t : Ty w b T') (hne : T ≠ T') (u v : Value) : Kept T a ((w.setCell ⟨b, 0, none⟩ u).setCell ⟨b, 1, none⟩ v) :=
  (h.st (p := ⟨b, 0, none⟩) t hne u).st (p := ⟨b, 1, none⟩) (t.st _ _) hne v
theorem Ext.st2 {a w : World} {b : Nat} (h : Ext a w) (hb : a.heap.size ≤ b) (u v : Value) : Ext a ((w.setCell ⟨b, 0, none⟩ u).setCell ⟨b, 1, none⟩ v) :=
  (h.st (p := ⟨b, 0, none⟩) hb u).st (p := ⟨b, 1, none⟩) hb v

/-- The slice reads as n elements (of type T) whose cells are xs. -/
def Sl (w : World) (T : TypeId) (s : SV) (n : Nat) (xs : List Value) : Prop :=
  s.len = n ∧ n ≤ s.cap ∧ s.cap ≤ 9223372036854775807 ∧ (0 < xs.length → ∃ b off, s.a = some ⟨b, off, none⟩ ∧ Ty w b T ∧ ∀ j, j < xs.length → w.cell? ⟨b, off + j, none⟩ = some (xs.getD j undef))

theorem Sl.kept {w w' : World} {T : TypeId} {s : SV} {n : Nat} {xs : List Value} (h : Sl w T s n xs) (k : Kept T w w') : Sl w' T s n xs := by
  obtain ⟨h1, h2, h3, h4⟩ := h
  refine ⟨h1, h2, h3, fun hx => ?_⟩
  obtain ⟨b, off, ha, hb, hc⟩ := h4 hx
  exact ⟨b, off, ha, k.ty hb, fun j hj => (World.cell?_of_block (w := w) (w' := w') (a := ⟨b, off + j, none⟩) (k b hb)).trans (hc j hj)⟩
theorem Sl.keep {w w' : World} {T : TypeId} {s : SV} {n : Nat} {xs : List Value} (h : Sl w T s n xs) (k : Ext w w') : Sl w' T s n xs := h.kept (.of k)

/-- The element types of numbers. -/
def ET : IntKind → TypeId
  | .u8 => 5
  | .u32 => 93
  | .i64 => 3
  | .u64 => 92
  | .i32 => 21
  | _ => 0

/-- The numbers that a kind holds. -/
def Fit (k : IntKind) (x : Int) : Prop := match k with
  | .u8 => 0 ≤ x ∧ x ≤ 255
  | .u32 => 0 ≤ x ∧ x ≤ 4294967295
  | .u64 => 0 ≤ x ∧ x ≤ 18446744073709551615
  | .i64 => -9223372036854775808 ≤ x ∧ x ≤ 9223372036854775807
  | .i32 => -2147483648 ≤ x ∧ x ≤ 2147483647
  | _ => True

/-- The slice reads as the numbers l, of kind k. -/
def IsL (w : World) (s : SV) (k : IntKind) (l : List Int) : Prop :=
  Sl w (ET k) s l.length (l.map (Value.int k)) ∧ ∀ x ∈ l, Fit k x

theorem IsL.keep {w w' : World} {s : SV} {k : IntKind} {l : List Int} (h : IsL w s k l) (e : Ext w w') : IsL w' s k l := ⟨h.1.keep e, h.2⟩
theorem IsL.kept {w w' : World} {s : SV} {k : IntKind} {l : List Int} (h : IsL w s k l) (e : Kept (ET k) w w') : IsL w' s k l := ⟨h.1.kept e, h.2⟩

theorem IsL.fit {w : World} {s : SV} {k : IntKind} {l : List Int} (h : IsL w s k l) {i : Nat} (hi : i < l.length) : Fit k (at_ l i) := h.2 _ (at_mem hi)

theorem IsL.open_ {w : World} {s : SV} {k : IntKind} {l : List Int} (h : IsL w s k l) :
    ∃ ao cap, s = ⟨ao, l.length, cap⟩ ∧ l.length ≤ cap ∧ cap ≤ 9223372036854775807 ∧
      (0 < l.length → ∃ b off, ao = some ⟨b, off, none⟩ ∧ Ty w b (ET k) ∧ ∀ j, j < l.length → w.cell? ⟨b, off + j, none⟩ = some (.int k (at_ l j))) := by
  obtain ⟨⟨h1, h2, h3, h4⟩, -⟩ := h
  obtain ⟨ao, n, cap⟩ := s
  simp only at h1 h2 h3 h4
  subst h1
  refine ⟨ao, cap, rfl, h2, h3, fun hl => ?_⟩
  obtain ⟨b, off, ha, hb, hc⟩ := h4 (by simpa using hl)
  refine ⟨b, off, ha, hb, fun j hj => ?_⟩
  rw [hc j (by simpa using hj)]
  simp [at_, hj]

theorem IsL.mk_ {w : World} {ao : Option Addr} {cap : Nat} {k : IntKind} {l : List Int} (h2 : l.length ≤ cap) (h3 : cap ≤ 9223372036854775807)
    (h4 : 0 < l.length → ∃ b off, ao = some ⟨b, off, none⟩ ∧ Ty w b (ET k) ∧ ∀ j, j < l.length → w.cell? ⟨b, off + j, none⟩ = some (.int k (at_ l j))) (hf : ∀ x ∈ l, Fit k x) :
    IsL w ⟨ao, l.length, cap⟩ k l := by
  refine ⟨⟨rfl, h2, h3, fun hl => ?_⟩, hf⟩
  obtain ⟨b, off, ha, hb, hc⟩ := h4 (by simpa using hl)
  refine ⟨b, off, ha, hb, fun j hj => ?_⟩
  rw [hc j (by simpa using hj)]
  have hj' : j < l.length := by simpa using hj
  simp [at_, hj']

theorem IsL.nil_ {w : World} {s : SV} {k : IntKind} (h : IsL w s k []) : s.len = 0 := h.1.1

theorem isL_nil (w : World) (k : IntKind) : IsL w ⟨none, 0, 0⟩ k [] := ⟨⟨rfl, Nat.le_refl _, by simp, by simp⟩, by simp⟩

/-- A beginning of a slice, with whatever capacity. -/
theorem IsL.take {w : World} {ao : Option Addr} {cap cap' n : Nat} {k : IntKind} {l : List Int} (h : IsL w ⟨ao, l.length, cap⟩ k l) (hn : n ≤ l.length) (hc : n ≤ cap') (hc' : cap' ≤ 9223372036854775807) :
    IsL w ⟨ao, n, cap'⟩ k (l.take n) := by
  have hl : (l.take n).length = n := by simp; omega
  obtain ⟨ao', c', he, h2, h3, h4⟩ := h.open_
  simp only [SV.mk.injEq] at he
  obtain ⟨rfl, -, rfl⟩ := he
  have := IsL.mk_ (w := w) (ao := ao) (cap := cap') (k := k) (l := l.take n) (by omega) hc' (fun hp => by
    obtain ⟨b, off, ha, hb, hcell⟩ := h4 (by omega)
    refine ⟨b, off, ha, hb, fun j hj => ?_⟩
    rw [hcell j (by omega)]
    have : j < n := by omega
    simp [at_, this]) (fun x hx => h.2 x (List.mem_of_mem_take hx))
  rw [hl] at this
  exact this

theorem ret_i {k : IntKind} {a b : Int} (h : a = b) : Ending.returned (.int k a) = .returned (.int k b) := by rw [h]
theorem ret_b {a b : Bool} (h : a = b) : Ending.returned (.bool a) = .returned (.bool b) := by rw [h]
theorem ret_s {a b : ByteArray} (h : a = b) : Ending.returned (.string a) = .returned (.string b) := by rw [h]

end Go.Proofs.Ytbbidekjbgjooaa
