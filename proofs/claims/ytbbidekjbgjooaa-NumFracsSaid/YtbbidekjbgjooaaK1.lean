/- Words for slices and worlds that the walks of this seat use: a slice that reads as a list of numbers; what a call keeps. A small machine on plain data: what values of the program read as (D), what the walk knows of a call's own memory (AV, St), and how both stand to the model's memory (V, RV, Rel). The small machine: what is known of a call's own memory, and what a step leaves of it. Plain laws of places: no program in sight. A block of numbers that the call has made, known whole. Plain laws of division place by place: no program in sight. The small machine: its operations, and what each makes of a state. Numbers of the program: made. A slice of numbers that the call itself appends to. Strings as lists of bytes. Plain laws of places of four digits. append of many numbers onto a row of the call's own. math/bits.Len32 and LeadingZeros32: the kit's contracts, laid at this program. The small machine: the model does what the small machine says, one operation at a time. Sums, differences, products and their order: the program's walks. The small machine: one operation at a time, part two: the lemmas of each operation. order, sum, less. The small machine: the model's operations written in its words. The small machine: the model does what the small machine says: operations that write nothing. The small machine: the model does what the small machine says: parts, places, lengths, slices. -/
import Derived.Test.YtbbidekjbgjooaaRows
import Derived.WalkKit
import Derived.WalkSpells
import Derived.WalkLawsBesides
import Derived.Lib.Hide
import Derived.OrdersHeld
import Derived.Laws.IdiomCopy
import Derived.BigQuiet
import Derived.Deep.QuietTactic
import Derived.Deep.RegionHeld3
import Derived.Laws.AppendOwnNone
import Derived.Shelf.Small.Bits
section
namespace Go.Proofs.Ytbbidekjbgjooaa
open Go.RowKit

/-- A fact kept from the walk: simp does not look behind the name, and no tactic sees its form. -/
def Hd (p : Prop) : Prop := Unit → p
theorem Hd.out {p : Prop} (h : Hd p) : p := h ()
theorem hd_ {p : Prop} (h : p) : Hd p := fun _ => h

/-- A slice value: address, length, capacity. -/
structure SV where
  a : Option Addr
  len : Nat
  cap : Nat

/-- What a call keeps: all blocks that were there. -/
abbrev Ext (w w' : World) : Prop := Below w.heap.size w w'

theorem Ext.rf (w : World) : Ext w w := Below.refl _ _
theorem Ext.tr {a b c : World} (h : Ext a b) (k : Ext b c) : Ext a c := Below.trans h (k.mono h.size)
theorem Ext.al {a b : World} (h : Ext a b) (o : Obj) : Ext a (b.alloc o) := Below.alloc h h.size o
theorem Ext.dr {a b : World} (h : Ext a b) : Ext a b.drew := Below.drew h
theorem Ext.st {a b : World} (h : Ext a b) {p : Addr} (hp : a.heap.size ≤ p.block) (u : Value) : Ext a (b.setCell p u) := Below.setCell h hp u
theorem Ext.gr {a b c : World} {row : Option Nat} (h : Ext a b) (hg : b.grownBy c row) (hr : ∀ k, row = some k → a.heap.size ≤ k) : Ext a c := Below.grown h hg h.size hr

/-- Element i, kept closed to the walk. -/
def at_ (l : List Int) (i : Nat) : Int := l.getD i 0

theorem at_lt {l : List Int} {i : Nat} (h : i < l.length) : at_ l i = l[i] := by simp [at_, h]
theorem at_mem {l : List Int} {i : Nat} (h : i < l.length) : at_ l i ∈ l := by rw [at_lt h]; exact List.getElem_mem h
theorem at_ge {l : List Int} {i : Nat} (h : l.length ≤ i) : at_ l i = 0 := by simp [at_, List.getElem?_eq_none h]

/-- Block b holds elements of type T. -/
def Ty (w : World) (b : Nat) (T : TypeId) : Prop := ∃ c fr, w.heap[b]? = some (.cells c T fr)

theorem Ty.lt {w : World} {b : Nat} {T : TypeId} (h : Ty w b T) : b < w.heap.size := by
  obtain ⟨c, fr, h⟩ := h
  rcases Nat.lt_or_ge b w.heap.size with hlt | hge
  · exact hlt
  · rw [Array.getElem?_eq_none hge] at h; cases h
theorem Ty.keep {w w' : World} {b : Nat} {T : TypeId} (h : Ty w b T) (e : Ext w w') : Ty w' b T := by
  have hl := h.lt
  obtain ⟨c, fr, h⟩ := h
  exact ⟨c, fr, (e.block b hl).trans h⟩
theorem Ty.al {w : World} {b : Nat} {T : TypeId} (h : Ty w b T) (o : Obj) : Ty (w.alloc o) b T := h.keep ((Ext.rf w).al o)
theorem Ty.dr {w : World} {b : Nat} {T : TypeId} (h : Ty w b T) : Ty w.drew b T := h
theorem Ty.new (w : World) (c : Array Value) (T : TypeId) : Ty (w.alloc (.cells c T)) w.heap.size T := ⟨c, _, heap_alloc_new w _⟩
theorem Ty.st {w : World} {b : Nat} {T : TypeId} (h : Ty w b T) (p : Addr) (u : Value) : Ty (w.setCell p u) b T := by
  obtain ⟨c, fr, h⟩ := h
  by_cases e : b = p.block
  · subst e
    refine ⟨if p.spot.isSome then c else c.setIfInBounds p.off u, fr, ?_⟩
    simp [World.setCell, Array.getElem?_modify, h]
  · exact ⟨c, fr, (Below.heap_setCell w p u b e).trans h⟩
theorem Ty.ne_ {w : World} {b b' : Nat} {T T' : TypeId} (h : Ty w b T) (h' : Ty w b' T') (hne : T ≠ T') : b ≠ b' := by
  rintro rfl
  obtain ⟨c, fr, h⟩ := h
  obtain ⟨c', fr', h'⟩ := h'
  rw [h] at h'
  injection h' with h'
  injection h' with _ ht
  exact hne ht

theorem Ty.new' {w : World} {c : Array Value} {T : TypeId} {n : Nat} (hn : n = w.heap.size) : Ty (w.alloc (.cells c T)) n T := by subst hn; exact Ty.new w c T

/-- All blocks of elements of type T are as they were. -/
def Kept (T : TypeId) (w w' : World) : Prop := ∀ b, Ty w b T → w'.heap[b]? = w.heap[b]?

theorem Kept.rf (T : TypeId) (w : World) : Kept T w w := fun _ _ => rfl
theorem Kept.of {T : TypeId} {w w' : World} (e : Ext w w') : Kept T w w' := fun b h => e.block b h.lt
theorem Kept.ty {T : TypeId} {w w' : World} {b : Nat} (h : Kept T w w') (t : Ty w b T) : Ty w' b T := by
  have hb := h b t
  obtain ⟨c, fr, hc⟩ := t
  exact ⟨c, fr, hb.trans hc⟩
theorem Kept.tr {T : TypeId} {a b c : World} (h : Kept T a b) (k : Kept T b c) : Kept T a c := fun x hx => (k x (h.ty hx)).trans (h x hx)
theorem Kept.ex {T : TypeId} {a b c : World} (h : Kept T a b) (k : Ext b c) : Kept T a c := h.tr (.of k)
theorem Kept.al {T : TypeId} {a b : World} (h : Kept T a b) (o : Obj) : Kept T a (b.alloc o) := h.ex ((Ext.rf b).al o)
theorem Kept.dr {T : TypeId} {a b : World} (h : Kept T a b) : Kept T a b.drew := h
theorem Kept.st {T T' : TypeId} {a b : World} (h : Kept T a b) {p : Addr} (hp : Ty b p.block T') (hne : T ≠ T') (u : Value) : Kept T a (b.setCell p u) :=
  h.tr fun x hx => Below.heap_setCell b p u x (hx.ne_ hp hne)

theorem Kept.st2 {T T' : TypeId} {a w : World} {b : Nat} (h : Kept T a w) (t : Ty w b T') (hne : T ≠ T') (u v : Value) : Kept T a ((w.setCell ⟨b, 0, none⟩ u).setCell ⟨b, 1, none⟩ v) :=
  (h.st (p := ⟨b, 0, none⟩) t hne u).st (p := ⟨b, 1, none⟩) (t.st _ _) hne v
theorem Ext.st2 {a w : World} {b : Nat} (h : Ext a w) (hb : a.heap.size ≤ b) (u v : Value) : Ext a ((w.setCell ⟨b, 0, none⟩ u).setCell ⟨b, 1, none⟩ v) :=
  (h.st (p := ⟨b, 0, none⟩) hb u).st (p := ⟨b, 1, none⟩) hb v

/-- The slice reads as n elements (of type T) whose cells are xs. -/
def Sl (w : World) (T : TypeId) (s : SV) (n : Nat) (xs : List Value) : Prop :=
  s.len = n ∧ n ≤ s.cap ∧ s.cap ≤ 9223372036854775807 ∧ (0 < xs.length → ∃ b off, s.a = some ⟨b, off, none⟩ ∧ Ty w b T ∧ ∀ j, j < xs.length → w.cell? ⟨b, off + j, none⟩ = some (xs.getD j undef))

theorem Sl.kept {w w' : World} {T : TypeId} {s : SV} {n : Nat} {xs : List Value} (h : Sl w T s n xs) (k : Kept T w w') : Sl w' T s n xs := by
  obtain ⟨h1, h2, h3, h4⟩ := h
  refine ⟨h1, h2, h3, fun hx => ?_⟩
  obtain ⟨b, off, ha, hb, hc⟩ := h4 hx
  exact ⟨b, off, ha, k.ty hb, fun j hj => (World.cell?_of_block (w := w) (w' := w') (a := ⟨b, off + j, none⟩) (k b hb)).trans (hc j hj)⟩
theorem Sl.keep {w w' : World} {T : TypeId} {s : SV} {n : Nat} {xs : List Value} (h : Sl w T s n xs) (k : Ext w w') : Sl w' T s n xs := h.kept (.of k)

/-- The element types of numbers. -/
def ET : IntKind → TypeId
  | .u8 => 5
  | .u32 => 93
  | .i64 => 3
  | .u64 => 92
  | .i32 => 21
  | _ => 0

/-- The numbers that a kind holds. -/
def Fit (k : IntKind) (x : Int) : Prop := match k with
  | .u8 => 0 ≤ x ∧ x ≤ 255
  | .u32 => 0 ≤ x ∧ x ≤ 4294967295
  | .u64 => 0 ≤ x ∧ x ≤ 18446744073709551615
  | .i64 => -9223372036854775808 ≤ x ∧ x ≤ 9223372036854775807
  | .i32 => -2147483648 ≤ x ∧ x ≤ 2147483647
  | _ => True

/-- The slice reads as the numbers l, of kind k. -/
def IsL (w : World) (s : SV) (k : IntKind) (l : List Int) : Prop :=
  Sl w (ET k) s l.length (l.map (Value.int k)) ∧ ∀ x ∈ l, Fit k x

theorem IsL.keep {w w' : World} {s : SV} {k : IntKind} {l : List Int} (h : IsL w s k l) (e : Ext w w') : IsL w' s k l := ⟨h.1.keep e, h.2⟩
theorem IsL.kept {w w' : World} {s : SV} {k : IntKind} {l : List Int} (h : IsL w s k l) (e : Kept (ET k) w w') : IsL w' s k l := ⟨h.1.kept e, h.2⟩

theorem IsL.fit {w : World} {s : SV} {k : IntKind} {l : List Int} (h : IsL w s k l) {i : Nat} (hi : i < l.length) : Fit k (at_ l i) := h.2 _ (at_mem hi)

theorem IsL.open_ {w : World} {s : SV} {k : IntKind} {l : List Int} (h : IsL w s k l) :
    ∃ ao cap, s = ⟨ao, l.length, cap⟩ ∧ l.length ≤ cap ∧ cap ≤ 9223372036854775807 ∧
      (0 < l.length → ∃ b off, ao = some ⟨b, off, none⟩ ∧ Ty w b (ET k) ∧ ∀ j, j < l.length → w.cell? ⟨b, off + j, none⟩ = some (.int k (at_ l j))) := by
  obtain ⟨⟨h1, h2, h3, h4⟩, -⟩ := h
  obtain ⟨ao, n, cap⟩ := s
  simp only at h1 h2 h3 h4
  subst h1
  refine ⟨ao, cap, rfl, h2, h3, fun hl => ?_⟩
  obtain ⟨b, off, ha, hb, hc⟩ := h4 (by simpa using hl)
  refine ⟨b, off, ha, hb, fun j hj => ?_⟩
  rw [hc j (by simpa using hj)]
  simp [at_, hj]

theorem IsL.mk_ {w : World} {ao : Option Addr} {cap : Nat} {k : IntKind} {l : List Int} (h2 : l.length ≤ cap) (h3 : cap ≤ 9223372036854775807)
    (h4 : 0 < l.length → ∃ b off, ao = some ⟨b, off, none⟩ ∧ Ty w b (ET k) ∧ ∀ j, j < l.length → w.cell? ⟨b, off + j, none⟩ = some (.int k (at_ l j))) (hf : ∀ x ∈ l, Fit k x) :
    IsL w ⟨ao, l.length, cap⟩ k l := by
  refine ⟨⟨rfl, h2, h3, fun hl => ?_⟩, hf⟩
  obtain ⟨b, off, ha, hb, hc⟩ := h4 (by simpa using hl)
  refine ⟨b, off, ha, hb, fun j hj => ?_⟩
  rw [hc j (by simpa using hj)]
  have hj' : j < l.length := by simpa using hj
  simp [at_, hj']

theorem IsL.nil_ {w : World} {s : SV} {k : IntKind} (h : IsL w s k []) : s.len = 0 := h.1.1

theorem isL_nil (w : World) (k : IntKind) : IsL w ⟨none, 0, 0⟩ k [] := ⟨⟨rfl, Nat.le_refl _, by simp, by simp⟩, by simp⟩

/-- A beginning of a slice, with whatever capacity. -/
theorem IsL.take {w : World} {ao : Option Addr} {cap cap' n : Nat} {k : IntKind} {l : List Int} (h : IsL w ⟨ao, l.length, cap⟩ k l) (hn : n ≤ l.length) (hc : n ≤ cap') (hc' : cap' ≤ 9223372036854775807) :
    IsL w ⟨ao, n, cap'⟩ k (l.take n) := by
  have hl : (l.take n).length = n := by simp; omega
  obtain ⟨ao', c', he, h2, h3, h4⟩ := h.open_
  simp only [SV.mk.injEq] at he
  obtain ⟨rfl, -, rfl⟩ := he
  have := IsL.mk_ (w := w) (ao := ao) (cap := cap') (k := k) (l := l.take n) (by omega) hc' (fun hp => by
    obtain ⟨b, off, ha, hb, hcell⟩ := h4 (by omega)
    refine ⟨b, off, ha, hb, fun j hj => ?_⟩
    rw [hcell j (by omega)]
    have : j < n := by omega
    simp [at_, this]) (fun x hx => h.2 x (List.mem_of_mem_take hx))
  rw [hl] at this
  exact this

theorem ret_i {k : IntKind} {a b : Int} (h : a = b) : Ending.returned (.int k a) = .returned (.int k b) := by rw [h]
theorem ret_b {a b : Bool} (h : a = b) : Ending.returned (.bool a) = .returned (.bool b) := by rw [h]
theorem ret_s {a b : ByteArray} (h : a = b) : Ending.returned (.string a) = .returned (.string b) := by rw [h]

end Go.Proofs.Ytbbidekjbgjooaa
end

section
namespace Go.Proofs.Ytbbidekjbgjooaa.M
open Go.RowKit

abbrev Ext (w w' : World) : Prop := Below w.heap.size w w'
theorem Ext.rf (w : World) : Ext w w := Below.refl _ _
theorem Ext.tr {a b c : World} (h : Ext a b) (k : Ext b c) : Ext a c := Below.trans h (k.mono h.size)

/-- Plain data. -/
inductive D where
  | bool (b : Bool)
  | int (k : IntKind) (n : Int)
  | str (s : List UInt8)
  | agg (l : List D)
  | tup (l : List D)
  | list (T : TypeId) (sz : Nat) (l : List D)
  | nilp
  | ref (d : D)
  | fn (f : Fn) (first captured : List D)

instance : Inhabited D := ⟨.int .i64 0⟩

def D.cells : D → List D
  | .agg l => l
  | d => [d]
def D.one : D → Bool
  | .agg _ => false
  | .tup _ => false
  | _ => true
def D.isAgg : D → Bool
  | .agg _ => true
  | _ => false
def D.size (d : D) : Nat := d.cells.length

/-- In world w, touching the blocks of N alone, a value reads as d. -/
inductive V (w : World) (N : Nat → Prop) : Value → D → Prop where
  | bool (b : Bool) : V w N (.bool b) (.bool b)
  | int (k : IntKind) (n : Int) : V w N (.int k n) (.int k n)
  | str (s : ByteArray) : V w N (.string s) (.str s.data.toList)
  | agg (cs : Array Value) (l : List D) : cs.size = l.length → (∀ d ∈ l, d.one = true) → (∀ i d, l[i]? = some d → V w N (cs.getD i undef) d) → V w N (.agg cs) (.agg l)
  | tup (cs : Array Value) (l : List D) : cs.size = l.length → (∀ i d, l[i]? = some d → V w N (cs.getD i undef) d) → V w N (.tuple cs) (.tup l)
  | empty (a : Option Addr) (cap : Nat) (T : TypeId) (sz : Nat) : cap ≤ 9223372036854775807 → V w N (.slice a 0 cap) (.list T sz [])
  | list (b o cap : Nat) (T : TypeId) (sz : Nat) (l : List D) (c : Array Value) (fr : Nat × Nat) : w.heap[b]? = some (.cells c T fr) → N b → l.length ≤ cap → cap ≤ 9223372036854775807 →
      (∀ e ∈ l, e.cells.length = sz ∧ ∀ q ∈ e.cells, q.one = true) → (∀ i e j d, l[i]? = some e → e.cells[j]? = some d → o + (i * sz + j) < c.size) →
      (∀ i e j d, l[i]? = some e → e.cells[j]? = some d → V w N (c.getD (o + (i * sz + j)) undef) d) → V w N (.slice (some ⟨b, o, none⟩) l.length cap) (.list T sz l)
  | nilp : V w N (.pointer none) .nilp
  | ref (b o : Nat) (T : TypeId) (e : D) (c : Array Value) (fr : Nat × Nat) : w.heap[b]? = some (.cells c T fr) → N b → (∀ q ∈ e.cells, q.one = true) → (∀ j d, e.cells[j]? = some d → o + j < c.size) → (∀ j d, e.cells[j]? = some d → V w N (c.getD (o + j) undef) d) →
      V w N (.pointer (some ⟨b, o, none⟩)) (.ref e)
  | fn (f : Fn) (x y : Array Value) (l m : List D) : x.size = l.length → y.size = m.length → (∀ i d, l[i]? = some d → V w N (x.getD i undef) d) → (∀ i d, m[i]? = some d → V w N (y.getD i undef) d) → V w N (.func f x y) (.fn f l m)

theorem V.mono {w w' : World} {N N' : Nat → Prop} {v : Value} {d : D} (h : V w N v d) (hs : ∀ b, N b → w'.heap[b]? = w.heap[b]?) (hn : ∀ b, N b → N' b) : V w' N' v d := by
  induction h with
  | bool b => exact .bool b
  | int k n => exact .int k n
  | str s => exact .str s
  | agg cs l h1 h2 _ ih => exact .agg cs l h1 h2 ih
  | tup cs l h1 _ ih => exact .tup cs l h1 ih
  | empty a cap T sz h => exact .empty a cap T sz h
  | list b o cap T sz l c fr h1 h2 h3 h4 h5 h6 _ ih => exact .list b o cap T sz l c fr ((hs b h2).trans h1) (hn b h2) h3 h4 h5 h6 ih
  | nilp => exact .nilp
  | ref b o T e c fr h1 h2 h3 h4 _ ih => exact .ref b o T e c fr ((hs b h2).trans h1) (hn b h2) h3 h4 ih
  | fn f x y l m h1 h2 _ _ ih1 ih2 => exact .fn f x y l m h1 h2 ih1 ih2

theorem V.one {w : World} {N : Nat → Prop} {v : Value} {d : D} (h : V w N v d) (ho : d.one = true) : v.oneCell' = true := by
  cases h <;> first | rfl | simp [D.one] at ho

/-- The cells of a value, one by one. -/
theorem V.cells {w : World} {N : Nat → Prop} {v : Value} {d : D} (h : V w N v d) (ht : ∀ l, d ≠ .tup l) : v.cells.size = d.cells.length ∧ ∀ i e, d.cells[i]? = some e → e.one = true ∧ V w N (v.cells.getD i undef) e := by
  cases h with
  | agg cs l h1 h2 h3 => exact ⟨h1, fun i e he => ⟨h2 e (List.mem_of_getElem? he), h3 i e he⟩⟩
  | tup cs l => exact absurd rfl (ht l)
  | _ =>
    refine ⟨rfl, fun i e he => ?_⟩
    match i, he with
    | 0, he =>
      simp only [D.cells, List.getElem?_cons_zero, Option.some.injEq] at he
      subst he
      refine ⟨rfl, ?_⟩
      simp only [Value.cells, Array.getD_eq_getD_getElem?, List.getElem?_toArray, List.getElem?_cons_zero, Option.getD_some]
      first
        | exact .bool _
        | exact .int _ _
        | exact .str _
        | exact .empty _ _ _ _ ‹_›
        | exact .list _ _ _ _ _ _ _ _ ‹_› ‹_› ‹_› ‹_› ‹_› ‹_› ‹_›
        | exact .nilp
        | exact .ref _ _ _ _ _ _ ‹_› ‹_› ‹_› ‹_› ‹_›
        | exact .fn _ _ _ _ _ ‹_› ‹_› ‹_› ‹_›
    | i + 1, he => simp [D.cells] at he

end Go.Proofs.Ytbbidekjbgjooaa.M
end

section
namespace Go.Proofs.Ytbbidekjbgjooaa.M
open Go.RowKit

/-- What is known of a slot: nothing; plain data; a struct or a tuple of such; a nil slice; a slice of, or a pointer into, an object of the call's own. -/
inductive AV where
  | und
  | p (d : D)
  | agg (l : List AV)
  | tup (l : List AV)
  | nils (T : TypeId) (sz : Nat)
  | slice (id off len : Nat)
  | ptr (id i off : Nat)
  deriving Inhabited

inductive Cont where
  | row (l : List D)
  | box (v : AV)
  | junk

/-- An object of the call's own: a row of elements, or one variable; 'frz': it is not written any more. -/
structure AObj where
  T : TypeId
  sz : Nat
  cont : Cont
  frz : Bool

abbrev Mem := Nat → Option AObj
def upd {α : Type} (f : Nat → α) (i : Nat) (v : α) : Nat → α := fun j => if j = i then v else f j
theorem upd_same {α : Type} (f : Nat → α) (i : Nat) (v : α) : upd f i v i = v := by simp [upd]
theorem upd_ne {α : Type} (f : Nat → α) {i j : Nat} (v : α) (h : j ≠ i) : upd f i v j = f j := by simp [upd, h]
theorem upd_comm {α : Type} (f : Nat → α) {i j : Nat} (v u : α) (h : i ≠ j) : upd (upd f i v) j u = upd (upd f j u) i v := by
  funext k
  unfold upd
  by_cases h1 : k = i <;> by_cases h2 : k = j <;> simp_all

structure St where
  r : Nat → AV
  m : Mem

/-- Where an object lies: block, place of its first cell in it, the block's cells, cells of an element; nil: a nil slice as yet. -/
structure Loc where
  b : Nat
  o : Nat
  n : Nat
  sz : Nat
  nil : Bool
abbrev Locs := Nat → Option Loc

def AV.cells : AV → List AV
  | .p d => d.cells.map .p
  | .agg l => l
  | v => [v]
def AV.one : AV → Bool
  | .p d => d.one
  | .nils .. | .slice .. | .ptr .. => true
  | _ => false
def AV.isAgg : AV → Option Bool
  | .p d => some d.isAgg
  | .agg _ => some true
  | .und => none
  | _ => some false

inductive RV (w : World) (N : Nat → Prop) (loc : Locs) : Value → AV → Prop where
  | und (v : Value) : RV w N loc v .und
  | p (v : Value) (d : D) : V w N v d → RV w N loc v (.p d)
  | agg (cs : Array Value) (l : List AV) : cs.size = l.length → (∀ d ∈ l, d.one = true) → (∀ i d, l[i]? = some d → RV w N loc (cs.getD i undef) d) → RV w N loc (.agg cs) (.agg l)
  | tup (cs : Array Value) (l : List AV) : cs.size = l.length → (∀ i d, l[i]? = some d → RV w N loc (cs.getD i undef) d) → RV w N loc (.tuple cs) (.tup l)
  | nils (T : TypeId) (sz : Nat) : RV w N loc (.slice none 0 0) (.nils T sz)
  | slice (L : Loc) (id off len cap : Nat) : loc id = some L → L.nil = false → len ≤ cap → cap ≤ 9223372036854775807 → L.o + (off * L.sz + cap * L.sz) ≤ L.n →
      RV w N loc (.slice (some ⟨L.b, L.o + off * L.sz, none⟩) len cap) (.slice id off len)
  | sliceEmp (L : Loc) (id off : Nat) (p : Option Addr) : loc id = some L → RV w N loc (.slice p 0 0) (.slice id off 0)
  | ptr (L : Loc) (id i off : Nat) : loc id = some L → L.nil = false → RV w N loc (.pointer (some ⟨L.b, L.o + (i * L.sz + off), none⟩)) (.ptr id i off)

theorem RV.mono {w w' : World} {N N' : Nat → Prop} {loc loc' : Locs} {v : Value} {d : AV} (h : RV w N loc v d) (hs : ∀ b, N b → w'.heap[b]? = w.heap[b]?) (hn : ∀ b, N b → N' b)
    (hl : ∀ id L, loc id = some L → loc' id = some L) : RV w' N' loc' v d := by
  induction h with
  | und v => exact .und v
  | p v d h => exact .p v d (h.mono hs hn)
  | agg cs l h1 h2 _ ih => exact .agg cs l h1 h2 ih
  | tup cs l h1 _ ih => exact .tup cs l h1 ih
  | nils T sz => exact .nils T sz
  | slice L id off len cap h1 h2 h3 h4 h5 => exact .slice L id off len cap (hl _ _ h1) h2 h3 h4 h5
  | sliceEmp L id off p h1 => exact .sliceEmp L id off p (hl _ _ h1)
  | ptr L id i off h1 h2 => exact .ptr L id i off (hl _ _ h1) h2

theorem RV.one {w : World} {N : Nat → Prop} {loc : Locs} {v : Value} {d : AV} (h : RV w N loc v d) (ho : d.one = true) : v.oneCell' = true := by
  cases h with
  | p v d h => exact h.one ho
  | _ => first | rfl | simp [AV.one] at ho

/-- The cells of a value, one by one. -/
theorem RV.cells {w : World} {N : Nat → Prop} {loc : Locs} {v : Value} {d : AV} (h : RV w N loc v d) (ho : ∀ e ∈ d.cells, e.one = true) :
    v.cells.size = d.cells.length ∧ ∀ i e, d.cells[i]? = some e → RV w N loc (v.cells.getD i undef) e := by
  cases h with
  | und => simp [AV.cells, AV.one] at ho
  | tup => simp [AV.cells, AV.one] at ho
  | p v d h =>
    have ht : ∀ l, d ≠ .tup l := by rintro l rfl; simp [AV.cells, D.cells, AV.one, D.one] at ho
    obtain ⟨h1, h2⟩ := h.cells ht
    refine ⟨by simpa [AV.cells] using h1, fun i e he => ?_⟩
    simp only [AV.cells, List.getElem?_map, Option.map_eq_some_iff] at he
    obtain ⟨x, hx, rfl⟩ := he
    exact .p _ _ (h2 i x hx).2
  | agg cs l h1 h2 h3 => exact ⟨h1, h3⟩
  | _ =>
    refine ⟨rfl, fun i e he => ?_⟩
    match i, he with
    | 0, he =>
      simp only [AV.cells, List.getElem?_cons_zero, Option.some.injEq] at he
      subst he
      simp only [Value.cells, Array.getD_eq_getD_getElem?, List.getElem?_toArray, List.getElem?_cons_zero, Option.getD_some]
      first
        | exact .nils _ _
        | exact .slice _ _ _ _ _ ‹_› ‹_› ‹_› ‹_› ‹_›
        | exact .sliceEmp _ _ _ _ ‹_›
        | exact .ptr _ _ _ _ ‹_› ‹_›
    | i + 1, he => simp [AV.cells] at he

/-- A block of the call's own that may be written. -/
def ownB (M : Mem) (loc : Locs) (b : Nat) : Prop := ∃ id o L, M id = some o ∧ o.frz = false ∧ loc id = some L ∧ L.nil = false ∧ L.b = b
/-- The blocks that nobody writes while the call lasts. -/
def NB (base : Nat → Prop) (M : Mem) (loc : Locs) (w : World) (b : Nat) : Prop := b < w.heap.size ∧ ¬ base b ∧ ¬ ownB M loc b

/-- What the cells of an object hold. -/
def ContOk (w : World) (N : Nat → Prop) (loc : Locs) (c : Array Value) (o sz : Nat) : Cont → Prop
  | .row l => o + l.length * sz ≤ c.size ∧ (∀ e ∈ l, e.cells.length = sz) ∧ (∀ i e j d, l[i]? = some e → e.cells[j]? = some d → d.one = true ∧ V w N (c.getD (o + (i * sz + j)) undef) d)
  | .junk => o + sz ≤ c.size
  | .box v => o + sz ≤ c.size ∧ v.cells.length = sz ∧ (∀ e ∈ v.cells, e.one = true) ∧ (∀ j d, v.cells[j]? = some d → RV w N loc (c.getD (o + j) undef) d)

structure ObjOk (w0 : World) (base : Nat → Prop) (M : Mem) (loc : Locs) (w : World) (o : AObj) (L : Loc) : Prop where
  sz : L.sz = o.sz
  nil : L.nil = true → o.cont = .row []
  at_ : L.nil = false → ∃ c fr, w.heap[L.b]? = some (.cells c o.T fr) ∧ c.size = L.n ∧ ContOk w (NB base M loc w) loc c L.o o.sz o.cont ∧
    (o.frz = false → w0.heap.size ≤ L.b ∧ ∀ x, x < L.n → (decide (fr.1 ≤ x) && decide (x < fr.2)) = false) ∧ (o.frz = true → NB base M loc w L.b)

structure Rel (w0 : World) (base : Nat → Prop) (nt : Nat) (loc : Locs) (s : St) (a : Act) (w : World) : Prop where
  ext : Ext w0 w
  defers : a.defers = []
  size : a.tmps.size = nt
  low : ∀ b, base b → b < w0.heap.size
  dom : ∀ id, s.m id = none → loc id = none
  tmps : ∀ t, RV w (NB base s.m loc w) loc (a.tmps.getD t undef) (s.r t)
  objs : ∀ id o, s.m id = some o → ∃ L, loc id = some L ∧ ObjOk w0 base s.m loc w o L
  inj : ∀ id id' o o' L L', s.m id = some o → s.m id' = some o' → o.frz = false → loc id = some L → loc id' = some L' → L.nil = false → L'.nil = false → L.b = L'.b → id = id'

section
variable {w0 : World} {base : Nat → Prop} {nt : Nat} {loc : Locs} {s : St} {a : Act} {w : World}

theorem Rel.put (h : Rel w0 base nt loc s a w) {t : Nat} (ht : t < nt) {v : Value} {d : AV} (hv : RV w (NB base s.m loc w) loc v d) :
    Rel w0 base nt loc ⟨upd s.r t d, s.m⟩ (a.put (some t) v) w := by
  refine ⟨h.ext, h.defers, by simp [Act.put, h.size], h.low, h.dom, fun u => ?_, h.objs, h.inj⟩
  by_cases hu : u = t
  · subst hu
    simp only [upd_same, Act.put, Array.getD_eq_getD_getElem?, Array.getElem?_setIfInBounds_self, h.size, ht, if_true, Option.getD_some]
    exact hv
  · have hu' : t ≠ u := fun e => hu e.symm
    simp only [upd_ne _ _ hu, Act.put, Array.getD_eq_getD_getElem?, Array.getElem?_setIfInBounds_ne hu']
    have := h.tmps u
    rwa [Array.getD_eq_getD_getElem?] at this

theorem ContOk.mono {w w' : World} {N N' : Nat → Prop} {loc loc' : Locs} {c : Array Value} {o sz : Nat} {k : Cont} (h : ContOk w N loc c o sz k) (hs : ∀ b, N b → w'.heap[b]? = w.heap[b]?) (hn : ∀ b, N b → N' b)
    (hl : ∀ id L, loc id = some L → loc' id = some L) : ContOk w' N' loc' c o sz k := by
  cases k with
  | row l => exact ⟨h.1, h.2.1, fun i e j d h1 h2 => ⟨(h.2.2 i e j d h1 h2).1, (h.2.2 i e j d h1 h2).2.mono hs hn⟩⟩
  | box v => exact ⟨h.1, h.2.1, h.2.2.1, fun j d h1 => (h.2.2.2 j d h1).mono hs hn hl⟩
  | junk => exact h

/-- Behind whatever leaves all blocks as they were. -/
theorem Rel.later (h : Rel w0 base nt loc s a w) {w' : World} (he : Ext w w') : Rel w0 base nt loc s a w' := by
  have hs : ∀ b, NB base s.m loc w b → w'.heap[b]? = w.heap[b]? := fun b hb => he.block b hb.1
  have hn : ∀ b, NB base s.m loc w b → NB base s.m loc w' b := fun b hb => ⟨Nat.lt_of_lt_of_le hb.1 he.size, hb.2⟩
  refine ⟨h.ext.tr he, h.defers, h.size, h.low, h.dom, fun t => (h.tmps t).mono hs hn (fun _ _ x => x), fun id o ho => ?_, h.inj⟩
  obtain ⟨L, hL, hok⟩ := h.objs id o ho
  refine ⟨L, hL, hok.sz, hok.nil, fun hnil => ?_⟩
  obtain ⟨c, fr, h1, h2, h3, h4, h5⟩ := hok.at_ hnil
  have hlt : L.b < w.heap.size := by
    rcases Nat.lt_or_ge L.b w.heap.size with hlt | hge
    · exact hlt
    · rw [Array.getElem?_eq_none hge] at h1; cases h1
  exact ⟨c, fr, (he.block _ hlt).trans h1, h2, h3.mono hs hn (fun _ _ x => x), h4, fun hf => hn _ (h5 hf)⟩

theorem Rel.obj_lt (h : Rel w0 base nt loc s a w) {id : Nat} {o : AObj} {L : Loc} (ho : s.m id = some o) (hL : loc id = some L) (hn : L.nil = false) : L.b < w.heap.size := by
  obtain ⟨L', hL', hok⟩ := h.objs id o ho
  rw [hL] at hL'
  cases hL'
  obtain ⟨c, fr, h1, _⟩ := hok.at_ hn
  rcases Nat.lt_or_ge L.b w.heap.size with hlt | hge
  · exact hlt
  · rw [Array.getElem?_eq_none hge] at h1; cases h1

/-- A new object in a new block. -/
theorem Rel.alloc (h : Rel w0 base nt loc s a w) {id : Nat} (hid : s.m id = none) {T : TypeId} {sz : Nat} {k : Cont} {c : Array Value}
    (hk : ContOk w (NB base s.m loc w) loc c 0 sz k) :
    ∃ loc', loc' id = some ⟨w.heap.size, 0, c.size, sz, false⟩ ∧ Rel w0 base nt loc' ⟨s.r, upd s.m id (some ⟨T, sz, k, false⟩)⟩ a (w.alloc (.cells c T)) := by
  have hloc := h.dom id hid
  refine ⟨upd loc id (some ⟨w.heap.size, 0, c.size, sz, false⟩), upd_same _ _ _, ?_⟩
  have hl : ∀ i L, loc i = some L → upd loc id (some ⟨w.heap.size, 0, c.size, sz, false⟩) i = some L := fun i L hi => by
    rw [upd_ne]; exact hi
    rintro rfl; rw [hloc] at hi; cases hi
  have hext : Ext w (w.alloc (.cells c T)) := (Below.refl _ _).alloc (Nat.le_refl _) _
  have hs : ∀ b, NB base s.m loc w b → (w.alloc (.cells c T)).heap[b]? = w.heap[b]? := fun b hb => hext.block b hb.1
  have hn : ∀ b, NB base s.m loc w b → NB base (upd s.m id (some ⟨T, sz, k, false⟩)) (upd loc id (some ⟨w.heap.size, 0, c.size, sz, false⟩)) (w.alloc (.cells c T)) b := by
    rintro b ⟨h1, h2, h3⟩
    refine ⟨by simp; omega, h2, ?_⟩
    rintro ⟨i, o, L, ho, hf, hL, hnil, hb⟩
    by_cases hi : i = id
    · subst hi
      rw [upd_same] at hL
      cases hL
      simp at hb; omega
    · rw [upd_ne _ _ hi] at ho hL
      exact h3 ⟨i, o, L, ho, hf, hL, hnil, hb⟩
  refine ⟨h.ext.tr hext, h.defers, h.size, h.low, ?_, fun t => (h.tmps t).mono hs hn hl, ?_, ?_⟩
  · intro i hi
    dsimp only at hi
    by_cases e : i = id
    · subst e; rw [upd_same] at hi; cases hi
    · rw [upd_ne _ _ e] at hi ⊢; exact h.dom i hi
  · intro i o ho
    dsimp only at ho
    by_cases e : i = id
    · subst e
      rw [upd_same] at ho
      cases ho
      refine ⟨_, upd_same _ _ _, rfl, by simp, fun _ => ⟨c, (0, 0), heap_alloc_new w _, rfl, hk.mono hs hn hl, fun _ => ⟨h.ext.size, ?_⟩, by simp⟩⟩
      intro x _
      simp
    · rw [upd_ne _ _ e] at ho
      obtain ⟨L, hL, hok⟩ := h.objs i o ho
      refine ⟨L, hl i L hL, hok.sz, hok.nil, fun hnil => ?_⟩
      obtain ⟨c', fr, h1, h2, h3, h4, h5⟩ := hok.at_ hnil
      have hlt := h.obj_lt ho hL hnil
      exact ⟨c', fr, (hext.block _ hlt).trans h1, h2, h3.mono hs hn hl, h4, fun hf => hn _ (h5 hf)⟩
  · intro i i' o o' L L' ho ho' hf hL hL' hnil hnil' hb
    dsimp only at ho ho'
    by_cases e : i = id
    · subst e
      rw [upd_same] at hL
      cases hL
      by_cases e' : i' = i
      · exact e'.symm
      · rw [upd_ne _ _ e'] at ho' hL'
        have := h.obj_lt ho' hL' hnil'
        simp at hb; omega
    · rw [upd_ne _ _ e] at ho hL
      by_cases e' : i' = id
      · subst e'
        rw [upd_same] at hL'
        cases hL'
        have := h.obj_lt ho hL hnil
        simp at hb; omega
      · rw [upd_ne _ _ e'] at ho' hL'
        exact h.inj i i' o o' L L' ho ho' hf hL hL' hnil hnil' hb
end

end Go.Proofs.Ytbbidekjbgjooaa.M
end

section
namespace Go.Proofs.Ytbbidekjbgjooaa

/-- The number of a list of places, the lowest first. -/
def valL : List Int → Int
  | [] => 0
  | x :: t => x + 4294967296 * valL t

/-- Each place fits. -/
def Dig (l : List Int) : Prop := ∀ x ∈ l, 0 ≤ x ∧ x ≤ 4294967295

/-- No place too many. -/
def Norm (l : List Int) : Prop := l = [] ∨ at_ l (l.length - 1) ≠ 0

/-- With a sign. -/
def sg (n : Bool) (z : Int) : Int := if n then -z else z

/-- How two numbers stand. -/
def cmpZ (x y : Int) : Int := if x < y then -1 else if x = y then 0 else 1

/-- The sign of a number. -/
def sgnZ (x : Int) : Int := if x < 0 then -1 else if x = 0 then 0 else 1

theorem at_cons_zero (x : Int) (t : List Int) : at_ (x :: t) 0 = x := rfl
theorem at_cons_succ (x : Int) (t : List Int) (i : Nat) : at_ (x :: t) (i + 1) = at_ t i := by simp [at_]

theorem list_ext_at {a b : List Int} (hl : a.length = b.length) (h : ∀ j, at_ a j = at_ b j) : a = b := by
  apply List.ext_getElem hl
  intro i h1 h2
  have := h i
  rwa [at_lt h1, at_lt h2] at this

theorem Dig.at_ {l : List Int} (h : Dig l) (i : Nat) : 0 ≤ at_ l i ∧ at_ l i ≤ 4294967295 := by
  by_cases hi : i < l.length
  · exact h _ (at_mem hi)
  · rw [at_ge (by omega)]; omega

theorem Dig.tail {x : Int} {t : List Int} (h : Dig (x :: t)) : Dig t := fun y hy => h y (List.mem_cons_of_mem _ hy)

theorem valL_nonneg {l : List Int} (h : Dig l) : 0 ≤ valL l := by
  induction l with
  | nil => simp [valL]
  | cons x t ih => have := ih h.tail; have := h x (List.mem_cons_self ..); simp only [valL]; omega

theorem valL_zero {l : List Int} (h : ∀ j, at_ l j = 0) : valL l = 0 := by
  induction l with
  | nil => rfl
  | cons x t ih =>
    have h0 := h 0
    have ht : ∀ j, at_ t j = 0 := fun j => by have := h (j + 1); rwa [at_cons_succ] at this
    rw [at_cons_zero] at h0
    simp [valL, h0, ih ht]

theorem valL_take {l : List Int} {k : Nat} (h : ∀ j, k ≤ j → at_ l j = 0) : valL (l.take k) = valL l := by
  induction l generalizing k with
  | nil => simp
  | cons x t ih =>
    match k with
    | 0 => rw [valL_zero (l := x :: t) (fun j => h j (by omega))]; rfl
    | k + 1 =>
      simp only [List.take_succ_cons, valL]
      rw [ih (fun j hj => by have := h (j + 1) (by omega); rwa [at_cons_succ] at this)]

theorem valL_pos {l : List Int} (hd : Dig l) {i : Nat} (hi : at_ l i ≠ 0) : 0 < valL l := by
  induction l generalizing i with
  | nil => simp [at_] at hi
  | cons x t ih =>
    have hx := hd x (List.mem_cons_self ..)
    have ht := valL_nonneg hd.tail
    simp only [valL]
    match i with
    | 0 => rw [at_cons_zero] at hi; omega
    | i + 1 => rw [at_cons_succ] at hi; have := ih hd.tail hi; omega

theorem valL_pos' {l : List Int} (hd : Dig l) (hn : Norm l) (hne : l ≠ []) : 0 < valL l := by
  rcases hn with h | h
  · exact absurd h hne
  · exact valL_pos hd h

theorem valL_eq_zero {l : List Int} (hd : Dig l) (hn : Norm l) : valL l = 0 ↔ l = [] := by
  constructor
  · intro h
    by_cases hne : l = []
    · exact hne
    · have := valL_pos' hd hn hne; omega
  · rintro rfl; rfl

theorem valL_take_succ (l : List Int) (i : Nat) : valL (l.take (i + 1)) = valL (l.take i) + at_ l i * 4294967296 ^ i := by
  induction l generalizing i with
  | nil => simp [valL, at_]
  | cons x t ih =>
    match i with
    | 0 => simp [valL, at_]
    | i + 1 =>
      simp only [List.take_succ_cons, valL, at_cons_succ]
      rw [ih i, Int.pow_succ]
      grind

theorem valL_take_all {l : List Int} {i : Nat} (h : l.length ≤ i) : valL (l.take i) = valL l := by rw [List.take_of_length_le h]

theorem valL_lt {l : List Int} (hd : Dig l) : valL l < 4294967296 ^ l.length := by
  induction l with
  | nil => simp [valL]
  | cons x t ih =>
    have h1 := ih hd.tail
    have hx := hd x (List.mem_cons_self ..)
    simp only [valL, List.length_cons, Int.pow_succ]
    generalize (4294967296 : Int) ^ t.length = p at *
    omega

theorem pow_pos' (i : Nat) : (0 : Int) < 4294967296 ^ i := Int.pow_pos (by omega)

theorem pow_mono' {i j : Nat} (h : i ≤ j) : (4294967296 : Int) ^ i ≤ 4294967296 ^ j := by
  induction j with
  | zero => obtain rfl : i = 0 := by omega
            exact Int.le_refl _
  | succ j ih =>
    by_cases e : i = j + 1
    · subst e; exact Int.le_refl _
    · have := ih (by omega)
      have hp := pow_pos' j
      rw [Int.pow_succ]
      omega

theorem valL_ge {l : List Int} (hd : Dig l) {i : Nat} (hi : at_ l i ≠ 0) : 4294967296 ^ i ≤ valL l := by
  induction l generalizing i with
  | nil => simp [at_] at hi
  | cons x t ih =>
    have hx := hd x (List.mem_cons_self ..)
    have ht := valL_nonneg hd.tail
    simp only [valL]
    match i with
    | 0 => rw [at_cons_zero] at hi; simp; omega
    | i + 1 =>
      rw [at_cons_succ] at hi
      have := ih hd.tail hi
      rw [Int.pow_succ]
      generalize (4294967296 : Int) ^ i = p at *
      omega

/-- A longer number is the greater. -/
theorem valL_lt_of_len {a b : List Int} (ha : Dig a) (hb : Dig b) (hn : Norm b) (h : a.length < b.length) : valL a < valL b := by
  rcases hn with rfl | hn
  · simp at h
  · have h1 := valL_lt ha
    have h2 := valL_ge hb hn
    have h3 := pow_mono' (i := a.length) (j := b.length - 1) (by omega)
    omega

/-- Of the same length: the highest place at which they part decides. -/
theorem valL_lt_of_at {a b : List Int} (ha : Dig a) (hb : Dig b) (hl : a.length = b.length) {i : Nat} (hi : i < a.length) (heq : ∀ j, i < j → at_ a j = at_ b j) (hlt : at_ a i < at_ b i) : valL a < valL b := by
  induction a generalizing b i with
  | nil => simp at hi
  | cons x s ih =>
    match b, hl with
    | y :: t, hl =>
      have hx := ha x (List.mem_cons_self ..)
      have hy := hb y (List.mem_cons_self ..)
      simp only [List.length_cons, Nat.add_right_cancel_iff] at hl
      simp only [valL]
      match i, hi, heq, hlt with
      | 0, _, heq, hlt =>
        have : s = t := list_ext_at hl (fun j => by have := heq (j + 1) (by omega); rwa [at_cons_succ, at_cons_succ] at this)
        subst this
        rw [at_cons_zero, at_cons_zero] at hlt
        omega
      | i + 1, hi, heq, hlt =>
        rw [at_cons_succ, at_cons_succ] at hlt
        have := ih ha.tail hb.tail hl (i := i) (by simpa using hi) (fun j hj => by have := heq (j + 1) (by omega); rwa [at_cons_succ, at_cons_succ] at this) hlt
        omega

theorem cmpZ_lt {x y : Int} (h : x < y) : cmpZ x y = -1 := by simp [cmpZ, h]
theorem cmpZ_gt {x y : Int} (h : y < x) : cmpZ x y = 1 := by unfold cmpZ; rw [if_neg (by omega), if_neg (by omega)]
theorem cmpZ_eq {x y : Int} (h : x = y) : cmpZ x y = 0 := by simp [cmpZ, h]

theorem at_set_eq {l : List Int} {i : Nat} (h : i < l.length) (v : Int) : at_ (l.set i v) i = v := by simp [at_, h]
theorem at_set_ne {l : List Int} {i j : Nat} (h : i ≠ j) (v : Int) : at_ (l.set i v) j = at_ l j := by simp [at_, h]
theorem take_set (l : List Int) (i : Nat) (v : Int) : (l.set i v).take i = l.take i := by
  rw [List.take_set_of_le (Nat.le_refl _)]

theorem valL_set {l : List Int} {i : Nat} (h : i < l.length) (v : Int) : valL ((l.set i v).take (i + 1)) = valL (l.take i) + v * 4294967296 ^ i := by
  rw [valL_take_succ, take_set, at_set_eq h]

theorem Dig.set {l : List Int} (hd : Dig l) (i : Nat) {v : Int} (hv : 0 ≤ v ∧ v ≤ 4294967295) : Dig (l.set i v) := by
  intro x hx
  rcases List.mem_or_eq_of_mem_set hx with h | h
  · exact hd x h
  · subst h; exact hv

/-- Of at most n bits. -/
def Bt (z : Int) (n : Nat) : Prop := z.natAbs < 2 ^ n
/-- The bits that a number may have: far more than any that is met. -/
def maxBits : Nat := 17179869184
theorem maxBits_eq : maxBits = 17179869184 := rfl
attribute [irreducible] maxBits
/-- A number that memory holds with ease. -/
def Sm (z : Int) : Prop := Bt z maxBits

theorem Bt.mono {z : Int} {m n : Nat} (h : Bt z m) (hmn : m ≤ n) : Bt z n := Nat.lt_of_lt_of_le h (Nat.pow_le_pow_right (by omega) hmn)
theorem Bt.sm {z : Int} {n : Nat} (h : Bt z n) (hn : n ≤ 17179869184) : Sm z := h.mono (by rw [maxBits_eq]; exact hn)
theorem Bt.le {y z : Int} {n : Nat} (h : Bt z n) (hyz : y.natAbs ≤ z.natAbs) : Bt y n := Nat.lt_of_le_of_lt hyz h
theorem Sm.bt {z : Int} (h : Sm z) : Bt z maxBits := h
theorem Sm.le {y z : Int} (h : Sm z) (hyz : y.natAbs ≤ z.natAbs) : Sm y := Bt.le h hyz
theorem bt_zero (n : Nat) : Bt 0 n := by unfold Bt; simpa using Nat.pow_pos (n := n) (show 0 < 2 by omega)
theorem sm_zero : Sm 0 := bt_zero _
theorem Bt.neg {z : Int} {n : Nat} (h : Bt z n) : Bt (-z) n := h.le (by omega)
theorem Sm.neg {z : Int} (h : Sm z) : Sm (-z) := Bt.neg h
theorem Bt.add {a b : Int} {n : Nat} (ha : Bt a n) (hb : Bt b n) : Bt (a + b) (n + 1) := by
  unfold Bt at *
  rw [Nat.pow_succ]
  omega
theorem Bt.sub {a b : Int} {n : Nat} (ha : Bt a n) (hb : Bt b n) : Bt (a - b) (n + 1) := by
  unfold Bt at *
  rw [Nat.pow_succ]
  omega
theorem Bt.mul {a b : Int} {m n : Nat} (ha : Bt a m) (hb : Bt b n) : Bt (a * b) (m + n) := by
  unfold Bt at *
  rw [Int.natAbs_mul, Nat.pow_add]
  exact Nat.mul_lt_mul'' ha hb

theorem pow32 (i : Nat) : (4294967296 : Int) ^ i = ((2 ^ (32 * i) : Nat) : Int) := by
  rw [Nat.pow_mul, Int.natCast_pow]; rfl

theorem len_of_bt {l : List Int} {n : Nat} (hd : Dig l) (hn : Norm l) (h : Bt (valL l) n) : 32 * l.length ≤ n + 32 := by
  rcases hn with rfl | hn
  · simp
  · have h1 := valL_ge hd hn
    have h2 := valL_nonneg hd
    unfold Bt at h
    rw [pow32] at h1
    have h3 : 2 ^ (32 * (l.length - 1)) < 2 ^ n := by omega
    rcases Nat.lt_or_ge (32 * (l.length - 1)) n with h4 | h4
    · omega
    · have := Nat.pow_le_pow_right (n := 2) (by omega) h4
      omega

theorem natAbs_sg (n : Bool) (z : Int) : (sg n z).natAbs = z.natAbs := by unfold sg; split <;> omega
theorem sg_natAbs (z : Int) : sg (decide (z < 0)) z.natAbs = z := by unfold sg; split <;> (rename_i h; simp at h; omega)

/-- How a signed number of places stands: its sign tells. -/
theorem neg_iff {n : Bool} {l : List Int} (hd : Dig l) (hn : Norm l) (h0 : l = [] → n = false) : sg n (valL l) < 0 ↔ n = true := by
  by_cases hl : l = []
  · subst hl; rw [h0 rfl]; simp [sg, valL]
  · have := valL_pos' hd hn hl
    cases n
    · simp [sg]; omega
    · simp [sg]; omega

theorem valL_set_full {l : List Int} {i : Nat} (h : i < l.length) (v : Int) : valL (l.set i v) = valL l + (v - at_ l i) * 4294967296 ^ i := by
  induction l generalizing i with
  | nil => simp at h
  | cons x t ih =>
    match i with
    | 0 => simp [valL, at_]; omega
    | i + 1 =>
      simp only [List.set_cons_succ, valL, at_cons_succ]
      rw [ih (by simpa using h), Int.pow_succ]
      grind

theorem mul_bound {x y : Int} (hx : 0 ≤ x ∧ x ≤ 4294967295) (hy : 0 ≤ y ∧ y ≤ 4294967295) : 0 ≤ x * y ∧ x * y ≤ 18446744065119617025 := by
  refine ⟨Int.mul_nonneg hx.1 hy.1, ?_⟩
  have := Int.mul_le_mul hx.2 hy.2 hy.1 (by omega)
  omega

theorem mul_step {V c V0 x vb y ok p q bi Y : Int} (h : V + c * p = V0 + x * vb * bi) (hq : p * 4294967296 = q) (hp : y * p = Y * bi) :
    V + ((c + (x * y + ok)) % 4294967296 - ok) * p + (c + (x * y + ok)) / 4294967296 * q = V0 + x * (vb + Y) * bi := by
  have h1 : (c + (x * y + ok)) % 4294967296 = (c + (x * y + ok)) - 4294967296 * ((c + (x * y + ok)) / 4294967296) := by omega
  rw [h1, ← hq]
  generalize (c + (x * y + ok)) / 4294967296 = d
  grind

end Go.Proofs.Ytbbidekjbgjooaa
end

section
namespace Go.Proofs.Ytbbidekjbgjooaa
open Go.RowKit

/-- Block b is just the numbers l, of kind k; nothing in it is frozen. -/
def Own (w : World) (b : Nat) (T : TypeId) (k : IntKind) (l : List Int) : Prop := w.heap[b]? = some (.cells (l.map (Value.int k)).toArray T (0, 0))

section
variable {w w' : World} {b : Nat} {T : TypeId} {k : IntKind} {l : List Int}

theorem Own.lt (h : Own w b T k l) : b < w.heap.size := by
  rcases Nat.lt_or_ge b w.heap.size with hlt | hge
  · exact hlt
  · unfold Own at h; rw [Array.getElem?_eq_none hge] at h; cases h

theorem Own.ty (h : Own w b T k l) : Ty w b T := ⟨_, _, h⟩

theorem Own.cell (h : Own w b T k l) {i : Nat} (hi : i < l.length) : w.cell? ⟨b, i, none⟩ = some (.int k (at_ l i)) := by
  rw [cell_of_row w b i _ T (0, 0) h]
  simp [at_, hi]

theorem Own.frozen (h : Own w b T k l) (i : Nat) : w.frozen? ⟨b, i, none⟩ = false := by
  unfold Own at h
  simp [World.frozen?, h]

theorem Own.keep (h : Own w b T k l) (e : Ext w w') : Own w' b T k l := (e.block b h.lt).trans h
theorem Own.kept (h : Own w b T k l) (e : Kept T w w') : Own w' b T k l := (e b h.ty).trans h
theorem Own.al (h : Own w b T k l) (o : Obj) : Own (w.alloc o) b T k l := (Below.heap_alloc w o b h.lt).trans h
theorem Own.dr (h : Own w b T k l) : Own w.drew b T k l := h
theorem Own.far (h : Own w b T k l) {p : Addr} (hp : b ≠ p.block) (u : Value) : Own (w.setCell p u) b T k l := (Below.heap_setCell w p u b hp).trans h
theorem Own.below {B : Nat} (h : Own w b T k l) (e : Below B w w') (hb : b < B) : Own w' b T k l := (e.block b hb).trans h

theorem Own.new {w : World} {n : Nat} {c : Array Value} {T : TypeId} {k : IntKind} {l : List Int} (hn : n = w.heap.size) (hc : c = (l.map (Value.int k)).toArray) : Own (w.alloc (.cells c T)) n T k l := by
  subst hn; subst hc; exact heap_alloc_new w _

theorem Own.set (h : Own w b T k l) (i : Nat) (v : Int) : Own (w.setCell ⟨b, i, none⟩ (.int k v)) b T k (l.set i v) := by
  unfold Own at h ⊢
  simp [World.setCell, Array.getElem?_modify, h, List.map_set]

theorem Own.isL (h : Own w b (ET k) k l) (hm : l.length ≤ 9223372036854775807) (hf : ∀ x ∈ l, Fit k x) : IsL w ⟨some ⟨b, 0, none⟩, l.length, l.length⟩ k l :=
  IsL.mk_ (Nat.le_refl _) hm (fun _ => ⟨b, 0, rfl, h.ty, fun j hj => by rw [Nat.zero_add]; exact h.cell hj⟩) hf

/-- What was known of a block at the head of a row of the call's own, full to its capacity. -/
theorem Own.of_row {base n : Nat} (h : w.ownsRow base T 1 (.slice (some ⟨b, 0, none⟩) n n) n (l.map (Value.int k))) : Own w b T k l := by
  obtain ⟨h1, h2⟩ := h
  rcases h2 with ⟨h2, _⟩ | ⟨g, cap, cur, hv, _, hg, _, _, hs, ht⟩
  · cases h2
  · injection hv with e1 e2 e3
    injection e1 with e1
    injection e1 with e1
    subst e1; subst e3
    unfold Own
    rw [hg, ← ht, List.take_of_length_le (by simp; omega)]
end

theorem grown_ext {a b : World} (h : a.grownBy b none) : Ext a b := (Ext.rf a).gr h (fun _ h => by cases h)

/-- 'make([]T, n)' of numbers, n a variable. -/
theorem wpL_make {P : Program} (w : World) {ops : Array Oper} {rest : List Oper} {o : Oper} {a : Act} {Q : Exit → Act → World → Prop}
    (hg : o.guard = none) (l c : Operand) (t : TypeId) (hop : o.op = Op.makeSlice t l c)
    (e : TypeId) (k : IntKind) (bytes : Nat) (h1 : P.underlying t = some (.slice e)) (hinfo : (P.info? e).map (fun i => (i.zero, i.size, i.bytes)) = some (some (.int k 0), 1, bytes))
    (kl kc : IntKind) (L C : Int) (n : Nat) (hl : a.eval l = .int kl L) (hc : a.eval c = .int kc C) (hL : L = (n : Int)) (hC : C = (n : Int)) (b2 : bytes * n ≤ 281474976710656) (b3 : n ≤ 9223372036854775807)
    (hK : ∀ w', Own w' w.heap.size e k (List.replicate n 0) → Ext w w' → w.heap.size < w'.heap.size → wpList P ops Q rest (a.put o.dst (.slice (some ⟨w.heap.size, 0, none⟩) n n)) w') :
    wpList P ops Q (o :: rest) a w := by
  obtain ⟨i, hi, hz0, hz1, hz2⟩ := info_parts hinfo
  refine wpList_make_full w hg l c t hop w.heap.size e i _ 1 h1 hi hz0 hz1 kl kc L C n hl hc hL hC (by rw [hz2]; exact b2) b3 (Nat.le_refl _) fun w' hown hgr => ?_
  have ho : Own w' w.heap.size e k (List.replicate n 0) := by
    have hx : (madeCells (Value.int k 0).cells (n * 1)).toList = (List.replicate n (0 : Int)).map (Value.int k) := by
      rw [Nat.mul_one]
      show (madeCells #[Value.int k 0] n).toList = _
      rw [toList_madeCells_one]; simp
    rw [hx] at hown
    exact Own.of_row hown
  exact hK w' ho (grown_ext hgr) ho.lt

/-- What is read below stays as it is: for the walk. -/
theorem bcell {W w1 : World} (hb : Ext W w1) : (∀ b o, b < W.heap.size → w1.cell? ⟨b, o, none⟩ = W.cell? ⟨b, o, none⟩) ∧ (∀ b o, b < W.heap.size → w1.frozen? ⟨b, o, none⟩ = W.frozen? ⟨b, o, none⟩) :=
  ⟨fun b o h => hb.cell (p := ⟨b, o, none⟩) h, fun b o h => hb.frozen (p := ⟨b, o, none⟩) h⟩

/-- A new block of numbers, written out. -/
theorem isL_new {w : World} {n m : Nat} {c : Array Value} {k : IntKind} {l : List Int} (hn : n = w.heap.size) (hc : c = (l.map (Value.int k)).toArray) (hm : m = l.length) (hb : l.length ≤ 9223372036854775807) (hf : ∀ x ∈ l, Fit k x) :
    IsL (w.alloc (.cells c (ET k))) ⟨some ⟨n, 0, none⟩, m, m⟩ k l := by
  subst hm
  exact Own.isL (Own.new hn hc) hb hf

/-- What a region that calls keeps, for its loads. -/
def HeldR (W w' : World) : Prop := ∀ b o, b < W.heap.size → w'.cell? ⟨b, o, none⟩ = W.cell? ⟨b, o, none⟩
theorem held_of {W w' : World} (e : Ext W w') : Ext W w' ∧ (∀ b o, b < W.heap.size → w'.cell? ⟨b, o, none⟩ = W.cell? ⟨b, o, none⟩) := ⟨e, (bcell e).1⟩
theorem held_ext {W w' : World} {R : Prop} (e : Ext W w' ∧ R) : Ext W w' := e.1

/-- A box of two cells, of a struct of type T, that may be written. -/
def Bx (w : World) (T : TypeId) (n : Nat) : Prop := (∃ u, w.cell? ⟨n, 0, none⟩ = some u) ∧ (∃ u, w.cell? ⟨n, 1, none⟩ = some u) ∧ w.frozen? ⟨n, 0, none⟩ = false ∧ w.frozen? ⟨n, 1, none⟩ = false ∧ Ty w n T
theorem Bx.keep {w w' : World} {T : TypeId} {n : Nat} (h : Bx w T n) (e : Ext w w') : Bx w' T n := by
  obtain ⟨⟨u, h0⟩, ⟨v, h1⟩, f0, f1, t⟩ := h
  exact ⟨⟨u, cell_later e h0⟩, ⟨v, cell_later e h1⟩, (e.frozen (p := ⟨n, 0, none⟩) t.lt).trans f0, (e.frozen (p := ⟨n, 1, none⟩) t.lt).trans f1, t.keep e⟩
theorem Bx.dr {w : World} {T : TypeId} {n : Nat} (h : Bx w T n) : Bx w.drew T n := h
theorem Bx.new {w : World} {T : TypeId} {n : Nat} {x y : Value} (hn : n = w.heap.size) : Bx (w.alloc (.cells #[x, y] T)) T n := by
  subst hn
  exact ⟨⟨x, by simp⟩, ⟨y, by simp⟩, by simp, by simp, Ty.new _ _ _⟩
theorem Bx.st2 {w : World} {T : TypeId} {n : Nat} (h : Bx w T n) (x y : Value) : Bx ((w.setCell ⟨n, 0, none⟩ x).setCell ⟨n, 1, none⟩ y) T n := by
  obtain ⟨⟨u, h0⟩, ⟨v, h1⟩, f0, f1, t⟩ := h
  have h1' : (w.setCell ⟨n, 0, none⟩ x).cell? ⟨n, 1, none⟩ = some v := by rw [World.cell?_setCell_other _ _ _ _ (by simp)]; exact h1
  refine ⟨⟨x, ?_⟩, ⟨y, World.cell?_setCell_same _ _ _ h1'⟩, by simpa using f0, by simpa using f1, (t.st _ _).st _ _⟩
  rw [World.cell?_setCell_other _ _ _ _ (by simp)]
  exact World.cell?_setCell_same _ _ _ h0
theorem sb_ext {W w' : World} {R R' : Prop} (e : (Ext W w' ∧ R) ∧ R') : Ext W w' := e.1.1
theorem sb_bx {w' : World} {A : Prop} {T : TypeId} {n : Nat} (e : A ∧ Bx w' T n) : Bx w' T n := e.2

end Go.Proofs.Ytbbidekjbgjooaa
end

section
namespace Go.Proofs.Ytbbidekjbgjooaa

theorem valL_split (l : List Int) (j : Nat) : valL l = valL (l.take j) + 4294967296 ^ j * valL (l.drop j) := by
  induction j generalizing l with
  | zero => simp [valL]
  | succ j ih =>
    match l with
    | [] => simp [valL]
    | x :: t =>
      simp only [List.take_succ_cons, List.drop_succ_cons, valL]
      rw [ih t, Int.pow_succ]
      grind

theorem Dig.take {l : List Int} (h : Dig l) (j : Nat) : Dig (l.take j) := fun x hx => h x (List.mem_of_mem_take hx)
theorem Dig.drop {l : List Int} (h : Dig l) (j : Nat) : Dig (l.drop j) := fun x hx => h x (List.mem_of_mem_drop hx)

theorem valL_take_lt {l : List Int} (h : Dig l) (j : Nat) : 0 ≤ valL (l.take j) ∧ valL (l.take j) < 4294967296 ^ j := by
  refine ⟨valL_nonneg (h.take j), ?_⟩
  have h1 := valL_lt (h.take j)
  have h2 := pow_mono' (i := (l.take j).length) (j := j) (by simp; omega)
  omega

theorem valL_at_drop (l : List Int) (j : Nat) : valL (l.drop j) = at_ l j + 4294967296 * valL (l.drop (j + 1)) := by
  rcases Nat.lt_or_ge j l.length with h | h
  · rw [List.drop_eq_getElem_cons h, at_lt h]; rfl
  · rw [List.drop_of_length_le h, List.drop_of_length_le (by omega), at_ge h]; simp [valL]

theorem high_zero {l : List Int} (hd : Dig l) {k : Nat} (h : valL l < 4294967296 ^ k) : ∀ i, k ≤ i → at_ l i = 0 := by
  intro i hi
  by_cases h0 : at_ l i = 0
  · exact h0
  · have h1 := valL_ge hd h0
    have h2 := pow_mono' hi
    omega

theorem lt_of_high {l : List Int} (hd : Dig l) {k : Nat} (h : ∀ i, k ≤ i → at_ l i = 0) : valL l < 4294967296 ^ k := by
  have h1 := valL_take h
  have h2 := valL_take_lt hd k
  omega

theorem at_drop (l : List Int) (j i : Nat) : at_ (l.drop j) i = at_ l (j + i) := by simp [at_, List.getElem?_drop]

theorem drop_zero {l : List Int} {k : Nat} (h : ∀ i, k ≤ i → at_ l i = 0) : valL (l.drop k) = 0 :=
  valL_zero fun i => by rw [at_drop]; exact h _ (by omega)

/-- A number by its three highest places. -/
theorem by_three {l : List Int} {j n : Nat} (hn : 2 ≤ n) (h : ∀ i, j + n + 1 ≤ i → at_ l i = 0) :
    valL (l.drop j) = valL ((l.drop j).take (n - 2)) + 4294967296 ^ (n - 2) * ((at_ l (j + n) * 4294967296 + at_ l (j + n - 1)) * 4294967296 + at_ l (j + n - 2)) := by
  rw [valL_split (l.drop j) (n - 2)]
  congr 2
  rw [List.drop_drop, valL_at_drop, valL_at_drop, valL_at_drop, drop_zero (k := j + (n - 2) + 1 + 1 + 1) (fun i hi => h i (by omega))]
  rw [show j + (n - 2) + 1 + 1 = j + n by omega, show j + (n - 2) + 1 = j + n - 1 by omega, show j + (n - 2) = j + n - 2 by omega]
  omega

/-- By its two highest. -/
theorem by_two {l : List Int} {n : Nat} (hn : 2 ≤ n) (h : l.length = n) :
    valL l = valL (l.take (n - 2)) + 4294967296 ^ (n - 2) * (at_ l (n - 1) * 4294967296 + at_ l (n - 2)) := by
  have := by_three (l := l) (j := 0) (n := n) hn (fun i hi => at_ge (by omega))
  simp only [List.drop_zero, Nat.zero_add] at this
  rw [this, at_ge (l := l) (i := n) (by omega)]
  rw [Int.zero_mul, Int.zero_add]

section
variable {u0 u1 u2 lu lv top v2 P U V g rest X Y : Int}

/-- What is known of the places at hand: U: what is left; V: the divisor. -/
structure Places (u0 u1 u2 lu lv top v2 P U V : Int) : Prop where
  hU : U = lu + P * ((u0 * 4294967296 + u1) * 4294967296 + u2)
  hV : V = lv + P * (top * 4294967296 + v2)
  lu0 : 0 ≤ lu
  lu1 : lu < P
  lv0 : 0 ≤ lv
  lv1 : lv < P
  d0 : 0 ≤ u0 ∧ u0 ≤ 4294967295
  d1 : 0 ≤ u1 ∧ u1 ≤ 4294967295
  d2 : 0 ≤ u2 ∧ u2 ≤ 4294967295
  e1 : 2147483648 ≤ top ∧ top ≤ 4294967295
  e2 : 0 ≤ v2 ∧ v2 ≤ 4294967295
  lt : U < V * 4294967296

theorem Places.hP (h : Places u0 u1 u2 lu lv top v2 P U V) : 0 < P := by have := h.lu0; have := h.lu1; omega

theorem Places.top_ (h : Places u0 u1 u2 lu lv top v2 P U V) : u0 ≤ top := by
  obtain ⟨hU, hV, a0, a1, b0, b1, d0, d1, d2, e1, e2, lt⟩ := h
  refine Int.not_lt.1 fun hc => ?_
  have hX : (top * 4294967296 + v2 + 1) * 4294967296 ≤ (u0 * 4294967296 + u1) * 4294967296 + u2 := by omega
  have h1 := Int.mul_le_mul_of_nonneg_left hX (show 0 ≤ P by omega)
  have h2 : P * ((top * 4294967296 + v2 + 1) * 4294967296) = (P * (top * 4294967296 + v2) + P) * 4294967296 := by grind
  rw [h2] at h1
  generalize P * (top * 4294967296 + v2) = p at *
  generalize P * ((u0 * 4294967296 + u1) * 4294967296 + u2) = q at *
  omega

/-- The highest two places of what is left. -/
theorem Places.head (h : Places u0 u1 u2 lu lv top v2 P U V) : 0 ≤ u0 * 4294967296 + u1 ∧ u0 * 4294967296 + u1 ≤ top * 4294967296 + 4294967295 := by
  have := h.top_; have := h.d0; have := h.d1; omega

/-- The guess as it begins. -/
theorem Places.start (h : Places u0 u1 u2 lu lv top v2 P U V) :
    (u0 * 4294967296 + u1) / top * top + (u0 * 4294967296 + u1) % top = u0 * 4294967296 + u1 ∧ 0 ≤ (u0 * 4294967296 + u1) % top ∧ (u0 * 4294967296 + u1) % top < top ∧
    0 ≤ (u0 * 4294967296 + u1) / top ∧ (u0 * 4294967296 + u1) / top ≤ 4294967297 ∧ U < ((u0 * 4294967296 + u1) / top + 1) * V := by
  have hh := h.head
  obtain ⟨hU, hV, a0, a1, b0, b1, d0, d1, d2, e1, e2, lt⟩ := h
  generalize hq : u0 * 4294967296 + u1 = q at *
  have h1 : q / top * top + q % top = q := by rw [Int.mul_comm]; exact Int.mul_ediv_add_emod q top
  have h2 := Int.emod_nonneg q (show top ≠ 0 by omega)
  have h3 := Int.emod_lt_of_pos q (show 0 < top by omega)
  have h4 : 0 ≤ q / top := Int.ediv_nonneg hh.1 (by omega)
  refine ⟨h1, h2, h3, h4, ?_, ?_⟩
  · have : q / top < 4294967298 := by
      apply Int.ediv_lt_of_lt_mul (by omega)
      omega
    omega
  · generalize q / top = g at *
    generalize q % top = r at *
    have hX : (q * 4294967296 + u2) + 1 ≤ (g + 1) * (top * 4294967296 + v2) := by
      have e : (g + 1) * (top * 4294967296 + v2) = (g * top + top) * 4294967296 + (g + 1) * v2 := by grind
      have e2 : 0 ≤ (g + 1) * v2 := Int.mul_nonneg (by omega) e2.1
      rw [e]
      generalize (g + 1) * v2 = z at *
      generalize g * top = gt at *
      omega
    have h5 := Int.mul_le_mul_of_nonneg_left hX (show 0 ≤ P by omega)
    have h6 : P * ((g + 1) * (top * 4294967296 + v2)) = (g + 1) * (P * (top * 4294967296 + v2)) := by grind
    rw [h6, Int.mul_add, Int.mul_one] at h5
    have h7 : (g + 1) * (P * (top * 4294967296 + v2)) ≤ (g + 1) * V := Int.mul_le_mul_of_nonneg_left (by omega) (by omega)
    generalize (g + 1) * (P * (top * 4294967296 + v2)) = x at *
    generalize (g + 1) * V = y at *
    generalize P * (q * 4294967296 + u2) = z at *
    omega

/-- It was too much: one less will do. -/
theorem Places.dec (h : Places u0 u1 u2 lu lv top v2 P U V) (hg : 0 ≤ g) (hr : 0 ≤ rest) (hq : g * top + rest = u0 * 4294967296 + u1) (hc : 4294967296 ≤ g ∨ rest * 4294967296 + u2 < g * v2) :
    1 ≤ g ∧ U < g * V := by
  obtain ⟨hU, hV, a0, a1, b0, b1, d0, d1, d2, e1, e2, lt⟩ := h
  have hg1 : 1 ≤ g := by
    rcases hc with hc | hc
    · omega
    · rcases Int.lt_or_le 0 g with h0 | h0
      · omega
      · obtain rfl : g = 0 := by omega
        rw [Int.zero_mul] at hc
        omega
  refine ⟨hg1, ?_⟩
  have hV0 : 0 ≤ V := by
    have := Int.mul_nonneg (show 0 ≤ P by omega) (show 0 ≤ top * 4294967296 + v2 by omega)
    omega
  rcases hc with hc | hc
  · have h1 : 4294967296 * V ≤ g * V := Int.mul_le_mul_of_nonneg_right hc hV0
    omega
  · generalize hq' : u0 * 4294967296 + u1 = q at *
    have hX : (q * 4294967296 + u2) + 1 ≤ g * (top * 4294967296 + v2) := by
      have e : g * (top * 4294967296 + v2) = (g * top) * 4294967296 + g * v2 := by grind
      rw [e]
      generalize g * v2 = z at *
      generalize g * top = gt at *
      omega
    have h5 := Int.mul_le_mul_of_nonneg_left hX (show 0 ≤ P by omega)
    have h6 : P * (g * (top * 4294967296 + v2)) = g * (P * (top * 4294967296 + v2)) := by grind
    rw [h6, Int.mul_add, Int.mul_one] at h5
    have h7 : g * (P * (top * 4294967296 + v2)) ≤ g * V := Int.mul_le_mul_of_nonneg_left (by omega) hg
    generalize g * (P * (top * 4294967296 + v2)) = x at *
    generalize g * V = y at *
    generalize P * (q * 4294967296 + u2) = z at *
    omega

/-- The guess stands: it is the place, or one more. -/
theorem Places.stop (h : Places u0 u1 u2 lu lv top v2 P U V) (hg : 0 ≤ g) (hq : g * top + rest = u0 * 4294967296 + u1)
    (hc : 4294967296 ≤ rest ∨ (g < 4294967296 ∧ g * v2 ≤ rest * 4294967296 + u2)) : g < 4294967296 ∧ (g - 1) * V ≤ U := by
  have hh := h.head
  obtain ⟨hU, hV, a0, a1, b0, b1, d0, d1, d2, e1, e2, lt⟩ := h
  generalize hq' : u0 * 4294967296 + u1 = q at *
  have hgB : g < 4294967296 := by
    rcases hc with hc | hc
    · refine Int.not_le.1 fun hge => ?_
      have := Int.mul_le_mul_of_nonneg_right hge (show 0 ≤ top by omega)
      omega
    · exact hc.1
  refine ⟨hgB, ?_⟩
  have hX : g * (top * 4294967296 + v2) ≤ q * 4294967296 + u2 := by
    have e : g * (top * 4294967296 + v2) = (g * top) * 4294967296 + g * v2 := by grind
    rw [e]
    rcases hc with hc | hc
    · have h1 : g * v2 ≤ 4294967295 * 4294967295 := Int.mul_le_mul (by omega) e2.2 e2.1 (by omega)
      generalize g * v2 = z at *
      generalize g * top = gt at *
      omega
    · have h1 := hc.2
      generalize g * v2 = z at *
      generalize g * top = gt at *
      omega
  have hY : 0 ≤ top * 4294967296 + v2 := by omega
  have hPX : 0 ≤ P * (q * 4294967296 + u2) := Int.mul_nonneg (by omega) (by omega)
  have hPY : 0 ≤ P * (top * 4294967296 + v2) := Int.mul_nonneg (by omega) hY
  rcases Int.lt_or_le 0 g with h0 | h0
  · have h1 : (g - 1) * V ≤ (g - 1) * (P * (top * 4294967296 + v2) + P) := Int.mul_le_mul_of_nonneg_left (by omega) (by omega)
    have h2 : (g - 1) * (P * (top * 4294967296 + v2) + P) = P * (g * (top * 4294967296 + v2) - (top * 4294967296 + v2) + g - 1) := by grind
    have h3 : P * (g * (top * 4294967296 + v2) - (top * 4294967296 + v2) + g - 1) ≤ P * (q * 4294967296 + u2) := by
      refine Int.mul_le_mul_of_nonneg_left ?_ (by omega)
      generalize g * (top * 4294967296 + v2) = z at *
      omega
    rw [h2] at h1
    omega
  · obtain rfl : g = 0 := by omega
    omega

end

/-- After a product was taken away: how it stands. -/
theorem took {low Bj U V g bor W Bn : Int} (hlow : 0 ≤ low ∧ low < Bj) (hb : bor = 0 ∨ bor = 1) (hW : W = low + Bj * U - Bj * (g * V) + Bj * Bn * bor) (hW0 : 0 ≤ W ∧ W < Bj * Bn) :
    (bor = 0 → g * V ≤ U) ∧ (bor = 1 → U < g * V) := by
  constructor
  · rintro rfl
    rw [Int.mul_zero, Int.add_zero] at hW
    refine Int.not_lt.1 fun hc => ?_
    have h1 : Bj * U + Bj ≤ Bj * (g * V) := by
      have := Int.mul_le_mul_of_nonneg_left (show U + 1 ≤ g * V by omega) (show 0 ≤ Bj by omega)
      rw [Int.mul_add, Int.mul_one] at this
      exact this
    omega
  · rintro rfl
    rw [Int.mul_one] at hW
    refine Int.not_le.1 fun hc => ?_
    have h1 := Int.mul_le_mul_of_nonneg_left hc (show 0 ≤ Bj by omega)
    omega

/-- What is left is below the divisor, moved. -/
theorem left_lt {low Bj U V g : Int} (hlow : 0 ≤ low ∧ low < Bj) (h : U < (g + 1) * V) : low + Bj * U - Bj * (g * V) < V * Bj := by
  have h2 : U - g * V + 1 ≤ V := by rw [Int.add_mul, Int.one_mul] at h; omega
  have h1 := Int.mul_le_mul_of_nonneg_left h2 (show 0 ≤ Bj by omega)
  have e : Bj * (U - g * V + 1) = Bj * U - Bj * (g * V) + Bj := by grind
  have e2 : V * Bj = Bj * V := Int.mul_comm ..
  omega

/-- After the divisor was given back. -/
theorem gave {low Bj U V g c W W2 Bn : Int} (hlow : 0 ≤ low ∧ low < Bj) (hc : c = 0 ∨ c = 1) (hW : W = low + Bj * U - Bj * (g * V) + Bj * Bn) (hW2 : W2 = W + Bj * V - Bj * Bn * c) (hb : 0 ≤ W2 ∧ W2 < Bj * Bn) (hle : (g - 1) * V ≤ U) :
    W2 = low + Bj * U - Bj * ((g - 1) * V) := by
  have e : Bj * ((g - 1) * V) = Bj * (g * V) - Bj * V := by grind
  have h1 := Int.mul_le_mul_of_nonneg_left hle (show 0 ≤ Bj by omega)
  rcases hc with rfl | rfl
  · rw [Int.mul_zero] at hW2
    omega
  · rw [Int.mul_one] at hW2
    omega

end Go.Proofs.Ytbbidekjbgjooaa
end

section
namespace Go.Proofs.Ytbbidekjbgjooaa.M
open Go.RowKit

inductive Opd where
  | t (n : Nat)
  | k (v : AV)
def Opd.ev (r : Nat → AV) : Opd → AV
  | .t n => r n
  | .k v => v

/-- The operations. -/
inductive AOp where
  | mov (x : Opd)
  | nilCheck (x : Opd)
  | pick (c a b : Opd)
  | alloc (T sz : Nat) (z : AV)
  | box (T sz : Nat) (x : Opd)
  | build (z : List AV) (parts : List (Nat × Nat × Opd))
  | buildSlice (T sz : Nat) (z : D) (n : Nat) (parts : List (Nat × Opd))
  | load (ag : Bool) (sz : Nat) (x : Opd)
  | store (sz : Nat) (x v : Opd)
  | bin (bo : Bool) (op : BinOp) (x y : Opd)
  | eqs (n : Nat) (neg : Bool) (x y : Opd)
  | un (op : UnOp) (x : Opd)
  | conv (k : IntKind) (x : Opd)
  | makeSlice (T sz bytes : Nat) (z : D) (l c : Opd)
  | slice (sz : Nat) (x : Opd) (lo hi mx : Option Opd)
  | sliceS (x : Opd) (lo hi : Option Opd)
  | fieldAddr (off sz : Nat) (ag : Bool) (x : Opd)
  | field (off sz : Nat) (ag : Bool) (x : Opd)
  | indexAddr (sz : Nat) (x i : Opd)
  | index (x i : Opd)
  | extract (x : Opd) (i : Nat)
  | len (x : Opd)
  | lenS (x : Opd)
  | append (T sz bytes : Nat) (x y : Opd)
  | call (f : FuncId) (args : List Opd)
  | fnv (fn : Fn) (first captured : List Opd)

def inK : IntKind → Int → Bool
  | .i8, n => decide (-128 ≤ n ∧ n ≤ 127)
  | .i16, n => decide (-32768 ≤ n ∧ n ≤ 32767)
  | .i32, n => decide (-2147483648 ≤ n ∧ n ≤ 2147483647)
  | .i64, n => decide (-9223372036854775808 ≤ n ∧ n ≤ 9223372036854775807)
  | .u8, n => decide (0 ≤ n ∧ n ≤ 255)
  | .u16, n => decide (0 ≤ n ∧ n ≤ 65535)
  | .u32, n => decide (0 ≤ n ∧ n ≤ 4294967295)
  | .u64, n => decide (0 ≤ n ∧ n ≤ 18446744073709551615)

/-- A part of some cells: a struct, or the one cell. -/
def partD (l : List D) (off sz : Nat) (ag : Bool) : Option D :=
  if ag then (if off + sz ≤ l.length then some (.agg ((l.drop off).take sz)) else none) else l[off]?
def partA (l : List AV) (off sz : Nat) (ag : Bool) : Option AV :=
  if ag then (if off + sz ≤ l.length then some (.agg ((l.drop off).take sz)) else none) else l[off]?
def D.part (d : D) (off sz : Nat) (ag : Bool) : Option D := partD d.cells off sz ag
def AV.part (v : AV) (off sz : Nat) (ag : Bool) : Option AV :=
  match v with
  | .p d => (d.part off sz ag).map .p
  | v => partA v.cells off sz ag
/-- What a load of sz cells (ag: as a struct) from place off of an element of osz cells gives. -/
def AV.get (v : AV) (off sz osz : Nat) (ag : Bool) : Option AV :=
  if off = 0 ∧ sz = osz ∧ v.isAgg = some ag then some v else v.part off sz ag

mutual
/-- A value as plain data, if it is that. -/
def AV.pure : AV → Option D
  | .p d => some d
  | .nils T sz => some (.list T sz [])
  | .agg l => (pureL l).map .agg
  | _ => none
def pureL : List AV → Option (List D)
  | [] => some []
  | v :: l => match v.pure, pureL l with
    | some d, some ds => some (d :: ds)
    | _, _ => none
end
def AV.mk (l : List AV) : AV := match pureL l with
  | some ds => .p (.agg ds)
  | none => .agg l

mutual
/-- The same, where slices of, and pointers to, objects that are not written any more count too. (any: where nothing is written any more.) -/
def AV.toD (any : Bool) (M : Mem) : Nat → AV → Option D
  | 0, _ => none
  | n + 1, v => match v with
    | .p d => some d
    | .nils T sz => some (.list T sz [])
    | .agg l => (toDL any M n l).map .agg
    | .tup l => (toDL any M n l).map .tup
    | .slice id off len => match M id with
      | some o => match o.cont with
        | .row l => if (o.frz || any) && decide (off + len ≤ l.length) then some (.list o.T o.sz ((l.drop off).take len)) else none
        | _ => none
      | none => none
    | .ptr id i off => if i = 0 ∧ off = 0 then match M id with
      | some o => match o.cont with
        | .box v => if o.frz || any then (AV.toD any M n v).map .ref else none
        | _ => none
      | none => none else none
    | .und => none
def toDL (any : Bool) (M : Mem) : Nat → List AV → Option (List D)
  | 0, _ => none
  | n + 1, l => match l with
    | [] => some []
    | v :: l => match AV.toD any M n v, toDL any M n l with
      | some d, some ds => some (d :: ds)
      | _, _ => none
end

def asI : AV → Option Int
  | .p (.int _ n) => some n
  | _ => none

def binD (op : BinOp) : D → D → Option (Bool × D)
  | .int k a, .int k' b =>
    match op with
    | .shl => some (decide (0 ≤ b ∧ b < k.bits) && inK k (a * 2 ^ b.toNat), .int k (a * 2 ^ b.toNat))
    | .shr => some (decide (0 ≤ b ∧ b < k.bits), .int k (a / 2 ^ b.toNat))
    | op => if k = k' then
      match op with
      | .add => some (inK k (a + b), .int k (a + b))
      | .sub => some (inK k (a - b), .int k (a - b))
      | .mul => some (inK k (a * b), .int k (a * b))
      | .quo => some (decide (b ≠ 0) && inK k (a.tdiv b), .int k (a.tdiv b))
      | .rem => some (decide (b ≠ 0), .int k (a.tmod b))
      | .eql => some (true, .bool (decide (a = b)))
      | .neq => some (true, .bool (!decide (a = b)))
      | .lss => some (true, .bool (decide (a < b)))
      | .leq => some (true, .bool (decide (a ≤ b)))
      | .gtr => some (true, .bool (decide (b < a)))
      | .geq => some (true, .bool (decide (b ≤ a)))
      | _ => none
      else none
  | .str a, .str b =>
    match op with
    | .add => some (decide (a.length + b.length ≤ 9223372036854775807), .str (a ++ b))
    | .eql => some (true, .bool (decide (a = b)))
    | .neq => some (true, .bool (!decide (a = b)))
    | _ => none
  | .bool a, .bool b =>
    match op with
    | .eql => some (true, .bool (a == b))
    | .neq => some (true, .bool (!(a == b)))
    | _ => none
  | _, _ => none

def D.isBool : D → Bool
  | .bool _ => true
  | _ => false

def intsOf : List D → Option (List IntKind × List Int)
  | [] => some ([], [])
  | .int k n :: l => (intsOf l).map fun p => (k :: p.1, n :: p.2)
  | _ => none

def unD (op : UnOp) : D → Option (Bool × D)
  | .int k a => match op with
    | .neg => some (inK k (-a), .int k (-a))
    | _ => none
  | .bool a => match op with
    | .not => some (true, .bool (!a))
    | _ => none
  | _ => none

def fillA (cells : List AV) (r : Nat → AV) : List (Nat × Nat × Opd) → Option (List AV)
  | [] => some cells
  | (off, sz, x) :: rest =>
    if (x.ev r).cells.length = sz ∧ off + sz ≤ cells.length ∧ (x.ev r).cells.all AV.one = true then fillA (cells.take off ++ (x.ev r).cells ++ cells.drop (off + sz)) r rest else none

def fillR (sz : Nat) (l : List D) (r : Nat → AV) (M : Mem) : List (Nat × Opd) → Option (List D)
  | [] => some l
  | (i, x) :: rest => match (x.ev r).toD false M 20 with
    | some d => if d.cells.length = sz ∧ d.cells.all D.one = true ∧ i < l.length then fillR sz (l.set i d) r M rest else none
    | none => none

/-- The bounds of a slice expression: from, to, most. -/
def bounds (r : Nat → AV) (len : Nat) (lo hi mx : Option Opd) : Option (Bool × Nat × Nat) :=
  match (match lo with | none => some 0 | some x => asI (x.ev r)), (match hi with | none => some (len : Int) | some x => asI (x.ev r)) with
  | some l, some h => match mx with
    | none => some (decide (0 ≤ l ∧ l ≤ h ∧ h ≤ len), l.toNat, h.toNat)
    | some y => match asI (y.ev r) with
      | some m => some (decide (0 ≤ l ∧ l ≤ h ∧ h ≤ m ∧ m ≤ len), l.toNat, h.toNat)
      | none => none
  | _, _ => none

mutual
def AV.forget (id : Nat) : AV → AV
  | .slice i off len => if i = id then .und else .slice i off len
  | .ptr i j off => if i = id then .und else .ptr i j off
  | .agg l => match forgetL id l with
    | some l => .agg l
    | none => .und
  | .tup l => match forgetL id l with
    | some l => .tup l
    | none => .und
  | v => v
/-- none: something in it is forgotten -/
def forgetL (id : Nat) : List AV → Option (List AV)
  | [] => some []
  | v :: l => match v.forget id, forgetL id l with
    | .und, _ => none
    | v, some l => some (v :: l)
    | _, none => none
end

/-- What an operation (no call) makes of a state, under the number id of its result: what has to hold, the result, the state. -/
def ev (o : AOp) (id : Nat) (s : St) : Option (Bool × AV × St) :=
  match o with
  | .mov x => some (true, x.ev s.r, s)
  | .nilCheck x => match x.ev s.r with
    | .ptr i j o => some (true, .ptr i j o, s)
    | .p (.ref d) => some (true, .p (.ref d), s)
    | _ => none
  | .pick c a b => match c.ev s.r with
    | .p (.bool true) => some (true, a.ev s.r, s)
    | .p (.bool false) => some (true, b.ev s.r, s)
    | _ => none
  | .alloc T sz z => match s.m id with
    | none => some (true, .ptr id 0 0, ⟨s.r, upd s.m id (some ⟨T, sz, .box z, false⟩)⟩)
    | some _ => none
  | .box T sz x => match s.m id with
    | none => if (x.ev s.r).cells.length = sz ∧ (x.ev s.r).cells.all AV.one = true then some (true, .ptr id 0 0, ⟨s.r, upd s.m id (some ⟨T, sz, .box (x.ev s.r), false⟩)⟩) else none
    | some _ => none
  | .build z parts => match fillA z s.r parts with
    | some l => some (true, AV.mk l, s)
    | none => none
  | .buildSlice T sz z n parts => match s.m id with
    | none => match fillR sz (List.replicate n z) s.r s.m parts with
      | some l => some (true, .slice id 0 n, ⟨s.r, upd s.m id (some ⟨T, sz, .row l, false⟩)⟩)
      | none => none
    | some _ => none
  | .load ag sz x => match x.ev s.r with
    | .ptr i j off => match s.m i with
      | some ⟨_, osz, .row l, _⟩ => match (AV.p (l.getD j default)).get off sz osz ag with
        | some v => some (decide (j < l.length), v, s)
        | none => none
      | some ⟨_, osz, .box v, _⟩ => if j = 0 then match v.get off sz osz ag with
        | some u => some (true, u, s)
        | none => none else none
      | _ => none
    | .p (.ref d) => if d.isAgg = ag then some (decide (d.cells.length = sz ∧ 0 < sz), .p d, s) else none
    | _ => none
  | .store sz x v => match x.ev s.r with
    | .ptr i j off => match s.m i with
      | some ⟨T, osz, .row l, false⟩ => match (v.ev s.r).toD false s.m 20 with
        | some d => if d.cells.length = sz ∧ d.cells.all D.one = true then
            (if off = 0 ∧ sz = osz then some (decide (j < l.length), .und, ⟨s.r, upd s.m i (some ⟨T, osz, .row (l.set j d), false⟩)⟩)
             else none) else none
        | none => none
      | some ⟨T, osz, .box u, false⟩ => if (v.ev s.r).cells.length = sz ∧ (v.ev s.r).cells.all AV.one = true ∧ j = 0 then
          (if off = 0 ∧ sz = osz then some (true, .und, ⟨s.r, upd s.m i (some ⟨T, osz, .box (v.ev s.r), false⟩)⟩)
           else if off + sz ≤ osz then some (true, .und, ⟨s.r, upd s.m i (some ⟨T, osz, .box (AV.mk (u.cells.take off ++ (v.ev s.r).cells ++ u.cells.drop (off + sz))), false⟩)⟩) else none) else none
      | some ⟨T, osz, .junk, false⟩ => if (v.ev s.r).cells.length = sz ∧ (v.ev s.r).cells.all AV.one = true ∧ j = 0 then
          (if off = 0 ∧ sz = osz then some (true, .und, ⟨s.r, upd s.m i (some ⟨T, osz, .box (v.ev s.r), false⟩)⟩) else none) else none
      | _ => none
    | _ => none
  | .bin bo op x y => match x.ev s.r, y.ev s.r with
    | .p a, .p b => if a.isBool = bo then match binD op a b with
      | some (c, d) => some (c, .p d, s)
      | none => none else none
    | _, _ => none
  | .eqs n neg x y => match x.ev s.r, y.ev s.r with
    | .p (.agg a), .p (.agg b) => match intsOf a, intsOf b with
      | some (k, l), some (k', m) => if k = k' ∧ k.length = n then some (true, .p (.bool (if neg then !decide (l = m) else decide (l = m))), s) else none
      | _, _ => none
    | _, _ => none
  | .un op x => match x.ev s.r with
    | .p a => match unD op a with
      | some (c, d) => some (c, .p d, s)
      | none => none
    | _ => none
  | .conv k x => match x.ev s.r with
    | .p (.int _ n) => some (inK k n, .p (.int k n), s)
    | _ => none
  | .makeSlice T sz bytes z l c => match s.m id with
    | none => match asI (l.ev s.r), asI (c.ev s.r) with
      | some n, some m => some (decide (0 ≤ n ∧ n = m ∧ bytes * n ≤ 281474976710656 ∧ n ≤ 9223372036854775807), .slice id 0 n.toNat, ⟨s.r, upd s.m id (some ⟨T, sz, .row (List.replicate n.toNat z), false⟩)⟩)
      | _, _ => none
    | some _ => none
  | .sliceS x lo hi => match x.ev s.r with
    | .p (.str t) => match bounds s.r t.length lo hi none with
      | some (c, l, h) => some (c, .p (.str ((t.drop l).take (h - l))), s)
      | none => none
    | _ => none
  | .slice sz x lo hi mx => match x.ev s.r with
    | .p (.list T sz' t) => if sz = sz' then match bounds s.r t.length lo hi mx with
      | some (c, l, h) => some (c, .p (.list T sz ((t.drop l).take (h - l))), s)
      | none => none else none
    | .slice i off len => match s.m i with
      | some o => if o.sz = sz then match bounds s.r len lo hi mx with
        | some (c, l, h) => some (c, .slice i (off + l) (h - l), s)
        | none => none else none
      | none => none
    | .nils T sz => match bounds s.r 0 lo hi mx with
      | some (c, _, _) => some (c, .nils T sz, s)
      | none => none
    | _ => none
  | .fieldAddr off sz ag x => match x.ev s.r with
    | .ptr i j o => some (true, .ptr i j (o + off), s)
    | .p (.ref d) => match d.part off sz ag with
      | some e => some (true, .p (.ref e), s)
      | none => none
    | _ => none
  | .field off sz ag x => if (x.ev s.r).isAgg = some true then match (x.ev s.r).part off sz ag with
    | some v => some (true, v, s)
    | none => none else none
  | .indexAddr sz x i => match x.ev s.r, asI (i.ev s.r) with
    | .p (.list _ sz' t), some n => if sz = sz' then some (decide (0 ≤ n ∧ n < t.length), .p (.ref (t.getD n.toNat default)), s) else none
    | .slice j off len, some n => match s.m j with
      | some o => if o.sz = sz then some (decide (0 ≤ n ∧ n < len), .ptr j (off + n.toNat) 0, s) else none
      | none => none
    | _, _ => none
  | .index x i => match x.ev s.r, asI (i.ev s.r) with
    | .p (.str t), some n => some (decide (0 ≤ n ∧ n < t.length), .p (.int .u8 ((t.getD n.toNat 0).toNat : Int)), s)
    | _, _ => none
  | .extract x i => match x.ev s.r with
    | .p (.tup l) => (l[i]?).map fun d => (true, .p d, s)
    | .tup l => (l[i]?).map fun d => (true, d, s)
    | _ => none
  | .lenS x => match x.ev s.r with
    | .p (.str t) => some (true, .p (.int .i64 t.length), s)
    | _ => none
  | .len x => match x.ev s.r with
    | .p (.list _ _ t) => some (true, .p (.int .i64 t.length), s)
    | .slice _ _ n => some (true, .p (.int .i64 n), s)
    | .nils _ _ => some (true, .p (.int .i64 0), s)
    | _ => none
  | _ => none

def elemsOf (sz : Nat) (m : Mem) : AV → Option (List D)
  | .slice j off n => match m j with
    | some ⟨_, sz', .row l, _⟩ => if sz' = sz ∧ off + n ≤ l.length then some ((l.drop off).take n) else none
    | _ => none
  | .p (.list _ sz' l) => if sz' = sz then some l else none
  | .nils _ sz' => if sz' = sz then some [] else none
  | _ => none
def AObj.forget (id : Nat) (o : AObj) : AObj := match o.cont with
  | .box v => match v.forget id with
    | .und => ⟨o.T, o.sz, .junk, o.frz⟩
    | u => ⟨o.T, o.sz, .box u, o.frz⟩
  | _ => o
def forgetR (id : Nat) (r : Nat → AV) : Nat → AV := fun t => (r t).forget id
def forgetM (id : Nat) (m : Mem) : Mem := fun j => (m j).map (AObj.forget id)
/-- append: onto a nil slice a new object; onto a whole object of the call's own the same object, longer, and whoever knew it knows it no more. -/
def evApp (T sz bytes : Nat) (x y : Opd) (id : Nat) (s : St) : Option (Bool × AV × St) :=
  match elemsOf sz s.m (y.ev s.r) with
  | none => none
  | some ys => match x.ev s.r with
    | .nils _ sz' => match s.m id with
      | none => if sz' = sz then some (decide (ys.length * bytes ≤ 140737488355328 ∧ ys.length ≤ 9223372036854775807), .slice id 0 ys.length, ⟨s.r, upd s.m id (some ⟨T, sz, .row ys, false⟩)⟩) else none
      | some _ => none
    | .slice i 0 n => match s.m i with
      | some ⟨T', sz', .row l, false⟩ => if sz' = sz ∧ T' = T ∧ n = l.length then
          some (decide ((n + ys.length) * bytes ≤ 140737488355328 ∧ n + ys.length ≤ 9223372036854775807), .slice i 0 (n + ys.length), ⟨forgetR i s.r, upd (forgetM i s.m) i (some ⟨T, sz, .row (l ++ ys), false⟩)⟩) else none
      | _ => none
    | _ => none

end Go.Proofs.Ytbbidekjbgjooaa.M
end

section
namespace Go.Proofs.Ytbbidekjbgjooaa
open Go.RowKit

/-- An Int: its sign, its places. -/
structure IV where
  n : Bool
  s : SV

/-- The value reads as the number z. -/
def IsI (w : World) (x : IV) (z : Int) : Prop :=
  ∃ l, IsL w x.s .u32 l ∧ Norm l ∧ z = sg x.n (valL l) ∧ (l = [] → x.n = false) ∧ Sm z

theorem IsI.keep {w w' : World} {x : IV} {z : Int} (h : IsI w x z) (e : Ext w w') : IsI w' x z := by
  obtain ⟨l, h1, h2⟩ := h
  exact ⟨l, h1.keep e, h2⟩

theorem IsI.kept {w w' : World} {x : IV} {z : Int} (h : IsI w x z) (e : Kept 93 w w') : IsI w' x z := by
  obtain ⟨l, h1, h2⟩ := h
  exact ⟨l, h1.kept e, h2⟩

theorem isI_zero (w : World) : IsI w ⟨false, ⟨none, 0, 0⟩⟩ 0 := ⟨[], isL_nil w _, .inl rfl, by simp [sg, valL], fun _ => rfl, sm_zero⟩

/-- The call answers the number z. -/
def RetI (w : World) (z : Int) (e : Ending) (w' : World) : Prop :=
  ∃ x : IV, e = .returned (.agg #[.bool x.n, .slice x.s.a x.s.len x.s.cap]) ∧ IsI w' x z ∧ Ext w w'

theorem isI_made {w : World} {neg : Bool} {ao : Option Addr} {cap k : Nat} {l : List Int} (h : IsL w ⟨ao, l.length, cap⟩ .u32 l) (hk : k + 1 ≤ l.length)
    (hz : ∀ j, k + 1 ≤ j → at_ l j = 0) (hne : at_ l k ≠ 0) (hcm : cap ≤ 9223372036854775807) (hs : Sm (sg neg (valL l))) : IsI w ⟨neg, ⟨ao, k + 1, k + 1⟩⟩ (sg neg (valL l)) := by
  have hcap : l.length ≤ cap := h.1.2.1
  refine ⟨l.take (k + 1), h.take hk (Nat.le_refl _) (by omega), .inr ?_, by rw [valL_take hz], fun e => ?_, hs⟩
  · have : (l.take (k + 1)).length - 1 = k := by simp; omega
    rw [this]
    simpa [at_] using hne
  · have := congrArg List.length e
    rw [List.length_take, List.length_nil] at this
    omega

set_option maxHeartbeats 400000 in
theorem made_any (neg : Bool) (s : SV) (l : List Int) (w : World) (h : IsL w s .u32 l) (hs : Sm (sg neg (valL l))) :
    Calls Try.prog 64 #[.bool neg, .slice s.a s.len s.cap] w (RetI w (sg neg (valL l))) := by
  obtain ⟨ao, cap, rfl, hcap, hcm, hop⟩ := h.open_
  replace hs := hd_ hs
  go_enter Try.func64, Try.ntmps64
  go_wp2
  go_loop [5] (fun n => ∃ k : Nat, k ≤ l.length ∧ n = .int .i64 k ∧ (∀ j, k ≤ j → at_ l j = 0)) (fun n => (intOf n).toNat)
  case atStart => exact ⟨l.length, Nat.le_refl _, rfl, fun j hj => at_ge hj⟩
  case round =>
    obtain ⟨k, hk, rfl, hz⟩ := hrel
    match k, hk, hz with
    | 0, hk, hz =>
      have H0 := hd_ (valL_zero (fun j => hz j (by omega)))
      clear hz
      go_wp2
      refine bodyPost_ret (v := .agg #[.bool false, .slice none 0 0]) (by simp [results, Try.results64, go_sem]) rfl ⟨⟨false, ⟨none, 0, 0⟩⟩, rfl, ?_, (Ext.rf _).al _⟩
      rw [H0.out]
      cases neg <;> exact isI_zero _
    | k + 1, hk, hz =>
      have Hz := hd_ hz; clear hz
      obtain ⟨b, off, rfl, hb, hc⟩ := hop (by omega)
      have hbl := hb.lt
      have hc := hc k (by omega)
      have hf := h.fit (i := k) (by omega)
      by_cases h0 : at_ l k = 0
      · have h0' : (at_ l k == 0) = true := by simp [h0]
        have H0 := hd_ h0; clear h0
        go_wp2
        go_round
        case rel => exact ⟨k, by omega, by go_num, fun j hj => if e : j = k then by rw [e]; exact H0.out else Hz.out j (by omega)⟩
        case measure => first | (simp [intOf]; done) | (simp [intOf]; omega)
      · have h0' : (at_ l k == 0) = false := by simp [h0]
        go_wp2
        refine bodyPost_ret (v := .agg #[.bool neg, .slice (some ⟨b, off, none⟩) (k + 1) (k + 1)]) (by simp [results, Try.results64, go_sem]) rfl ⟨⟨neg, ⟨some ⟨b, off, none⟩, k + 1, k + 1⟩⟩, rfl, ?_, ?_⟩
        · exact (isI_made h hk Hz.out h0 hcm hs.out).keep (((Ext.rf _).al _))
        · exact (Ext.rf _).al _

/-- A number opened: its sign, its places. -/
theorem IsI.open_ {w : World} {x : IV} {z : Int} (h : IsI w x z) : ∃ l, IsL w x.s .u32 l ∧ Norm l ∧ Dig l ∧ l.length ≤ 536870913 ∧ z = sg x.n (valL l) ∧ (l = [] → x.n = false) ∧ Sm z := by
  obtain ⟨l, h1, h2, h3, h4, h5⟩ := h
  refine ⟨l, h1, h2, h1.2, ?_, h3, h4, h5⟩
  have hb : Bt (valL l) maxBits := by
    rw [h3] at h5
    exact h5.bt.le (by rw [natAbs_sg]; exact Nat.le_refl _)
  have := len_of_bt h1.2 h2 hb
  rw [maxBits_eq] at this
  omega

theorem IsI.sm {w : World} {x : IV} {z : Int} (h : IsI w x z) : Sm z := by obtain ⟨_, _, _, _, _, h⟩ := h; exact h

end Go.Proofs.Ytbbidekjbgjooaa
end

section
namespace Go.Proofs.Ytbbidekjbgjooaa
open Go.RowKit

/-- The slice s owns the numbers l, in a row among the blocks from base on (or is nil and owns nothing). -/
def Rw (w : World) (base : Nat) (k : IntKind) (s : SV) (l : List Int) : Prop := w.ownsRow base (ET k) 1 (.slice s.a s.len s.cap) l.length (l.map (Value.int k))

section
variable {w w' : World} {base : Nat} {k : IntKind} {s : SV} {l : List Int}

theorem Rw.nil_ (w : World) (base : Nat) (k : IntKind) : Rw w base k ⟨none, 0, 0⟩ [] := World.ownsRow_nil _ _ _ _
theorem Rw.len (h : Rw w base k s l) : s.len = l.length := by
  rcases h.2 with ⟨hv, hl⟩ | ⟨g, cap, cur, hv, _⟩
  · injection hv with _ e _; omega
  · injection hv
theorem Rw.cap_ (h : Rw w base k s l) : l.length ≤ s.cap ∧ s.cap ≤ 9223372036854775807 := by
  rcases h.2 with ⟨hv, hl⟩ | ⟨g, cap, cur, hv, _, _, h1, h2, _⟩
  · injection hv with _ _ e; omega
  · injection hv with _ _ e; subst e; exact ⟨h1, h2⟩
theorem Rw.keep (h : Rw w base k s l) (e : Ext w w') : Rw w' base k s l := by
  obtain ⟨h1, h2⟩ := h
  refine ⟨h1, ?_⟩
  rcases h2 with h2 | ⟨g, cap, cur, hv, hb, hg, rest⟩
  · exact .inl h2
  · exact .inr ⟨g, cap, cur, hv, hb, (e.block g (Array.getElem?_eq_some_iff.1 hg).1).trans hg, rest⟩
theorem Rw.al (h : Rw w base k s l) (o : Obj) : Rw (w.alloc o) base k s l := h.keep ((Ext.rf w).al o)
theorem Rw.dr (h : Rw w base k s l) : Rw w.drew base k s l := h
theorem Rw.kept (h : Rw w base k s l) (e : Kept (ET k) w w') : Rw w' base k s l := by
  obtain ⟨h1, h2⟩ := h
  refine ⟨h1, ?_⟩
  rcases h2 with h2 | ⟨g, cap, cur, hv, hb, hg, rest⟩
  · exact .inl h2
  · exact .inr ⟨g, cap, cur, hv, hb, (e g ⟨_, _, hg⟩).trans hg, rest⟩
theorem Rw.open_ (h : Rw w base k s l) (hl : 0 < l.length) : ∃ g cap, s = ⟨some ⟨g, 0, none⟩, l.length, cap⟩ ∧ base ≤ g ∧ Ty w g (ET k) ∧ l.length ≤ cap ∧ cap ≤ 9223372036854775807 ∧
    (∀ j, j < l.length → w.cell? ⟨g, j, none⟩ = some (.int k (at_ l j))) ∧ (∀ j, w.frozen? ⟨g, j, none⟩ = false) := by
  have h0 := h
  rcases h.2 with ⟨hv, hn⟩ | ⟨g, cap, cur, hv, hb, hg, h1, h2, _⟩
  · omega
  · obtain ⟨a, n, c⟩ := s
    simp only [Value.slice.injEq] at hv
    obtain ⟨rfl, rfl, rfl⟩ := hv
    refine ⟨g, c, rfl, hb, ⟨_, _, hg⟩, h1, h2, fun j hj => ?_, fun j => World.ownsRow.frozenAt h0 j⟩
    have := World.ownsRow.cellAt h0 j (by simpa using hj)
    rw [this]
    simp [at_, hj]
theorem Rw.set {g cap : Nat} (h : Rw w base k ⟨some ⟨g, 0, none⟩, l.length, cap⟩ l) (j : Nat) (v : Int) : Rw (w.setCell ⟨g, j, none⟩ (.int k v)) base k ⟨some ⟨g, 0, none⟩, l.length, cap⟩ (l.set j v) := by
  have := (World.ownsRow.stored h j (.int k v)).1
  unfold Rw
  rw [List.length_set, List.map_set]
  exact this
theorem Rw.set' {g n cap : Nat} (h : Rw w base k ⟨some ⟨g, 0, none⟩, n, cap⟩ l) (j : Nat) (v : Int) : Rw (w.setCell ⟨g, j, none⟩ (.int k v)) base k ⟨some ⟨g, 0, none⟩, n, cap⟩ (l.set j v) := by
  obtain rfl : n = l.length := h.len
  exact h.set j v
theorem Rw.isL (h : Rw w base k s l) (hf : ∀ x ∈ l, Fit k x) : IsL w s k l := by
  have h1 := h.len
  have h2 := h.cap_
  obtain ⟨a, n, c⟩ := s
  simp only at h1 h2
  subst h1
  refine IsL.mk_ h2.1 h2.2 (fun hl => ?_) hf
  obtain ⟨g, cap, he, hb, ht, _, _, hc, _⟩ := h.open_ hl
  simp only [SV.mk.injEq] at he
  exact ⟨g, 0, he.1, ht, fun j hj => by rw [Nat.zero_add]; exact hc j hj⟩
theorem Rw.take {g n cap m : Nat} (h : Rw w base k ⟨some ⟨g, 0, none⟩, n, cap⟩ l) (hm : m ≤ n) : Rw w base k ⟨some ⟨g, 0, none⟩, m, cap⟩ (l.take m) := by
  obtain rfl : n = l.length := h.len
  have hl : (l.take m).length = m := by simp; omega
  rcases h.2 with ⟨hv, _⟩ | ⟨g', cap', cur, hv, hb, hg, h1, h2, h3, h4⟩
  · cases hv
  · simp only [Value.slice.injEq] at hv
    obtain ⟨e1, -, rfl⟩ := hv
    unfold Rw
    rw [hl]
    refine ⟨by simp; omega, .inr ⟨g', cap, cur, by rw [e1], hb, hg, by omega, h2, h3, ?_⟩⟩
    rw [List.map_take, ← h4, List.take_take]
    congr 1; omega
theorem Rw.of_own {b : Nat} (h : Own w b (ET k) k l) (hb : base ≤ b) (hm : l.length ≤ 9223372036854775807) : Rw w base k ⟨some ⟨b, 0, none⟩, l.length, l.length⟩ l :=
  ⟨by simp, .inr ⟨b, l.length, _, rfl, hb, h, Nat.le_refl _, hm, by simp, by simpa using List.take_of_length_le (by simp)⟩⟩
end

/-- 'out = append(out, x)' of one number: it may grow. W0: the world when the call's own rows began. -/
theorem wpL_app1 {P : Program} (w : World) {ops : Array Oper} {rest : List Oper} {o : Oper} {a : Act} {Q : Exit → Act → World → Prop} (hgd : o.guard = none) (sl x : Operand) (t : TypeId)
    (ho : o.op = .call { callee := .builtin .append, args := #[sl, x], argTypes := #[t, t] })
    (k : IntKind) (bytes : Nat) (ht : P.underlying t = some (.slice (ET k))) (hinfo : (P.info? (ET k)).map (fun i => (i.zero, i.size, i.bytes)) = some (some (.int k 0), 1, bytes))
    (W0 : World) (s : SV) (l : List Int) (v : Int) (hs : a.eval sl = .slice s.a s.len s.cap) (hx : a.eval x = .slice (some ⟨w.heap.size, 0, none⟩) 1 1) (hown : Rw w W0.heap.size k s l) (hE : Ext W0 w)
    (hb : (l.length + 1) * bytes ≤ 140737488355328) (h63 : l.length + 1 ≤ 9223372036854775807)
    (h : ∀ (s' : SV) (w' : World), Rw w' W0.heap.size k s' (l ++ [v]) → Ext W0 w' → (∀ T, T ≠ ET k → Kept T w w') → wpList P ops Q rest (a.put o.dst (.slice s'.a s'.len s'.cap)) w') :
    wpList P ops Q (o :: rest) a (w.alloc (.cells #[.int k v] (ET k))) := by
  obtain ⟨i, hi, hz0, hz1, hz2⟩ := info_parts hinfo
  refine wpList_append_own _ hgd sl x t ho W0.heap.size (ET k) i _ 1 bytes ht hi hz0 hz1 hz2 rfl (by omega) (.slice s.a s.len s.cap) l.length (l.map (Value.int k)) hs (hown.al _) ⟨w.heap.size, 0, none⟩ 1 1 [.int k v] hx rfl
    (by intro j u hu; match j, hu with | 0, hu => simp at hu; subst hu; simp [Addr.add]) (by intro u hu; simp at hu; subst hu; rfl) h63 hb (Nat.le_trans hE.size (by simp)) ?_
  intro v' w' hown' hgr hnil
  have hform : ∃ s' : SV, v' = .slice s'.a s'.len s'.cap := by
    rcases hown'.2 with ⟨e, _⟩ | ⟨g, cap, cur, e, _⟩
    · exact ⟨⟨none, 0, 0⟩, e⟩
    · exact ⟨⟨some ⟨g, 0, none⟩, _, cap⟩, e⟩
  obtain ⟨s', rfl⟩ := hform
  refine h s' w' ?_ ((hE.al _).gr hgr ?_) ?_
  · unfold Rw
    rw [List.length_append, List.map_append]
    exact hown'
  · intro g hg
    rcases hown.2 with ⟨e, _⟩ | ⟨g', cap, cur, e, hb', _⟩
    · rw [e] at hg; cases hg
    · rw [e] at hg
      simp only [Value.ownBlock, Option.some.injEq] at hg
      omega
  · intro T hT b hb
    refine (hgr.block b (by have := hb.lt; simp; omega) ?_).trans (Below.heap_alloc _ _ _ hb.lt)
    intro e
    rcases hown.2 with ⟨e', _⟩ | ⟨g', cap, cur, e', _, hg', _⟩
    · rw [e'] at e; cases e
    · rw [e'] at e
      simp only [Value.ownBlock, Option.some.injEq] at e
      subst e
      exact Ty.ne_ hb ⟨_, _, hg'⟩ hT rfl

end Go.Proofs.Ytbbidekjbgjooaa
end

section
namespace Go.Proofs.Ytbbidekjbgjooaa
open Go.RowKit

/-- The string of a list of bytes. -/
def bs (l : List UInt8) : ByteArray := ⟨l.toArray⟩
/-- Byte i, a number. -/
def byt (l : List UInt8) (i : Nat) : Nat := (l.getD i 0).toNat

theorem bs_inj {l m : List UInt8} (h : bs l = bs m) : l = m := by
  unfold bs at h
  injection h with h
  simpa using congrArg Array.toList h

theorem bs_eta (s : ByteArray) : bs s.data.toList = s := rfl
theorem exists_bs (s : ByteArray) : ∃ l, s = bs l := ⟨s.data.toList, rfl⟩

@[simp, go_sem] theorem bs_size (l : List UInt8) : (bs l).size = l.length := by simp [bs, ByteArray.size]
@[simp, go_sem] theorem bs_data (l : List UInt8) : (bs l).data = l.toArray := rfl
@[simp, go_sem] theorem bs_toList (l : List UInt8) : (bs l).toList = l := by
  rw [ByteArray.toList_eq]; simp [bs]
@[simp, go_sem] theorem bs_get (l : List UInt8) (i : Nat) (h : i < (bs l).size) : ((bs l)[i]'h).toNat = byt l i := by
  have h' : i < l.length := by simpa using h
  simp [byt, h', bs, ByteArray.getElem_eq_getElem_data]
@[simp, go_sem] theorem bs_extract (l : List UInt8) (a b : Nat) : (bs l).extract a b = bs ((l.drop a).take (b - a)) := ByteArray.extract_mk l a b
@[simp, go_sem] theorem bs_append (l m : List UInt8) : bs l ++ bs m = bs (l ++ m) := ByteArray.mk_append_mk l m
@[simp, go_sem] theorem take_tail_all (l : List UInt8) : List.take (l.length - 1) l.tail = l.tail := List.take_of_length_le (by simp)
@[simp, go_sem] theorem take_drop_all (l : List UInt8) (a : Nat) : List.take (l.length - a) (List.drop a l) = List.drop a l := List.take_of_length_le (by simp)
theorem byt_le (l : List UInt8) (i : Nat) : byt l i ≤ 255 := by
  unfold byt
  have := UInt8.toNat_lt (l.getD i 0)
  omega

/-- The bytes as numbers. -/
def nums (m : List UInt8) : List Int := m.map fun c => (c.toNat : Int)
@[simp] theorem nums_length (m : List UInt8) : (nums m).length = m.length := by simp [nums]
theorem at_nums (m : List UInt8) (i : Nat) : at_ (nums m) i = byt m i := by
  by_cases h : i < m.length
  · simp [at_, nums, byt, h]
  · simp [at_, nums, byt, h]
theorem nums_fit (m : List UInt8) : ∀ x ∈ nums m, Fit .u8 x := by
  intro x hx
  simp only [nums, List.mem_map] at hx
  obtain ⟨c, _, rfl⟩ := hx
  have := UInt8.toNat_lt c
  show 0 ≤ _ ∧ _ ≤ _
  omega

/-- '[]byte(s)'. -/
theorem wpL_bytes {P : Program} (w : World) {ops : Array Oper} {rest : List Oper} {o : Oper} {a : Act} {Q : Exit → Act → World → Prop} (hgd : o.guard = none) (src dst : TypeId) (x : Operand) (hop : o.op = Op.convert src dst x)
    (hs : P.underlying src = some .string) (hd : P.underlying dst = some (.slice (ET .u8))) (he : P.underlying (ET .u8) = some (.int .u8)) (m : List UInt8) (hx : a.eval x = .string (bs m)) (hm : m.length ≤ 9223372036854775807)
    (h : ∀ (cap : Nat) (w' : World), IsL w' ⟨some ⟨w.heap.size, 0, none⟩, m.length, cap⟩ .u8 (nums m) → Ext w w' → (∀ j, j < m.length → w'.cell? ⟨w.heap.size, j, none⟩ = some (.int .u8 (byt m j))) → wpList P ops Q rest (a.put o.dst (.slice (some ⟨w.heap.size, 0, none⟩) m.length cap)) w') :
    wpList P ops Q (o :: rest) a w := by
  refine wpList_plain hgd fun K hK' => ?_
  have hrun := run_bytes_of_string (P := P) w src dst (ET .u8) (bs m) hs hd he
  rw [bs_size] at hrun
  unfold Oper.wp
  simp [execOp, hop, hx, hrun, Result.andThen]
  have hge := grownCap_ge w m.length 0 (ET .u8)
  have hle := grownCap_le_maxLen w m.length 0 (ET .u8) hm
  have hcell : ∀ j, j < m.length → (w.drew.alloc (.cells (bytesRow (bs m) (grownCap w m.length 0 (ET .u8))) (ET .u8) ((bytesRow (bs m) (grownCap w m.length 0 (ET .u8))).size, (bytesRow (bs m) (grownCap w m.length 0 (ET .u8))).size + 1))).cell? ⟨w.heap.size, j, none⟩ = some (.int .u8 (byt m j)) := by
    intro j hj
    have := World.cell?_alloc_mark w.drew (bytesRow (bs m) (grownCap w m.length 0 (ET .u8))) (ET .u8) ((bytesRow (bs m) (grownCap w m.length 0 (ET .u8))).size, (bytesRow (bs m) (grownCap w m.length 0 (ET .u8))).size + 1) j
    refine this.trans ?_
    rw [bytesRow_at (bs m) _ j (by simpa [bs] using hj)]
    simp [bs, byt, hj]
  refine hK' _ _ (h _ _ ?_ ((Ext.rf w).dr.al _) hcell)
  have hl : (nums m).length = m.length := nums_length m
  have := IsL.mk_ (w := w.drew.alloc (.cells (bytesRow (bs m) (grownCap w m.length 0 (ET .u8))) (ET .u8) ((bytesRow (bs m) (grownCap w m.length 0 (ET .u8))).size, (bytesRow (bs m) (grownCap w m.length 0 (ET .u8))).size + 1))) (ao := some ⟨w.heap.size, 0, none⟩) (cap := grownCap w m.length 0 (ET .u8)) (k := .u8) (l := nums m) (by rw [hl]; exact hge) hle
    (fun _ => ⟨w.heap.size, 0, rfl, ⟨_, _, heap_alloc_new w.drew _⟩, fun j hj => by rw [Nat.zero_add, at_nums]; exact hcell j (by rw [← hl]; exact hj)⟩) (nums_fit m)
  rw [hl] at this
  exact this

end Go.Proofs.Ytbbidekjbgjooaa
end

section
namespace Go.Proofs.Ytbbidekjbgjooaa.Z4

/-- The number of a list of places, the lowest first. -/
def valL : List Int → Int
  | [] => 0
  | x :: t => x + 10000 * valL t

/-- Each place fits. -/
def Dig (l : List Int) : Prop := ∀ x ∈ l, 0 ≤ x ∧ x ≤ 9999

/-- No place too many. -/
def Norm (l : List Int) : Prop := l = [] ∨ at_ l (l.length - 1) ≠ 0

theorem Dig.at_ {l : List Int} (h : Dig l) (i : Nat) : 0 ≤ at_ l i ∧ at_ l i ≤ 9999 := by
  by_cases hi : i < l.length
  · exact h _ (at_mem hi)
  · rw [at_ge (by omega)]; omega

theorem Dig.tail {x : Int} {t : List Int} (h : Dig (x :: t)) : Dig t := fun y hy => h y (List.mem_cons_of_mem _ hy)

theorem valL_nonneg {l : List Int} (h : Dig l) : 0 ≤ valL l := by
  induction l with
  | nil => simp [valL]
  | cons x t ih => have := ih h.tail; have := h x (List.mem_cons_self ..); simp only [valL]; omega

theorem valL_zero {l : List Int} (h : ∀ j, at_ l j = 0) : valL l = 0 := by
  induction l with
  | nil => rfl
  | cons x t ih =>
    have h0 := h 0
    have ht : ∀ j, at_ t j = 0 := fun j => by have := h (j + 1); rwa [at_cons_succ] at this
    rw [at_cons_zero] at h0
    simp [valL, h0, ih ht]

theorem valL_take {l : List Int} {k : Nat} (h : ∀ j, k ≤ j → at_ l j = 0) : valL (l.take k) = valL l := by
  induction l generalizing k with
  | nil => simp
  | cons x t ih =>
    match k with
    | 0 => rw [valL_zero (l := x :: t) (fun j => h j (by omega))]; rfl
    | k + 1 =>
      simp only [List.take_succ_cons, valL]
      rw [ih (fun j hj => by have := h (j + 1) (by omega); rwa [at_cons_succ] at this)]

theorem valL_pos {l : List Int} (hd : Dig l) {i : Nat} (hi : at_ l i ≠ 0) : 0 < valL l := by
  induction l generalizing i with
  | nil => simp [at_] at hi
  | cons x t ih =>
    have hx := hd x (List.mem_cons_self ..)
    have ht := valL_nonneg hd.tail
    simp only [valL]
    match i with
    | 0 => rw [at_cons_zero] at hi; omega
    | i + 1 => rw [at_cons_succ] at hi; have := ih hd.tail hi; omega

theorem valL_pos' {l : List Int} (hd : Dig l) (hn : Norm l) (hne : l ≠ []) : 0 < valL l := by
  rcases hn with h | h
  · exact absurd h hne
  · exact valL_pos hd h

theorem valL_eq_zero {l : List Int} (hd : Dig l) (hn : Norm l) : valL l = 0 ↔ l = [] := by
  constructor
  · intro h
    by_cases hne : l = []
    · exact hne
    · have := valL_pos' hd hn hne; omega
  · rintro rfl; rfl

theorem valL_take_succ (l : List Int) (i : Nat) : valL (l.take (i + 1)) = valL (l.take i) + at_ l i * 10000 ^ i := by
  induction l generalizing i with
  | nil => simp [valL, at_]
  | cons x t ih =>
    match i with
    | 0 => simp [valL, at_]
    | i + 1 =>
      simp only [List.take_succ_cons, valL, at_cons_succ]
      rw [ih i, Int.pow_succ]
      grind

theorem valL_take_all {l : List Int} {i : Nat} (h : l.length ≤ i) : valL (l.take i) = valL l := by rw [List.take_of_length_le h]

theorem valL_lt {l : List Int} (hd : Dig l) : valL l < 10000 ^ l.length := by
  induction l with
  | nil => simp [valL]
  | cons x t ih =>
    have h1 := ih hd.tail
    have hx := hd x (List.mem_cons_self ..)
    simp only [valL, List.length_cons, Int.pow_succ]
    generalize (10000 : Int) ^ t.length = p at *
    omega

theorem pow_pos' (i : Nat) : (0 : Int) < 10000 ^ i := Int.pow_pos (by omega)

theorem pow_mono' {i j : Nat} (h : i ≤ j) : (10000 : Int) ^ i ≤ 10000 ^ j := by
  induction j with
  | zero => obtain rfl : i = 0 := by omega
            exact Int.le_refl _
  | succ j ih =>
    by_cases e : i = j + 1
    · subst e; exact Int.le_refl _
    · have := ih (by omega)
      have hp := pow_pos' j
      rw [Int.pow_succ]
      omega

theorem valL_ge {l : List Int} (hd : Dig l) {i : Nat} (hi : at_ l i ≠ 0) : 10000 ^ i ≤ valL l := by
  induction l generalizing i with
  | nil => simp [at_] at hi
  | cons x t ih =>
    have hx := hd x (List.mem_cons_self ..)
    have ht := valL_nonneg hd.tail
    simp only [valL]
    match i with
    | 0 => rw [at_cons_zero] at hi; simp; omega
    | i + 1 =>
      rw [at_cons_succ] at hi
      have := ih hd.tail hi
      rw [Int.pow_succ]
      generalize (10000 : Int) ^ i = p at *
      omega

/-- A longer number is the greater. -/
theorem valL_lt_of_len {a b : List Int} (ha : Dig a) (hb : Dig b) (hn : Norm b) (h : a.length < b.length) : valL a < valL b := by
  rcases hn with rfl | hn
  · simp at h
  · have h1 := valL_lt ha
    have h2 := valL_ge hb hn
    have h3 := pow_mono' (i := a.length) (j := b.length - 1) (by omega)
    omega

/-- Of the same length: the highest place at which they part decides. -/
theorem valL_lt_of_at {a b : List Int} (ha : Dig a) (hb : Dig b) (hl : a.length = b.length) {i : Nat} (hi : i < a.length) (heq : ∀ j, i < j → at_ a j = at_ b j) (hlt : at_ a i < at_ b i) : valL a < valL b := by
  induction a generalizing b i with
  | nil => simp at hi
  | cons x s ih =>
    match b, hl with
    | y :: t, hl =>
      have hx := ha x (List.mem_cons_self ..)
      have hy := hb y (List.mem_cons_self ..)
      simp only [List.length_cons, Nat.add_right_cancel_iff] at hl
      simp only [valL]
      match i, hi, heq, hlt with
      | 0, _, heq, hlt =>
        have : s = t := list_ext_at hl (fun j => by have := heq (j + 1) (by omega); rwa [at_cons_succ, at_cons_succ] at this)
        subst this
        rw [at_cons_zero, at_cons_zero] at hlt
        omega
      | i + 1, hi, heq, hlt =>
        rw [at_cons_succ, at_cons_succ] at hlt
        have := ih ha.tail hb.tail hl (i := i) (by simpa using hi) (fun j hj => by have := heq (j + 1) (by omega); rwa [at_cons_succ, at_cons_succ] at this) hlt
        omega

theorem valL_set {l : List Int} {i : Nat} (h : i < l.length) (v : Int) : valL ((l.set i v).take (i + 1)) = valL (l.take i) + v * 10000 ^ i := by
  rw [valL_take_succ, take_set, at_set_eq h]

theorem Dig.set {l : List Int} (hd : Dig l) (i : Nat) {v : Int} (hv : 0 ≤ v ∧ v ≤ 9999) : Dig (l.set i v) := by
  intro x hx
  rcases List.mem_or_eq_of_mem_set hx with h | h
  · exact hd x h
  · subst h; exact hv

/-- How a signed number of places stands: its sign tells. -/
theorem neg_iff {n : Bool} {l : List Int} (hd : Dig l) (hn : Norm l) (h0 : l = [] → n = false) : sg n (valL l) < 0 ↔ n = true := by
  by_cases hl : l = []
  · subst hl; rw [h0 rfl]; simp [sg, valL]
  · have := valL_pos' hd hn hl
    cases n
    · simp [sg]; omega
    · simp [sg]; omega

theorem valL_set_full {l : List Int} {i : Nat} (h : i < l.length) (v : Int) : valL (l.set i v) = valL l + (v - at_ l i) * 10000 ^ i := by
  induction l generalizing i with
  | nil => simp at h
  | cons x t ih =>
    match i with
    | 0 => simp [valL, at_]; omega
    | i + 1 =>
      simp only [List.set_cons_succ, valL, at_cons_succ]
      rw [ih (by simpa using h), Int.pow_succ]
      grind

theorem mul_step {V c V0 x vb y ok p q bi Y : Int} (h : V + c * p = V0 + x * vb * bi) (hq : p * 10000 = q) (hp : y * p = Y * bi) :
    V + ((c + (x * y + ok)) % 10000 - ok) * p + (c + (x * y + ok)) / 10000 * q = V0 + x * (vb + Y) * bi := by
  have h1 : (c + (x * y + ok)) % 10000 = (c + (x * y + ok)) - 10000 * ((c + (x * y + ok)) / 10000) := by omega
  rw [h1, ← hq]
  generalize (c + (x * y + ok)) / 10000 = d
  grind


theorem pow4 (i : Nat) : ((2 ^ (13 * i) : Nat) : Int) ≤ (10000 : Int) ^ i := by
  have h : (2 ^ 13) ^ i ≤ 10000 ^ i := Nat.pow_le_pow_left (by decide) i
  rw [← Nat.pow_mul] at h
  have e : (10000 : Int) ^ i = ((10000 ^ i : Nat) : Int) := by rw [Int.natCast_pow]; rfl
  rw [e]
  omega

theorem len_of_bt {l : List Int} {n : Nat} (hd : Dig l) (hn : Norm l) (h : Bt (valL l) n) : 13 * l.length ≤ n + 13 := by
  rcases hn with rfl | hn
  · simp
  · have h1 := valL_ge hd hn
    have h2 := valL_nonneg hd
    have h0 := pow4 (l.length - 1)
    unfold Bt at h
    have h3 : 2 ^ (13 * (l.length - 1)) < 2 ^ n := by omega
    rcases Nat.lt_or_ge (13 * (l.length - 1)) n with h4 | h4
    · omega
    · have := Nat.pow_le_pow_right (n := 2) (by omega) h4
      omega

theorem mul_bound {x y : Int} (hx : 0 ≤ x ∧ x ≤ 9999) (hy : 0 ≤ y ∧ y ≤ 9999) : 0 ≤ x * y ∧ x * y ≤ 99980001 := by
  refine ⟨Int.mul_nonneg hx.1 hy.1, ?_⟩
  have := Int.mul_le_mul hx.2 hy.2 hy.1 (by omega)
  omega

theorem valL_snoc (l : List Int) (x : Int) : valL (l ++ [x]) = valL l + x * 10000 ^ l.length := by
  induction l with
  | nil => simp [valL]
  | cons y t ih => simp only [List.cons_append, valL, ih, List.length_cons, Int.pow_succ]; grind

theorem Dig.snoc {l : List Int} (h : Dig l) {x : Int} (hx : 0 ≤ x ∧ x ≤ 9999) : Dig (l ++ [x]) := by
  intro y hy
  rcases List.mem_append.1 hy with hy | hy
  · exact h y hy
  · rw [List.mem_singleton.1 hy]; exact hx

theorem Dig.fit {l : List Int} (h : Dig l) : ∀ x ∈ l, Fit .i64 x := by
  intro x hx
  have := h x hx
  show _ ≤ _ ∧ _ ≤ _
  omega

end Go.Proofs.Ytbbidekjbgjooaa.Z4
end

section
namespace Go.Proofs.Ytbbidekjbgjooaa
open Go.RowKit

/-- One operation 'append(own, more...)': s, the row; t: what is appended, read as numbers (nil, it may be). -/
theorem wp_appN {P : Program} (w : World) {ops : Array Oper} {o : Oper} {a : Act} {Q : Exit → Act → World → Prop} (hgd : o.guard = none) (sl x : Operand) (t : TypeId)
    (ho : o.op = .call { callee := .builtin .append, args := #[sl, x], argTypes := #[t, t] })
    (k : IntKind) (bytes : Nat) (ht : P.underlying t = some (.slice (ET k))) (hinfo : (P.info? (ET k)).map (fun i => (i.zero, i.size, i.bytes)) = some (some (.int k 0), 1, bytes))
    (W0 : World) (s u : SV) (l m : List Int) (hs : a.eval sl = .slice s.a s.len s.cap) (hx : a.eval x = .slice u.a u.len u.cap) (hown : Rw w W0.heap.size k s l) (hu : IsL w u k m) (hnil : u.a = none → u.cap = 0) (hE : Ext W0 w)
    (hb : (l.length + m.length) * bytes ≤ 140737488355328) (h63 : l.length + m.length ≤ 9223372036854775807) {rest : List Oper}
    (h : ∀ (s' : SV) (w' : World), Rw w' W0.heap.size k s' (l ++ m) → Ext W0 w' → wpList P ops Q rest (a.put o.dst (.slice s'.a s'.len s'.cap)) w') :
    wpList P ops Q (o :: rest) a w := by
  obtain ⟨i, hi, hz0, hz1, hz2⟩ := info_parts hinfo
  obtain ⟨ao, cap, rfl, hc1, hc2, hop⟩ := hu.open_
  rcases ao with _ | ad
  · have h0 : m.length = 0 := by
      rcases Nat.eq_zero_or_pos m.length with h0 | h0
      · exact h0
      · obtain ⟨b, off, ha, _⟩ := hop h0
        cases ha
    have hm : m = [] := List.eq_nil_of_length_eq_zero h0
    subst hm
    have hc := hnil rfl
    simp only at hc
    subst hc
    refine wpList_append_own_none hgd sl x t ho W0.heap.size (ET k) i 1 ht hi (.slice s.a s.len s.cap) l.length (l.map (Value.int k)) hs hown hx ?_
    exact h s w (by simpa using hown) hE
  · refine wpList_append_own _ hgd sl x t ho W0.heap.size (ET k) i _ 1 bytes ht hi hz0 hz1 hz2 rfl (by omega) (.slice s.a s.len s.cap) l.length (l.map (Value.int k)) hs hown ad m.length cap (m.map (Value.int k)) hx (by simp)
      ?_ (by intro v hv; obtain ⟨z, _, rfl⟩ := List.mem_map.1 hv; rfl) h63 hb hE.size ?_
    · intro j v hv
      have hj : j < m.length := by
        have := (List.getElem?_eq_some_iff.1 hv).1
        simpa using this
      obtain ⟨b, off, ha, _, hc⟩ := hop (by omega)
      injection ha with ha
      subst ha
      have h1 := hc j hj
      rw [at_lt hj] at h1
      simp [hj] at hv
      rw [← hv]
      by_cases hj0 : j = 0
      · subst hj0; simpa [Addr.add] using h1
      · simpa [Addr.add, hj0] using h1
    · intro v' w' hown' hgr _
      have hform : ∃ s' : SV, v' = .slice s'.a s'.len s'.cap := by
        rcases hown'.2 with ⟨e, _⟩ | ⟨g, cap, cur, e, _⟩
        · exact ⟨⟨none, 0, 0⟩, e⟩
        · exact ⟨⟨some ⟨g, 0, none⟩, _, cap⟩, e⟩
      obtain ⟨s', rfl⟩ := hform
      refine h s' w' ?_ (hE.gr hgr ?_)
      · unfold Rw
        rw [List.length_append, List.map_append]
        exact hown'
      · intro g hg
        rcases hown.2 with ⟨e, _⟩ | ⟨g', cap, cur, e, hb', _⟩
        · rw [e] at hg; cases hg
        · rw [e] at hg
          simp only [Value.ownBlock, Option.some.injEq] at hg
          omega

end Go.Proofs.Ytbbidekjbgjooaa
end

section
namespace Go.Proofs.Ytbbidekjbgjooaa
open Go.Shelf

def lays128_ren : Go.Shelf.Ren := ⟨fun | 128 => 99 | n => n, fun | 51 => 93 | 3 => 3 | 4 => 4 | 46 => 96 | 5 => 5 | 9 => 9 | n => n, fun | n => n⟩
theorem lays128 : Go.Proofs.Lays.n128 Try.prog lays128_ren := {
  mixed := by kernel_rfl
  f128 := Try.func99.trans (congrArg some (by kernel_rfl))
  t3 := Try.underlying3
  a3 := Try.isAgg3
  z3 := Try.sizeOf3
  v3 := Try.zeroValue3
  t4 := Try.underlying4
  a4 := Try.isAgg4
  z4 := Try.sizeOf4
  v4 := Try.zeroValue4
  t5 := Try.underlying5
  a5 := Try.isAgg5
  z5 := Try.sizeOf5
  v5 := Try.zeroValue5
  t9 := Try.underlying9
  a9 := Try.isAgg9
  z9 := Try.sizeOf9
  v9 := Try.zeroValue9
  t46 := Try.underlying96
  a46 := Try.isAgg96
  z46 := Try.sizeOf96
  v46 := Try.zeroValue96
  t51 := Try.underlying93
  a51 := Try.isAgg93
  z51 := Try.sizeOf93
  v51 := Try.zeroValue93 }

def lays133_ren : Go.Shelf.Ren := ⟨fun | 133 => 93 | 128 => 99 | n => n, fun | 51 => 93 | 3 => 3 | 4 => 4 | 46 => 96 | 5 => 5 | 9 => 9 | n => n, fun | n => n⟩
theorem lays133 : Go.Proofs.Lays.n133 Try.prog lays133_ren := {
  mixed := by kernel_rfl
  f128 := Try.func99.trans (congrArg some (by kernel_rfl))
  f133 := Try.func93.trans (congrArg some (by kernel_rfl))
  t3 := Try.underlying3
  a3 := Try.isAgg3
  z3 := Try.sizeOf3
  v3 := Try.zeroValue3
  t4 := Try.underlying4
  a4 := Try.isAgg4
  z4 := Try.sizeOf4
  v4 := Try.zeroValue4
  t5 := Try.underlying5
  a5 := Try.isAgg5
  z5 := Try.sizeOf5
  v5 := Try.zeroValue5
  t9 := Try.underlying9
  a9 := Try.isAgg9
  z9 := Try.sizeOf9
  v9 := Try.zeroValue9
  t46 := Try.underlying96
  a46 := Try.isAgg96
  z46 := Try.sizeOf96
  v46 := Try.zeroValue96
  t51 := Try.underlying93
  a51 := Try.isAgg93
  z51 := Try.sizeOf93
  v51 := Try.zeroValue93 }

theorem lz32 (x : Int) (w : World) (h0 : 0 ≤ x) (h1 : x ≤ 4294967295) :
    Calls Try.prog 93 #[.int .u32 x] w fun e w' => e = .returned (.int .i64 (32 - (Lib.bitLen x.toNat : Int))) ∧ w = w' := (Any.bits_LeadingZeros32 lays133 x w h0 h1).mono fun _ _ h => ⟨h.1, h.2.symm⟩

theorem bitLen_bounds (n : Nat) (h0 : 0 < n) (h : n < 18446744073709551616) : 0 < Lib.bitLen n ∧ 2 ^ (Lib.bitLen n - 1) ≤ n ∧ n < 2 ^ Lib.bitLen n := by
  induction n using Nat.strongRecOn with
  | ind n ih =>
    rcases Nat.lt_or_ge n 2 with h1 | h1
    · obtain rfl : n = 1 := by omega
      decide
    · have h2 := Lib.bitLen_half n (by omega) h
      have h3 := ih (n / 2) (by omega) (by omega) (by omega)
      rw [h2]
      generalize Lib.bitLen (n / 2) = k at *
      have e : 1 + k - 1 = k - 1 + 1 := by omega
      have e2 : 1 + k = k + 1 := by omega
      rw [e, e2, Nat.pow_succ, Nat.pow_succ]
      refine ⟨by omega, by omega, by omega⟩

/-- How far a place is moved up till its highest bit is set. -/
theorem lz_bounds {x : Int} (h0 : 0 < x) (h1 : x ≤ 4294967295) : ∃ s : Nat, s < 32 ∧ (32 - (Lib.bitLen x.toNat : Int)) = s ∧ 2147483648 ≤ x * 2 ^ s ∧ x * 2 ^ s ≤ 4294967295 := by
  obtain ⟨n, rfl⟩ := Int.eq_ofNat_of_zero_le (Int.le_of_lt h0)
  rw [show ((n : Int)).toNat = n by omega]
  have hb := bitLen_bounds n (by omega) (by omega)
  have h32 : Lib.bitLen n ≤ 32 := by
    refine Nat.not_lt.1 fun hc => ?_
    have : 2 ^ 32 ≤ 2 ^ (Lib.bitLen n - 1) := Nat.pow_le_pow_right (by omega) (by omega)
    omega
  generalize Lib.bitLen n = k at *
  have e1 : 2 ^ (32 - k) * 2 ^ (k - 1) = 2147483648 := by rw [← Nat.pow_add, show 32 - k + (k - 1) = 31 by omega]
  have e2 : 2 ^ (32 - k) * 2 ^ k = 4294967296 := by rw [← Nat.pow_add, show 32 - k + k = 32 by omega]
  have g1 := Nat.mul_le_mul_left (2 ^ (32 - k)) hb.2.1
  have g2 : 2 ^ (32 - k) * (n + 1) ≤ 2 ^ (32 - k) * 2 ^ k := Nat.mul_le_mul_left _ hb.2.2
  have g3 : 1 ≤ 2 ^ (32 - k) := Nat.one_le_two_pow
  rw [Nat.mul_add, Nat.mul_one] at g2
  have e3 : (n : Int) * 2 ^ (32 - k) = ((2 ^ (32 - k) * n : Nat) : Int) := by rw [Int.natCast_mul, Int.mul_comm]; simp
  refine ⟨32 - k, by omega, by omega, ?_, ?_⟩ <;> rw [e3] <;> omega

end Go.Proofs.Ytbbidekjbgjooaa
end

section
namespace Go.Proofs.Ytbbidekjbgjooaa.M
open Go.RowKit

def aggT : TypeDesc → Bool
  | .struct _ => true
  | .array _ _ => true
  | _ => false
def TyOk (P : Program) (T : TypeId) (ag : Bool) (sz : Nat) : Prop := ∃ d i, P.underlying T = some d ∧ aggT d = ag ∧ P.info? T = some i ∧ i.size = sz

section
variable {P : Program} {w : World}

theorem run_isAgg {T : TypeId} {ag : Bool} {sz : Nat} (h : TyOk P T ag sz) : (isAgg T).run P w = .ok ag w := by
  obtain ⟨d, i, h1, h2, h3, h4⟩ := h
  subst h2
  unfold isAgg
  simp only [Sem.run_bind, run_underlying h1, Result.andThen]
  cases d <;> rfl
theorem run_sizeOf {T : TypeId} {ag : Bool} {sz : Nat} (h : TyOk P T ag sz) : (sizeOf T).run P w = .ok sz w := by
  obtain ⟨d, i, h1, h2, h3, h4⟩ := h
  simp [sizeOf, typeInfo, h3, h4]

def rd (c : Array Value) (o n : Nat) : Array Value := ((List.range n).map fun j => c.getD (o + j) undef).toArray
@[simp] theorem rd_size (c : Array Value) (o n : Nat) : (rd c o n).size = n := by simp [rd]
theorem rd_get (c : Array Value) (o n i : Nat) (h : i < n) : (rd c o n).getD i undef = c.getD (o + i) undef := by
  simp [rd, Array.getD_eq_getD_getElem?, h]

theorem add_mid (b o j : Nat) : (⟨b, o, none⟩ : Addr).add j = ⟨b, o + j, none⟩ := by
  unfold Addr.add; split <;> simp_all

theorem cell_at {b o : Nat} {c : Array Value} {T : TypeId} {fr : Nat × Nat} (hb : w.heap[b]? = some (.cells c T fr)) (ho : o < c.size) : w.cell? ⟨b, o, none⟩ = some (c.getD o undef) := by
  rw [cell_of_row w b o c T fr hb]
  simp [ho]

theorem run_cells {b o n : Nat} {c : Array Value} {T : TypeId} {fr : Nat × Nat} (hb : w.heap[b]? = some (.cells c T fr)) (hn : o + n ≤ c.size) : (loadCells ⟨b, o, none⟩ n).run P w = .ok (rd c o n) w := by
  rw [run_loadCells (P := P) w ⟨b, o, none⟩ n (fun j => c.getD (o + j) undef) (fun j hj => by rw [add_mid]; exact cell_at hb (by omega))]
  rfl

theorem run_loadAgg {T : TypeId} {b o n : Nat} {c : Array Value} {T' : TypeId} {fr : Nat × Nat} (hT : TyOk P T true n) (hb : w.heap[b]? = some (.cells c T' fr)) (hn : o + n ≤ c.size) :
    (loadVar T ⟨b, o, none⟩).run P w = .ok (.agg (rd c o n)) w := by
  unfold loadVar
  simp only [Sem.run_bind, run_isAgg hT, Result.andThen, if_true, run_sizeOf hT, run_cells hb hn]
  rfl
theorem run_loadOne {T : TypeId} {b o n : Nat} {c : Array Value} {T' : TypeId} {fr : Nat × Nat} (hT : TyOk P T false n) (hb : w.heap[b]? = some (.cells c T' fr)) (hn : o < c.size) :
    (loadVar T ⟨b, o, none⟩).run P w = .ok (c.getD o undef) w := by
  unfold loadVar
  simp only [Sem.run_bind, run_isAgg hT, Result.andThen, Bool.false_eq_true, if_false]
  simp [cell_at hb hn]

theorem run_storeAt {T : TypeId} {ag : Bool} {b o n : Nat} {c : Array Value} {T' : TypeId} {fr : Nat × Nat} {v : Value} (hT : TyOk P T ag n) (hb : w.heap[b]? = some (.cells c T' fr)) (hn : o + n ≤ c.size) (hv : v.cells.size = n)
    (hfr : ∀ x, x < c.size → (decide (fr.1 ≤ x) && decide (x < fr.2)) = false) (h1 : ∀ u ∈ v.cells.toList, u.oneCell' = true) :
    (Instr.storeAt T (.pointer (some ⟨b, o, none⟩)) v).run P w = .ok () (w.setCells b o v.cells.toList) := by
  have hl : v.cells.toList.length = n := by simpa using hv
  have := run_storeCells_cells (P := P) b o v.cells.toList 0 w (fun j hj => by rw [Nat.add_zero, cell_at hb (by omega)]; rfl) (fun j hj => by
    rw [Nat.add_zero]
    have := hfr (o + j) (by omega)
    simp only [World.frozen?, hb]
    exact this) h1
  rw [Nat.add_zero] at this
  unfold Instr.storeAt Instr.sureAddr storeVar
  simp only [Sem.run_bind, Result.andThen, run_sizeOf hT, hv, ne_eq, not_true, if_false]
  simp [this]

/-- A block after some of its cells are set. -/
def setC (c : Array Value) : Nat → List Value → Array Value
  | _, [] => c
  | o, v :: r => setC (c.setIfInBounds o v) (o + 1) r
theorem heap_setCells {b : Nat} {T : TypeId} {fr : Nat × Nat} : ∀ (vs : List Value) (o : Nat) (w : World) (c : Array Value), w.heap[b]? = some (.cells c T fr) → (w.setCells b o vs).heap[b]? = some (.cells (setC c o vs) T fr)
  | [], _, _, _, h => h
  | v :: r, o, w, c, h => by
    rw [World.setCells, setC]
    refine heap_setCells r (o + 1) _ _ ?_
    simp [World.setCell, Array.getElem?_modify, h]
theorem heap_setCells_ne {b b' : Nat} (hne : b' ≠ b) : ∀ (vs : List Value) (o : Nat) (w : World), (w.setCells b o vs).heap[b']? = w.heap[b']?
  | [], _, _ => rfl
  | v :: r, o, w => by
    rw [World.setCells, heap_setCells_ne hne r (o + 1)]
    exact Below.heap_setCell _ _ _ _ hne
theorem below_setCells {B b : Nat} (hb : B ≤ b) : ∀ (vs : List Value) (o : Nat) (w : World), Below B w (w.setCells b o vs)
  | [], _, _ => Below.refl _ _
  | v :: r, o, _ => ((Below.refl _ _).setCell (p := ⟨b, o, none⟩) hb v).trans (below_setCells hb r (o + 1) _)
theorem size_setCells {b : Nat} : ∀ (vs : List Value) (o : Nat) (w : World), (w.setCells b o vs).heap.size = w.heap.size
  | [], _, _ => rfl
  | v :: r, o, _ => by rw [World.setCells, size_setCells r (o + 1)]; simp [World.setCell]
@[simp] theorem size_setC : ∀ (vs : List Value) (o : Nat) (c : Array Value), (setC c o vs).size = c.size
  | [], _, _ => rfl
  | v :: r, o, c => by rw [setC, size_setC r (o + 1)]; simp
theorem setC_out : ∀ (vs : List Value) (o : Nat) (c : Array Value) (i : Nat), (i < o ∨ o + vs.length ≤ i) → (setC c o vs).getD i undef = c.getD i undef
  | [], _, _, _, _ => rfl
  | v :: r, o, c, i, h => by
    simp only [List.length_cons] at h
    rw [setC, setC_out r (o + 1) _ i (by omega)]
    simp only [Array.getD_eq_getD_getElem?]
    rw [Array.getElem?_setIfInBounds_ne (by omega)]
theorem setC_in : ∀ (vs : List Value) (o : Nat) (c : Array Value) (i : Nat), o + vs.length ≤ c.size → i < vs.length → (setC c o vs).getD (o + i) undef = vs.getD i undef
  | v :: r, o, c, 0, hc, _ => by
    simp only [List.length_cons] at hc
    rw [setC, setC_out r (o + 1) _ _ (by omega)]
    simp only [Array.getD_eq_getD_getElem?, Nat.add_zero, Array.getElem?_setIfInBounds_self, List.getD_cons_zero]
    rw [if_pos (by omega)]; rfl
  | v :: r, o, c, i + 1, hc, hi => by
    simp only [List.length_cons] at hc hi
    have := setC_in r (o + 1) (c.setIfInBounds o v) i (by simp; omega) (by omega)
    rw [setC, show o + (i + 1) = o + 1 + i by omega, this]
    simp
end

section
variable {w0 : World} {base : Nat → Prop} {nt : Nat} {loc : Locs} {s : St} {a : Act} {w : World}

/-- A store into an object that may be written. -/
theorem Rel.write (h : Rel w0 base nt loc s a w) {id : Nat} {o : AObj} {L : Loc} (ho : s.m id = some o) (hf : o.frz = false) (hL : loc id = some L) (hn : L.nil = false) {k : Cont} {p : Nat} {vs : List Value}
    (hk : ∀ (w' : World) (c : Array Value), w.heap.size ≤ w'.heap.size → (∀ b, NB base s.m loc w b → w'.heap[b]? = w.heap[b]?) → ContOk w' (NB base s.m loc w') loc c L.o o.sz o.cont → c.size = L.n → ContOk w' (NB base s.m loc w') loc (setC c p vs) L.o o.sz k) :
    Rel w0 base nt loc ⟨s.r, upd s.m id (some ⟨o.T, o.sz, k, false⟩)⟩ a (w.setCells L.b p vs) := by
  obtain ⟨L', hL', hok⟩ := h.objs id o ho
  rw [hL] at hL'
  cases hL'
  obtain ⟨c, fr, h1, h2, h3, h4, h5⟩ := hok.at_ hn
  have h4 := h4 hf
  have hlt := h.obj_lt ho hL hn
  have hown : ∀ b, ownB (upd s.m id (some ⟨o.T, o.sz, k, false⟩)) loc b ↔ ownB s.m loc b := by
    intro b
    constructor
    · rintro ⟨i, o', L', ho', hf', hL', hn', hb'⟩
      by_cases e : i = id
      · subst e
        exact ⟨i, o, L', ho, hf, hL', hn', hb'⟩
      · rw [upd_ne _ _ e] at ho'
        exact ⟨i, o', L', ho', hf', hL', hn', hb'⟩
    · rintro ⟨i, o', L', ho', hf', hL', hn', hb'⟩
      by_cases e : i = id
      · subst e
        exact ⟨i, _, L', upd_same _ _ _, rfl, hL', hn', hb'⟩
      · exact ⟨i, o', L', by rw [upd_ne _ _ e]; exact ho', hf', hL', hn', hb'⟩
  have hself : ownB s.m loc L.b := ⟨id, o, L, ho, hf, hL, hn, rfl⟩
  have hsz : (w.setCells L.b p vs).heap.size = w.heap.size := size_setCells _ _ _
  have hs : ∀ b, b ≠ L.b → (w.setCells L.b p vs).heap[b]? = w.heap[b]? := fun b hb => heap_setCells_ne hb _ _ _
  have hNs : ∀ b, NB base s.m loc w b → (w.setCells L.b p vs).heap[b]? = w.heap[b]? := fun b hb => hs b (fun e => hb.2.2 (e ▸ hself))
  have hN : ∀ b, NB base s.m loc w b → NB base (upd s.m id (some ⟨o.T, o.sz, k, false⟩)) loc (w.setCells L.b p vs) b := fun b hb => ⟨by rw [hsz]; exact hb.1, hb.2.1, fun e => hb.2.2 ((hown b).1 e)⟩
  have hN' : ∀ b, NB base s.m loc (w.setCells L.b p vs) b → NB base (upd s.m id (some ⟨o.T, o.sz, k, false⟩)) loc (w.setCells L.b p vs) b := fun b hb => ⟨hb.1, hb.2.1, fun e => hb.2.2 ((hown b).1 e)⟩
  refine ⟨?_, h.defers, h.size, h.low, ?_, fun t => (h.tmps t).mono hNs hN (fun _ _ x => x), ?_, ?_⟩
  · exact Below.trans h.ext (below_setCells h4.1 _ _ _)
  · intro i hi
    dsimp only at hi
    by_cases e : i = id
    · subst e; rw [upd_same] at hi; cases hi
    · rw [upd_ne _ _ e] at hi; exact h.dom i hi
  · intro i o' ho'
    dsimp only at ho'
    by_cases e : i = id
    · subst e
      rw [upd_same] at ho'
      cases ho'
      refine ⟨L, hL, hok.sz, fun e => (by rw [hn] at e; cases e), fun _ => ⟨setC c p vs, fr, heap_setCells _ _ _ _ h1, by simpa using h2, ?_, fun _ => h4, by simp⟩⟩
      have := hk (w.setCells L.b p vs) c (by rw [hsz]; exact Nat.le_refl _) hNs (h3.mono hNs (fun b hb => ⟨by rw [hsz]; exact hb.1, hb.2⟩) (fun _ _ x => x)) h2
      exact this.mono (fun _ _ => rfl) hN' (fun _ _ x => x)
    · rw [upd_ne _ _ e] at ho'
      obtain ⟨L', hL', hok'⟩ := h.objs i o' ho'
      refine ⟨L', hL', hok'.sz, hok'.nil, fun hnil => ?_⟩
      obtain ⟨c', fr', g1, g2, g3, g4, g5⟩ := hok'.at_ hnil
      have hne : L'.b ≠ L.b := fun hb => by
        have := h.inj id i o o' L L' ho ho' hf hL hL' hn hnil hb.symm
        exact e this.symm
      exact ⟨c', fr', (hs _ hne).trans g1, g2, g3.mono hNs hN (fun _ _ x => x), g4, fun hf' => hN _ (g5 hf')⟩
  · intro i i' o1 o2 L1 L2 ho1 ho2 hf1 hL1 hL2 hn1 hn2 hb
    dsimp only at ho1 ho2
    have old : ∀ j oj, upd s.m id (some ⟨o.T, o.sz, k, false⟩) j = some oj → ∃ oj', s.m j = some oj' ∧ oj'.frz = oj.frz := by
      intro j oj hj
      by_cases e : j = id
      · subst e; rw [upd_same] at hj; cases hj; exact ⟨o, ho, hf⟩
      · rw [upd_ne _ _ e] at hj; exact ⟨oj, hj, rfl⟩
    obtain ⟨o1', g1, g1'⟩ := old i o1 ho1
    obtain ⟨o2', g2, _⟩ := old i' o2 ho2
    exact h.inj i i' o1' o2' L1 L2 g1 g2 (g1'.trans hf1) hL1 hL2 hn1 hn2 hb
end

end Go.Proofs.Ytbbidekjbgjooaa.M
end

section
namespace Go.Proofs.Ytbbidekjbgjooaa
open Go.RowKit

theorem infoU32 : (Try.prog.info? 93).map (fun i => (i.zero, i.size, i.bytes)) = some (some (.int .u32 0), 1, 4) := by kernel_rfl

set_option maxHeartbeats 400000 in
theorem add32 (x y c : Int) (w : World) (hx : 0 ≤ x ∧ x ≤ 4294967295) (hy : 0 ≤ y ∧ y ≤ 4294967295) (hc : 0 ≤ c ∧ c ≤ 1) :
    Calls Try.prog 88 #[.int .u32 x, .int .u32 y, .int .u32 c] w (fun e w' => e = .returned (.tuple #[.int .u32 ((x + y + c) % 4294967296), .int .u32 ((x + y + c) / 4294967296)]) ∧ w = w') := by
  go_enter Try.func88, Try.ntmps88
  go_wp2
  go_ret2
  exact ⟨rfl, rfl⟩

/-- The borrow. -/
def bor (x y c : Int) : Int := if x - y - c < 0 then 1 else 0

theorem top_and (a b : Nat) (ha : a < 4294967296) (hb : b < 4294967296) : (a &&& b) / 2147483648 = (a / 2147483648) * (b / 2147483648) := by
  have h : (a &&& b) / 2 ^ 31 = (a / 2 ^ 31) &&& (b / 2 ^ 31) := Nat.and_div_two_pow
  simp only [Nat.reducePow] at h
  rw [h]
  have h1 : a / 2147483648 < 2 := by omega
  have h2 : b / 2147483648 < 2 := by omega
  generalize a / 2147483648 = p at *
  generalize b / 2147483648 = q at *
  match p, h1, q, h2 with
  | 0, _, 0, _ => rfl
  | 0, _, 1, _ => rfl
  | 1, _, 0, _ => rfl
  | 1, _, 1, _ => rfl

theorem top_or (a b : Nat) (ha : a < 4294967296) (hb : b < 4294967296) : (a ||| b) / 2147483648 = max (a / 2147483648) (b / 2147483648) := by
  have h : (a ||| b) / 2 ^ 31 = (a / 2 ^ 31) ||| (b / 2 ^ 31) := Nat.or_div_two_pow
  simp only [Nat.reducePow] at h
  rw [h]
  have h1 : a / 2147483648 < 2 := by omega
  have h2 : b / 2147483648 < 2 := by omega
  generalize a / 2147483648 = p at *
  generalize b / 2147483648 = q at *
  match p, h1, q, h2 with
  | 0, _, 0, _ => rfl
  | 0, _, 1, _ => rfl
  | 1, _, 0, _ => rfl
  | 1, _, 1, _ => rfl

theorem top_xor (a b : Nat) (ha : a < 4294967296) (hb : b < 4294967296) : (a ^^^ b) / 2147483648 = (a / 2147483648 + b / 2147483648) % 2 := by
  have h : (a ^^^ b) / 2 ^ 31 = (a / 2 ^ 31) ^^^ (b / 2 ^ 31) := Nat.xor_div_two_pow
  simp only [Nat.reducePow] at h
  rw [h]
  have h1 : a / 2147483648 < 2 := by omega
  have h2 : b / 2147483648 < 2 := by omega
  generalize a / 2147483648 = p at *
  generalize b / 2147483648 = q at *
  match p, h1, q, h2 with
  | 0, _, 0, _ => rfl
  | 0, _, 1, _ => rfl
  | 1, _, 0, _ => rfl
  | 1, _, 1, _ => rfl

theorem not_u32 (a : Nat) (ha : a < 4294967296) : 4294967295 ^^^ a < 4294967296 := Nat.xor_lt_two_pow (n := 32) (by omega) ha

theorem borrow_nat (x y d : Nat) (hx : x < 4294967296) (hy : y < 4294967296) (hd : d < 4294967296) :
    (((4294967295 ^^^ x) &&& y) ||| ((4294967295 ^^^ (x ^^^ y)) &&& d)) / 2147483648 = max ((1 - x / 2147483648) * (y / 2147483648)) ((1 - (x / 2147483648 + y / 2147483648) % 2) * (d / 2147483648)) := by
  have hxy : x ^^^ y < 4294967296 := Nat.xor_lt_two_pow (n := 32) hx hy
  have h1 := not_u32 x hx
  have h2 := not_u32 _ hxy
  have h3 : (4294967295 ^^^ x) &&& y < 4294967296 := Nat.and_lt_two_pow (n := 32) _ hy
  have h4 : (4294967295 ^^^ (x ^^^ y)) &&& d < 4294967296 := Nat.and_lt_two_pow (n := 32) _ hd
  rw [top_or _ _ h3 h4, top_and _ _ h1 hy, top_and _ _ h2 hd, top_xor _ _ (by omega) hx, top_xor _ _ (by omega) hxy, top_xor _ _ hx hy]
  congr 1
  · congr 1; omega
  · congr 1; omega

theorem borrow_bits (x y c : Int) (hx : 0 ≤ x ∧ x ≤ 4294967295) (hy : 0 ≤ y ∧ y ≤ 4294967295) (hc : 0 ≤ c ∧ c ≤ 1) :
    bits BinOp.or IntKind.u32 (bits BinOp.and IntKind.u32 (bits BinOp.xor IntKind.u32 IntKind.u32.max x) y)
      (bits BinOp.and IntKind.u32 (bits BinOp.xor IntKind.u32 IntKind.u32.max (bits BinOp.xor IntKind.u32 x y)) ((x - y - c) % 4294967296)) / 2147483648 = bor x y c := by
  obtain ⟨a, rfl⟩ := Int.eq_ofNat_of_zero_le hx.1
  obtain ⟨b, rfl⟩ := Int.eq_ofNat_of_zero_le hy.1
  obtain ⟨d, hd⟩ := Int.eq_ofNat_of_zero_le (a := ((a : Int) - b - c) % 4294967296) (by omega)
  have hd' : d < 4294967296 := by omega
  have ha : a < 4294967296 := by omega
  have hb : b < 4294967296 := by omega
  have hm : IntKind.u32.max = ((4294967295 : Nat) : Int) := by decide
  have hxy : a ^^^ b < 4294967296 := Nat.xor_lt_two_pow (n := 32) ha hb
  have h1 := not_u32 a ha
  have h2 := not_u32 _ hxy
  have h3 : (4294967295 ^^^ a) &&& b < 4294967296 := Nat.and_lt_two_pow (n := 32) _ hb
  have h4 : (4294967295 ^^^ (a ^^^ b)) &&& d < 4294967296 := Nat.and_lt_two_pow (n := 32) _ hd'
  rw [hd, hm, u32_xor_nat _ _ (by omega) ha, u32_xor_nat _ _ ha hb, u32_xor_nat _ _ (by omega) hxy, u32_and_nat _ _ h1 hb, u32_and_nat _ _ h2 hd', u32_or_nat _ _ h3 h4]
  have := borrow_nat a b d ha hb hd'
  have e : (((((4294967295 ^^^ a) &&& b) ||| ((4294967295 ^^^ (a ^^^ b)) &&& d) : Nat) : Int)) / 2147483648 = ((((((4294967295 ^^^ a) &&& b) ||| ((4294967295 ^^^ (a ^^^ b)) &&& d)) / 2147483648 : Nat)) : Int) := by omega
  rw [e, this]
  unfold bor
  have ha2 : a / 2147483648 < 2 := by omega
  have hb2 : b / 2147483648 < 2 := by omega
  have hd2 : d / 2147483648 < 2 := by omega
  split
  · generalize hp : a / 2147483648 = p at *
    generalize hq : b / 2147483648 = q at *
    generalize hr : d / 2147483648 = r at *
    match p, ha2, q, hb2, r, hd2 with
    | 0, _, 0, _, 0, _ => omega
    | 0, _, 0, _, 1, _ => rfl
    | 0, _, 1, _, 0, _ => rfl
    | 0, _, 1, _, 1, _ => rfl
    | 1, _, 0, _, 0, _ => omega
    | 1, _, 0, _, 1, _ => omega
    | 1, _, 1, _, 0, _ => omega
    | 1, _, 1, _, 1, _ => rfl
  · generalize hp : a / 2147483648 = p at *
    generalize hq : b / 2147483648 = q at *
    generalize hr : d / 2147483648 = r at *
    match p, ha2, q, hb2, r, hd2 with
    | 0, _, 0, _, 0, _ => rfl
    | 0, _, 0, _, 1, _ => omega
    | 0, _, 1, _, 0, _ => omega
    | 0, _, 1, _, 1, _ => omega
    | 1, _, 0, _, 0, _ => rfl
    | 1, _, 0, _, 1, _ => rfl
    | 1, _, 1, _, 0, _ => rfl
    | 1, _, 1, _, 1, _ => omega

set_option maxHeartbeats 400000 in
theorem sub32 (x y c : Int) (w : World) (hx : 0 ≤ x ∧ x ≤ 4294967295) (hy : 0 ≤ y ∧ y ≤ 4294967295) (hc : 0 ≤ c ∧ c ≤ 1) :
    Calls Try.prog 90 #[.int .u32 x, .int .u32 y, .int .u32 c] w (fun e w' => e = .returned (.tuple #[.int .u32 ((x - y - c) % 4294967296), .int .u32 (bor x y c)]) ∧ w = w') := by
  have H := borrow_bits x y c hx hy hc
  go_enter Try.func90, Try.ntmps90
  go_wp2
  go_ret2
  exact ⟨rfl, rfl⟩

set_option maxHeartbeats 400000 in
theorem cmpI (x y : Int) (w : World) :
    Calls Try.prog 79 #[.int .i64 x, .int .i64 y] w (fun e w' => e = .returned (.int .i64 (cmpZ x y)) ∧ w = w') := by
  rcases Int.lt_trichotomy x y with h | h | h
  · have H := hd_ (cmpZ_lt h)
    go_enter Try.func79, Try.ntmps79
    go_wp2
    go_ret
    exact ⟨by rw [H.out]; rfl, rfl⟩
  · subst h
    have H := hd_ (cmpZ_eq (x := x) rfl)
    go_enter Try.func79, Try.ntmps79
    go_wp2
    go_ret
    exact ⟨by rw [H.out]; rfl, rfl⟩
  · have H := hd_ (cmpZ_gt h)
    go_enter Try.func79, Try.ntmps79
    go_wp2
    go_ret
    exact ⟨by rw [H.out]; rfl, rfl⟩

set_option maxHeartbeats 400000 in
theorem cmpU (x y : Int) (w : World) :
    Calls Try.prog 89 #[.int .u32 x, .int .u32 y] w (fun e w' => e = .returned (.int .i64 (cmpZ x y)) ∧ w = w') := by
  rcases Int.lt_trichotomy x y with h | h | h
  · have H := hd_ (cmpZ_lt h)
    go_enter Try.func89, Try.ntmps89
    go_wp2
    go_ret
    exact ⟨by rw [H.out]; rfl, rfl⟩
  · subst h
    have H := hd_ (cmpZ_eq (x := x) rfl)
    go_enter Try.func89, Try.ntmps89
    go_wp2
    go_ret
    exact ⟨by rw [H.out]; rfl, rfl⟩
  · have H := hd_ (cmpZ_gt h)
    go_enter Try.func89, Try.ntmps89
    go_wp2
    go_ret
    exact ⟨by rw [H.out]; rfl, rfl⟩

end Go.Proofs.Ytbbidekjbgjooaa
end

section
namespace Go.Proofs.Ytbbidekjbgjooaa.M
open Go.RowKit

section
variable {w : World} {N : Nat → Prop} {loc : Locs}

theorem RV.inv {v : Value} {d : D} (h : RV w N loc v (.p d)) : V w N v d := by cases h; assumption

theorem rv_agg {cs : Array Value} {l : List AV} (h1 : cs.size = l.length) (h2 : ∀ d ∈ l, d.one = true) (h3 : ∀ i d, l[i]? = some d → RV w N loc (cs.getD i undef) d) : RV w N loc (.agg cs) (.agg l) := .agg cs l h1 h2 h3

theorem pureL_spec : ∀ {l : List AV} {ds : List D}, pureL l = some ds → l.length = ds.length ∧ ∀ (i : Nat) (d : D), ds[i]? = some d → ∃ e : AV, l[i]? = some e ∧ e.pure = some d
  | [], ds, h => by
    simp only [pureL, Option.some.injEq] at h
    subst h
    exact ⟨rfl, fun i d h => by simp at h⟩
  | v :: l, ds, h => by
    simp only [pureL] at h
    split at h
    · rename_i d ds' h1 h2
      simp only [Option.some.injEq] at h
      subst h
      obtain ⟨g1, g2⟩ := pureL_spec h2
      refine ⟨by simp [g1], fun i d' hi => ?_⟩
      match i, hi with
      | 0, hi => simp at hi; subst hi; exact ⟨v, rfl, h1⟩
      | i + 1, hi => simpa using g2 i d' (by simpa using hi)
    · cases h

theorem RV.pure : ∀ {v : Value} {x : AV} {d : D}, RV w N loc v x → x.pure = some d → V w N v d := by
  intro v x d h
  induction h generalizing d with
  | p v e h => intro hx; simp only [AV.pure, Option.some.injEq] at hx; subst hx; exact h
  | nils T sz => intro hx; simp only [AV.pure, Option.some.injEq] at hx; subst hx; exact .empty _ _ _ _ (by omega)
  | agg cs l h1 h2 _ ih =>
    intro hx
    simp only [AV.pure, Option.map_eq_some_iff] at hx
    obtain ⟨ds, hds, rfl⟩ := hx
    obtain ⟨g1, g2⟩ := pureL_spec hds
    refine .agg cs ds (h1.trans g1) (fun e he => ?_) (fun i e hi => ?_)
    · obtain ⟨i, hi⟩ := List.getElem?_of_mem he
      obtain ⟨x, hx, hp⟩ := g2 i e hi
      have := h2 x (List.mem_of_getElem? hx)
      cases x <;> simp [AV.one] at this <;> simp [AV.pure] at hp
      · subst hp; exact this
      · subst hp; rfl
    · obtain ⟨x, hx, hp⟩ := g2 i e hi
      exact ih i x hx hp
  | _ => intro hx; simp [AV.pure] at hx

theorem rv_mk {cs : Array Value} {l : List AV} (h1 : cs.size = l.length) (h2 : ∀ d ∈ l, d.one = true) (h3 : ∀ i d, l[i]? = some d → RV w N loc (cs.getD i undef) d) : RV w N loc (.agg cs) (AV.mk l) := by
  unfold AV.mk
  split
  · rename_i ds hds
    exact .p _ _ (RV.pure (rv_agg h1 h2 h3) (by simp [AV.pure, hds]))
  · exact rv_agg h1 h2 h3

/-- What stands in some cells of a block. -/
theorem rv_get {c : Array Value} {T : TypeId} {fr : Nat × Nat} {b o osz off sz : Nat} {v u : AV} {ag : Bool} {P : Program} {T' : TypeId} (hb : w.heap[b]? = some (.cells c T fr)) (ho : o + osz ≤ c.size) (hl : v.cells.length = osz) (h1 : ∀ e ∈ v.cells, e.one = true)
    (hc : ∀ j d, v.cells[j]? = some d → RV w N loc (c.getD (o + j) undef) d) (hg : v.get off sz osz ag = some u) (hT : TyOk P T' ag sz) (hs : ag = false → sz = 1) :
    ∃ x, (Instr.loadAt T' (.pointer (some ⟨b, o + off, none⟩))).run P w = .ok x w ∧ RV w N loc x u := by
  have hload : (Instr.loadAt T' (.pointer (some ⟨b, o + off, none⟩))).run P w = (loadVar T' ⟨b, o + off, none⟩).run P w := by
    simp [Instr.loadAt, Instr.sureAddr]
  rw [hload]
  have hpart : v.part off sz ag = some u → ∃ x, (loadVar T' ⟨b, o + off, none⟩).run P w = .ok x w ∧ RV w N loc x u := by
    intro hp
    have hp' : partA v.cells off sz ag = some u ∨ ∃ d, v = .p d ∧ ∃ e, d.part off sz ag = some e ∧ u = .p e := by
      cases v with
      | p d =>
        simp only [AV.part, Option.map_eq_some_iff] at hp
        obtain ⟨e, he, rfl⟩ := hp
        exact .inr ⟨d, rfl, e, he, rfl⟩
      | _ => exact .inl hp
    clear hp
    rcases hp' with hp | ⟨d, rfl, e, hp, rfl⟩
    · unfold partA at hp
      cases ag with
      | true =>
        simp only [if_true] at hp
        split at hp
        · rename_i hle
          simp only [Option.some.injEq] at hp
          subst hp
          refine ⟨_, run_loadAgg hT hb (by omega), rv_agg (by simp; omega) (fun d hd => h1 d (List.mem_of_mem_drop (List.mem_of_mem_take hd))) (fun i d hi => ?_)⟩
          have hlt : i < sz := by have := (List.getElem?_eq_some_iff.1 hi).1; simp at this; omega
          rw [rd_get _ _ _ _ hlt, Nat.add_assoc]
          refine hc (off + i) d ?_
          rw [List.getElem?_take_of_lt hlt, List.getElem?_drop] at hi
          exact hi
        · cases hp
      | false =>
        simp only [Bool.false_eq_true, if_false] at hp
        have hlt := (List.getElem?_eq_some_iff.1 hp).1
        exact ⟨_, run_loadOne hT hb (by omega), hc off u hp⟩
    · have hl' : d.cells.length = osz := by simpa [AV.cells] using hl
      have hV : ∀ j e, d.cells[j]? = some e → e.one = true ∧ V w N (c.getD (o + j) undef) e := by
        intro j e he
        have hm : (AV.p d).cells[j]? = some (.p e) := by simp [AV.cells, he]
        refine ⟨h1 (.p e) (List.mem_of_getElem? hm), ?_⟩
        exact (hc j (.p e) hm).inv
      unfold D.part partD at hp
      cases ag with
      | true =>
        simp only [if_true] at hp
        split at hp
        · rename_i hle
          simp only [Option.some.injEq] at hp
          subst hp
          refine ⟨_, run_loadAgg hT hb (by omega), .p _ _ (.agg _ _ (by simp; omega) (fun d' hd => ?_) (fun i d' hi => ?_))⟩
          · obtain ⟨i, hi⟩ := List.getElem?_of_mem (List.mem_of_mem_drop (List.mem_of_mem_take hd))
            exact (hV i d' hi).1
          · have hlt : i < sz := by have := (List.getElem?_eq_some_iff.1 hi).1; simp at this; omega
            rw [rd_get _ _ _ _ hlt, Nat.add_assoc]
            rw [List.getElem?_take_of_lt hlt, List.getElem?_drop] at hi
            exact (hV (off + i) d' hi).2
        · cases hp
      | false =>
        simp only [Bool.false_eq_true, if_false] at hp
        have hlt := (List.getElem?_eq_some_iff.1 hp).1
        exact ⟨_, run_loadOne hT hb (by omega), .p _ _ (hV off e hp).2⟩
  unfold AV.get at hg
  split at hg
  · rename_i hcond
    obtain ⟨rfl, rfl, hag⟩ := hcond
    simp only [Option.some.injEq] at hg
    subst hg
    cases ag with
    | true =>
      refine ⟨_, run_loadAgg hT hb (by omega), ?_⟩
      cases v with
      | p d =>
        cases d with
        | agg l =>
          have hl' : l.length = sz := by simpa [AV.cells, D.cells] using hl
          have hm : ∀ (j : Nat) (e : D), l[j]? = some e → (AV.p (.agg l)).cells[j]? = some (AV.p e) := fun j e he => by simp [AV.cells, D.cells, he]
          refine .p _ _ (.agg _ _ (by simp; omega) (fun d' hd => ?_) (fun i d' hi => ?_))
          · obtain ⟨i, hi⟩ := List.getElem?_of_mem hd
            exact h1 (.p d') (List.mem_of_getElem? (hm i d' hi))
          · have hlt : i < sz := by have := (List.getElem?_eq_some_iff.1 hi).1; omega
            rw [rd_get _ _ _ _ hlt]
            exact (hc i _ (hm i d' hi)).inv
        | _ => simp [AV.isAgg, D.isAgg] at hag
      | agg l =>
        have hl' : l.length = sz := by simpa [AV.cells] using hl
        refine rv_agg (by simp; omega) (fun d' hd => h1 d' hd) (fun i d' hi => ?_)
        have hlt : i < sz := by have := (List.getElem?_eq_some_iff.1 hi).1; omega
        rw [rd_get _ _ _ _ hlt]
        exact hc i d' hi
      | _ => simp [AV.isAgg] at hag
    | false =>
      have hs' := hs rfl
      subst hs'
      refine ⟨_, run_loadOne hT hb (by omega), ?_⟩
      rw [Nat.add_zero]
      have h0 : v.cells[0]? = some v := by
        cases v with
        | p d => cases d <;> simp [AV.isAgg, D.isAgg] at hag <;> rfl
        | agg l => simp [AV.isAgg] at hag
        | und => simp [AV.isAgg] at hag
        | _ => rfl
      have := hc 0 v h0
      rwa [Nat.add_zero] at this
  · exact hpart hg
end

end Go.Proofs.Ytbbidekjbgjooaa.M
end

section
namespace Go.Proofs.Ytbbidekjbgjooaa
open Go.RowKit

set_option maxHeartbeats 400000 in
theorem order_any (s t : SV) (a b : List Int) (w : World) (ha : IsL w s .u32 a) (hb : IsL w t .u32 b) (na : Norm a) (nb : Norm b) :
    Calls Try.prog 74 #[.slice s.a s.len s.cap, .slice t.a t.len t.cap] w (fun e w' => e = .returned (.int .i64 (cmpZ (valL a) (valL b))) ∧ Ext w w') := by
  have da : Dig a := ha.2
  have db : Dig b := hb.2
  obtain ⟨ao, ca, rfl, hca, hcam, hopa⟩ := ha.open_
  obtain ⟨bo, cb, rfl, hcb, hcbm, hopb⟩ := hb.open_
  rcases Nat.lt_trichotomy a.length b.length with hl | hl | hl
  · have H := hd_ (cmpZ_lt (valL_lt_of_len da db nb hl))
    have H2 : cmpZ (a.length : Int) b.length = -1 := cmpZ_lt (by omega)
    go_enter Try.func74, Try.ntmps74
    go_wp2_with (go_at_call 79; refine (cmpI _ _ _).mono ?_; rintro e w' ⟨rfl, rfl⟩)
    go_ret
    exact ⟨by rw [H.out]; rfl, Ext.rf _⟩
  · have H2 : cmpZ (a.length : Int) b.length = 0 := cmpZ_eq (by omega)
    go_enter Try.func74, Try.ntmps74
    have Hl := hd_ hl
    clear hl
    go_wp2_with (go_at_call 79; refine (cmpI _ _ _).mono ?_; rintro e w' ⟨rfl, rfl⟩)
    go_loopw [6] (fun i wr => ((i = .int .i64 (-1) ∧ ∀ j, at_ a j = at_ b j) ∨ ∃ k : Nat, i = .int .i64 k ∧ k < a.length ∧ ∀ j, k < j → at_ a j = at_ b j) ∧ Ext w wr) (fun i _ => (intOf i + 1).toNat)
    case atStart =>
      refine ⟨?_, Ext.rf _⟩
      have Hl := Hl.out
      rcases Nat.eq_zero_or_pos a.length with h0 | h0
      · exact .inl ⟨by rw [h0]; rfl, fun j => by rw [at_ge (by omega), at_ge (by omega)]⟩
      · refine .inr ⟨a.length - 1, ?_, by omega, fun j hj => by rw [at_ge (by omega), at_ge (by omega)]⟩
        congr 1; omega
    case round =>
      obtain ⟨hrel, hx⟩ := hrel
      rcases hrel with ⟨rfl, heq⟩ | ⟨k, rfl, hk, heq⟩
      · have H := hd_ (cmpZ_eq (congrArg valL (list_ext_at Hl.out heq)))
        clear heq
        go_wp2
        go_ret
        exact ⟨by rw [H.out]; rfl, hx⟩
      · replace heq := hd_ heq
        have hkb : k < b.length := by have := Hl.out; omega
        obtain ⟨ba, oa, rfl, hba, ga⟩ := hopa (by omega)
        obtain ⟨bb, ob, rfl, hbb, gb⟩ := hopb (by omega)
        have ga := (hx.cell (p := ⟨ba, oa + k, none⟩) hba.lt).trans (ga k hk)
        have gb := (hx.cell (p := ⟨bb, ob + k, none⟩) hbb.lt).trans (gb k hkb)
        rcases Int.lt_trichotomy (at_ a k) (at_ b k) with h | h | h
        · have H := hd_ (cmpZ_lt (valL_lt_of_at da db Hl.out hk heq.out h))
          have H2 := cmpZ_lt h
          clear h
          go_wp2
          go_quiet ((go_at_call 89; exact Calls.quiet_of_same ((cmpU _ _ _).mono fun _ _ h => ⟨h.1, h.2.symm⟩)))
          go_wp2
          go_ret
          exact ⟨by rw [H.out, ← H2]; rfl, below_drewN hx _⟩
        · have H2 := cmpZ_eq h
          have H := hd_ h
          clear h
          go_wp2
          go_quiet ((go_at_call 89; exact Calls.quiet_of_same ((cmpU _ _ _).mono fun _ _ h => ⟨h.1, h.2.symm⟩)))
          go_wp2
          go_roundw
          case rel =>
            refine ⟨?_, below_drewN hx _⟩
            rcases Nat.eq_zero_or_pos k with h0 | h0
            · exact .inl ⟨by rw [h0]; rfl, fun j => by
                rcases Nat.eq_zero_or_pos j with h1 | h1
                · subst h1; subst h0; exact H.out
                · exact heq.out j (by omega)⟩
            · exact .inr ⟨k - 1, by congr 1; omega, by omega, fun j hj => if e : j = k then by rw [e]; exact H.out else heq.out j (by omega)⟩
          case measure => first | (simp [intOf]; done) | (simp [intOf]; omega)
        · have H := hd_ (cmpZ_gt (valL_lt_of_at db da Hl.out.symm hkb (fun j hj => (heq.out j hj).symm) h))
          have H2 := cmpZ_gt h
          clear h
          go_wp2
          go_quiet ((go_at_call 89; exact Calls.quiet_of_same ((cmpU _ _ _).mono fun _ _ h => ⟨h.1, h.2.symm⟩)))
          go_wp2
          go_ret
          exact ⟨by rw [H.out, ← H2]; rfl, below_drewN hx _⟩
  · have H := hd_ (cmpZ_gt (valL_lt_of_len db da na hl))
    have H2 : cmpZ (a.length : Int) b.length = 1 := cmpZ_gt (by omega)
    go_enter Try.func74, Try.ntmps74
    go_wp2_with (go_at_call 79; refine (cmpI _ _ _).mono ?_; rintro e w' ⟨rfl, rfl⟩)
    go_ret
    exact ⟨by rw [H.out]; rfl, Ext.rf _⟩

/-- The call answers a slice that reads as numbers of this value. -/
def RetLn (w : World) (n : Nat) (z : Int) (e : Ending) (w' : World) : Prop :=
  ∃ (s : SV) (l : List Int), e = .returned (.slice s.a s.len s.cap) ∧ IsL w' s .u32 l ∧ l.length = n ∧ valL l = z ∧ Ext w w'

theorem dig_zeros (n : Nat) : Dig (List.replicate n 0) := by
  intro x hx
  have := List.eq_of_mem_replicate hx
  omega

/-- The same, of whatever length. -/
def RetL (w : World) (z : Int) (e : Ending) (w' : World) : Prop :=
  ∃ (s : SV) (l : List Int), e = .returned (.slice s.a s.len s.cap) ∧ IsL w' s .u32 l ∧ valL l = z ∧ Ext w w'

theorem sum_step {va vb vo c p x y q : Int} (h : vo + c * p = va + vb) (hq : p * 4294967296 = q) : vo + (x + y + c) % 4294967296 * p + (x + y + c) / 4294967296 * q = va + x * p + (vb + y * p) := by
  have h1 : (x + y + c) % 4294967296 = (x + y + c) - 4294967296 * ((x + y + c) / 4294967296) := by omega
  rw [h1, ← hq]
  generalize (x + y + c) / 4294967296 = d
  grind

set_option maxHeartbeats 1000000 in
theorem sum_any (s t : SV) (a b : List Int) (w : World) (ha : IsL w s .u32 a) (hb : IsL w t .u32 b) (hla : a.length ≤ 1099511627776) (hlb : b.length ≤ 1099511627776) :
    Calls Try.prog 73 #[.slice s.a s.len s.cap, .slice t.a t.len t.cap] w (RetLn w (max a.length b.length + 1) (valL a + valL b)) := by
  have da : Dig a := ha.2
  have db : Dig b := hb.2
  obtain ⟨ao, ca, rfl, hca, hcam, hopa⟩ := ha.open_
  obtain ⟨bo, cb, rfl, hcb, hcbm, hopb⟩ := hb.open_
  by_cases hl : a.length < b.length
  · have hm := hd_ (show max a.length b.length + 1 = b.length + 1 by omega)
    have hv := hd_ (Int.add_comm (valL a) (valL b))
    go_enter Try.func73, Try.ntmps73
    go_wp2_with (at_make; refine wpL_make _ rfl _ _ 22 rfl 93 .u32 4 Try.underlying22 infoU32 _ _ _ _ (b.length + 1) rfl rfl (by omega) (by omega) (by omega) (by omega) ?_; intro w1 hown1 hx1 hlt1)
    go_loopw [6, 23] (fun c i wr => ∃ (k : Nat) (cc : Int) (o : List Int), c = .int .u32 cc ∧ i = .int .i64 k ∧ k ≤ b.length ∧ Own wr w.heap.size 93 .u32 o ∧ o.length = b.length + 1 ∧ Dig o ∧ (0 ≤ cc ∧ cc ≤ 1) ∧
        valL (o.take k) + cc * 4294967296 ^ k = valL (b.take k) + valL (a.take k) ∧ Ext w wr) (fun _ i _ => b.length - (intOf i).toNat)
    case atStart => exact ⟨0, 0, _, rfl, rfl, Nat.zero_le _, hown1, by simp, dig_zeros _, by omega, by simp [valL], hx1⟩
    case round =>
      obtain ⟨k, cc, o, rfl, rfl, hk, hown, hol, hdo, hcc, hval, hx⟩ := hrel
      clear hown1
      replace hval := hd_ hval
      replace hol := hd_ hol
      by_cases hlt : k < b.length
      · obtain ⟨bb, ob, rfl, hbb, gb⟩ := hopb (by omega)
        have gb := (hx.cell (p := ⟨bb, ob + k, none⟩) hbb.lt).trans (gb k hlt)
        have go := hown.cell (i := k) (by have := hol.out; omega)
        have gf := hown.frozen k
        have fa := da.at_ k
        have fb := db.at_ k
        by_cases hlt2 : k < a.length
        · obtain ⟨ba, oa, rfl, hba, ga⟩ := hopa (by omega)
          have ga := (hx.cell (p := ⟨ba, oa + k, none⟩) hba.lt).trans (ga k hlt2)
          go_wp2_with (go_at_call 88; refine (add32 _ _ _ _ fb fa hcc).mono ?_; rintro e w' ⟨rfl, rfl⟩)
          go_roundw
          case rel =>
            refine ⟨k + 1, _, o.set k _, rfl, by go_num, by omega, hown.set k _, by rw [List.length_set]; exact hol.out, hdo.set k (by omega), by omega, ?_, hx.st (Nat.le_refl _) _⟩
            rw [valL_set (by have := hol.out; omega), valL_take_succ, valL_take_succ]
            exact sum_step hval.out (Int.pow_succ ..).symm
          case measure => first | (simp [intOf]; done) | (simp [intOf]; omega)
        · have h0 : at_ a k = 0 := at_ge (by omega)
          replace h0 := hd_ h0
          go_wp2_with (go_at_call 88; refine (add32 _ _ _ _ fb (by omega) hcc).mono ?_; rintro e w' ⟨rfl, rfl⟩)
          go_roundw
          case rel =>
            refine ⟨k + 1, _, o.set k _, rfl, by go_num, by omega, hown.set k _, by rw [List.length_set]; exact hol.out, hdo.set k (by omega), by omega, ?_, hx.st (Nat.le_refl _) _⟩
            rw [valL_set (by have := hol.out; omega), valL_take_succ, valL_take_succ, h0.out]
            have S := sum_step (x := at_ b k) (y := 0) hval.out (Int.pow_succ 4294967296 k).symm
            rw [Int.add_zero] at S
            exact S
          case measure => first | (simp [intOf]; done) | (simp [intOf]; omega)
      · obtain rfl : k = b.length := by omega
        have go := hown.cell (i := b.length) (by have := hol.out; omega)
        have gf := hown.frozen b.length
        go_wp2
        go_ret
        refine ⟨⟨some ⟨w.heap.size, 0, none⟩, b.length + 1, b.length + 1⟩, o.set b.length cc, rfl, ?_, by rw [List.length_set, hol.out, hm.out], ?_, hx.st (Nat.le_refl _) _⟩
        · have := (hown.set b.length cc).isL (by rw [List.length_set, hol.out]; omega) (hdo.set _ (by omega))
          rw [List.length_set, hol.out] at this
          exact this
        · have h1 := valL_set (l := o) (i := b.length) (by have := hol.out; omega) cc
          rw [List.take_of_length_le (by rw [List.length_set]; have := hol.out; omega)] at h1
          exact (h1.trans (by rw [hval.out, List.take_of_length_le (Nat.le_refl _), List.take_of_length_le (by omega)])).trans (by first | exact hv.out.symm | rfl)
  · have hm := hd_ (show max a.length b.length + 1 = a.length + 1 by omega)
    have hv := hd_ (rfl : valL a + valL b = valL a + valL b)
    go_enter Try.func73, Try.ntmps73
    go_wp2_with (at_make; refine wpL_make _ rfl _ _ 22 rfl 93 .u32 4 Try.underlying22 infoU32 _ _ _ _ (a.length + 1) rfl rfl (by omega) (by omega) (by omega) (by omega) ?_; intro w1 hown1 hx1 hlt1)
    go_loopw [6, 23] (fun c i wr => ∃ (k : Nat) (cc : Int) (o : List Int), c = .int .u32 cc ∧ i = .int .i64 k ∧ k ≤ a.length ∧ Own wr w.heap.size 93 .u32 o ∧ o.length = a.length + 1 ∧ Dig o ∧ (0 ≤ cc ∧ cc ≤ 1) ∧
        valL (o.take k) + cc * 4294967296 ^ k = valL (a.take k) + valL (b.take k) ∧ Ext w wr) (fun _ i _ => a.length - (intOf i).toNat)
    case atStart => exact ⟨0, 0, _, rfl, rfl, Nat.zero_le _, hown1, by simp, dig_zeros _, by omega, by simp [valL], hx1⟩
    case round =>
      obtain ⟨k, cc, o, rfl, rfl, hk, hown, hol, hdo, hcc, hval, hx⟩ := hrel
      clear hown1
      replace hval := hd_ hval
      replace hol := hd_ hol
      by_cases hlt : k < a.length
      · obtain ⟨ba, oa, rfl, hbb, gb⟩ := hopa (by omega)
        have gb := (hx.cell (p := ⟨ba, oa + k, none⟩) hbb.lt).trans (gb k hlt)
        have go := hown.cell (i := k) (by have := hol.out; omega)
        have gf := hown.frozen k
        have fa := db.at_ k
        have fb := da.at_ k
        by_cases hlt2 : k < b.length
        · obtain ⟨bb, ob, rfl, hba, ga⟩ := hopb (by omega)
          have ga := (hx.cell (p := ⟨bb, ob + k, none⟩) hba.lt).trans (ga k hlt2)
          go_wp2_with (go_at_call 88; refine (add32 _ _ _ _ fb fa hcc).mono ?_; rintro e w' ⟨rfl, rfl⟩)
          go_roundw
          case rel =>
            refine ⟨k + 1, _, o.set k _, rfl, by go_num, by omega, hown.set k _, by rw [List.length_set]; exact hol.out, hdo.set k (by omega), by omega, ?_, hx.st (Nat.le_refl _) _⟩
            rw [valL_set (by have := hol.out; omega), valL_take_succ, valL_take_succ]
            exact sum_step hval.out (Int.pow_succ ..).symm
          case measure => first | (simp [intOf]; done) | (simp [intOf]; omega)
        · have h0 : at_ b k = 0 := at_ge (by omega)
          replace h0 := hd_ h0
          go_wp2_with (go_at_call 88; refine (add32 _ _ _ _ fb (by omega) hcc).mono ?_; rintro e w' ⟨rfl, rfl⟩)
          go_roundw
          case rel =>
            refine ⟨k + 1, _, o.set k _, rfl, by go_num, by omega, hown.set k _, by rw [List.length_set]; exact hol.out, hdo.set k (by omega), by omega, ?_, hx.st (Nat.le_refl _) _⟩
            rw [valL_set (by have := hol.out; omega), valL_take_succ, valL_take_succ, h0.out]
            have S := sum_step (x := at_ a k) (y := 0) hval.out (Int.pow_succ 4294967296 k).symm
            rw [Int.add_zero] at S
            exact S
          case measure => first | (simp [intOf]; done) | (simp [intOf]; omega)
      · obtain rfl : k = a.length := by omega
        have go := hown.cell (i := a.length) (by have := hol.out; omega)
        have gf := hown.frozen a.length
        go_wp2
        go_ret
        refine ⟨⟨some ⟨w.heap.size, 0, none⟩, a.length + 1, a.length + 1⟩, o.set a.length cc, rfl, ?_, by rw [List.length_set, hol.out, hm.out], ?_, hx.st (Nat.le_refl _) _⟩
        · have := (hown.set a.length cc).isL (by rw [List.length_set, hol.out]; omega) (hdo.set _ (by omega))
          rw [List.length_set, hol.out] at this
          exact this
        · have h1 := valL_set (l := o) (i := a.length) (by have := hol.out; omega) cc
          rw [List.take_of_length_le (by rw [List.length_set]; have := hol.out; omega)] at h1
          exact (h1.trans (by rw [hval.out, List.take_of_length_le (Nat.le_refl _), List.take_of_length_le (by omega)])).trans (by first | exact hv.out.symm | rfl)

theorem less_step {va vb vo c p x y q : Int} (h : vo - c * p = va - vb) (hq : p * 4294967296 = q) : vo + (x - y - c) % 4294967296 * p - bor x y c * q = va + x * p - (vb + y * p) ∨ ¬ (0 ≤ x ∧ x ≤ 4294967295 ∧ 0 ≤ y ∧ y ≤ 4294967295 ∧ 0 ≤ c ∧ c ≤ 1) := by
  by_cases hh : 0 ≤ x ∧ x ≤ 4294967295 ∧ 0 ≤ y ∧ y ≤ 4294967295 ∧ 0 ≤ c ∧ c ≤ 1
  · left
    have h1 : (x - y - c) % 4294967296 = (x - y - c) + 4294967296 * bor x y c := by unfold bor; split <;> omega
    rw [h1, ← hq]
    generalize bor x y c = d
    grind
  · exact .inr hh

theorem bor_01 (x y c : Int) : 0 ≤ bor x y c ∧ bor x y c ≤ 1 := by unfold bor; split <;> omega

set_option maxHeartbeats 1000000 in
theorem less_any (s t : SV) (a b : List Int) (w : World) (ha : IsL w s .u32 a) (hb : IsL w t .u32 b) (hla : a.length ≤ 1099511627776) (hlb : b.length ≤ a.length) (hge : valL b ≤ valL a) :
    Calls Try.prog 75 #[.slice s.a s.len s.cap, .slice t.a t.len t.cap] w (RetLn w a.length (valL a - valL b)) := by
  have da : Dig a := ha.2
  have db : Dig b := hb.2
  replace hge := hd_ hge
  obtain ⟨ao, ca, rfl, hca, hcam, hopa⟩ := ha.open_
  obtain ⟨bo, cb, rfl, hcb, hcbm, hopb⟩ := hb.open_
  go_enter Try.func75, Try.ntmps75
  go_wp2_with (at_make; refine wpL_make _ rfl _ _ 22 rfl 93 .u32 4 Try.underlying22 infoU32 _ _ _ _ a.length rfl rfl (by omega) (by omega) (by omega) (by omega) ?_; intro w1 hown1 hx1 hlt1)
  go_loopw [6, 15] (fun c i wr => ∃ (k : Nat) (cc : Int) (o : List Int), c = .int .u32 cc ∧ i = .int .i64 k ∧ k ≤ a.length ∧ Own wr w.heap.size 93 .u32 o ∧ o.length = a.length ∧ Dig o ∧ (0 ≤ cc ∧ cc ≤ 1) ∧
      valL (o.take k) - cc * 4294967296 ^ k = valL (a.take k) - valL (b.take k) ∧ Ext w wr) (fun _ i _ => a.length - (intOf i).toNat)
  case atStart => exact ⟨0, 0, _, rfl, rfl, Nat.zero_le _, hown1, by simp, dig_zeros _, by omega, by simp [valL], hx1⟩
  case round =>
    obtain ⟨k, cc, o, rfl, rfl, hk, hown, hol, hdo, hcc, hval, hx⟩ := hrel
    clear hown1
    replace hval := hd_ hval
    replace hol := hd_ hol
    by_cases hlt : k < a.length
    · obtain ⟨ba, oa, rfl, hba, ga⟩ := hopa (by omega)
      have ga := (hx.cell (p := ⟨ba, oa + k, none⟩) hba.lt).trans (ga k hlt)
      have go := hown.cell (i := k) (by have := hol.out; omega)
      have gf := hown.frozen k
      have fa := da.at_ k
      have fb := db.at_ k
      by_cases hlt2 : k < b.length
      · obtain ⟨bb, ob, rfl, hbb, gb⟩ := hopb (by omega)
        have gb := (hx.cell (p := ⟨bb, ob + k, none⟩) hbb.lt).trans (gb k hlt2)
        have hb01 := bor_01 (at_ a k) (at_ b k) cc
        go_wp2_with (go_at_call 90; refine (sub32 _ _ _ _ fa fb hcc).mono ?_; rintro e w' ⟨rfl, rfl⟩)
        go_roundw
        case rel =>
          refine ⟨k + 1, _, o.set k _, rfl, by go_num, by omega, hown.set k _, by rw [List.length_set]; exact hol.out, hdo.set k (by omega), hb01, ?_, hx.st (Nat.le_refl _) _⟩
          rw [valL_set (by have := hol.out; omega), valL_take_succ, valL_take_succ]
          exact (less_step hval.out (Int.pow_succ ..).symm).resolve_right (by omega)
        case measure => first | (simp [intOf]; done) | (simp [intOf]; omega)
      · have h0 : at_ b k = 0 := at_ge (by omega)
        replace h0 := hd_ h0
        have hb01 := bor_01 (at_ a k) 0 cc
        go_wp2_with (go_at_call 90; refine (sub32 _ _ _ _ fa (by omega) hcc).mono ?_; rintro e w' ⟨rfl, rfl⟩)
        go_roundw
        case rel =>
          refine ⟨k + 1, bor (at_ a k) 0 cc, o.set k ((at_ a k - cc) % 4294967296), rfl, by go_num, by omega, hown.set k _, by rw [List.length_set]; exact hol.out, hdo.set k (by omega), hb01, ?_, hx.st (Nat.le_refl _) _⟩
          rw [valL_set (by have := hol.out; omega), valL_take_succ, valL_take_succ, h0.out]
          have S := (less_step (x := at_ a k) (y := 0) hval.out (Int.pow_succ 4294967296 k).symm).resolve_right (by omega)
          rw [Int.sub_zero] at S
          exact S
        case measure => first | (simp [intOf]; done) | (simp [intOf]; omega)
    · obtain rfl : k = a.length := by omega
      go_wp2
      go_ret
      refine ⟨⟨some ⟨w.heap.size, 0, none⟩, a.length, a.length⟩, o, rfl, ?_, hol.out, ?_, hx⟩
      · have := hown.isL (by have := hol.out; omega) hdo
        rw [hol.out] at this
        exact this
      · have h1 := hval.out
        have h2 := valL_lt hdo
        have h3 := valL_nonneg hdo
        have h4 := hge.out
        rw [List.take_of_length_le (by have := hol.out; omega), List.take_of_length_le (Nat.le_refl _), List.take_of_length_le (by omega)] at h1
        rw [hol.out] at h2
        have hc : cc = 0 := by
          rcases (show cc = 0 ∨ cc = 1 by omega) with h | h
          · exact h
          · rw [h, Int.one_mul] at h1; omega
        rw [hc, Int.zero_mul] at h1
        omega

end Go.Proofs.Ytbbidekjbgjooaa
end

section
namespace Go.Proofs.Ytbbidekjbgjooaa.M
open Go.RowKit

def opd (P : Program) (T : Option TypeId) : Operand → Opd
  | .tmp t => .t t
  | .const (.bool b) => .k (.p (.bool b))
  | .const (.int k n) => .k (.p (.int k n))
  | .const (.string s) => .k (.p (.str s.data.toList))
  | .const (.pointer none) => .k (.p .nilp)
  | .const (.slice none 0 0) => match T.bind P.underlying with
    | some (.slice e) => .k (.nils e (P.cellsOf e))
    | _ => .k .und
  | .func f => .k (.p (.fn (.func f) [] []))
  | _ => .k .und

theorem opd_ok (P : Program) (T : Option TypeId) (x : Operand) {w : World} {N : Nat → Prop} {loc : Locs} {a : Act} {r : Nat → AV} (h : ∀ t, RV w N loc (a.tmps.getD t undef) (r t)) :
    RV w N loc (a.eval x) ((opd P T x).ev r) := by
  unfold opd
  split
  · exact h _
  · exact .p _ _ (.bool _)
  · exact .p _ _ (.int _ _)
  · exact .p _ _ (.str _)
  · exact .p _ _ .nilp
  · split
    · exact .nils _ _
    · exact .und _
  · exact .p _ _ (.fn _ _ _ [] [] rfl rfl (fun i d h => by simp at h) (fun i d h => by simp at h))
  · exact .und _

def tyOf (P : Program) (T : TypeId) : Option (Bool × Nat) := match P.underlying T, P.info? T with
  | some d, some i => some (aggT d, i.size)
  | _, _ => none
theorem tyOf_ok {P : Program} {T : TypeId} {ag : Bool} {sz : Nat} (h : tyOf P T = some (ag, sz)) : TyOk P T ag sz := by
  unfold tyOf at h
  split at h
  · rename_i d i h1 h2
    simp only [Option.some.injEq, Prod.mk.injEq] at h
    exact ⟨d, i, h1, h.1, h2, h.2⟩
  · cases h

/-- The cells of a type's zero value. -/
def zeroD (P : Program) : Nat → TypeId → Option (List D)
  | 0, _ => none
  | n + 1, T => match P.underlying T with
    | some .bool => some [.bool false]
    | some (.int k) => some [.int k 0]
    | some .string => some [.str []]
    | some (.pointer _) => some [.nilp]
    | some (.slice e) => some [.list e (P.cellsOf e) []]
    | some (.struct fs) => (fs.toList.mapM fun f => zeroD P n f.type).map List.flatten
    | _ => none
def chkD : Value → D → Bool
  | .bool a, .bool b => a == b
  | .int k a, .int k' b => k == k' && a == b
  | .string s, .str l => s.data.toList == l
  | .pointer none, .nilp => true
  | .slice none 0 0, .list _ _ [] => true
  | _, _ => false
def chkL : List Value → List D → Bool
  | [], [] => true
  | v :: vs, d :: ds => chkD v d && chkL vs ds
  | _, _ => false

theorem chkD_ok {v : Value} {d : D} (h : chkD v d = true) (w : World) (N : Nat → Prop) : V w N v d ∧ d.one = true := by
  unfold chkD at h
  split at h
  · have := eq_of_beq h; subst this; exact ⟨.bool _, rfl⟩
  · simp only [Bool.and_eq_true, beq_iff_eq] at h; obtain ⟨rfl, rfl⟩ := h; exact ⟨.int _ _, rfl⟩
  · simp only [beq_iff_eq] at h; subst h; exact ⟨.str _, rfl⟩
  · exact ⟨.nilp, rfl⟩
  · exact ⟨.empty _ _ _ _ (by omega), rfl⟩
  · cases h
theorem chkL_ok : ∀ {vs : List Value} {ds : List D}, chkL vs ds = true → vs.length = ds.length ∧ ∀ i d, ds[i]? = some d → d.one = true ∧ ∀ (w : World) (N : Nat → Prop), V w N (vs.getD i undef) d
  | [], [], _ => ⟨rfl, fun i d h => by simp at h⟩
  | v :: vs, d :: ds, h => by
    simp only [chkL, Bool.and_eq_true] at h
    obtain ⟨g1, g2⟩ := chkL_ok h.2
    refine ⟨by simp [g1], fun i d' hi => ?_⟩
    match i, hi with
    | 0, hi => simp at hi; subst hi; exact ⟨(chkD_ok h.1 default (fun _ => True)).2, fun w N => (chkD_ok h.1 w N).1⟩
    | i + 1, hi => simpa using g2 i d' (by simpa using hi)
  | [], _ :: _, h => by simp [chkL] at h
  | _ :: _, [], h => by simp [chkL] at h

/-- A type's zero value, its cells, whether it is a struct, and how many cells it has: all checked. -/
def zeroOf (P : Program) (T : TypeId) : Option (List D × Bool × Nat) := match P.info? T, tyOf P T, zeroD P 20 T with
  | some i, some (ag, sz), some l => match i.zero with
    | some z => if chkL z.cells.toList l && l.length == sz && (ag || sz == 1) then some (l, ag, sz) else none
    | none => none
  | _, _, _ => none
def ZOk (P : Program) (T : TypeId) (l : List D) (ag : Bool) (sz : Nat) : Prop := ∃ i z, P.info? T = some i ∧ i.zero = some z ∧ TyOk P T ag sz ∧ chkL z.cells.toList l = true ∧ l.length = sz ∧ (ag = false → sz = 1)
theorem zeroOf_ok {P : Program} {T : TypeId} {l : List D} {ag : Bool} {sz : Nat} (h : zeroOf P T = some (l, ag, sz)) : ZOk P T l ag sz := by
  unfold zeroOf at h
  split at h
  · rename_i i ag' sz' l' h1 h2 h3
    split at h
    · rename_i z hz
      split at h
      · rename_i hc
        simp only [Bool.and_eq_true, Bool.or_eq_true, beq_iff_eq] at hc
        simp only [Option.some.injEq, Prod.mk.injEq] at h
        obtain ⟨rfl, rfl, rfl⟩ := h
        exact ⟨i, z, h1, hz, tyOf_ok h2, hc.1.1, hc.1.2, fun e => hc.2.resolve_left (by simp [e])⟩
      · cases h
    · cases h
  · cases h

/-- The zero value as a variable holds it: a slice is known to be nil. -/
def zeroA (l : List D) (ag : Bool) : AV := if ag then .p (.agg l) else match l with
  | [.list T sz []] => .nils T sz
  | [d] => .p d
  | _ => .und
def avOk (v : AV) (sz : Nat) : Bool := v.cells.length == sz && v.cells.all AV.one

def pairs {α β : Type} (f : α → Option β) : List (Nat × α) → Option (List (Nat × β))
  | [] => some []
  | (i, x) :: l => match f x, pairs f l with
    | some y, some m => some ((i, y) :: m)
    | _, _ => none

/-- A struct of numbers alone, which == compares number by number. -/
def intStruct (P : Program) (T : TypeId) : Bool := match P.underlying T with
  | some (.struct fs) => !P.stoodInHeld T && !P.eqGuardType P.depth T && fs.toList.zipIdx.all fun (f, i) => f.offset == i && f.name != "_" && (match P.underlying f.type with | some (.int _) => true | _ => false)
  | _ => false

def aop (P : Program) (o : Oper) : Option AOp :=
  match o.op with
  | .move x => some (.mov (opd P (some o.type) x))
  | .assign x => some (.mov (opd P (some o.type) x))
  | .nilCheck x => some (.nilCheck (opd P none x))
  | .pick c a b => some (.pick (opd P none c) (opd P (some o.type) a) (opd P (some o.type) b))
  | .alloc T => match zeroOf P T with
    | some (l, ag, sz) => if avOk (zeroA l ag) sz then some (.alloc T sz (zeroA l ag)) else none
    | none => none
  | .box T x => match tyOf P T with
    | some (_, sz) => some (.box T sz (opd P (some T) x))
    | none => none
  | .build T parts => match zeroOf P T, P.underlying T with
    | some (l, true, _), some (.struct fs) => match fs.toList.mapM (fun f => (P.info? f.type).map fun i => (f.offset, i.size)) with
      | some places => match parts.toList.mapM (fun p : Nat × Operand => match places[p.1]?, fs[p.1]? with
          | some (off, sz), some f => some (off, sz, opd P (some f.type) p.2)
          | _, _ => none) with
        | some ps => some (.build (l.map .p) ps)
        | none => none
      | none => none
    | _, _ => none
  | .buildSlice T n parts => match P.underlying T with
    | some (.slice e) => match zeroOf P e with
      | some (l, ag, sz) => if n * sz ≤ 16777216 ∧ n ≤ 9223372036854775807 then some (.buildSlice e sz (if ag then .agg l else l.headD default) n (parts.toList.map fun (i, x) => (i, opd P (some e) x))) else none
      | none => none
    | _ => none
  | .load T x => match tyOf P T with
    | some (ag, sz) => if ag || sz == 1 then some (.load ag sz (opd P none x)) else none
    | none => none
  | .store T x v => match tyOf P T with
    | some (_, sz) => some (.store sz (opd P none x) (opd P (some T) v))
    | none => none
  | .binOp op T x y _ => match P.underlying T with
    | some (.int _) => some (.bin false op (opd P none x) (opd P none y))
    | some .string => some (.bin false op (opd P none x) (opd P none y))
    | some .bool => some (.bin true op (opd P none x) (opd P none y))
    | some (.struct fs) => if intStruct P T then match op with
        | .eql => some (.eqs fs.size false (opd P none x) (opd P none y))
        | .neq => some (.eqs fs.size true (opd P none x) (opd P none y))
        | _ => none else none
    | _ => none
  | .unOp op _ x => some (.un op (opd P none x))
  | .convert S T x => match P.underlying S, P.underlying T with
    | some _, some (.int k) => some (.conv k (opd P none x))
    | _, _ => none
  | .makeSlice T l c => match P.underlying T with
    | some (.slice e) => match zeroOf P e, P.info? e with
      | some (z, ag, sz), some i => some (.makeSlice e sz i.bytes (if ag then .agg z else z.headD default) (opd P none l) (opd P none c))
      | _, _ => none
    | _ => none
  | .slice T x lo hi mx => match P.underlying T with
    | some .string => if mx.isSome then none else some (.sliceS (opd P none x) (lo.map (opd P none)) (hi.map (opd P none)))
    | some (.slice e) => match tyOf P e with
      | some (_, sz) => if mx.isSome && hi.isNone then none else some (.slice sz (opd P none x) (lo.map (opd P none)) (hi.map (opd P none)) (mx.map (opd P none)))
      | none => none
    | _ => none
  | .fieldAddr S x f => match P.underlying S with
    | some (.struct fs) => match fs[f]? with
      | some g => match tyOf P g.type with
        | some (ag, sz) => if sz == 0 then none else some (.fieldAddr g.offset sz ag (opd P none x))
        | none => none
      | none => none
    | _ => none
  | .field S x f => match P.underlying S with
    | some (.struct fs) => match fs[f]? with
      | some g => match tyOf P g.type with
        | some (ag, sz) => some (.field g.offset sz ag (opd P none x))
        | none => none
      | none => none
    | _ => none
  | .indexAddr T x i => match P.underlying T with
    | some (.slice e) => match tyOf P e with
      | some (_, sz) => some (.indexAddr sz (opd P none x) (opd P none i))
      | none => none
    | _ => none
  | .index T x i => match P.underlying T with
    | some .string => some (.index (opd P none x) (opd P none i))
    | _ => none
  | .extract x i => some (.extract (opd P none x) i)
  | .call c => match c.callee with
    | .value (.func f) => some (.call f (c.args.toList.zipIdx.map fun (x, i) => opd P c.argTypes[i]? x))
    | .builtin .len => match c.args.toList, c.argTypes.toList with
      | [x], [T] => match P.underlying T with
        | some .string => some (.lenS (opd P none x))
        | some (.slice _) => some (.len (opd P none x))
        | _ => none
      | _, _ => none
    | .builtin .append => match c.args.toList, c.argTypes.toList with
      | [x, y], [T, U] => match P.underlying T, P.underlying U with
        | some (.slice e), some (.slice e') => match zeroOf P e, P.info? e with
          | some (_, _, sz), some i => if e == e' && T == U then some (.append e sz i.bytes (opd P (some T) x) (opd P (some U) y)) else none
          | _, _ => none
        | _, _ => none
      | _, _ => none
    | _ => none
  | _ => none

end Go.Proofs.Ytbbidekjbgjooaa.M
end

section
namespace Go.Proofs.Ytbbidekjbgjooaa.M
open Go.RowKit

/-- Carried out in a and w, o gives what d says, and leaves what t says. -/
def Good (P : Program) (w0 : World) (base : Nat → Prop) (nt : Nat) (o : Oper) (a : Act) (w : World) (t : St) (d : AV) : Prop :=
  ∃ v w' loc', ((execOp a.eval o).run P w = .ok (.value v) w' ∨ ((execOp a.eval o).run P w = .ok .skip w' ∧ v = undef)) ∧ Rel w0 base nt loc' t a w' ∧ RV w' (NB base t.m loc' w') loc' v d

section
variable {P : Program} {w0 : World} {base : Nat → Prop} {nt : Nat} {loc : Locs} {s t : St} {a : Act} {w : World} {o : Oper} {id : Nat} {d : AV}

theorem Rel.opd (h : Rel w0 base nt loc s a w) (T : Option TypeId) (x : Operand) : RV w (NB base s.m loc w) loc (a.eval x) ((opd P T x).ev s.r) := opd_ok P T x h.tmps

theorem good_same (h : Rel w0 base nt loc s a w) {v : Value} (hr : (execOp a.eval o).run P w = .ok (.value v) w) (hv : RV w (NB base s.m loc w) loc v d) : Good P w0 base nt o a w s d :=
  ⟨v, w, loc, .inl hr, h, hv⟩

theorem run_v {s : Sem Value} {v : Value} {w' : World} (h : s.run P w = .ok v w') : (do pure (Next.value (← s)) : Sem Next).run P w = .ok (.value v) w' := by
  simp [h]

theorem sim_mov {x : Operand} (h : Rel w0 base nt loc s a w) (ho : o.op = .move x ∨ o.op = .assign x) {T : Option TypeId} (he : ev (.mov (opd P T x)) id s = some (true, d, t)) : Good P w0 base nt o a w t d := by
  simp only [ev, Option.some.injEq, Prod.mk.injEq, true_and] at he
  obtain ⟨rfl, rfl⟩ := he
  refine good_same h (v := a.eval x) ?_ (h.opd T x)
  rcases ho with ho | ho <;> simp [execOp, ho]

theorem sim_nilCheck {x : Operand} (h : Rel w0 base nt loc s a w) (ho : o.op = .nilCheck x) {T : Option TypeId} (he : ev (.nilCheck (opd P T x)) id s = some (true, d, t)) : Good P w0 base nt o a w t d := by
  have hx := h.opd (P := P) T x
  simp only [ev] at he
  split at he
  · rename_i i j k hk
    simp only [Option.some.injEq, Prod.mk.injEq, true_and] at he
    obtain ⟨rfl, rfl⟩ := he
    rw [hk] at hx
    refine good_same h (v := a.eval x) ?_ hx
    generalize hv : a.eval x = v at hx
    cases hx
    simp [execOp, ho, hv]
  · rename_i e hk
    simp only [Option.some.injEq, Prod.mk.injEq, true_and] at he
    obtain ⟨rfl, rfl⟩ := he
    rw [hk] at hx
    refine good_same h (v := a.eval x) ?_ hx
    have hx := hx.inv
    generalize hv : a.eval x = v at hx
    cases hx
    simp [execOp, ho, hv]
  · cases he

theorem sim_pick {c x y : Operand} (h : Rel w0 base nt loc s a w) (ho : o.op = .pick c x y) {T U W : Option TypeId} (he : ev (.pick (opd P T c) (opd P U x) (opd P W y)) id s = some (true, d, t)) : Good P w0 base nt o a w t d := by
  have hc := h.opd (P := P) T c
  simp only [ev] at he
  split at he
  · rename_i hk
    simp only [Option.some.injEq, Prod.mk.injEq, true_and] at he
    obtain ⟨rfl, rfl⟩ := he
    rw [hk] at hc
    have hc := hc.inv
    refine good_same h (v := a.eval x) ?_ (h.opd U x)
    generalize hcv : a.eval c = v at hc
    cases hc
    simp [execOp, ho, hcv, asBool]
  · rename_i hk
    simp only [Option.some.injEq, Prod.mk.injEq, true_and] at he
    obtain ⟨rfl, rfl⟩ := he
    rw [hk] at hc
    have hc := hc.inv
    refine good_same h (v := a.eval y) ?_ (h.opd W y)
    generalize hcv : a.eval c = v at hc
    cases hc
    simp [execOp, ho, hcv, asBool]
  · cases he

theorem sim_load {T : TypeId} {x : Operand} {ag : Bool} {sz : Nat} (h : Rel w0 base nt loc s a w) (ho : o.op = .load T x) (hT : TyOk P T ag sz) (hs : ag = false → sz = 1) {U : Option TypeId}
    (he : ev (.load ag sz (opd P U x)) id s = some (true, d, t)) : Good P w0 base nt o a w t d := by
  have hx := h.opd (P := P) U x
  simp only [ev] at he
  split at he
  · rename_i i j off hk
    rw [hk] at hx
    generalize hxv : a.eval x = v at hx
    cases hx with
    | ptr L _ _ _ hL hn =>
    have goal : ∀ osz (u z : AV) (T' : TypeId) (k : Cont) (frz : Bool), s.m i = some ⟨T', osz, k, frz⟩ → u.get off sz osz ag = some z →
        (∀ c fr, w.heap[L.b]? = some (.cells c T' fr) → ContOk w (NB base s.m loc w) loc c L.o osz k → L.o + j * osz + osz ≤ c.size ∧ u.cells.length = osz ∧ (∀ e ∈ u.cells, e.one = true) ∧ (∀ p e, u.cells[p]? = some e → RV w (NB base s.m loc w) loc (c.getD (L.o + j * osz + p) undef) e)) →
        Good P w0 base nt o a w s z := by
      intro osz u z T' k frz hm hg hcc
      obtain ⟨L', hL', hok⟩ := h.objs i _ hm
      rw [hL] at hL'
      cases hL'
      obtain ⟨c, fr, h1, h2, h3, -⟩ := hok.at_ hn
      obtain ⟨g1, g2, g3, g4⟩ := hcc c fr h1 h3
      obtain ⟨v, hv1, hv2⟩ := rv_get (P := P) (T' := T) h1 g1 g2 g3 g4 hg hT hs
      refine good_same h (v := v) ?_ hv2
      have hsz : L.sz = osz := hok.sz
      rw [show L.o + (j * L.sz + off) = L.o + j * osz + off by rw [hsz]; omega] at hxv
      simp [execOp, ho, hxv, hv1]
    split at he
    · rename_i T' osz l frz hm
      split at he
      · rename_i z hz
        simp only [Option.some.injEq, Prod.mk.injEq, decide_eq_true_eq] at he
        obtain ⟨hj, rfl, rfl⟩ := he
        refine goal osz _ z T' _ frz hm hz ?_
        intro c fr _ hcont
        obtain ⟨k1, k2, k3⟩ := hcont
        have he' : l[j]? = some (l.getD j default) := by simp [hj]
        have hmul : j * osz + osz ≤ l.length * osz := by
          have := Nat.mul_le_mul_right osz (show j + 1 ≤ l.length by omega)
          rw [Nat.add_mul] at this; omega
        refine ⟨by omega, by simpa [AV.cells] using k2 _ (List.mem_of_getElem? he'), fun e hem => ?_, fun p e hp => ?_⟩
        · simp only [AV.cells, List.mem_map] at hem
          obtain ⟨q, hq, rfl⟩ := hem
          obtain ⟨n, hn'⟩ := List.getElem?_of_mem hq
          exact (k3 j _ n q he' hn').1
        · simp only [AV.cells, List.getElem?_map, Option.map_eq_some_iff] at hp
          obtain ⟨q, hq, rfl⟩ := hp
          have := (k3 j _ p q he' hq).2
          rw [← Nat.add_assoc] at this
          exact .p _ _ this
      · cases he
    · rename_i T' osz u frz hm
      split at he
      · rename_i hj
        subst hj
        split at he
        · rename_i z hz
          simp only [Option.some.injEq, Prod.mk.injEq, true_and] at he
          obtain ⟨rfl, rfl⟩ := he
          refine goal osz u z T' _ frz hm hz ?_
          intro c fr _ hcont
          obtain ⟨k1, k2, k3, k4⟩ := hcont
          simp only [Nat.zero_mul, Nat.add_zero]
          exact ⟨k1, k2, k3, k4⟩
        · cases he
      · cases he
    · cases he
  · rename_i e hk
    rw [hk] at hx
    have hx := hx.inv
    split at he
    · rename_i hag
      simp only [Option.some.injEq, Prod.mk.injEq, decide_eq_true_eq] at he
      obtain ⟨⟨hlen, hpos⟩, rfl, rfl⟩ := he
      generalize hxv : a.eval x = v at hx
      cases hx with
      | ref b p T' _ c fr g1 g2 g0 g3 g4 =>
      have hl : ∀ i, i < e.cells.length → p + i < c.size := fun i hi => g3 i e.cells[i] (by simp [hi])
      cases ag with
      | true =>
        cases e with
        | agg l =>
          have hlen' : l.length = sz := by simpa [D.cells] using hlen
          have hfit : p + sz ≤ c.size := by
            have := hl (sz - 1) (by rw [hlen]; omega)
            omega
          refine good_same h (v := .agg (rd c p sz)) ?_ (.p _ _ (.agg _ _ (by simp [hlen']) (fun q hq => g0 q hq) (fun i q hi => ?_)))
          · have := run_loadAgg (P := P) hT g1 hfit
            simp [execOp, ho, hxv, Instr.loadAt, Instr.sureAddr, this]
          · have hlt : i < sz := by have := (List.getElem?_eq_some_iff.1 hi).1; omega
            rw [rd_get _ _ _ _ hlt]
            exact g4 i q hi
        | _ => simp [D.isAgg] at hag
      | false =>
        have := hs rfl
        subst this
        have h0 : e.cells[0]? = some e := by cases e <;> simp [D.isAgg] at hag <;> rfl
        refine good_same h (v := c.getD p undef) ?_ (.p _ _ ?_)
        · have := run_loadOne (P := P) hT g1 (by have := hl 0 (by omega); rwa [Nat.add_zero] at this)
          simp [execOp, ho, hxv, Instr.loadAt, Instr.sureAddr, this]
        · have := g4 0 e h0
          rwa [Nat.add_zero] at this
    · cases he
  · cases he

end

end Go.Proofs.Ytbbidekjbgjooaa.M
end

section
namespace Go.Proofs.Ytbbidekjbgjooaa.M
open Go.RowKit

section
variable {P : Program} {w0 : World} {base : Nat → Prop} {nt : Nat} {loc : Locs} {s t : St} {a : Act} {w : World} {o : Oper} {id : Nat} {d : AV}

theorem partD_V {N : Nat → Prop} {cs : Array Value} {l : List D} {off sz : Nat} {ag : Bool} {e : D} (h1 : cs.size = l.length) (h2 : ∀ q ∈ l, q.one = true) (h3 : ∀ i q, l[i]? = some q → V w N (cs.getD i undef) q)
    {T : TypeId} (hT : TyOk P T ag sz) (hp : partD l off sz ag = some e) : ∃ v, (part T cs off).run P w = .ok v w ∧ V w N v e := by
  unfold partD at hp
  unfold part
  simp only [Sem.run_bind, run_isAgg hT, Result.andThen]
  cases ag with
  | true =>
    simp only [if_true] at hp ⊢
    split at hp
    · rename_i hle
      simp only [Option.some.injEq] at hp
      subst hp
      simp only [Sem.run_bind, run_sizeOf hT, Result.andThen]
      refine ⟨_, rfl, .agg _ _ (by simp; omega) (fun q hq => h2 q (List.mem_of_mem_drop (List.mem_of_mem_take hq))) (fun i q hi => ?_)⟩
      have hlt : i < sz := by have := (List.getElem?_eq_some_iff.1 hi).1; simp at this; omega
      rw [List.getElem?_take_of_lt hlt, List.getElem?_drop] at hi
      have := h3 _ q hi
      simp only [Array.getD_eq_getD_getElem?] at this ⊢
      rw [Array.getElem?_extract, if_pos (by omega)]
      exact this
    · cases hp
  | false =>
    simp only [Bool.false_eq_true, if_false] at hp ⊢
    have hlt := (List.getElem?_eq_some_iff.1 hp).1
    have hc : cs[off]? = some (cs.getD off undef) := by simp [h1, hlt]
    rw [hc]
    exact ⟨_, rfl, h3 off e hp⟩

theorem partA_RV {N : Nat → Prop} {cs : Array Value} {l : List AV} {off sz : Nat} {ag : Bool} {e : AV} (h1 : cs.size = l.length) (h2 : ∀ q ∈ l, q.one = true) (h3 : ∀ i q, l[i]? = some q → RV w N loc (cs.getD i undef) q)
    {T : TypeId} (hT : TyOk P T ag sz) (hp : partA l off sz ag = some e) : ∃ v, (part T cs off).run P w = .ok v w ∧ RV w N loc v e := by
  unfold partA at hp
  unfold part
  simp only [Sem.run_bind, run_isAgg hT, Result.andThen]
  cases ag with
  | true =>
    simp only [if_true] at hp ⊢
    split at hp
    · rename_i hle
      simp only [Option.some.injEq] at hp
      subst hp
      simp only [Sem.run_bind, run_sizeOf hT, Result.andThen]
      refine ⟨_, rfl, .agg _ _ (by simp; omega) (fun q hq => h2 q (List.mem_of_mem_drop (List.mem_of_mem_take hq))) (fun i q hi => ?_)⟩
      have hlt : i < sz := by have := (List.getElem?_eq_some_iff.1 hi).1; simp at this; omega
      rw [List.getElem?_take_of_lt hlt, List.getElem?_drop] at hi
      have := h3 _ q hi
      simp only [Array.getD_eq_getD_getElem?] at this ⊢
      rw [Array.getElem?_extract, if_pos (by omega)]
      exact this
    · cases hp
  | false =>
    simp only [Bool.false_eq_true, if_false] at hp ⊢
    have hlt := (List.getElem?_eq_some_iff.1 hp).1
    have hc : cs[off]? = some (cs.getD off undef) := by simp [h1, hlt]
    rw [hc]
    exact ⟨_, rfl, h3 off e hp⟩

theorem sim_field {S : TypeId} {x : Operand} {f : Nat} {fs : Array Field} {g : Field} {ag : Bool} {sz : Nat} (h : Rel w0 base nt loc s a w) (ho : o.op = .field S x f) (hS : P.underlying S = some (.struct fs)) (hf : fs[f]? = some g) (hT : TyOk P g.type ag sz) {U : Option TypeId}
    (he : ev (.field g.offset sz ag (opd P U x)) id s = some (true, d, t)) : Good P w0 base nt o a w t d := by
  have hx := h.opd (P := P) U x
  simp only [ev] at he
  split at he
  case isFalse => cases he
  rename_i hagg
  split at he
  · rename_i z hz
    simp only [Option.some.injEq, Prod.mk.injEq, true_and] at he
    obtain ⟨rfl, rfl⟩ := he
    generalize hxv : a.eval x = v at hx
    have key : ∀ cs, v = .agg cs → (∃ u, (part g.type cs g.offset).run P w = .ok u w ∧ RV w (NB base s.m loc w) loc u z) → Good P w0 base nt o a w s z := by
      rintro cs rfl ⟨u, hu1, hu2⟩
      refine good_same h (v := u) ?_ hu2
      simp [execOp, ho, hxv, Instr.field, run_underlying hS, hf, asAgg, hu1]
    generalize (opd P U x).ev s.r = X at hx hz hagg
    cases hx with
    | p _ e hV =>
      simp only [AV.part, Option.map_eq_some_iff] at hz
      obtain ⟨q, hq, rfl⟩ := hz
      cases hV with
      | agg cs l h1 h2 h3 =>
        refine key cs rfl ?_
        obtain ⟨u, hu1, hu2⟩ := partD_V (P := P) h1 h2 h3 hT hq
        exact ⟨u, hu1, .p _ _ hu2⟩
      | _ => simp [AV.isAgg, D.isAgg] at hagg
    | agg cs l h1 h2 h3 => exact key cs rfl (partA_RV h1 h2 h3 hT hz)
    | _ => simp [AV.isAgg] at hagg
  · cases he

theorem sim_fieldAddr {S : TypeId} {x : Operand} {f : Nat} {fs : Array Field} {g : Field} {ag : Bool} {sz : Nat} (h : Rel w0 base nt loc s a w) (ho : o.op = .fieldAddr S x f) (hS : P.underlying S = some (.struct fs)) (hf : fs[f]? = some g) (hT : TyOk P g.type ag sz) (hz : sz ≠ 0) {U : Option TypeId}
    (he : ev (.fieldAddr g.offset sz ag (opd P U x)) id s = some (true, d, t)) : Good P w0 base nt o a w t d := by
  have hx := h.opd (P := P) U x
  have run : ∀ b p, a.eval x = .pointer (some ⟨b, p, none⟩) → (execOp a.eval o).run P w = .ok (.value (.pointer (some ⟨b, p + g.offset, none⟩))) w := by
    intro b p hv
    simp [execOp, ho, hv, Instr.fieldAt, run_underlying hS, hf, Instr.sureAddr, fieldPlace, run_sizeOf hT, hz, add_mid]
  simp only [ev] at he
  split at he
  · rename_i i j p hk
    simp only [Option.some.injEq, Prod.mk.injEq, true_and] at he
    obtain ⟨rfl, rfl⟩ := he
    rw [hk] at hx
    generalize hxv : a.eval x = v at hx
    cases hx with
    | ptr L _ _ _ hL hn =>
    refine good_same h (run _ _ hxv) ?_
    rw [show L.o + (j * L.sz + p) + g.offset = L.o + (j * L.sz + (p + g.offset)) by omega]
    exact .ptr L _ _ _ hL hn
  · rename_i e hk
    split at he
    · rename_i q hq
      simp only [Option.some.injEq, Prod.mk.injEq, true_and] at he
      obtain ⟨rfl, rfl⟩ := he
      rw [hk] at hx
      have hx := hx.inv
      generalize hxv : a.eval x = v at hx
      cases hx with
      | ref b p T' _ c fr g1 g2 g0 g3 g4 =>
      refine good_same h (run _ _ hxv) (.p _ _ ?_)
      unfold D.part partD at hq
      cases ag with
      | true =>
        simp only [if_true] at hq
        split at hq
        · rename_i hle
          simp only [Option.some.injEq] at hq
          subst hq
          have idx : ∀ j e', ((e.cells.drop g.offset).take sz)[j]? = some e' → e.cells[g.offset + j]? = some e' := by
            intro j e' hj
            have hlt : j < sz := by have := (List.getElem?_eq_some_iff.1 hj).1; simp at this; omega
            rw [List.getElem?_take_of_lt hlt, List.getElem?_drop] at hj
            exact hj
          refine .ref b _ T' _ c fr g1 g2 (fun q' hq' => g0 q' (List.mem_of_mem_drop (List.mem_of_mem_take hq'))) (fun j e' hj => ?_) (fun j e' hj => ?_)
          · have := g3 _ e' (idx j e' hj); omega
          · have := g4 _ e' (idx j e' hj)
            rwa [← Nat.add_assoc] at this
        · cases hq
      | false =>
        simp only [Bool.false_eq_true, if_false] at hq
        have h1 := g0 q (List.mem_of_getElem? hq)
        have hc : q.cells = [q] := by cases q <;> first | rfl | simp [D.one] at h1
        refine .ref b _ T' _ c fr g1 g2 (fun q' hq' => by rw [hc] at hq'; simp at hq'; subst hq'; exact h1) (fun j e' hj => ?_) (fun j e' hj => ?_)
        · rw [hc] at hj
          match j, hj with
          | 0, hj => simp at hj; subst hj; have := g3 _ q hq; omega
          | j + 1, hj => simp at hj
        · rw [hc] at hj
          match j, hj with
          | 0, hj => simp at hj; subst hj; exact g4 _ q hq
          | j + 1, hj => simp at hj
    · cases he
  · cases he

theorem asI_eval {x : Operand} {U : Option TypeId} {n : Int} (h : Rel w0 base nt loc s a w) (hi : asI ((opd P U x).ev s.r) = some n) : ∃ k, a.eval x = .int k n := by
  have hx := h.opd (P := P) U x
  generalize (opd P U x).ev s.r = X at hx hi
  generalize a.eval x = v at hx ⊢
  cases hx with
  | p v e hV => cases hV <;> simp [asI] at hi; subst hi; exact ⟨_, rfl⟩
  | _ => simp [asI] at hi

theorem sim_indexAddr {T E : TypeId} {x i : Operand} {ag : Bool} {sz : Nat} (h : Rel w0 base nt loc s a w) (ho : o.op = .indexAddr T x i) (hS : P.underlying T = some (.slice E)) (hT : TyOk P E ag sz) {U W : Option TypeId}
    (he : ev (.indexAddr sz (opd P U x) (opd P W i)) id s = some (true, d, t)) : Good P w0 base nt o a w t d := by
  have hx := h.opd (P := P) U x
  simp only [ev] at he
  have run : ∀ b p n (m : Nat) len cap, a.eval x = .slice (some ⟨b, p, none⟩) len cap → (∃ k, a.eval i = .int k n) → n = (m : Int) → m < len → (execOp a.eval o).run P w = .ok (.value (.pointer (some ⟨b, p + m * sz, none⟩))) w := by
    rintro b p n m len cap hv ⟨k, hi⟩ rfl hlt
    simp [execOp, ho, hv, hi, Instr.indexAt, asIntOf, run_underlying hS, hlt, run_sizeOf hT, add_mid]
  split at he
  · rename_i T' sz' l n hk hn
    split at he
    · rename_i hsz
      subst hsz
      simp only [Option.some.injEq, Prod.mk.injEq, decide_eq_true_eq] at he
      obtain ⟨⟨hn0, hn1⟩, rfl, rfl⟩ := he
      rw [hk] at hx
      have hx := hx.inv
      have hi := asI_eval h hn
      generalize hxv : a.eval x = v at hx
      obtain ⟨m, rfl⟩ := Int.eq_ofNat_of_zero_le hn0
      cases hx with
      | empty => simp at hn1; omega
      | list b p cap _ _ _ c fr g1 g2 g3 g4 g5 g6 g7 =>
      have hml : m < l.length := by omega
      refine good_same h (run b p _ m _ _ hxv hi rfl hml) (.p _ _ ?_)
      have hlm : l[m]? = some (l.getD m default) := by simp [hml]
      rw [Int.toNat_natCast]
      refine .ref b _ T' _ c fr g1 g2 (g5 _ (List.mem_of_getElem? hlm)).2 (fun j e' hj => ?_) (fun j e' hj => ?_)
      · have := g6 m _ j e' hlm hj; omega
      · have := g7 m _ j e' hlm hj
        rwa [← Nat.add_assoc] at this
    · cases he
  · rename_i j off len n hk hn
    split at he
    · rename_i ob hob
      split at he
      · rename_i hsz
        subst hsz
        simp only [Option.some.injEq, Prod.mk.injEq, decide_eq_true_eq] at he
        obtain ⟨⟨hn0, hn1⟩, rfl, rfl⟩ := he
        rw [hk] at hx
        have hi := asI_eval h hn
        generalize hxv : a.eval x = v at hx
        obtain ⟨m, rfl⟩ := Int.eq_ofNat_of_zero_le hn0
        cases hx with
        | sliceEmp => simp at hn1; omega
        | slice L _ _ _ cap hL hnil h3 h4 h5 =>
        obtain ⟨L', hL', hok⟩ := h.objs j ob hob
        rw [hL] at hL'
        cases hL'
        refine good_same h (run _ _ _ m _ _ hxv hi rfl (by omega)) ?_
        rw [Int.toNat_natCast, show L.o + off * L.sz + m * ob.sz = L.o + ((off + m) * L.sz + 0) by rw [← hok.sz, Nat.add_mul]; omega]
        exact .ptr L _ _ _ hL hnil
      · cases he
    · cases he
  · cases he

theorem sim_index {T : TypeId} {x i : Operand} (h : Rel w0 base nt loc s a w) (ho : o.op = .index T x i) (hS : P.underlying T = some .string) {U W : Option TypeId}
    (he : ev (.index (opd P U x) (opd P W i)) id s = some (true, d, t)) : Good P w0 base nt o a w t d := by
  have hx := h.opd (P := P) U x
  simp only [ev] at he
  split at he
  · rename_i l n hk hn
    simp only [Option.some.injEq, Prod.mk.injEq, decide_eq_true_eq] at he
    obtain ⟨⟨hn0, hn1⟩, rfl, rfl⟩ := he
    rw [hk] at hx
    have hx := hx.inv
    obtain ⟨k, hi⟩ := asI_eval h hn
    obtain ⟨m, rfl⟩ := Int.eq_ofNat_of_zero_le hn0
    generalize hxv : a.eval x = v at hx
    cases hx with
    | str q =>
    have hlt : m < q.size := by have : q.data.size = q.size := rfl; simp at hn1; omega
    refine good_same h (v := .int .u8 (q[m].toNat : Int)) ?_ ?_
    · have : q[m]? = some q[m] := by simp [hlt]
      simp [execOp, ho, hxv, hi, Instr.index, asIntOf, run_underlying hS, this]
    · rw [Int.toNat_natCast]
      have hg : q.data.toList.getD m 0 = q[m] := by
        have : q.data.size = q.size := rfl
        simp [this, hlt]
        rfl
      rw [hg]
      exact .p _ _ (.int _ _)
  · cases he

theorem sim_extract {x : Operand} {i : Nat} (h : Rel w0 base nt loc s a w) (ho : o.op = .extract x i) {U : Option TypeId}
    (he : ev (.extract (opd P U x) i) id s = some (true, d, t)) : Good P w0 base nt o a w t d := by
  have hx := h.opd (P := P) U x
  simp only [ev] at he
  split at he
  · rename_i l hk
    simp only [Option.map_eq_some_iff, Prod.mk.injEq, true_and] at he
    obtain ⟨e, hl, rfl, rfl⟩ := he
    rw [hk] at hx
    have hx := hx.inv
    generalize hxv : a.eval x = v at hx
    cases hx with
    | tup cs _ h1 h2 =>
    refine good_same h (v := cs.getD i undef) ?_ (.p _ _ (h2 i e hl))
    have hlt := (List.getElem?_eq_some_iff.1 hl).1
    have : cs[i]? = some (cs.getD i undef) := by simp [h1, hlt]
    simp only [execOp, ho, hxv, Instr.extract, this]
    simp
  · rename_i l hk
    simp only [Option.map_eq_some_iff, Prod.mk.injEq, true_and] at he
    obtain ⟨e, hl, rfl, rfl⟩ := he
    rw [hk] at hx
    generalize hxv : a.eval x = v at hx
    cases hx with
    | tup cs _ h1 h2 =>
    refine good_same h (v := cs.getD i undef) ?_ (h2 i e hl)
    have hlt := (List.getElem?_eq_some_iff.1 hl).1
    have : cs[i]? = some (cs.getD i undef) := by simp [h1, hlt]
    simp only [execOp, ho, hxv, Instr.extract, this]
    simp
  · cases he

end

end Go.Proofs.Ytbbidekjbgjooaa.M
end
