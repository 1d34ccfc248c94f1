/- A small machine on plain data: what values of the program read as (D), what the walk knows of a call's own memory (AV, St), and how both stand to the model's memory (V, RV, Rel). -/
import Derived.Test.YtlnhembcfhfpkaaRows
import Derived.WalkKit
import Derived.WalkSpells
import Derived.OrdersHeld
import Derived.Laws.IdiomCopy
namespace Go.Proofs.Ytlnhembcfhfpkaa.M
open Go.RowKit

abbrev Ext (w w' : World) : Prop := Below w.heap.size w w'
theorem Ext.rf (w : World) : Ext w w := Below.refl _ _
theorem Ext.tr {a b c : World} (h : Ext a b) (k : Ext b c) : Ext a c := Below.trans h (k.mono h.size)

/-- Plain data. -/
inductive D where
  | bool (b : Bool)
  | int (k : IntKind) (n : Int)
  | str (s : List UInt8)
  | agg (l : List D)
  | tup (l : List D)
  | list (T : TypeId) (sz : Nat) (l : List D)
  | nilp
  | ref (d : D)
  | fn (f : Fn) (first captured : List D)

instance : Inhabited D := ⟨.int .i64 0⟩

def D.cells : D → List D
  | .agg l => l
  | d => [d]
def D.one : D → Bool
  | .agg _ => false
  | .tup _ => false
  | _ => true
def D.isAgg : D → Bool
  | .agg _ => true
  | _ => false
def D.size (d : D) : Nat := d.cells.length

/-- A block's cells; its type is T, or T is from 1000000 on: a name for what lies in a block of whatever type. -/
def Hp (w : World) (b : Nat) (c : Array Value) (T : TypeId) (fr : Nat × Nat) : Prop := ∃ T', w.heap[b]? = some (.cells c T' fr) ∧ (T' = T ∨ 1000000 ≤ T)
theorem Hp.of {w : World} {b : Nat} {c : Array Value} {T : TypeId} {fr : Nat × Nat} (h : w.heap[b]? = some (.cells c T fr)) : Hp w b c T fr := ⟨T, h, .inl rfl⟩
theorem Hp.mono {w w' : World} {b : Nat} {c : Array Value} {T : TypeId} {fr : Nat × Nat} (h : Hp w b c T fr) (hs : w'.heap[b]? = w.heap[b]?) : Hp w' b c T fr := h.elim fun T' h => ⟨T', hs.trans h.1, h.2⟩

/-- In world w, touching the blocks of N alone, a value reads as d. -/
inductive V (w : World) (N : Nat → Prop) : Value → D → Prop where
  | bool (b : Bool) : V w N (.bool b) (.bool b)
  | int (k : IntKind) (n : Int) : V w N (.int k n) (.int k n)
  | str (s : ByteArray) : V w N (.string s) (.str s.data.toList)
  | agg (cs : Array Value) (l : List D) : cs.size = l.length → (∀ d ∈ l, d.one = true) → (∀ i d, l[i]? = some d → V w N (cs.getD i undef) d) → V w N (.agg cs) (.agg l)
  | tup (cs : Array Value) (l : List D) : cs.size = l.length → (∀ i d, l[i]? = some d → V w N (cs.getD i undef) d) → V w N (.tuple cs) (.tup l)
  | empty (a : Option Addr) (cap : Nat) (T : TypeId) (sz : Nat) : cap ≤ 9223372036854775807 → V w N (.slice a 0 cap) (.list T sz [])
  | list (b o cap : Nat) (T : TypeId) (sz : Nat) (l : List D) (c : Array Value) (fr : Nat × Nat) : Hp w b c T fr → N b → l.length ≤ cap → cap ≤ 9223372036854775807 →
      (∀ e ∈ l, e.cells.length = sz ∧ ∀ q ∈ e.cells, q.one = true) → (∀ i e j d, l[i]? = some e → e.cells[j]? = some d → o + (i * sz + j) < c.size) →
      (∀ i e j d, l[i]? = some e → e.cells[j]? = some d → V w N (c.getD (o + (i * sz + j)) undef) d) → V w N (.slice (some ⟨b, o, none⟩) l.length cap) (.list T sz l)
  | nilp : V w N (.pointer none) .nilp
  | ref (b o : Nat) (T : TypeId) (e : D) (c : Array Value) (fr : Nat × Nat) : w.heap[b]? = some (.cells c T fr) → N b → (∀ q ∈ e.cells, q.one = true) → (∀ j d, e.cells[j]? = some d → o + j < c.size) → (∀ j d, e.cells[j]? = some d → V w N (c.getD (o + j) undef) d) →
      V w N (.pointer (some ⟨b, o, none⟩)) (.ref e)
  | fn (f : Fn) (x y : Array Value) (l m : List D) : x.size = l.length → y.size = m.length → (∀ i d, l[i]? = some d → V w N (x.getD i undef) d) → (∀ i d, m[i]? = some d → V w N (y.getD i undef) d) → V w N (.func f x y) (.fn f l m)

theorem V.mono {w w' : World} {N N' : Nat → Prop} {v : Value} {d : D} (h : V w N v d) (hs : ∀ b, N b → w'.heap[b]? = w.heap[b]?) (hn : ∀ b, N b → N' b) : V w' N' v d := by
  induction h with
  | bool b => exact .bool b
  | int k n => exact .int k n
  | str s => exact .str s
  | agg cs l h1 h2 _ ih => exact .agg cs l h1 h2 ih
  | tup cs l h1 _ ih => exact .tup cs l h1 ih
  | empty a cap T sz h => exact .empty a cap T sz h
  | list b o cap T sz l c fr h1 h2 h3 h4 h5 h6 _ ih => exact .list b o cap T sz l c fr (h1.mono (hs b h2)) (hn b h2) h3 h4 h5 h6 ih
  | nilp => exact .nilp
  | ref b o T e c fr h1 h2 h3 h4 _ ih => exact .ref b o T e c fr ((hs b h2).trans h1) (hn b h2) h3 h4 ih
  | fn f x y l m h1 h2 _ _ ih1 ih2 => exact .fn f x y l m h1 h2 ih1 ih2

theorem V.one {w : World} {N : Nat → Prop} {v : Value} {d : D} (h : V w N v d) (ho : d.one = true) : v.oneCell' = true := by
  cases h <;> first | rfl | simp [D.one] at ho

/-- The cells of a value, one by one. -/
theorem V.cells {w : World} {N : Nat → Prop} {v : Value} {d : D} (h : V w N v d) (ht : ∀ l, d ≠ .tup l) : v.cells.size = d.cells.length ∧ ∀ i e, d.cells[i]? = some e → e.one = true ∧ V w N (v.cells.getD i undef) e := by
  cases h with
  | agg cs l h1 h2 h3 => exact ⟨h1, fun i e he => ⟨h2 e (List.mem_of_getElem? he), h3 i e he⟩⟩
  | tup cs l => exact absurd rfl (ht l)
  | _ =>
    refine ⟨rfl, fun i e he => ?_⟩
    match i, he with
    | 0, he =>
      simp only [D.cells, List.getElem?_cons_zero, Option.some.injEq] at he
      subst he
      refine ⟨rfl, ?_⟩
      simp only [Value.cells, Array.getD_eq_getD_getElem?, List.getElem?_toArray, List.getElem?_cons_zero, Option.getD_some]
      first
        | exact .bool _
        | exact .int _ _
        | exact .str _
        | exact .empty _ _ _ _ ‹_›
        | exact .list _ _ _ _ _ _ _ _ ‹_› ‹_› ‹_› ‹_› ‹_› ‹_› ‹_›
        | exact .nilp
        | exact .ref _ _ _ _ _ _ ‹_› ‹_› ‹_› ‹_› ‹_›
        | exact .fn _ _ _ _ _ ‹_› ‹_› ‹_› ‹_›
    | i + 1, he => simp [D.cells] at he

end Go.Proofs.Ytlnhembcfhfpkaa.M
