/- Strings as lists of bytes. -/
import Derived.Test.YtbbidekjbgjooaaOwn
namespace Go.Proofs.Ytbbidekjbgjooaa
open Go.RowKit

/-- The string of a list of bytes. -/
def bs (l : List UInt8) : ByteArray := ⟨l.toArray⟩
/-- Byte i, a number. -/
def byt (l : List UInt8) (i : Nat) : Nat := (l.getD i 0).toNat

theorem bs_inj {l m : List UInt8} (h : bs l = bs m) : l = m := by
  unfold bs at h
  injection h with h
  simpa using congrArg Array.toList h

theorem bs_eta (s : ByteArray) : bs s.data.toList = s := rfl
theorem exists_bs (s : ByteArray) : ∃ l, s = bs l := ⟨s.data.toList, rfl⟩

@[simp, go_sem] theorem bs_size (l : List UInt8) : (bs l).size = l.length := by simp [bs, ByteArray.size]
@[simp, go_sem] theorem bs_data (l : List UInt8) : (bs l).data = l.toArray := rfl
@[simp, go_sem] theorem bs_toList (l : List UInt8) : (bs l).toList = l := by
  rw [ByteArray.toList_eq]; simp [bs]
@[simp, go_sem] theorem bs_get (l : List UInt8) (i : Nat) (h : i < (bs l).size) : ((bs l)[i]'h).toNat = byt l i := by
  have h' : i < l.length := by simpa using h
  simp [byt, h', bs, ByteArray.getElem_eq_getElem_data]
@[simp, go_sem] theorem bs_extract (l : List UInt8) (a b : Nat) : (bs l).extract a b = bs ((l.drop a).take (b - a)) := ByteArray.extract_mk l a b
@[simp, go_sem] theorem bs_append (l m : List UInt8) : bs l ++ bs m = bs (l ++ m) := ByteArray.mk_append_mk l m
@[simp, go_sem] theorem take_tail_all (l : List UInt8) : List.take (l.length - 1) l.tail = l.tail := List.take_of_length_le (by simp)
@[simp, go_sem] theorem take_drop_all (l : List UInt8) (a : Nat) : List.take (l.length - a) (List.drop a l) = List.drop a l := List.take_of_length_le (by simp)
theorem byt_le (l : List UInt8) (i : Nat) : byt l i ≤ 255 := by
  unfold byt
  have := UInt8.toNat_lt (l.getD i 0)
  omega

/-- The bytes as numbers. -/
def nums (m : List UInt8) : List Int := m.map fun c => (c.toNat : Int)
@[simp] theorem nums_length (m : List UInt8) : (nums m).length = m.length := by simp [nums]
theorem at_nums (m : List UInt8) (i : Nat) : at_ (nums m) i = byt m i := by
  by_cases h : i < m.length
  · simp [at_, nums, byt, h]
  · simp [at_, nums, byt, h]
theorem nums_fit (m : List UInt8) : ∀ x ∈ nums m, Fit .u8 x := by
  intro x hx
  simp only [nums, List.mem_map] at hx
  obtain ⟨c, _, rfl⟩ := hx
  have := UInt8.toNat_lt c
  show 0 ≤ _ ∧ _ ≤ _
  omega

/-- '[]byte(s)'. -/
theorem wpL_bytes {P : Program} (w : World) {ops : Array Oper} {rest : List Oper} {o : Oper} {a : Act} {Q : Exit → Act → World → Prop} (hgd : o.guard = none) (src dst : TypeId) (x : Operand) (hop : o.op = Op.convert src dst x)
    (hs : P.underlying src = some .string) (hd : P.underlying dst = some (.slice (ET .u8))) (he : P.underlying (ET .u8) = some (.int .u8)) (m : List UInt8) (hx : a.eval x = .string (bs m)) (hm : m.length ≤ 9223372036854775807)
    (h : ∀ (cap : Nat) (w' : World), IsL w' ⟨some ⟨w.heap.size, 0, none⟩, m.length, cap⟩ .u8 (nums m) → Ext w w' → (∀ j, j < m.length → w'.cell? ⟨w.heap.size, j, none⟩ = some (.int .u8 (byt m j))) → wpList P ops Q rest (a.put o.dst (.slice (some ⟨w.heap.size, 0, none⟩) m.length cap)) w') :
    wpList P ops Q (o :: rest) a w := by
  refine wpList_plain hgd fun K hK' => ?_
  have hrun := run_bytes_of_string (P := P) w src dst (ET .u8) (bs m) hs hd he
  rw [bs_size] at hrun
  unfold Oper.wp
  simp [execOp, hop, hx, hrun, Result.andThen]
  have hge := grownCap_ge w m.length 0 (ET .u8)
  have hle := grownCap_le_maxLen w m.length 0 (ET .u8) hm
  have hcell : ∀ j, j < m.length → (w.drew.alloc (.cells (bytesRow (bs m) (grownCap w m.length 0 (ET .u8))) (ET .u8) ((bytesRow (bs m) (grownCap w m.length 0 (ET .u8))).size, (bytesRow (bs m) (grownCap w m.length 0 (ET .u8))).size + 1))).cell? ⟨w.heap.size, j, none⟩ = some (.int .u8 (byt m j)) := by
    intro j hj
    have := World.cell?_alloc_mark w.drew (bytesRow (bs m) (grownCap w m.length 0 (ET .u8))) (ET .u8) ((bytesRow (bs m) (grownCap w m.length 0 (ET .u8))).size, (bytesRow (bs m) (grownCap w m.length 0 (ET .u8))).size + 1) j
    refine this.trans ?_
    rw [bytesRow_at (bs m) _ j (by simpa [bs] using hj)]
    simp [bs, byt, hj]
  refine hK' _ _ (h _ _ ?_ ((Ext.rf w).dr.al _) hcell)
  have hl : (nums m).length = m.length := nums_length m
  have := IsL.mk_ (w := w.drew.alloc (.cells (bytesRow (bs m) (grownCap w m.length 0 (ET .u8))) (ET .u8) ((bytesRow (bs m) (grownCap w m.length 0 (ET .u8))).size, (bytesRow (bs m) (grownCap w m.length 0 (ET .u8))).size + 1))) (ao := some ⟨w.heap.size, 0, none⟩) (cap := grownCap w m.length 0 (ET .u8)) (k := .u8) (l := nums m) (by rw [hl]; exact hge) hle
    (fun _ => ⟨w.heap.size, 0, rfl, ⟨_, _, heap_alloc_new w.drew _⟩, fun j hj => by rw [Nat.zero_add, at_nums]; exact hcell j (by rw [← hl]; exact hj)⟩) (nums_fit m)
  rw [hl] at this
  exact this

end Go.Proofs.Ytbbidekjbgjooaa
