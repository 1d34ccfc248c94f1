/- A call's variables: which blocks they are, what they hold. The reference's ZParse. Regions that draw their order: what the cells hold till a store comes; one operation 'append(own, more...)'. -/
import Derived.Test.YtbbidekjbgjooaaGcdx
import Derived.Test.YtbbidekjbgjooaaZRx
import Derived.Test.YtbbidekjbgjooaaK1
section
namespace Go.Proofs.Ytbbidekjbgjooaa
open Go.RowKit

/-- The call began in w; in wc its variables are the blocks of L, with what they hold. -/
def St (w wc : World) (L : List (Nat × TypeId × Array Value)) : Prop :=
  Ext w wc ∧ (L.map (·.1)).Pairwise (· > ·) ∧ ∀ e ∈ L, w.heap.size ≤ e.1 ∧ Box wc e.1 e.2.1 e.2.2

theorem Box.set1 {w : World} {n : Nat} {T : TypeId} {vs : Array Value} (h : Box w n T vs) (k : Nat) (u : Value) : Box (w.setCell ⟨n, k, none⟩ u) n T (vs.setIfInBounds k u) := by
  unfold Box at h ⊢
  simp [World.setCell, Array.getElem?_modify, h]

section
variable {w wc w' : World} {L : List (Nat × TypeId × Array Value)} {n i k : Nat} {T : TypeId} {vs : Array Value}
/-- The blocks' order, newest first. -/
def Desc : List (Nat × TypeId × Array Value) → Prop
  | [] => True
  | [_] => True
  | a :: b :: t => b.1 < a.1 ∧ Desc (b :: t)
theorem Desc.of : ∀ {L : List (Nat × TypeId × Array Value)}, (L.map (·.1)).Pairwise (· > ·) → Desc L
  | [], _ => trivial
  | [_], _ => trivial
  | a :: b :: t, h => by
    rw [List.map_cons, List.pairwise_cons] at h
    exact ⟨h.1 _ (by simp), Desc.of h.2⟩
theorem St.desc (h : St w wc L) : Desc L := .of h.2.1
theorem St.nil (w : World) : St w w [] := ⟨Ext.rf w, by simp, fun e he => by cases he⟩
theorem St.ext (h : St w wc L) : Ext w wc := h.1
theorem St.keep (h : St w wc L) (e : Ext wc w') : St w w' L := ⟨h.1.tr e, h.2.1, fun x hx => ⟨(h.2.2 x hx).1, (h.2.2 x hx).2.keep e⟩⟩
theorem St.dr (h : St w wc L) : St w wc.drew L := h.keep (Ext.rf _).dr
theorem St.add (h : St w wc L) (vs : Array Value) (T : TypeId) : St w (wc.alloc (.cells vs T)) ((wc.heap.size, T, vs) :: L) := by
  refine ⟨h.1.al _, ?_, ?_⟩
  · rw [List.map_cons, List.pairwise_cons]
    refine ⟨fun m hm => ?_, h.2.1⟩
    obtain ⟨e, he, rfl⟩ := List.mem_map.1 hm
    exact (h.2.2 e he).2.lt
  · intro e he
    rcases List.mem_cons.1 he with rfl | he
    · exact ⟨h.1.size, Box.new rfl⟩
    · exact ⟨(h.2.2 e he).1, (h.2.2 e he).2.al _⟩
theorem St.add' (h : St w wc L) {vs : Array Value} {T : TypeId} (hn : n = wc.heap.size) : St w (wc.alloc (.cells vs T)) ((n, T, vs) :: L) := by subst hn; exact h.add vs T
theorem St.own (h : St w wc L) (hb : Box wc n T vs) (hw : w.heap.size ≤ n) (hn : ∀ e ∈ L, e.1 < n) : St w wc ((n, T, vs) :: L) := by
  refine ⟨h.1, ?_, ?_⟩
  · rw [List.map_cons, List.pairwise_cons]
    refine ⟨fun m hm => ?_, h.2.1⟩
    obtain ⟨e, he, rfl⟩ := List.mem_map.1 hm
    exact hn e he
  · intro e he
    rcases List.mem_cons.1 he with rfl | he
    · exact ⟨hw, hb⟩
    · exact h.2.2 e he
theorem St.own' {w2 : World} (h : St w wc L) (e : Ext wc w2) (hb : Box w2 n T vs) (hn : n = wc.heap.size) : St w w2 ((n, T, vs) :: L) := by
  subst hn
  exact (h.keep e).own hb h.1.size (fun x hx => (h.2.2 x hx).2.lt)
theorem St.box (h : St w wc L) (i : Nat) (hi : L[i]? = some (n, T, vs)) : Box wc n T vs := (h.2.2 _ (List.mem_of_getElem? hi)).2
theorem St.ge (h : St w wc L) (i : Nat) (hi : L[i]? = some (n, T, vs)) : w.heap.size ≤ n := (h.2.2 _ (List.mem_of_getElem? hi)).1
theorem St.lt (h : St w wc L) (i : Nat) (hi : L[i]? = some (n, T, vs)) : n < wc.heap.size := (h.box i hi).lt
theorem St.ne (h : St w wc L) (i j : Nat) {m : Nat} {U : TypeId} {us : Array Value} (hi : L[i]? = some (n, T, vs)) (hj : L[j]? = some (m, U, us)) (hij : i ≠ j) : n ≠ m := by
  rintro rfl
  have h1 : (L.map (·.1))[i]? = some n := by rw [List.getElem?_map, hi]; rfl
  have h2 : (L.map (·.1))[j]? = some n := by rw [List.getElem?_map, hj]; rfl
  exact hij ((List.getElem?_inj (List.getElem?_eq_some_iff.1 h1).1 (h.2.1.imp (fun h e => by omega))).1 (h1.trans h2.symm))
theorem St.set1 (h : St w wc L) (i : Nat) (hi : L[i]? = some (n, T, vs)) (k : Nat) (u : Value) : St w (wc.setCell ⟨n, k, none⟩ u) (L.set i (n, T, vs.setIfInBounds k u)) := by
  refine ⟨h.1.st (h.ge i hi) _, ?_, ?_⟩
  · have : (L.set i (n, T, vs.setIfInBounds k u)).map (·.1) = L.map (·.1) := by
      rw [List.map_set]
      apply List.ext_getElem?
      intro j
      rw [List.getElem?_set]
      split
      · rename_i e
        subst e
        have hl := (List.getElem?_eq_some_iff.1 hi).1
        rw [if_pos (by simpa using hl), List.getElem?_map, hi]
        rfl
      · rfl
    rw [this]; exact h.2.1
  · intro e he
    obtain ⟨j, hj⟩ := List.mem_iff_getElem?.1 he
    by_cases hij : i = j
    · subst hij
      have hl := (List.getElem?_eq_some_iff.1 hi).1
      rw [List.getElem?_set_self hl] at hj
      injection hj with hj
      subst hj
      exact ⟨h.ge i hi, (h.box i hi).set1 _ _⟩
    · rw [List.getElem?_set_ne hij] at hj
      have hm := h.2.2 e (List.mem_of_getElem? hj)
      exact ⟨hm.1, hm.2.far (h.ne j i hj hi (fun e => hij e.symm)) _⟩
theorem St.set2 (h : St w wc L) (i : Nat) {a b : Value} (hi : L[i]? = some (n, T, #[a, b])) (u v : Value) : St w ((wc.setCell ⟨n, 0, none⟩ u).setCell ⟨n, 1, none⟩ v) (L.set i (n, T, #[u, v])) := by
  have h1 := h.set1 i hi 0 u
  have hl := (List.getElem?_eq_some_iff.1 hi).1
  have h2 := h1.set1 i (n := n) (T := T) (vs := #[u, b]) (by rw [List.getElem?_set_self hl]; rfl) 1 v
  rw [List.set_set] at h2
  exact h2
theorem St.facts (h : St w wc L) (i : Nat) {a b : Value} (hi : L[i]? = some (n, T, #[a, b])) : wc.cell? ⟨n, 0, none⟩ = some a ∧ wc.cell? ⟨n, 1, none⟩ = some b ∧ wc.frozen? ⟨n, 0, none⟩ = false ∧ wc.frozen? ⟨n, 1, none⟩ = false := (h.box i hi).facts
theorem St.kept2 (h : St w wc L) (i : Nat) {U : TypeId} (hi : L[i]? = some (n, T, vs)) (hT : U ≠ T) (u v : Value) : Kept U wc ((wc.setCell ⟨n, 0, none⟩ u).setCell ⟨n, 1, none⟩ v) := (Kept.rf _ _).st2 (h.box i hi).ty hT u v

/-- Behind w3, all blocks are as they were but block n, a variable of two cells. -/
def Wr (n : Nat) (T : TypeId) (w3 w' : World) : Prop := (∀ b, b < w3.heap.size → b ≠ n → w'.heap[b]? = w3.heap[b]?) ∧ w3.heap.size ≤ w'.heap.size ∧ Bx w' T n
theorem Wr.of {w3 w' : World} (h : Ext w3 w') (hb : Bx w' T n) : Wr n T w3 w' := ⟨fun b hb _ => h.block b hb, h.size, hb⟩
theorem Wr.keep {w3 w' w'' : World} (h : Wr n T w3 w') (e : Ext w' w'') : Wr n T w3 w'' := ⟨fun b hb hn => (e.block b (Nat.lt_of_lt_of_le hb h.2.1)).trans (h.1 b hb hn), Nat.le_trans h.2.1 e.size, h.2.2.keep e⟩
theorem Wr.st2 {w3 w' : World} (h : Wr n T w3 w') (u v : Value) : Wr n T w3 ((w'.setCell ⟨n, 0, none⟩ u).setCell ⟨n, 1, none⟩ v) :=
  ⟨fun b hb hn => (Below.heap_setCell _ ⟨n, 1, none⟩ _ b hn).trans ((Below.heap_setCell _ ⟨n, 0, none⟩ _ b hn).trans (h.1 b hb hn)), by simpa using h.2.1, h.2.2.st2 _ _⟩
theorem Wr.cell {w3 w' : World} (h : Wr n T w3 w') {m k : Nat} {v : Value} (hm : w3.cell? ⟨m, k, none⟩ = some v) (hn : m ≠ n) : w'.cell? ⟨m, k, none⟩ = some v := by
  have hl : m < w3.heap.size := by
    rcases Nat.lt_or_ge m w3.heap.size with h | h
    · exact h
    · simp [World.cell?, Array.getElem?_eq_none h] at hm
  exact (World.cell?_of_block (w := w3) (w' := w') (a := ⟨m, k, none⟩) (h.1 m hl hn)).trans hm
end

end Go.Proofs.Ytbbidekjbgjooaa
end

section
namespace Go.Proofs.Ytbbidekjbgjooaa.Z4
open Go.RowKit

/-- The call answers a number and a fault. -/
def RetZF (w : World) (z c p : Int) (e : Ending) (w' : World) : Prop :=
  ∃ x : IV, e = .returned (.tuple #[.agg #[.bool x.n, .slice x.s.a x.s.len x.s.cap], .agg #[.int .i64 c, .int .i64 p]]) ∧ IsZ w' x z ∧ Ext w w'

set_option maxRecDepth 100000 in
set_option maxHeartbeats 1000000 in
theorem parse_any (t : List UInt8) (w : World) (hs : t.length ≤ 9223372036854775807) :
    Calls Try.prog 10 #[.string (bs t)] w (RetZF w (parseZ t) (parseC t) (parseP t)) := by
  have hle := numLen_le true t
  have he0 := ((Ext.rf w).al (Obj.cells #[Value.bool false, Value.slice none 0 0] 31)).al (Obj.cells #[Value.int .i64 0, Value.int .i64 0] 26)
  by_cases h1 : (numLen true t).2 = true
  · by_cases h2 : (numLen true t).1 < t.length
    · have hok : numOk t = false := by simp [numOk]; intro _; omega
      have HZ : Hd (parseZ t = 0) := hd_ (by simp [parseZ, hok])
      have HC : Hd (parseC t = 1) := hd_ (by simp [parseC, hok])
      have HP : Hd (parseP t = (numLen true t).1) := hd_ (by simp [parseP, hok])
      clear hok
      go_enter Try.func10, Try.ntmps10
      go_wp2_with (go_at_call 66; ((with_reducible refine (word_any _ _ _ hs).mono ?_); rintro e w1 ⟨rfl, hx⟩; obtain ⟨hc1, hf1⟩ := bcell hx))
      have k0 : w1.cell? ⟨w.heap.size, 0, none⟩ = some (Value.bool false) := cell_later hx (by simp [go_sem])
      have k1 : w1.cell? ⟨w.heap.size, 1, none⟩ = some (Value.slice none 0 0) := cell_later hx (by simp [go_sem])
      have k2 : w1.cell? ⟨w.heap.size + 1, 0, none⟩ = some (Value.int .i64 0) := cell_later hx (by simp [go_sem])
      have k3 : w1.cell? ⟨w.heap.size + 1, 1, none⟩ = some (Value.int .i64 0) := cell_later hx (by simp [go_sem])
      refine bodyPost_ret (v := .tuple #[.agg #[.bool false, .slice none 0 0], .agg #[.int .i64 1, .int .i64 ((numLen true t).1 : Int)]]) (by simp [results, Try.results10, go_sem, k0, k1, k2, k3]) rfl ?_
      rw [HC.out, HP.out, HZ.out]
      exact ⟨⟨false, ⟨none, 0, 0⟩⟩, rfl, isZ_zero _, (((he0.tr hx).st2 (by simp) _ _).st2 (by simp) _ _)⟩
    · have hok : numOk t = true := by simp [numOk, h1]; omega
      have hcan := (numOk_canon hok).1
      have hbl := body_length t
      by_cases h3 : (body t).length ≤ 1000
      · have HZ : Hd (parseZ t = numVal t) := hd_ (by simp [parseZ, hok, h3])
        have HC : Hd (parseC t = 0) := hd_ (by simp [parseC, hok, h3])
        have HP : Hd (parseP t = 0) := hd_ (by simp [parseP, hok])
        have HS : Hd (Sm (numVal t)) := hd_ ((numVal_bt hok).sm (by omega))
        have htl : t.length ≤ 1001 := by rw [hbl] at h3; split at h3 <;> omega
        replace hcan := hd_ hcan
        clear hok hbl
        go_enter Try.func10, Try.ntmps10
        go_wp2_with (first
          | (go_at_call 66; ((with_reducible refine (word_any _ _ _ hs).mono ?_); rintro e w1 ⟨rfl, hx⟩; obtain ⟨hc1, hf1⟩ := bcell hx))
          | (go_at_call 67; ((with_reducible refine (digitsOf_any _ _ hs).mono ?_); rintro e w2 ⟨rfl, hx2⟩; replace hx := hx.tr hx2; clear hc1 hf1; obtain ⟨hc1, hf1⟩ := bcell hx))
          | (go_at_call 68; ((with_reducible refine (zread_any t _ (by omega) hcan.out.digs HS.out).mono ?_); rintro e w3 ⟨y, rfl, hy, hx3⟩; replace hx := hx.tr hx3; clear hc1 hf1; obtain ⟨hc1, hf1⟩ := bcell hx; obtain ⟨w1, rfl⟩ : ∃ w1, w1 = w3 := ⟨_, rfl⟩)))
        have k0 : w1.cell? ⟨w.heap.size, 0, none⟩ = some (Value.bool false) := cell_later hx (by simp [go_sem])
        have k1 : w1.cell? ⟨w.heap.size, 1, none⟩ = some (Value.slice none 0 0) := cell_later hx (by simp [go_sem])
        have k2 : w1.cell? ⟨w.heap.size + 1, 0, none⟩ = some (Value.int .i64 0) := cell_later hx (by simp [go_sem])
        have k3 : w1.cell? ⟨w.heap.size + 1, 1, none⟩ = some (Value.int .i64 0) := cell_later hx (by simp [go_sem])
        refine bodyPost_ret (v := .tuple #[.agg #[.bool y.n, .slice y.s.a y.s.len y.s.cap], .agg #[.int .i64 0, .int .i64 0]]) (by simp [results, Try.results10, go_sem, k0, k1, k2, k3]) rfl ?_
        rw [HC.out, HP.out, HZ.out]
        exact ⟨y, rfl, hy.kept ((((Kept.rf _ _).st2 (T' := 31) (Ty.keep ((Ty.new' (by simp)).al _) hx) (by decide) _ _)).st2 (T' := 26) (((Ty.keep (Ty.new' (by simp)) hx).st _ _).st _ _) (by decide) _ _), (((he0.tr hx).st2 (by simp) _ _).st2 (by simp) _ _)⟩
      · have HZ : Hd (parseZ t = 0) := hd_ (by simp [parseZ, hok, h3])
        have HC : Hd (parseC t = 2) := hd_ (by simp [parseC, hok, h3])
        have HP : Hd (parseP t = 0) := hd_ (by simp [parseP, hok])
        clear hok hcan hbl
        go_enter Try.func10, Try.ntmps10
        go_wp2_with (first
          | (go_at_call 66; ((with_reducible refine (word_any _ _ _ hs).mono ?_); rintro e w1 ⟨rfl, hx⟩; obtain ⟨hc1, hf1⟩ := bcell hx))
          | (go_at_call 67; ((with_reducible refine (digitsOf_any _ _ hs).mono ?_); rintro e w2 ⟨rfl, hx2⟩; replace hx := hx.tr hx2; clear hc1 hf1; obtain ⟨hc1, hf1⟩ := bcell hx); obtain ⟨w1, rfl⟩ : ∃ w1, w1 = w2 := ⟨_, rfl⟩))
        have k0 : w1.cell? ⟨w.heap.size, 0, none⟩ = some (Value.bool false) := cell_later hx (by simp [go_sem])
        have k1 : w1.cell? ⟨w.heap.size, 1, none⟩ = some (Value.slice none 0 0) := cell_later hx (by simp [go_sem])
        have k2 : w1.cell? ⟨w.heap.size + 1, 0, none⟩ = some (Value.int .i64 0) := cell_later hx (by simp [go_sem])
        have k3 : w1.cell? ⟨w.heap.size + 1, 1, none⟩ = some (Value.int .i64 0) := cell_later hx (by simp [go_sem])
        refine bodyPost_ret (v := .tuple #[.agg #[.bool false, .slice none 0 0], .agg #[.int .i64 2, .int .i64 0]]) (by simp [results, Try.results10, go_sem, k0, k1, k2, k3]) rfl ?_
        rw [HC.out, HP.out, HZ.out]
        exact ⟨⟨false, ⟨none, 0, 0⟩⟩, rfl, isZ_zero _, (((he0.tr hx).st2 (by simp) _ _).st2 (by simp) _ _)⟩
  · have hok : numOk t = false := by simp [numOk, h1]
    have HZ : Hd (parseZ t = 0) := hd_ (by simp [parseZ, hok])
    have HC : Hd (parseC t = 1) := hd_ (by simp [parseC, hok])
    have HP : Hd (parseP t = (numLen true t).1) := hd_ (by simp [parseP, hok])
    replace h1 : (numLen true t).2 = false := by simpa using h1
    clear hok
    go_enter Try.func10, Try.ntmps10
    go_wp2_with (go_at_call 66; ((with_reducible refine (word_any _ _ _ hs).mono ?_); rintro e w1 ⟨rfl, hx⟩; obtain ⟨hc1, hf1⟩ := bcell hx))
    have k0 : w1.cell? ⟨w.heap.size, 0, none⟩ = some (Value.bool false) := cell_later hx (by simp [go_sem])
    have k1 : w1.cell? ⟨w.heap.size, 1, none⟩ = some (Value.slice none 0 0) := cell_later hx (by simp [go_sem])
    have k2 : w1.cell? ⟨w.heap.size + 1, 0, none⟩ = some (Value.int .i64 0) := cell_later hx (by simp [go_sem])
    have k3 : w1.cell? ⟨w.heap.size + 1, 1, none⟩ = some (Value.int .i64 0) := cell_later hx (by simp [go_sem])
    refine bodyPost_ret (v := .tuple #[.agg #[.bool false, .slice none 0 0], .agg #[.int .i64 1, .int .i64 ((numLen true t).1 : Int)]]) (by simp [results, Try.results10, go_sem, k0, k1, k2, k3]) rfl ?_
    rw [HC.out, HP.out, HZ.out]
    exact ⟨⟨false, ⟨none, 0, 0⟩⟩, rfl, isZ_zero _, (((he0.tr hx).st2 (by simp) _ _).st2 (by simp) _ _)⟩

end Go.Proofs.Ytbbidekjbgjooaa.Z4
end

section
namespace Go.Proofs.Ytbbidekjbgjooaa
open Go.RowKit

/-- These cells hold these values. -/
def Cs (w : World) (L : List (Nat × Nat × Value)) : Prop := ∀ e ∈ L, w.cell? ⟨e.1, e.2.1, none⟩ = some e.2.2

section
variable {w w' : World} {L : List (Nat × Nat × Value)}
theorem Cs.nil (w : World) : Cs w [] := fun e he => by cases he
theorem Cs.cons {b k : Nat} {v : Value} (h : w.cell? ⟨b, k, none⟩ = some v) (t : Cs w L) : Cs w ((b, k, v) :: L) := fun e he => by
  rcases List.mem_cons.1 he with rfl | he
  · exact h
  · exact t e he
theorem cs_cons {b k : Nat} {v : Value} : Cs w ((b, k, v) :: L) ↔ w.cell? ⟨b, k, none⟩ = some v ∧ Cs w L :=
  ⟨fun h => ⟨h _ (.head _), fun e he => h e (.tail _ he)⟩, fun h => Cs.cons h.1 h.2⟩
theorem cs_nil : Cs w [] ↔ True := ⟨fun _ => trivial, fun _ => Cs.nil w⟩
theorem Cs.keep (h : Cs w L) (e : Ext w w') : Cs w' L := fun x hx => cell_later e (h x hx)
/-- Block n is none of these. -/
def Off (n : Nat) : List (Nat × Nat × Value) → Prop
  | [] => True
  | e :: t => n ≠ e.1 ∧ Off n t
theorem Off.mem {n : Nat} (h : Off n L) : ∀ e ∈ L, n ≠ e.1 := by
  induction L with
  | nil => intro e he; cases he
  | cons x t ih =>
    intro e he
    rcases List.mem_cons.1 he with rfl | he
    · exact h.1
    · exact ih h.2 e he
theorem Cs.st2 {n : Nat} (h : Cs w L) (hn : Off n L) (u v : Value) : Cs ((w.setCell ⟨n, 0, none⟩ u).setCell ⟨n, 1, none⟩ v) L := fun e he => cell_st2' (h e he) (hn.mem e he) _ _
theorem Cs.st1 {n k : Nat} (h : Cs w L) (hn : Off n L) (u : Value) : Cs (w.setCell ⟨n, k, none⟩ u) L := fun e he => by
  rw [World.cell?_setCell_other _ _ _ _ (by intro e'; have := hn.mem e he; rw [Addr.mk.injEq] at e'; omega)]
  exact h e he
end

theorem run_append_none_any {P : Program} {w : World} (base : Nat) (t ty e : TypeId) (i : TypeInfo) (size : Nat) (c : Nat) (ht : P.underlying t = some (.slice e)) (hi : P.info? e = some i)
    (v : Value) (n : Nat) (xs : List Value) (hown : w.ownsRow base e size v n xs) :
    (Builtin.append_ #[t, t] ty #[v, .slice none 0 c]).run P w = .ok v w := by
  rcases hown.2 with ⟨rfl, rfl⟩ | ⟨g, cap, cur, rfl, _, _, hnc, _⟩
  · simp [Builtin.append_, run_underlying ht, sizeOf, typeInfo, hi, Builtin.lenOf, Builtin.firstCells]
  · simp [Builtin.append_, run_underlying ht, sizeOf, typeInfo, hi, Builtin.lenOf, Builtin.firstCells, hnc, storeCells]

/-- One operation 'append(own, more...)': s, the row; u: what is appended, read as numbers. -/
theorem op_appN {P : Program} (w : World) {o : Oper} {a : Act} {K : Act → World → Prop} {Q : Exit → Act → World → Prop} (sl x : Operand) (t : TypeId)
    (ho : o.op = .call { callee := .builtin .append, args := #[sl, x], argTypes := #[t, t] })
    (k : IntKind) (bytes : Nat) (ht : P.underlying t = some (.slice (ET k))) (hinfo : (P.info? (ET k)).map (fun i => (i.zero, i.size, i.bytes)) = some (some (.int k 0), 1, bytes))
    (W0 : World) (s u : SV) (l m : List Int) (hs : a.eval sl = .slice s.a s.len s.cap) (hx : a.eval x = .slice u.a u.len u.cap) (hown : Rw w W0.heap.size k s l) (hu : IsL w u k m) (hE : Ext W0 w)
    (hb : (l.length + m.length) * bytes ≤ 140737488355328) (h63 : l.length + m.length ≤ 9223372036854775807)
    (h : ∀ (s' : SV) (w' : World), Rw w' W0.heap.size k s' (l ++ m) → Ext W0 w' → K (a.put o.dst (.slice s'.a s'.len s'.cap)) w') :
    o.wp P a w K Q := by
  obtain ⟨i, hi, hz0, hz1, hz2⟩ := info_parts hinfo
  obtain ⟨ao, cap, rfl, hc1, hc2, hop⟩ := hu.open_
  rcases ao with _ | ad
  · have h0 : m.length = 0 := by
      rcases Nat.eq_zero_or_pos m.length with h0 | h0
      · exact h0
      · obtain ⟨b, off, ha, _⟩ := hop h0
        cases ha
    have hm : m = [] := List.eq_nil_of_length_eq_zero h0
    subst hm
    have hrun := run_append_none_any (P := P) (w := w) W0.heap.size t o.type (ET k) i 1 cap ht hi (.slice s.a s.len s.cap) l.length (l.map (Value.int k)) hown
    unfold Oper.wp
    simp [execOp, ho, resolve, invoke, builtin, hs, hx, hrun, Result.andThen]
    exact h s w (by simpa using hown) hE
  · refine wp_append_own (P := P) w sl x t ho W0.heap.size (ET k) i _ 1 bytes ht hi hz0 hz1 hz2 rfl (by omega) (.slice s.a s.len s.cap) l.length (l.map (Value.int k)) hs hown ad m.length cap (m.map (Value.int k)) hx (by simp)
      ?_ (by intro v hv; obtain ⟨z, _, rfl⟩ := List.mem_map.1 hv; rfl) h63 hb hE.size ?_
    · intro j v hv
      have hj : j < m.length := by
        have := (List.getElem?_eq_some_iff.1 hv).1
        simpa using this
      obtain ⟨b, off, ha, _, hc⟩ := hop (by omega)
      injection ha with ha
      subst ha
      have h1 := hc j hj
      rw [at_lt hj] at h1
      simp [hj] at hv
      rw [← hv]
      by_cases hj0 : j = 0
      · subst hj0; simpa [Addr.add] using h1
      · simpa [Addr.add, hj0] using h1
    · intro v' w' hown' hgr _
      have hform : ∃ s' : SV, v' = .slice s'.a s'.len s'.cap := by
        rcases hown'.2 with ⟨e, _⟩ | ⟨g, cap, cur, e, _⟩
        · exact ⟨⟨none, 0, 0⟩, e⟩
        · exact ⟨⟨some ⟨g, 0, none⟩, _, cap⟩, e⟩
      obtain ⟨s', rfl⟩ := hform
      refine h s' w' ?_ (hE.gr hgr ?_)
      · unfold Rw
        rw [List.length_append, List.map_append]
        exact hown'
      · intro g hg
        rcases hown.2 with ⟨e, _⟩ | ⟨g', cap, cur, e, hb', _⟩
        · rw [e] at hg; cases hg
        · rw [e] at hg
          simp only [Value.ownBlock, Option.some.injEq] at hg
          omega

end Go.Proofs.Ytbbidekjbgjooaa
end
