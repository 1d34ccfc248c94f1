/- What a statement's arguments read as, in the small machine's words. -/
import Derived.Test.YtlnhembcfhfpkaaK3
import Derived.ChangeArms
import Derived.OpenShut
namespace Go.Proofs.Ytlnhembcfhfpkaa.M
open Go.RowKit
set_option linter.unusedVariables false
def CV (w : World) (N : Nat → Prop) (cs : List Value) (l : List D) : Prop := cs.length = l.length ∧ (∀ d ∈ l, d.one = true) ∧ ∀ i d, l[i]? = some d → V w N (cs.getD i undef) d
def isStr (P : Program) (t : TypeId) : Bool := match P.underlying t with
  | some (.struct _) => true
  | _ => false
inductive TyC (P : Program) : TypeId → List D → Prop where
  | bool (t : TypeId) (b : Bool) : P.underlying t = some .bool → TyC P t [.bool b]
  | int (t : TypeId) (k : IntKind) (n : Int) : P.underlying t = some (.int k) → (Lit.int k n).wf = true → TyC P t [.int k n]
  | str (t : TypeId) (s : List UInt8) : P.underlying t = some .string → s.length ≤ maxLen → TyC P t [.str s]
  | slice (t e : TypeId) (l : List D) : P.underlying t = some (.slice e) → l.length ≤ maxLen → (∀ d ∈ l, TyC P e d.cells) → (∀ d ∈ l, d.cells.length = P.cellsOf e ∧ (∀ q ∈ d.cells, q.one = true) ∧ d.isAgg = isStr P e) → TyC P t [.list (e + 1000000) (P.cellsOf e) l]
  | struct (t : TypeId) (fs : Array Field) (l : List D) : P.underlying t = some (.struct fs) → l.length = P.cellsOf t → (∀ f ∈ fs.toList, TyC P f.type ((l.drop f.offset).take (P.cellsOf f.type))) → TyC P t l
def contig (P : Program) : Nat → List Field → Nat → Bool
  | o, [], e => o == e
  | o, f :: fs, e => f.offset == o && contig P (o + P.cellsOf f.type) fs e
theorem contig_le {P : Program} : ∀ {fs : List Field} {o e : Nat}, contig P o fs e = true → o ≤ e
  | [], o, e, h => by simp [contig] at h; omega
  | f :: fs, o, e, h => by
    simp only [contig, Bool.and_eq_true] at h
    have := contig_le h.2
    omega
def plainT (P : Program) (S : List TypeId) : Bool := S.all fun t => decide (0 < P.cellsOf t) && match P.underlying t with
  | some .bool => true
  | some (.int _) => true
  | some .string => true
  | some (.slice e) => S.contains e
  | some (.struct fs) => fs.toList.all (fun f => S.contains f.type) && contig P 0 fs.toList (P.cellsOf t)
  | _ => false
theorem CV.append {w : World} {N : Nat → Prop} {cs ds : List Value} {l m : List D} (h : CV w N cs l) (k : CV w N ds m) : CV w N (cs ++ ds) (l ++ m) := by
  refine ⟨by simp [h.1, k.1], fun d hd => ?_, fun i d hd => ?_⟩
  · rcases List.mem_append.1 hd with hd | hd
    · exact h.2.1 d hd
    · exact k.2.1 d hd
  · have hl := h.1
    rcases Nat.lt_or_ge i l.length with hi | hi
    · rw [List.getElem?_append_left hi] at hd
      have := h.2.2 i d hd
      rw [List.getD_eq_getElem?_getD, List.getElem?_append_left (by omega), ← List.getD_eq_getElem?_getD]
      exact this
    · rw [List.getElem?_append_right hi] at hd
      have := k.2.2 _ d hd
      rw [List.getD_eq_getElem?_getD, List.getElem?_append_right (by omega), hl, ← List.getD_eq_getElem?_getD]
      exact this
theorem join {P : Program} {w : World} {N : Nat → Prop} {cs : List Value} : ∀ (fs : List Field) (o : Nat), contig P o fs cs.length = true → (∀ f ∈ fs, ∃ l, CV w N ((cs.drop f.offset).take (P.cellsOf f.type)) l ∧ TyC P f.type l) →
    ∃ l, CV w N (cs.drop o) l ∧ ∀ f ∈ fs, o ≤ f.offset ∧ TyC P f.type ((l.drop (f.offset - o)).take (P.cellsOf f.type))
  | [], o, h, _ => by
    simp [contig] at h
    refine ⟨[], ⟨by simp; omega, by simp, by simp⟩, by simp⟩
  | f :: fs, o, h, hf => by
    simp only [contig, Bool.and_eq_true, beq_iff_eq] at h
    obtain ⟨rfl, h2⟩ := h
    have hle := contig_le h2
    obtain ⟨l', g1, g2⟩ := join fs _ h2 fun f' hf' => hf f' (by simp [hf'])
    obtain ⟨l, k1, k2⟩ := hf f (by simp)
    have hl : l.length = P.cellsOf f.type := by rw [← k1.1]; simp; omega
    refine ⟨l ++ l', ?_, fun f' hf' => ?_⟩
    · have := k1.append g1
      rw [← List.drop_drop, List.take_append_drop] at this
      exact this
    · rcases List.mem_cons.1 hf' with rfl | hf'
      · refine ⟨Nat.le_refl _, ?_⟩
        rw [Nat.sub_self, List.drop_zero, List.take_append_of_le_length (by omega), List.take_of_length_le (by omega)]
        exact k2
      · obtain ⟨q1, q2⟩ := g2 f' hf'
        refine ⟨by omega, ?_⟩
        rw [List.drop_append, List.drop_of_length_le (by omega), List.nil_append, hl, show f'.offset - f.offset - P.cellsOf f.type = f'.offset - (f.offset + P.cellsOf f.type) by omega]
        exact q2
section
variable {H : Type} {enc : TypeId × Value → H} {P : Program} {w : World} {spare : Nat → Bool} {held : Bool} {N : Nat → Prop}
theorem cells_of {a : Addr} {n : Nat} {cs : List Value} (h : w.cells? 0 a n = some cs) : cs.length = n ∧ ∀ i, i < n → w.cell? (a.add i) = some (cs.getD i undef) := by
  unfold World.cells? at h
  rw [if_pos (Nat.zero_le _)] at h
  have hl := mapM_some_length h
  rw [List.length_range] at hl
  refine ⟨hl, fun i hi => ?_⟩
  have := mapM_some_get h i i (by simp [hi])
  rw [this]
  simp [show i < cs.length by omega]
theorem addr_none {a : Addr} {v : Value} (h : w.cell? (a.add 0) = some v) : ∃ b o, a = ⟨b, o, none⟩ := by
  obtain ⟨b, o, s⟩ := a
  cases s with
  | none => exact ⟨b, o, rfl⟩
  | some x =>
    exfalso
    unfold Addr.add World.cell? at h
    rw [if_pos rfl] at h
    split at h
    · simp at h
    · cases h
theorem add_z {a : Addr} : (a.add 0) = a := by unfold Addr.add; rw [if_pos rfl]
theorem cell_some {b o : Nat} {v : Value} (h : w.cell? ⟨b, o, none⟩ = some v) : ∃ c T fr, w.heap[b]? = some (.cells c T fr) ∧ o < c.size ∧ c.getD o undef = v := by
  unfold World.cell? at h
  split at h
  · rename_i c T fr hb
    simp only [Option.isSome_none, Bool.false_eq_true, if_false] at h
    obtain ⟨h1, h2⟩ := Array.getElem?_eq_some_iff.1 h
    exact ⟨c, T, fr, hb, h1, by simp [h1, h2]⟩
  · cases h
theorem read_cells {S : List TypeId} (hS : plainT P S = true) : ∀ (fuel : Nat) (t : TypeId) (cs : List Value) (x : DataW H × List MemPlace), t ∈ S → DataW.trod enc P w 0 spare held fuel t cs = some x →
    ∃ l, CV w (fun b => b < w.heap.size) cs l ∧ TyC P t l ∧ (isStr P t = false → ∃ d, l = [d] ∧ d.isAgg = false) := by
  intro fuel
  induction fuel with
  | zero => intro t cs x _ h; simp [DataW.trod] at h
  | succ n ih =>
    intro t cs x ht h
    have hp := hS
    unfold plainT at hp
    rw [List.all_eq_true] at hp
    have hpt' := hp t ht
    rw [Bool.and_eq_true, decide_eq_true_eq] at hpt'
    have hpos := hpt'.1
    have hpt := hpt'.2
    clear hpt'
    split at hpt
    · rename_i hu
      obtain ⟨b, rfl, -⟩ := DataW.trod_bool hu h
      exact ⟨[.bool b], ⟨rfl, by simp [D.one], fun i d hd => by
        match i, hd with
        | 0, hd => simp at hd; subst hd; exact .bool b
        | i + 1, hd => simp at hd⟩, .bool t b hu, fun _ => ⟨_, rfl, rfl⟩⟩
    · rename_i k hu
      obtain ⟨m, rfl, -, hw⟩ := DataW.trod_int hu h
      exact ⟨[.int k m], ⟨rfl, by simp [D.one], fun i d hd => by
        match i, hd with
        | 0, hd => simp at hd; subst hd; exact .int k m
        | i + 1, hd => simp at hd⟩, .int t k m hu hw, fun _ => ⟨_, rfl, rfl⟩⟩
    · rename_i hu
      obtain ⟨s, rfl, -, hw⟩ := DataW.trod_string hu h
      exact ⟨[.str s.data.toList], ⟨rfl, by simp [D.one], fun i d hd => by
        match i, hd with
        | 0, hd => simp at hd; subst hd; exact .str s
        | i + 1, hd => simp at hd⟩, .str t _ hu (by simpa using hw), fun _ => ⟨_, rfl, rfl⟩⟩
    · rename_i e hu
      have he : e ∈ S := by simpa using hpt
      have one : ∀ (δ : D), δ.one = true → δ.isAgg = false → ∀ v : Value, V w (fun b => b < w.heap.size) v δ → TyC P t [δ] → cs = [v] → ∃ l, CV w (fun b => b < w.heap.size) cs l ∧ TyC P t l ∧ (isStr P t = false → ∃ d, l = [d] ∧ d.isAgg = false) := by
        rintro δ h1 h2 v hv hT rfl
        exact ⟨[δ], ⟨rfl, by simpa using h1, fun i d hd => by
          match i, hd with
          | 0, hd => simp at hd; subst hd; exact hv
          | i + 1, hd => simp at hd⟩, hT, fun _ => ⟨_, rfl, h2⟩⟩
      rcases DataW.trod_slice hu h with ⟨rfl, -⟩ | ⟨a, len, cap, elems, rest, m, hm, rfl, rfl, hb, hl, hcap, hlen, hel, -, -⟩
      · exact one _ rfl rfl _ (.empty none 0 (e + 1000000) (P.cellsOf e) (by omega)) (.slice t e [] hu (by simp) (by simp) (by simp)) rfl
      · obtain rfl : m = n := by omega
        have each : ∀ i, i < len → ∃ (d : D) (cs' : List Value), CV w (fun b => b < w.heap.size) cs' d.cells ∧ cs'.length = P.cellsOf e ∧ (∀ j, j < P.cellsOf e → w.cell? ((a.add (i * P.cellsOf e)).add j) = some (cs'.getD j undef)) ∧ TyC P e d.cells ∧ d.isAgg = isStr P e := by
          intro i hi
          have h1 := hel i hi
          rw [show elems[i]? = some (elems[i]'(by omega)) by simp [show i < elems.length by omega], Option.bind_eq_some_iff] at h1
          obtain ⟨cs', hcs, hy⟩ := h1
          obtain ⟨l, g1, g2, g3⟩ := ih e cs' _ he hy
          obtain ⟨q1, q2⟩ := cells_of hcs
          cases hs : isStr P e with
          | true => exact ⟨.agg l, cs', g1, q1, q2, g2, rfl⟩
          | false =>
            obtain ⟨d, rfl, hd⟩ := g3 hs
            have hc : d.cells = [d] := by cases d <;> first | rfl | (simp [D.isAgg] at hd)
            exact ⟨d, cs', by rw [hc]; exact g1, q1, q2, by rw [hc]; exact g2, hd⟩
        have hch : ∃ f : Nat → D × List Value, ∀ i, i < len → CV w (fun b => b < w.heap.size) (f i).2 (f i).1.cells ∧ (f i).2.length = P.cellsOf e ∧ (∀ j, j < P.cellsOf e → w.cell? ((a.add (i * P.cellsOf e)).add j) = some ((f i).2.getD j undef)) ∧ TyC P e (f i).1.cells ∧ (f i).1.isAgg = isStr P e := by
          refine ⟨fun i => open Classical in if hi : i < len then ((each i hi).choose, (each i hi).choose_spec.choose) else default, fun i hi => ?_⟩
          simp only [hi, dif_pos]
          exact (each i hi).choose_spec.choose_spec
        obtain ⟨f, hf⟩ := hch
        have hty : TyC P t [.list (e + 1000000) (P.cellsOf e) ((List.range len).map fun i => (f i).1)] := by
          refine .slice t e _ hu (by simpa using Nat.le_trans hl hcap) ?_ ?_
          · intro d hd
            obtain ⟨i, hi, rfl⟩ := List.mem_map.1 hd
            exact (hf i (List.mem_range.1 hi)).2.2.2.1
          · intro d hd
            obtain ⟨i, hi, rfl⟩ := List.mem_map.1 hd
            obtain ⟨k1, k2, k3, k4, k5⟩ := hf i (List.mem_range.1 hi)
            exact ⟨k1.1.symm.trans k2, k1.2.1, k5⟩
        have hmax : maxLen = 9223372036854775807 := rfl
        by_cases h0 : len = 0
        · subst h0
          exact one _ rfl rfl _ (.empty (some a) cap (e + 1000000) (P.cellsOf e) (by omega)) hty rfl
        · have hz0 : 0 < P.cellsOf e := by
            have := hp e he
            rw [Bool.and_eq_true, decide_eq_true_eq] at this
            exact this.1
          obtain ⟨b, o, rfl⟩ : ∃ b o, a = ⟨b, o, none⟩ := by
            have h1 := (hf 0 (by omega)).2.2.1 0 (by omega)
            rw [Nat.zero_mul, add_z] at h1
            exact addr_none h1
          have hcell : ∀ i j, i < len → j < P.cellsOf e → w.cell? ⟨b, o + (i * P.cellsOf e + j), none⟩ = some ((f i).2.getD j undef) := by
            intro i j hi hj
            have := (hf i hi).2.2.1 j hj
            rw [add_mid, add_mid] at this
            rw [← Nat.add_assoc]; exact this
          obtain ⟨c, T, fr, hblk, -, -⟩ := cell_some (hcell 0 0 (by omega) hz0)
          have hlt : b < w.heap.size := by
            rcases Nat.lt_or_ge b w.heap.size with h | h
            · exact h
            · rw [Array.getElem?_eq_none h] at hblk; cases hblk
          have hget : ∀ i j, i < len → j < P.cellsOf e → o + (i * P.cellsOf e + j) < c.size ∧ c.getD (o + (i * P.cellsOf e + j)) undef = (f i).2.getD j undef := by
            intro i j hi hj
            obtain ⟨c', T', fr', h1, h2, h3⟩ := cell_some (hcell i j hi hj)
            rw [hblk] at h1
            cases h1
            exact ⟨h2, h3⟩
          have hidx : ∀ (i : Nat) (d : D), ((List.range len).map fun i => (f i).1)[i]? = some d → i < len ∧ d = (f i).1 := by
            intro i d hd
            rw [List.getElem?_map, Option.map_eq_some_iff] at hd
            obtain ⟨q, hq, rfl⟩ := hd
            obtain ⟨h1, h2⟩ := List.getElem?_eq_some_iff.1 hq
            simp at h1 h2
            subst h2
            exact ⟨h1, rfl⟩
          have := V.list (w := w) (N := fun b => b < w.heap.size) b o cap (e + 1000000) (P.cellsOf e) ((List.range len).map fun i => (f i).1) c fr ⟨T, hblk, .inr (Nat.le_add_left _ _)⟩ hlt (by simpa using hl) (by omega) ?_ ?_ ?_
          · simp only [List.length_map, List.length_range] at this
            exact one _ rfl rfl _ this hty rfl
          · intro d hd
            obtain ⟨i, hi, rfl⟩ := List.mem_map.1 hd
            obtain ⟨k1, k2, -⟩ := hf i (List.mem_range.1 hi)
            exact ⟨k1.1.symm.trans k2, k1.2.1⟩
          · intro i d j q hd hq
            obtain ⟨hi, rfl⟩ := hidx i d hd
            obtain ⟨k1, k2, -⟩ := hf i hi
            have hj := (List.getElem?_eq_some_iff.1 hq).1
            exact (hget i j hi (by have := k1.1; omega)).1
          · intro i d j q hd hq
            obtain ⟨hi, rfl⟩ := hidx i d hd
            obtain ⟨k1, k2, -⟩ := hf i hi
            have hj := (List.getElem?_eq_some_iff.1 hq).1
            rw [(hget i j hi (by have := k1.1; omega)).2]
            exact k1.2.2 j q hq
    · rename_i fs hu
      simp only [Bool.and_eq_true, List.all_eq_true] at hpt
      obtain ⟨h1, h2⟩ := hpt
      obtain ⟨xs, m, hm, rfl, hlen, hxs, hfs⟩ := DataW.trod_struct hu h
      obtain rfl : m = n := by omega
      rw [← hlen] at h2
      obtain ⟨l, g1, g2⟩ := join (w := w) (N := fun b => b < w.heap.size) fs.toList 0 h2 fun f hf => by
        obtain ⟨i, hi, rfl⟩ := List.mem_iff_getElem.1 hf
        have hfi : fs[i]? = some (fs.toList[i]) := by simp at hi ⊢
        have h3 := hfs i _ hfi
        rw [List.getElem?_eq_getElem (show i < xs.length by simp at hi; omega)] at h3
        obtain ⟨l, q1, q2, -⟩ := ih _ _ _ (by simpa using h1 _ hf) h3
        exact ⟨l, q1, q2⟩
      rw [List.drop_zero] at g1
      exact ⟨l, g1, .struct t fs l hu (by rw [← g1.1]; exact hlen) fun f hf => by simpa using (g2 f hf).2, fun hs => by simp [isStr, hu] at hs⟩
    · cases hpt
theorem read_arg {S : List TypeId} (hS : plainT P S = true) {t : TypeId} (ht : t ∈ S) {r : Reach} {b0 : Nat} {v : Value} {d : DataW H} {ps : List MemPlace} (hval : Value.okWide P w r b0 t v) (h : DataW.Trod enc P w 0 spare held t v d ps) :
    ∃ δ, V w (fun b => b < w.heap.size) v δ ∧ TyC P t δ.cells ∧ δ.isAgg = isStr P t := by
  obtain ⟨fuel, h⟩ := h
  obtain ⟨l, h1, h2, h3⟩ := read_cells hS fuel t _ _ ht h
  have one : isStr P t = false → v.cells = #[v] → ∃ δ, V w (fun b => b < w.heap.size) v δ ∧ TyC P t δ.cells ∧ δ.isAgg = isStr P t := by
    intro hs hc
    obtain ⟨δ, rfl, hδ⟩ := h3 hs
    have hcc : δ.cells = [δ] := by cases δ <;> first | rfl | (simp [D.isAgg] at hδ)
    refine ⟨δ, ?_, by rw [hcc]; exact h2, by rw [hδ, hs]⟩
    have := h1.2.2 0 δ rfl
    rw [hc] at this
    simpa using this
  cases h2 with
  | bool t b hu => obtain ⟨x, rfl⟩ := Go.WideShapes.okWide_bool hu hval; exact one (by simp [isStr, hu]) rfl
  | int t k n hu => obtain ⟨x, rfl⟩ := Go.WideShapes.okWide_int hu hval; exact one (by simp [isStr, hu]) rfl
  | str t s hu => obtain ⟨x, rfl⟩ := Go.WideShapes.okWide_string hu hval; exact one (by simp [isStr, hu]) rfl
  | slice t e l hu => obtain ⟨a, n, c, rfl⟩ := Go.WideShapes.okWide_slice hu hval; exact one (by simp [isStr, hu]) rfl
  | struct t fs l hu hl hf =>
    obtain ⟨cs, rfl, -⟩ := Go.WideShapes.okWide_struct hu hval
    refine ⟨.agg l, .agg cs l (by have := h1.1; simpa [Value.cells] using this) h1.2.1 fun i d hd => ?_, .struct t fs l hu hl hf, by simp [isStr, hu, D.isAgg]⟩
    have := h1.2.2 i d hd
    simpa [Value.cells] using this
theorem ty_slice {t e : TypeId} {δ : D} (hu : P.underlying t = some (.slice e)) (h : TyC P t δ.cells) (hg : δ.isAgg = isStr P t) : ∃ l : List D, δ = .list (e + 1000000) (P.cellsOf e) l ∧ l.length ≤ maxLen ∧ (∀ d ∈ l, TyC P e d.cells) ∧ (∀ d ∈ l, d.cells.length = P.cellsOf e ∧ (∀ q ∈ d.cells, q.one = true) ∧ d.isAgg = isStr P e) := by
  have hs : isStr P t = false := by simp [isStr, hu]
  rw [hs] at hg
  have hcc : δ.cells = [δ] := by cases δ <;> first | rfl | (simp [D.isAgg] at hg)
  rw [hcc] at h
  generalize he : [δ] = m at h
  cases h with
  | slice t e' l hu' h1 h2 h3 =>
    rw [hu] at hu'
    cases hu'
    injection he with he
    exact ⟨l, he, h1, h2, h3⟩
  | bool t b hu' => rw [hu] at hu'; cases hu'
  | int t k n hu' => rw [hu] at hu'; cases hu'
  | str t s hu' => rw [hu] at hu'; cases hu'
  | struct t fs l hu' => rw [hu] at hu'; cases hu'
theorem ty_int {t : TypeId} {k : IntKind} {δ : D} (hu : P.underlying t = some (.int k)) (h : TyC P t δ.cells) (hg : δ.isAgg = isStr P t) : ∃ n : Int, δ = .int k n ∧ (Lit.int k n).wf = true := by
  have hs : isStr P t = false := by simp [isStr, hu]
  rw [hs] at hg
  have hcc : δ.cells = [δ] := by cases δ <;> first | rfl | (simp [D.isAgg] at hg)
  rw [hcc] at h
  generalize he : [δ] = m at h
  cases h with
  | int t k n hu' h1 => rw [hu] at hu'; cases hu'; injection he with he; exact ⟨n, he, h1⟩
  | bool t b hu' => rw [hu] at hu'; cases hu'
  | str t s hu' => rw [hu] at hu'; cases hu'
  | slice t e l hu' => rw [hu] at hu'; cases hu'
  | struct t fs l hu' => rw [hu] at hu'; cases hu'
theorem ty_ints {t e : TypeId} {k : IntKind} {δ : D} (hu : P.underlying t = some (.slice e)) (he : P.underlying e = some (.int k)) (hc : P.cellsOf e = 1) (h : TyC P t δ.cells) (hg : δ.isAgg = isStr P t) : ∃ l : List Int, δ = .list (e + 1000000) 1 (l.map (.int k)) ∧ l.length ≤ maxLen ∧ ∀ n ∈ l, (Lit.int k n).wf = true := by
  obtain ⟨l, rfl, h1, h2, h3⟩ := ty_slice hu h hg
  have : ∃ m : List Int, l = m.map (.int k) ∧ ∀ n ∈ m, (Lit.int k n).wf = true := by
    clear h hg h1
    induction l with
    | nil => exact ⟨[], rfl, by simp⟩
    | cons d l ih =>
      obtain ⟨m, rfl, hm⟩ := ih (fun d hd => h2 d (by simp [hd])) (fun d hd => h3 d (by simp [hd]))
      obtain ⟨s, rfl, hs⟩ := ty_int he (h2 d (by simp)) (h3 d (by simp)).2.2
      refine ⟨s :: m, rfl, fun s' hs' => ?_⟩
      rcases List.mem_cons.1 hs' with rfl | hs'
      · exact hs
      · exact hm s' hs'
  obtain ⟨m, rfl, hm⟩ := this
  exact ⟨m, by rw [hc], by simpa using h1, hm⟩
end
end Go.Proofs.Ytlnhembcfhfpkaa.M
