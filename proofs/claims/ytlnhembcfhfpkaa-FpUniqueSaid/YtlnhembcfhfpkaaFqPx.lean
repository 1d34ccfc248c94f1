/- Polynomials modulo a number, in plain Lean: lists of residues without noughts at the end; products, remainders. -/
import Derived.Test.YtlnhembcfhfpkaaMXGx
namespace Go.Proofs.Ytlnhembcfhfpkaa.M
open Go.RowKit
set_option linter.unusedSimpArgs false
set_option linter.unusedVariables false
abbrev I (n : Int) : D := .int .i64 n
abbrev L (l : List Int) : D := .list 3 1 (l.map (D.int .i64))
abbrev LT (T : Nat) (l : List Int) : D := .list T 1 (l.map (D.int .i64))
def trim (l : List Int) : List Int := (l.reverse.dropWhile (· == 0)).reverse
theorem trim_take {l : List Int} {k : Nat} (h : k < l.length) : trim (l.take (k + 1)) = if l.getD k 0 = 0 then trim (l.take k) else l.take (k + 1) := by
  have e : l.take (k + 1) = l.take k ++ [l.getD k 0] := by
    rw [List.take_succ_eq_append_getElem h]; simp [h]
  rw [e]
  unfold trim
  rw [List.reverse_append, List.reverse_singleton, List.singleton_append]
  by_cases hz : l.getD k 0 = 0
  · rw [if_pos hz, List.dropWhile_cons_of_pos (by simpa using hz)]
  · rw [if_neg hz, List.dropWhile_cons_of_neg (by simpa using hz)]; simp
theorem trim_app (l : List Int) (x : Int) : trim (l ++ [x]) = if x = 0 then trim l else l ++ [x] := by
  unfold trim
  rw [List.reverse_append, List.reverse_singleton, List.singleton_append]
  by_cases hz : x = 0
  · rw [if_pos hz, List.dropWhile_cons_of_pos (by simpa using hz)]
  · rw [if_neg hz, List.dropWhile_cons_of_neg (by simpa using hz)]; simp
theorem snoc_cases (l : List Int) : l = [] ∨ ∃ k x, l = k ++ [x] := by
  rcases List.eq_nil_or_concat l with h | ⟨k, x, h⟩
  · exact .inl h
  · exact .inr ⟨k, x, by simpa using h⟩
theorem snoc_ind {P : List Int → Prop} (h0 : P []) (h1 : ∀ k x, P k → P (k ++ [x])) : ∀ l, P l := by
  have : ∀ n (l : List Int), l.length = n → P l := by
    intro n
    induction n with
    | zero => intro l hl; rw [List.eq_nil_of_length_eq_zero hl]; exact h0
    | succ n ih =>
      intro l hl
      rcases snoc_cases l with rfl | ⟨k, x, rfl⟩
      · simp at hl
      · exact h1 k x (ih k (by simpa using hl))
  exact fun l => this _ l rfl
theorem trim_len (l : List Int) : (trim l).length ≤ l.length := by
  refine snoc_ind (P := fun l => (trim l).length ≤ l.length) (by simp [trim]) (fun k x ih => ?_) l
  rw [trim_app]
  split
  · simp; omega
  · simp
theorem trim_getD (l : List Int) (i : Nat) : (trim l).getD i 0 = l.getD i 0 := by
  refine snoc_ind (P := fun l => (trim l).getD i 0 = l.getD i 0) (by simp [trim]) (fun k x ih => ?_) l
  rw [trim_app]
  split
  · rename_i h
    subst h
    rw [ih]
    simp only [List.getD_eq_getElem?_getD]
    by_cases hi : i < k.length
    · rw [List.getElem?_append_left hi]
    · rw [List.getElem?_eq_none (by omega), List.getElem?_append_right (by omega)]
      cases h : i - k.length with
      | zero => simp
      | succ n => simp
  · rfl
def Td (l : List Int) : Prop := trim l = l
theorem td_trim (l : List Int) : Td (trim l) := by
  unfold Td
  refine snoc_ind (P := fun l => trim (trim l) = trim l) rfl (fun k x ih => ?_) l
  rw [trim_app]
  split
  · exact ih
  · rename_i h; rw [trim_app, if_neg h]
theorem td_last {l : List Int} (h : Td l) (hl : l ≠ []) : l.getD (l.length - 1) 0 ≠ 0 := by
  rcases snoc_cases l with rfl | ⟨k, x, rfl⟩
  · exact absurd rfl hl
  · unfold Td at h
    rw [trim_app] at h
    split at h
    · have := trim_len k
      rw [h] at this
      simp at this
      omega
    · rename_i hx
      simpa [List.getD_eq_getElem?_getD] using hx
theorem td_of_last {l : List Int} (h : l ≠ [] → l.getD (l.length - 1) 0 ≠ 0) : Td l := by
  rcases snoc_cases l with rfl | ⟨k, x, rfl⟩
  · rfl
  · have := h (by simp)
    unfold Td
    rw [trim_app, if_neg]
    simpa [List.getD_eq_getElem?_getD] using this
theorem td_ext {l m : List Int} (hl : Td l) (hm : Td m) (h : ∀ i, l.getD i 0 = m.getD i 0) : l = m := by
  have key : ∀ {l m : List Int}, Td l → (∀ i, l.getD i 0 = m.getD i 0) → l.length ≤ m.length := by
    intro l m hl h
    rcases Nat.lt_or_ge m.length l.length with hlt | hge
    · have h1 := td_last hl (by rintro rfl; simp at hlt)
      rw [h] at h1
      exact absurd (by rw [List.getD_eq_getElem?_getD, List.getElem?_eq_none (by omega)]; rfl) h1
    · exact hge
  have hlen : l.length = m.length := Nat.le_antisymm (key hl h) (key hm fun i => (h i).symm)
  refine List.ext_getElem hlen fun i h1 h2 => ?_
  have := h i
  simpa [List.getD_eq_getElem?_getD, h1, h2] using this
theorem trim_ext {l m : List Int} (h : ∀ i, l.getD i 0 = m.getD i 0) : trim l = trim m :=
  td_ext (td_trim l) (td_trim m) fun i => by rw [trim_getD, trim_getD, h]
theorem trim_len_of {l : List Int} {n : Nat} (h : ∀ i, n ≤ i → l.getD i 0 = 0) : (trim l).length ≤ n := by
  rcases Nat.lt_or_ge n (trim l).length with hlt | hge
  · have h1 := td_last (td_trim l) (by intro e; rw [e] at hlt; simp at hlt)
    rw [trim_getD] at h1
    exact absurd (h _ (by omega)) h1
  · exact hge
def Rg (p : Int) (l : List Int) : Prop := ∀ i, 0 ≤ l.getD i 0 ∧ l.getD i 0 < p
theorem Rg.trim {p : Int} {l : List Int} (h : Rg p l) : Rg p (trim l) := fun i => by rw [trim_getD]; exact h i
theorem rg_nil {p : Int} (hp : 0 < p) : Rg p [] := fun i => by simp [hp]
theorem tm {a : Int} (h : 0 ≤ a) (p : Int) : a.tmod p = a % p := Int.tmod_eq_emod_of_nonneg h
theorem md {a p : Int} (hp : 0 < p) : 0 ≤ a % p ∧ a % p < p := ⟨Int.emod_nonneg _ (by omega), Int.emod_lt_of_pos _ hp⟩
theorem em_self {a p : Int} (h : 0 ≤ a ∧ a < p) : a % p = a := Int.emod_eq_of_lt h.1 h.2
theorem getD_range_map (f : Nat → Int) (n i : Nat) : ((List.range n).map f).getD i 0 = if i < n then f i else 0 := by
  rw [List.getD_eq_getElem?_getD]
  by_cases h : i < n
  · simp [h]
  · rw [List.getElem?_eq_none (by simpa using h)]; simp [h]
def S (f g : List Int) (k : Nat) : Nat → Int
  | 0 => 0
  | a + 1 => S f g k a + (if a ≤ k then f.getD a 0 * g.getD (k - a) 0 else 0)
theorem S_stop {f g : List Int} {k : Nat} : ∀ {n m : Nat}, n ≤ m → (f.length ≤ n ∨ k < n) → S f g k m = S f g k n
  | n, 0, h, _ => by
    have e : n = 0 := by omega
    rw [e]
  | n, m + 1, h, hs => by
    by_cases e : n = m + 1
    · rw [e]
    · have ih := S_stop (f := f) (g := g) (k := k) (show n ≤ m by omega) hs
      simp only [S, ih]
      split
      · have : f.getD m 0 = 0 := by rw [List.getD_eq_getElem?_getD, List.getElem?_eq_none (by omega)]; rfl
        rw [this]; omega
      · omega
theorem S_all {f g : List Int} {k : Nat} : S f g k f.length = S f g k (k + 1) := by
  rcases Nat.le_total f.length (k + 1) with h | h
  · exact (S_stop h (.inl (Nat.le_refl _))).symm
  · exact S_stop h (.inr (by omega))
theorem S_zero {f g : List Int} {k : Nat} (h : f.length + g.length ≤ k + 1) (hg : 0 < f.length ∧ 0 < g.length ∨ f.length = 0 ∨ g.length = 0) : ∀ n, S f g k n = 0
  | 0 => rfl
  | a + 1 => by
    simp only [S, S_zero h hg a]
    split
    · by_cases ha : a < f.length
      · have : g.getD (k - a) 0 = 0 := by rw [List.getD_eq_getElem?_getD, List.getElem?_eq_none (by omega)]; rfl
        rw [this]; omega
      · have : f.getD a 0 = 0 := by rw [List.getD_eq_getElem?_getD, List.getElem?_eq_none (by omega)]; rfl
        rw [this]; omega
    · omega
def cv (f g : List Int) (p : Int) (n : Nat) : List Int := (List.range n).map fun k => S f g k (k + 1) % p
theorem cv_getD (f g : List Int) (p : Int) (n i : Nat) : (cv f g p n).getD i 0 = if i < n then S f g i (i + 1) % p else 0 := getD_range_map _ _ _
def mulP (f g : List Int) (p : Int) : List Int := trim (cv f g p (f.length + g.length))
theorem mulP_getD (f g : List Int) (p : Int) (i : Nat) : (mulP f g p).getD i 0 = S f g i (i + 1) % p := by
  unfold mulP
  rw [trim_getD, cv_getD]
  split
  · rfl
  · rename_i h
    rw [S_zero (by omega) (by omega)]; rfl
theorem mulP_rg {p : Int} (hp : 0 < p) (f g : List Int) : Rg p (mulP f g p) := fun i => by rw [mulP_getD]; exact md hp
theorem mulP_td (f g : List Int) (p : Int) : Td (mulP f g p) := td_trim _
theorem S_nil {f g : List Int} {k : Nat} (h : f.length = 0 ∨ g.length = 0) : ∀ n, S f g k n = 0
  | 0 => rfl
  | a + 1 => by
    simp only [S, S_nil h a]
    have : f.getD a 0 * g.getD (k - a) 0 = 0 := by
      rcases h with h | h
      · rw [List.eq_nil_of_length_eq_zero h]; simp
      · rw [List.eq_nil_of_length_eq_zero h]; simp
    rw [this]; simp
theorem mulP_nil {f g : List Int} (p : Int) (h : f.length = 0 ∨ g.length = 0) : mulP f g p = [] := by
  refine td_ext (mulP_td _ _ _) rfl fun i => ?_
  rw [mulP_getD, S_nil h]; simp
theorem mulP_of {f g : List Int} {p : Int} {n : Nat} (h : f.length + g.length ≤ n + 1) (h0 : 0 < f.length) (h1 : 0 < g.length) : trim (cv f g p n) = mulP f g p := by
  unfold mulP
  refine trim_ext fun i => ?_
  rw [cv_getD, cv_getD]
  by_cases h2 : i < n <;> by_cases h3 : i < f.length + g.length
  · rw [if_pos h2, if_pos h3]
  · rw [if_pos h2, if_neg h3, S_zero (by omega) (by omega)]; rfl
  · rw [if_neg h2, if_pos h3, S_zero (by omega) (by omega)]; rfl
  · rw [if_neg h2, if_neg h3]
theorem mulP_len {f g : List Int} {p : Int} : (mulP f g p).length ≤ f.length + g.length := Nat.le_trans (trim_len _) (by simp [cv])
def mw (f g : List Int) (p : Int) (n i j : Nat) : List Int := (List.range n).map fun k => (S f g k i + (if i ≤ k ∧ k - i < j then f.getD i 0 * g.getD (k - i) 0 else 0)) % p
theorem mw_len (f g : List Int) (p : Int) (n i j : Nat) : (mw f g p n i j).length = n := by simp [mw]
theorem mw_0 (f g : List Int) (p : Int) (n : Nat) : mw f g p n 0 0 = List.replicate n 0 := by
  apply List.ext_getElem <;> simp [mw, S]
theorem mw_next (f g : List Int) (p : Int) (n i : Nat) : mw f g p n i g.length = mw f g p n (i + 1) 0 := by
  unfold mw
  refine List.map_congr_left fun k _ => ?_
  simp only [S, Nat.not_lt_zero, and_false, if_false, Int.add_zero]
  by_cases h : i ≤ k
  · rw [if_pos h]
    by_cases h2 : k - i < g.length
    · rw [if_pos ⟨h, h2⟩]
    · rw [if_neg (fun hh => h2 hh.2)]
      have : g.getD (k - i) 0 = 0 := by rw [List.getD_eq_getElem?_getD, List.getElem?_eq_none (by omega)]; rfl
      rw [this, Int.mul_zero]
  · rw [if_neg h, if_neg (fun hh => h hh.1)]
theorem mw_end (f g : List Int) (p : Int) (n : Nat) : mw f g p n f.length 0 = cv f g p n := by
  unfold mw cv
  refine List.map_congr_left fun k _ => ?_
  simp only [Nat.not_lt_zero, and_false, if_false, Int.add_zero]
  rw [S_all]
theorem mw_getD {f g : List Int} {p : Int} {n i j k : Nat} (h : k < n) : (mw f g p n i j).getD k 0 = (S f g k i + (if i ≤ k ∧ k - i < j then f.getD i 0 * g.getD (k - i) 0 else 0)) % p := by
  unfold mw; rw [getD_range_map, if_pos h]
theorem mw_set {f g : List Int} {p : Int} {n i j : Nat} (hp : 0 < p) (hf : Rg p f) (hg : Rg p g) (h : i + j < n) : (mw f g p n i j).set (i + j) (((mw f g p n i j).getD (i + j) 0 + f.getD i 0 * g.getD j 0).tmod p) = mw f g p n i (j + 1) := by
  have h0 : 0 ≤ (mw f g p n i j).getD (i + j) 0 := by rw [mw_getD h]; exact (md hp).1
  rw [tm (by have := Int.mul_nonneg (hf i).1 (hg j).1; omega), mw_getD h, if_neg (by omega), Int.add_zero, Int.emod_add_emod]
  apply List.ext_getElem
  · simp [mw]
  · intro k h1 h2
    rw [List.getElem_set]
    simp only [mw, List.getElem_map, List.getElem_range]
    by_cases e : i + j = k
    · subst e
      rw [if_pos rfl, if_pos (by omega), Nat.add_sub_cancel_left]
    · rw [if_neg e]
      by_cases h3 : i ≤ k ∧ k - i < j
      · rw [if_pos h3, if_pos (by omega)]
      · rw [if_neg h3, if_neg (by omega)]
def rw_ (r g : List Int) (p k : Int) (i j : Nat) : List Int := (List.range r.length).map fun t => if i ≤ t ∧ t - i < j then (r.getD t 0 + (p - k) * g.getD (t - i) 0) % p else r.getD t 0
theorem rw_len (r g : List Int) (p k : Int) (i j : Nat) : (rw_ r g p k i j).length = r.length := by simp [rw_]
theorem rw_0 (r g : List Int) (p k : Int) (i : Nat) : rw_ r g p k i 0 = r := by
  apply List.ext_getElem
  · simp [rw_]
  · intro t h1 h2; simp [rw_, h2]
theorem rw_getD {r g : List Int} {p k : Int} {i j t : Nat} : (rw_ r g p k i j).getD t 0 = if t < r.length then (if i ≤ t ∧ t - i < j then (r.getD t 0 + (p - k) * g.getD (t - i) 0) % p else r.getD t 0) else 0 := getD_range_map _ _ _
theorem rw_rg {r g : List Int} {p k : Int} (hp : 0 < p) (hr : Rg p r) (i j : Nat) : Rg p (rw_ r g p k i j) := fun t => by
  rw [rw_getD]
  split
  · split
    · exact md hp
    · exact hr t
  · omega
theorem rw_set {r g : List Int} {p k : Int} {i j : Nat} (hr : Rg p r) (hg : Rg p g) (hk : 0 ≤ k ∧ k < p) (h : i + j < r.length) : (rw_ r g p k i j).set (i + j) (((rw_ r g p k i j).getD (i + j) 0 + (p - k) * g.getD j 0).tmod p) = rw_ r g p k i (j + 1) := by
  have h0 : (rw_ r g p k i j).getD (i + j) 0 = r.getD (i + j) 0 := by rw [rw_getD, if_pos h, if_neg (by omega)]
  rw [h0, tm (by have := Int.mul_nonneg (show 0 ≤ p - k by omega) (hg j).1; have := (hr (i + j)).1; omega)]
  apply List.ext_getElem
  · simp [rw_]
  · intro t h1 h2
    rw [List.getElem_set]
    simp only [rw_, List.getElem_map, List.getElem_range]
    by_cases e : i + j = t
    · subst e
      rw [if_pos rfl, if_pos (by omega), Nat.add_sub_cancel_left]
    · rw [if_neg e]
      by_cases h3 : i ≤ t ∧ t - i < j
      · rw [if_pos h3, if_pos (by omega)]
      · rw [if_neg h3, if_neg (by omega)]
def kd (r g : List Int) (p u : Int) (i : Nat) : Int := (r.getD (i + (g.length - 1)) 0 * u) % p
def red (r g : List Int) (p u : Int) (i : Nat) : List Int := rw_ r g p (kd r g p u i) i g.length
def dv (f g : List Int) (p u : Int) (N : Nat) : Nat → List Int
  | 0 => f
  | c + 1 => red (dv f g p u N c) g p u (N - 1 - c)
def dq (f g : List Int) (p u : Int) (N c : Nat) : List Int := (List.range N).map fun j => if N - c ≤ j then kd (dv f g p u N (N - 1 - j)) g p u j else 0
theorem dv_len (f g : List Int) (p u : Int) (N : Nat) : ∀ c, (dv f g p u N c).length = f.length
  | 0 => rfl
  | c + 1 => by simp only [dv, red, rw_len, dv_len f g p u N c]
theorem dv_rg {f g : List Int} {p u : Int} (hp : 0 < p) (hf : Rg p f) (N : Nat) : ∀ c, Rg p (dv f g p u N c)
  | 0 => hf
  | c + 1 => rw_rg hp (dv_rg hp hf N c) _ _
theorem kd_rg {r g : List Int} {p u : Int} (hp : 0 < p) (i : Nat) : 0 ≤ kd r g p u i ∧ kd r g p u i < p := md hp
theorem dq_len (f g : List Int) (p u : Int) (N c : Nat) : (dq f g p u N c).length = N := by simp [dq]
theorem dq_0 (f g : List Int) (p u : Int) (N : Nat) : dq f g p u N 0 = List.replicate N 0 := by
  apply List.ext_getElem
  · simp [dq]
  · intro j h1 h2
    simp only [dq, List.getElem_map, List.getElem_range, List.getElem_replicate]
    rw [if_neg (by simp [dq] at h1; omega)]
theorem dq_set {f g : List Int} {p u : Int} {N c : Nat} (h : c < N) : (dq f g p u N c).set (N - 1 - c) (kd (dv f g p u N c) g p u (N - 1 - c)) = dq f g p u N (c + 1) := by
  apply List.ext_getElem
  · simp [dq]
  · intro j h1 h2
    simp [dq] at h1
    rw [List.getElem_set]
    simp only [dq, List.getElem_map, List.getElem_range]
    by_cases e : N - 1 - c = j
    · subst e
      rw [if_pos rfl, if_pos (by omega), show N - 1 - (N - 1 - c) = c by omega]
    · rw [if_neg e]
      by_cases h3 : N - c ≤ j
      · rw [if_pos h3, if_pos (by omega)]
      · rw [if_neg h3, if_neg (by omega)]
theorem dq_rg {f g : List Int} {p u : Int} (hp : 0 < p) (N c : Nat) : Rg p (dq f g p u N c) := fun i => by
  unfold dq
  rw [getD_range_map]
  split
  · split
    · exact md hp
    · omega
  · omega
def quoP (f g : List Int) (p u : Int) : List Int := if f.length < g.length then [] else trim (dq f g p u (f.length - g.length + 1) (f.length - g.length + 1))
def remP (f g : List Int) (p u : Int) : List Int := if f.length < g.length then f else trim (dv f g p u (f.length - g.length + 1) (f.length - g.length + 1))
theorem quoP_rg {f g : List Int} {p u : Int} (hp : 0 < p) : Rg p (quoP f g p u) := by
  unfold quoP
  split
  · exact rg_nil hp
  · exact (dq_rg hp _ _).trim
theorem quoP_td {f g : List Int} {p u : Int} : Td (quoP f g p u) := by
  unfold quoP
  split
  · rfl
  · exact td_trim _
theorem remP_rg {f g : List Int} {p u : Int} (hp : 0 < p) (hf : Rg p f) : Rg p (remP f g p u) := by
  unfold remP
  split
  · exact hf
  · exact (dv_rg hp hf _ _).trim
theorem remP_td {f g : List Int} {p u : Int} (hf : Td f) : Td (remP f g p u) := by
  unfold remP
  split
  · exact hf
  · exact td_trim _
def Lead (g : List Int) (p u : Int) : Prop := (g.getD (g.length - 1) 0 * u) % p = 1 % p
theorem red_top {r g : List Int} {p u : Int} {i : Nat} (hp : 0 < p) (hg : 0 < g.length) (hu : Lead g p u) (hr : Rg p r) : (red r g p u i).getD (i + (g.length - 1)) 0 = 0 := by
  unfold red
  rw [rw_getD]
  split
  case isFalse => rfl
  rename_i hlt
  rw [if_pos (by omega), Nat.add_sub_cancel_left]
  unfold kd
  generalize hx : r.getD (i + (g.length - 1)) 0 = x
  unfold Lead at hu
  generalize hy : g.getD (g.length - 1) 0 = y at hu
  have h1 : (x + (p - x * u % p) * y) % p = (x + (p - x * u) * y) % p := by
    rw [Int.add_emod, Int.mul_emod, Int.sub_emod, Int.emod_emod, ← Int.sub_emod, ← Int.mul_emod, ← Int.add_emod]
  rw [h1]
  have h2 : x + (p - x * u) * y = x * (1 - y * u) + y * p := by grind
  rw [h2, Int.add_mul_emod_self_right, Int.mul_emod]
  have h3 : (1 - y * u) % p = 0 := by rw [Int.sub_emod, hu, Int.sub_self, Int.zero_emod]
  rw [h3, Int.mul_zero, Int.zero_emod]
theorem red_above {r g : List Int} {p u : Int} {i t : Nat} (h : i + g.length ≤ t) : (red r g p u i).getD t 0 = r.getD t 0 := by
  unfold red
  rw [rw_getD]
  split
  · rw [if_neg (by omega)]
  · rw [List.getD_eq_getElem?_getD, List.getElem?_eq_none (by omega)]; rfl
theorem dv_zero {f g : List Int} {p u : Int} {N : Nat} (hp : 0 < p) (hg : 0 < g.length) (hu : Lead g p u) (hf : Rg p f) (hN : f.length < N + g.length) : ∀ {c t : Nat}, c ≤ N → N - c + (g.length - 1) ≤ t → (dv f g p u N c).getD t 0 = 0
  | 0, t, _, h => by simp only [dv]; rw [List.getD_eq_getElem?_getD, List.getElem?_eq_none (by omega)]; rfl
  | c + 1, t, hc, h => by
    simp only [dv]
    by_cases e : t = N - 1 - c + (g.length - 1)
    · rw [e]; exact red_top hp hg hu (dv_rg hp hf N c)
    · rw [red_above (by omega)]
      exact dv_zero hp hg hu hf hN (by omega) (by omega)
theorem remP_len {f g : List Int} {p u : Int} (hp : 0 < p) (hg : 0 < g.length) (hu : Lead g p u) (hf : Rg p f) : (remP f g p u).length < g.length := by
  unfold remP
  split
  · assumption
  · exact Nat.lt_of_le_of_lt (trim_len_of (n := g.length - 1) fun i hi => dv_zero hp hg hu hf (by omega) (Nat.le_refl _) (by omega)) (by omega)
end Go.Proofs.Ytlnhembcfhfpkaa.M
