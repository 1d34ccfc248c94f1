/- The small machine: objects get other numbers; a row whose elements may be slices of the call's own. -/
import Derived.Test.YtlnhembcfhfpkaaMXE
namespace Go.Proofs.Ytlnhembcfhfpkaa.M
open Go.RowKit

mutual
def AV.ren (ρ : Nat → Nat) : AV → AV
  | .slice i o n => .slice (ρ i) o n
  | .ptr i j o => .ptr (ρ i) j o
  | .arr i o n => .arr (ρ i) o n
  | .agg l => .agg (renL ρ l)
  | .tup l => .tup (renL ρ l)
  | v => v
def renL (ρ : Nat → Nat) : List AV → List AV
  | [] => []
  | v :: l => v.ren ρ :: renL ρ l
end
theorem renL_eq (ρ : Nat → Nat) : ∀ l : List AV, renL ρ l = l.map (AV.ren ρ)
  | [] => by simp [renL]
  | v :: l => by simp [renL, renL_eq ρ l]
def AObj.ren (ρ : Nat → Nat) (o : AObj) : AObj := match o.cont with
  | .box v => ⟨o.T, o.sz, .box (v.ren ρ), o.frz⟩
  | _ => o
theorem AObj.ren_T (ρ : Nat → Nat) (o : AObj) : (o.ren ρ).T = o.T ∧ (o.ren ρ).sz = o.sz ∧ (o.ren ρ).frz = o.frz := by
  unfold AObj.ren; split <;> exact ⟨rfl, rfl, rfl⟩
theorem AV.ren_one (ρ : Nat → Nat) (v : AV) : (v.ren ρ).one = v.one := by
  cases v <;> simp [AV.ren, AV.one]
theorem AV.ren_cells (ρ : Nat → Nat) (v : AV) : (v.ren ρ).cells = v.cells.map (AV.ren ρ) := by
  cases v <;> simp [AV.ren, AV.cells, renL_eq]
theorem RV.ren {w : World} {N : Nat → Prop} {loc : Locs} {ρ : Nat → Nat} (hρ : ∀ i, ρ (ρ i) = i) {v : Value} {d : AV} (h : RV w N loc v d) : RV w N (fun i => loc (ρ i)) v (d.ren ρ) := by
  induction h with
  | und v => unfold AV.ren; exact .und v
  | p v d h => unfold AV.ren; exact .p v d h
  | agg cs l h1 h2 _ ih =>
    unfold AV.ren
    rw [renL_eq]
    refine .agg cs _ (by simpa using h1) (fun e he => ?_) (fun i e he => ?_)
    · simp only [List.mem_map] at he
      obtain ⟨x, hx, rfl⟩ := he
      rw [AV.ren_one]; exact h2 x hx
    · simp only [List.getElem?_map, Option.map_eq_some_iff] at he
      obtain ⟨x, hx, rfl⟩ := he
      exact ih i x hx
  | tup cs l h1 _ ih =>
    unfold AV.ren
    rw [renL_eq]
    refine .tup cs _ (by simpa using h1) (fun i e he => ?_)
    simp only [List.getElem?_map, Option.map_eq_some_iff] at he
    obtain ⟨x, hx, rfl⟩ := he
    exact ih i x hx
  | nils T sz => unfold AV.ren; exact .nils T sz
  | slice L id off len cap h1 h2 h3 h4 h5 => unfold AV.ren; exact .slice L _ off len cap (by simpa only [hρ] using h1) h2 h3 h4 h5
  | sliceEmp L id off p h1 => unfold AV.ren; exact .sliceEmp L _ off p (by simpa only [hρ] using h1)
  | arr L id off len cap h1 h2 h3 h4 h5 => unfold AV.ren; exact .arr L _ off len cap (by simpa only [hρ] using h1) h2 h3 h4 h5
  | arrEmp L id off p h1 => unfold AV.ren; exact .arrEmp L _ off p (by simpa only [hρ] using h1)
  | ptr L id i off h1 h2 => unfold AV.ren; exact .ptr L _ i off (by simpa only [hρ] using h1) h2

section
variable {w0 : World} {base : Bs} {nt : Nat} {loc : Locs} {a : Act} {w : World} {OT : List TypeId} {s : St} {ρ : Nat → Nat}

theorem Rel.ren (h : Rel w0 base nt loc s a w) (hρ : ∀ i, ρ (ρ i) = i) (hL : ρ lentId = lentId) : Rel w0 base nt (fun i => loc (ρ i)) ⟨fun t => (s.r t).ren ρ, fun j => (s.m (ρ j)).map (AObj.ren ρ)⟩ a w := by
  have hm : ∀ j o, (s.m (ρ j)).map (AObj.ren ρ) = some o → ∃ o0, s.m (ρ j) = some o0 ∧ o = o0.ren ρ := by
    intro j o ho
    simp only [Option.map_eq_some_iff] at ho
    obtain ⟨x, hx, rfl⟩ := ho
    exact ⟨x, hx, rfl⟩
  have hN : NB base (fun j => (s.m (ρ j)).map (AObj.ren ρ)) (fun i => loc (ρ i)) w = NB base s.m loc w := by
    funext b
    refine propext ⟨fun ⟨h1, h2, h3⟩ => ⟨h1, h2, ?_⟩, fun ⟨h1, h2, h3⟩ => ⟨h1, h2, ?_⟩⟩
    · rintro ⟨id, o, L, g1, g2, g3, g4, g5⟩
      exact h3 ⟨ρ id, o.ren ρ, L, by simp only [hρ, g1, Option.map_some], by rw [(o.ren_T ρ).2.2]; exact g2, by simp only [hρ]; exact g3, g4, g5⟩
    · rintro ⟨id, o, L, g1, g2, g3, g4, g5⟩
      obtain ⟨o0, k1, rfl⟩ := hm id o g1
      exact h3 ⟨ρ id, o0, L, k1, by rw [(o0.ren_T ρ).2.2] at g2; exact g2, g3, g4, g5⟩
  refine ⟨h.ext, h.defers, h.size, h.low, fun j hj => ?_, fun t => ?_, fun j o ho => ?_, fun j j' o o' L L' ho ho' hf hLj hLj' hn hn' hb => ?_, fun L hB => ?_⟩
  · dsimp only at hj
    simp only [Option.map_eq_none_iff] at hj
    exact h.dom _ hj
  · rw [hN]; exact (h.tmps t).ren hρ
  · obtain ⟨o0, k1, rfl⟩ := hm j o ho
    obtain ⟨L, hL1, hok⟩ := h.objs _ _ k1
    obtain ⟨e1, e2, e3⟩ := o0.ren_T ρ
    refine ⟨L, hL1, by rw [e2]; exact hok.sz, fun hn => ?_, fun hn => ?_⟩
    · have := hok.nil hn
      unfold AObj.ren
      rw [this]; exact this
    · obtain ⟨c, fr, q1, q2, q3, q4, q5⟩ := hok.at_ hn
      rw [e1, e2, e3, hN]
      refine ⟨c, fr, q1, q2, ?_, q4, q5⟩
      unfold AObj.ren
      cases hc : o0.cont with
      | row l => rw [hc] at q3; simp only [hc]; exact q3
      | junk => rw [hc] at q3; simp only [hc]; exact q3
      | box v =>
        rw [hc] at q3
        obtain ⟨m1, m2, m3, m4⟩ := q3
        refine ⟨m1, by rw [AV.ren_cells]; simpa using m2, fun e he => ?_, fun i e he => ?_⟩
        · rw [AV.ren_cells] at he
          simp only [List.mem_map] at he
          obtain ⟨x, hx, rfl⟩ := he
          rw [AV.ren_one]; exact m3 x hx
        · rw [AV.ren_cells] at he
          simp only [List.getElem?_map, Option.map_eq_some_iff] at he
          obtain ⟨x, hx, rfl⟩ := he
          exact (m4 i x hx).ren hρ
  · obtain ⟨o0, k1, rfl⟩ := hm j o ho
    obtain ⟨o1, k2, rfl⟩ := hm j' o' ho'
    have := h.inj (ρ j) (ρ j') o0 o1 L L' k1 k2 (by rw [(o0.ren_T ρ).2.2] at hf; exact hf) hLj hLj' hn hn' hb
    have := congrArg ρ this
    simpa only [hρ] using this
  · obtain ⟨h1, h2, h3, o, h4, h5⟩ := h.keepL L hB
    exact ⟨by simp only [hL]; exact h1, h2, h3, o.ren ρ, by simp only [hL, h4, Option.map_some], by rw [(o.ren_T ρ).2.2]; exact h5⟩

theorem Sub.renF (hρ : ∀ i, ρ (ρ i) = i) (hL : ρ lentId = lentId) : Sub OT s ⟨fun t => (s.r t).ren ρ, fun j => (s.m (ρ j)).map (AObj.ren ρ)⟩ := by
  rintro C a w rfl ⟨⟨loc, hr⟩, h2⟩
  refine ⟨⟨_, hr.ren hρ hL⟩, fun j o ho => ?_⟩
  simp only [Option.map_eq_some_iff] at ho
  obtain ⟨x, hx, rfl⟩ := ho
  rw [(x.ren_T ρ).1]
  exact h2 _ _ hx
end
def rnR (ρ : Nat → Nat) : List (Nat × AV) → List (Nat × AV)
  | [] => []
  | (i, v) :: l => (i, v.ren ρ) :: rnR ρ l
def rnM (ρ : Nat → Nat) : List (Nat × AObj) → List (Nat × AObj)
  | [] => []
  | (i, o) :: l => (ρ i, o.ren ρ) :: rnM ρ l
theorem rnR_look (ρ : Nat → Nat) : ∀ (l : List (Nat × AV)) (t : Nat), look (rnR ρ l) t = (look l t).ren ρ
  | [], t => by rw [rnR, look_nil]; simp [AV.ren]
  | (i, v) :: l, t => by
    rw [rnR, look_cons, look_cons]
    split
    · rfl
    · exact rnR_look ρ l t
theorem rnM_look (ρ : Nat → Nat) (hρ : ∀ i, ρ (ρ i) = i) : ∀ (l : List (Nat × AObj)) (j : Nat), lookM (rnM ρ l) j = (lookM l (ρ j)).map (AObj.ren ρ)
  | [], j => by rw [rnM, lookM_nil, lookM_nil]; rfl
  | (i, o) :: l, j => by
    rw [rnM, lookM_cons, lookM_cons, rnM_look ρ hρ l j]
    by_cases e : j = ρ i
    · rw [if_pos e, if_pos (by rw [e, hρ])]; rfl
    · rw [if_neg e, if_neg (fun h => e (by rw [← h, hρ]))]
theorem Sub.ren {OT : List TypeId} {R : List (Nat × AV)} {M : List (Nat × AObj)} {ρ : Nat → Nat} (hρ : ∀ i, ρ (ρ i) = i) (hL : ρ lentId = lentId) : Sub OT ⟨look R, lookM M⟩ ⟨look (rnR ρ R), lookM (rnM ρ M)⟩ := by
  have h : (⟨look (rnR ρ R), lookM (rnM ρ M)⟩ : St) = ⟨fun t => (look R t).ren ρ, fun j => (lookM M (ρ j)).map (AObj.ren ρ)⟩ := by
    congr 1
    · funext t; exact rnR_look ρ R t
    · funext j; exact rnM_look ρ hρ M j
  rw [h]
  exact Sub.renF hρ hL
/-- Numbers below 100000 change places with those from K on. -/
def swp (K i : Nat) : Nat := if i < 100000 then i + K else if K ≤ i ∧ i < K + 100000 then i - K else i
theorem swp_swp {K : Nat} (hK : 1000000 ≤ K) (i : Nat) : swp K (swp K i) = i := by
  unfold swp
  by_cases h1 : i < 100000
  · rw [if_pos h1, if_neg (by omega), if_pos (by omega)]; omega
  · rw [if_neg h1]
    by_cases h2 : K ≤ i ∧ i < K + 100000
    · rw [if_pos h2, if_pos (by omega)]; omega
    · rw [if_neg h2, if_neg h1, if_neg h2]
theorem swp_lent {K : Nat} (hK : 1000000 ≤ K) : swp K lentId = lentId := by
  unfold swp lentId
  rw [if_neg (by decide), if_neg (by omega)]

/-! A row as a box of so many cells. -/
mutual
def AV.bx (id : Nat) : AV → AV
  | .slice i o n => if i = id then .arr i o n else .slice i o n
  | .ptr i j o => if i = id then .ptr i 0 (j + o) else .ptr i j o
  | .arr i o n => if i = id then .und else .arr i o n
  | .agg l => .agg (bxL id l)
  | .tup l => .tup (bxL id l)
  | v => v
def bxL (id : Nat) : List AV → List AV
  | [] => []
  | v :: l => v.bx id :: bxL id l
end
theorem bxL_eq (id : Nat) : ∀ l : List AV, bxL id l = l.map (AV.bx id)
  | [] => by simp [bxL]
  | v :: l => by simp [bxL, bxL_eq id l]
def AObj.bx (id : Nat) (o : AObj) : AObj := match o.cont with
  | .box v => ⟨o.T, o.sz, .box (v.bx id), o.frz⟩
  | _ => o
theorem AObj.bx_T (id : Nat) (o : AObj) : (o.bx id).T = o.T ∧ (o.bx id).sz = o.sz ∧ (o.bx id).frz = o.frz := by
  unfold AObj.bx; split <;> exact ⟨rfl, rfl, rfl⟩
mutual
/-- Is no value of it a slice of object id's box (that is, an array's)? -/
def AV.noArr (id : Nat) : AV → Bool
  | .arr i _ _ => !(i == id)
  | .agg l => noArrL id l
  | .tup l => noArrL id l
  | _ => true
def noArrL (id : Nat) : List AV → Bool
  | [] => true
  | v :: l => v.noArr id && noArrL id l
end
theorem noArrL_mem {id : Nat} : ∀ {l : List AV}, noArrL id l = true → ∀ v ∈ l, v.noArr id = true
  | [], _, v, hv => by cases hv
  | u :: l, h, v, hv => by
    simp only [noArrL, Bool.and_eq_true] at h
    rcases List.mem_cons.1 hv with rfl | hv
    · exact h.1
    · exact noArrL_mem h.2 v hv
theorem AV.bx_one {id : Nat} {v : AV} (h : v.noArr id = true) : (v.bx id).one = v.one := by
  cases v <;> simp only [AV.bx] <;> (try rfl)
  all_goals (split <;> (try rfl))
  rename_i e
  simp [AV.noArr, e] at h
theorem AV.bx_cells {id : Nat} {v : AV} (h : v.noArr id = true) : (v.bx id).cells = v.cells.map (AV.bx id) := by
  cases v <;> simp only [AV.bx, AV.cells, bxL_eq] <;> (try rfl)
  case p d => simp [AV.bx]
  case tup l => simp [AV.bx, bxL_eq]
  case slice i o n => by_cases e : i = id <;> simp [AV.bx, e]
  case ptr i o n => by_cases e : i = id <;> simp [AV.bx, e]
  case arr i o n =>
    have e : i ≠ id := by simpa [AV.noArr] using h
    simp [AV.bx, e]
  all_goals simp [AV.bx]
theorem AV.noArr_cells {id : Nat} {v : AV} (h : v.noArr id = true) : ∀ e ∈ v.cells, e.noArr id = true := by
  cases v <;> simp only [AV.cells] <;> intro e he
  case p d =>
    simp only [List.mem_map] at he
    obtain ⟨x, hx, rfl⟩ := he
    simp [AV.noArr]
  case agg l => simp only [AV.noArr] at h; exact noArrL_mem h e he
  all_goals (simp only [List.mem_singleton] at he; subst he; exact h)
theorem RV.bx {w : World} {N : Nat → Prop} {loc : Locs} {id : Nat} {L0 : Loc} (h0 : loc id = some L0) (hs0 : L0.sz = 1) {n : Nat} {v : Value} {d : AV} (h : RV w N loc v d) (hd : d.noArr id = true) : RV w N (upd loc id (some ⟨L0.b, L0.o, L0.n, n, false⟩)) v (d.bx id) := by
  have hne : ∀ j L, j ≠ id → loc j = some L → upd loc id (some ⟨L0.b, L0.o, L0.n, n, false⟩) j = some L := fun j L hj hL => by rw [upd_ne _ _ hj]; exact hL
  induction h with
  | und v => unfold AV.bx; exact .und v
  | p v d h => unfold AV.bx; exact .p v d h
  | agg cs l h1 h2 _ ih =>
    unfold AV.bx
    simp only [AV.noArr] at hd
    rw [bxL_eq]
    refine .agg cs _ (by simpa using h1) (fun e he => ?_) (fun i e he => ?_)
    · simp only [List.mem_map] at he
      obtain ⟨x, hx, rfl⟩ := he
      rw [AV.bx_one (noArrL_mem hd x hx)]; exact h2 x hx
    · simp only [List.getElem?_map, Option.map_eq_some_iff] at he
      obtain ⟨x, hx, rfl⟩ := he
      exact ih i x hx (noArrL_mem hd x (List.mem_of_getElem? hx))
  | tup cs l h1 _ ih =>
    unfold AV.bx
    simp only [AV.noArr] at hd
    rw [bxL_eq]
    refine .tup cs _ (by simpa using h1) (fun i e he => ?_)
    simp only [List.getElem?_map, Option.map_eq_some_iff] at he
    obtain ⟨x, hx, rfl⟩ := he
    exact ih i x hx (noArrL_mem hd x (List.mem_of_getElem? hx))
  | nils T sz => unfold AV.bx; exact .nils T sz
  | slice L i off len cap h1 h2 h3 h4 h5 =>
    unfold AV.bx
    split
    · rename_i e
      subst e
      rw [h0] at h1
      cases h1
      have := RV.arr (w := w) (N := N) (loc := upd loc i (some ⟨L0.b, L0.o, L0.n, n, false⟩)) ⟨L0.b, L0.o, L0.n, n, false⟩ i off len cap (upd_same _ _ _) rfl h3 h4 (by rw [hs0] at h5; simpa using h5)
      rw [hs0, Nat.mul_one]
      exact this
    · rename_i e; exact .slice L i off len cap (hne _ _ e h1) h2 h3 h4 h5
  | sliceEmp L i off p h1 =>
    unfold AV.bx
    split
    · rename_i e
      subst e
      exact .arrEmp ⟨L0.b, L0.o, L0.n, n, false⟩ i off p (upd_same _ _ _)
    · rename_i e; exact .sliceEmp L i off p (hne _ _ e h1)
  | arr L i off len cap h1 h2 h3 h4 h5 =>
    simp only [AV.noArr, Bool.not_eq_true', beq_eq_false_iff_ne, ne_eq] at hd
    unfold AV.bx
    rw [if_neg hd]
    exact .arr L i off len cap (hne _ _ hd h1) h2 h3 h4 h5
  | arrEmp L i off p h1 =>
    simp only [AV.noArr, Bool.not_eq_true', beq_eq_false_iff_ne, ne_eq] at hd
    unfold AV.bx
    rw [if_neg hd]
    exact .arrEmp L i off p (hne _ _ hd h1)
  | ptr L i j off h1 h2 =>
    unfold AV.bx
    split
    · rename_i e
      subst e
      rw [h0] at h1
      cases h1
      have := RV.ptr (w := w) (N := N) (loc := upd loc i (some ⟨L0.b, L0.o, L0.n, n, false⟩)) ⟨L0.b, L0.o, L0.n, n, false⟩ i 0 (j + off) (upd_same _ _ _) rfl
      rw [hs0, Nat.mul_one]
      simpa using this
    · rename_i e; exact .ptr L i j off (hne _ _ e h1) h2

section
variable {w0 : World} {base : Bs} {nt : Nat} {loc : Locs} {a : Act} {w : World} {OT : List TypeId} {s : St}

theorem Rel.bx (h : Rel w0 base nt loc s a w) {id : Nat} {T : TypeId} {l : List D} (hid : id ≠ lentId) (hm : s.m id = some ⟨T, 1, .row l, false⟩) (hl : l ≠ []) (h1 : l.all D.one = true) (hr : ∀ t, (s.r t).noArr id = true)
    (hb : ∀ j o v, s.m j = some o → o.cont = .box v → v.noArr id = true) :
    ∃ loc', Rel w0 base nt loc' ⟨fun t => (s.r t).bx id, fun j => if j = id then some ⟨T, l.length, .box (.agg (l.map .p)), false⟩ else (s.m j).map (AObj.bx id)⟩ a w := by
  obtain ⟨L0, hL0, hok0⟩ := h.objs id _ hm
  have hn0 : L0.nil = false := by
    cases e : L0.nil with
    | false => rfl
    | true => have := hok0.nil e; simp only [Cont.row.injEq] at this; exact absurd this hl
  have hs0 : L0.sz = 1 := hok0.sz
  obtain ⟨c0, fr0, z1, z2, z3, z4, -⟩ := hok0.at_ hn0
  have hlocne : ∀ j, j ≠ id → upd loc id (some (⟨L0.b, L0.o, L0.n, l.length, false⟩ : Loc)) j = loc j := fun j hj => upd_ne _ _ hj
  have hmm : ∀ j o, (if j = id then some (⟨T, l.length, .box (.agg (l.map .p)), false⟩ : AObj) else (s.m j).map (AObj.bx id)) = some o → (j = id ∧ o = ⟨T, l.length, .box (.agg (l.map .p)), false⟩) ∨ (j ≠ id ∧ ∃ o0, s.m j = some o0 ∧ o = o0.bx id) := by
    intro j o ho
    by_cases e : j = id
    · rw [if_pos e] at ho; cases ho; exact .inl ⟨e, rfl⟩
    · rw [if_neg e] at ho
      simp only [Option.map_eq_some_iff] at ho
      obtain ⟨x, hx, rfl⟩ := ho
      exact .inr ⟨e, x, hx, rfl⟩
  have hN : NB base (fun j => if j = id then some (⟨T, l.length, .box (.agg (l.map .p)), false⟩ : AObj) else (s.m j).map (AObj.bx id)) (upd loc id (some ⟨L0.b, L0.o, L0.n, l.length, false⟩)) w = NB base s.m loc w := by
    funext b
    refine propext ⟨fun ⟨h1, h2, h3⟩ => ⟨h1, h2, ?_⟩, fun ⟨h1, h2, h3⟩ => ⟨h1, h2, ?_⟩⟩
    · rintro ⟨j, o, L, g1, g2, g3, g4, g5⟩
      by_cases e : j = id
      · subst e
        rw [hL0] at g3
        cases g3
        exact h3 ⟨j, _, ⟨L0.b, L0.o, L0.n, l.length, false⟩, if_pos rfl, rfl, upd_same _ _ _, rfl, g5⟩
      · exact h3 ⟨j, o.bx id, L, by dsimp only; rw [if_neg e, g1]; rfl, by rw [(o.bx_T id).2.2]; exact g2, by rw [hlocne _ e]; exact g3, g4, g5⟩
    · rintro ⟨j, o, L, g1, g2, g3, g4, g5⟩
      rcases hmm j o g1 with ⟨rfl, rfl⟩ | ⟨e, o0, k1, rfl⟩
      · rw [upd_same] at g3
        cases g3
        exact h3 ⟨j, _, L0, hm, rfl, hL0, hn0, g5⟩
      · rw [hlocne _ e] at g3
        exact h3 ⟨j, o0, L, k1, by rw [(o0.bx_T id).2.2] at g2; exact g2, g3, g4, g5⟩
  refine ⟨upd loc id (some ⟨L0.b, L0.o, L0.n, l.length, false⟩), h.ext, h.defers, h.size, h.low, fun j hj => ?_, fun t => ?_, fun j o ho => ?_, fun j j' o o' L L' ho ho' hf hLj hLj' hn hn' hb' => ?_, fun L hB => ?_⟩
  · dsimp only at hj
    by_cases e : j = id
    · rw [if_pos e] at hj; cases hj
    · rw [if_neg e] at hj
      simp only [Option.map_eq_none_iff] at hj
      rw [hlocne _ e]
      exact h.dom _ hj
  · rw [hN]; exact (h.tmps t).bx hL0 hs0 (hr t)
  · rcases hmm j o ho with ⟨rfl, rfl⟩ | ⟨e, o0, k1, rfl⟩
    · refine ⟨_, upd_same _ _ _, rfl, fun hh => (by cases hh), fun _ => ⟨c0, fr0, z1, z2, ?_, fun _ => z4 rfl, fun hh => (by cases hh)⟩⟩
      rw [hN]
      obtain ⟨m1, m2, m3⟩ := z3
      refine ⟨by simpa using m1, by simp [AV.cells], fun e he => ?_, fun i e he => ?_⟩
      · simp only [AV.cells, List.mem_map] at he
        obtain ⟨x, hx, rfl⟩ := he
        exact List.all_eq_true.1 h1 x hx
      · simp only [AV.cells, List.getElem?_map, Option.map_eq_some_iff] at he
        obtain ⟨x, hx, rfl⟩ := he
        have ho1 : x.one = true := List.all_eq_true.1 h1 x (List.mem_of_getElem? hx)
        have hxc : x.cells = [x] := by cases x <;> first | rfl | (simp [D.one] at ho1)
        have := (m3 i x 0 x hx (by rw [hxc]; rfl)).2
        exact .p _ _ (by simpa using this)
    · obtain ⟨L, hL1, hok⟩ := h.objs _ _ k1
      obtain ⟨e1, e2, e3⟩ := o0.bx_T id
      refine ⟨L, by rw [hlocne _ e]; exact hL1, by rw [e2]; exact hok.sz, fun hn => ?_, fun hn => ?_⟩
      · have := hok.nil hn
        unfold AObj.bx
        rw [this]; exact this
      · obtain ⟨c, fr, q1, q2, q3, q4, q5⟩ := hok.at_ hn
        rw [e1, e2, e3, hN]
        refine ⟨c, fr, q1, q2, ?_, q4, q5⟩
        unfold AObj.bx
        cases hc : o0.cont with
        | row l => rw [hc] at q3; simp only [hc]; exact q3
        | junk => rw [hc] at q3; simp only [hc]; exact q3
        | box v =>
          have hv := hb j o0 v k1 hc
          rw [hc] at q3
          obtain ⟨m1, m2, m3, m4⟩ := q3
          refine ⟨m1, by rw [AV.bx_cells hv]; simpa using m2, fun e he => ?_, fun i e he => ?_⟩
          · rw [AV.bx_cells hv] at he
            simp only [List.mem_map] at he
            obtain ⟨x, hx, rfl⟩ := he
            rw [AV.bx_one (AV.noArr_cells hv x hx)]; exact m3 x hx
          · rw [AV.bx_cells hv] at he
            simp only [List.getElem?_map, Option.map_eq_some_iff] at he
            obtain ⟨x, hx, rfl⟩ := he
            exact (m4 i x hx).bx hL0 hs0 (AV.noArr_cells hv x (List.mem_of_getElem? hx))
  · have key : ∀ j o L, (if j = id then some (⟨T, l.length, .box (.agg (l.map .p)), false⟩ : AObj) else (s.m j).map (AObj.bx id)) = some o → upd loc id (some ⟨L0.b, L0.o, L0.n, l.length, false⟩) j = some L → L.nil = false → ∃ o0 L1, s.m j = some o0 ∧ loc j = some L1 ∧ L1.nil = false ∧ L1.b = L.b ∧ o0.frz = o.frz := by
      intro j o L g1 g2 g3
      rcases hmm j o g1 with ⟨rfl, rfl⟩ | ⟨e, o0, k1, rfl⟩
      · rw [upd_same] at g2
        cases g2
        exact ⟨_, L0, hm, hL0, hn0, rfl, rfl⟩
      · rw [hlocne _ e] at g2
        exact ⟨o0, L, k1, g2, g3, rfl, ((o0.bx_T id).2.2).symm⟩
    obtain ⟨o0, L1, x1, x2, x3, x4, x5⟩ := key j o L ho hLj hn
    obtain ⟨o1, L2, y1, y2, y3, y4, y5⟩ := key j' o' L' ho' hLj' hn'
    exact h.inj j j' o0 o1 L1 L2 x1 y1 (x5.trans hf) x2 y2 x3 y3 (by rw [x4, y4]; exact hb')
  · obtain ⟨h1, h2, h3, o, h4, h5⟩ := h.keepL L hB
    have e : lentId ≠ id := fun e => hid e.symm
    exact ⟨by rw [hlocne _ e]; exact h1, h2, h3, o.bx id, by simp only [if_neg e, h4, Option.map_some], by rw [(o.bx_T id).2.2]; exact h5⟩
end
def bxR (id : Nat) : List (Nat × AV) → List (Nat × AV)
  | [] => []
  | (i, v) :: l => (i, v.bx id) :: bxR id l
def bxM (id : Nat) (ob : AObj) : List (Nat × AObj) → List (Nat × AObj)
  | [] => []
  | (i, o) :: l => (i, if i = id then ob else o.bx id) :: bxM id ob l
def noArrR (id : Nat) : List (Nat × AV) → Bool
  | [] => true
  | (_, v) :: l => v.noArr id && noArrR id l
def noArrM (id : Nat) : List (Nat × AObj) → Bool
  | [] => true
  | (_, o) :: l => (match o.cont with | .box v => v.noArr id | _ => true) && noArrM id l
theorem bxR_look (id : Nat) : ∀ (l : List (Nat × AV)) (t : Nat), look (bxR id l) t = (look l t).bx id
  | [], t => by rw [bxR, look_nil]; simp [AV.bx]
  | (i, v) :: l, t => by
    rw [bxR, look_cons, look_cons]
    split
    · rfl
    · exact bxR_look id l t
theorem bxM_look (id : Nat) (ob : AObj) : ∀ (l : List (Nat × AObj)) (j : Nat), (lookM l id).isSome = true → lookM (bxM id ob l) j = if j = id then some ob else (lookM l j).map (AObj.bx id)
  | [], j, h => by rw [lookM_nil] at h; cases h
  | (i, o) :: l, j, h => by
    have other : j ≠ id → lookM (bxM id ob l) j = (lookM l j).map (AObj.bx id) := by
      intro hj
      clear h
      induction l with
      | nil => rfl
      | cons p l ih =>
        obtain ⟨i, o⟩ := p
        rw [bxM, lookM_cons, lookM_cons, ih]
        by_cases e : j = i
        · rw [if_pos e, if_pos e, if_neg (by rw [← e]; exact hj)]; rfl
        · rw [if_neg e, if_neg e]
    rw [bxM, lookM_cons]
    by_cases e : j = i
    · rw [if_pos e, lookM_cons, if_pos e]
      subst e
      by_cases e2 : j = id
      · rw [if_pos e2, if_pos e2]
      · rw [if_neg e2, if_neg e2]; rfl
    · rw [if_neg e, lookM_cons, if_neg e]
      by_cases e2 : j = id
      · subst e2
        rw [lookM_cons, if_neg e] at h
        rw [bxM_look j ob l j h, if_pos rfl]
      · rw [other e2, if_neg e2]
theorem noArrR_look {id : Nat} : ∀ {l : List (Nat × AV)} (t : Nat), noArrR id l = true → (look l t).noArr id = true
  | [], t, _ => by rw [look_nil]; simp [AV.noArr]
  | (i, v) :: l, t, h => by
    simp only [noArrR, Bool.and_eq_true] at h
    rw [look_cons]
    split
    · exact h.1
    · exact noArrR_look t h.2
theorem noArrM_look {id : Nat} : ∀ {l : List (Nat × AObj)} {j : Nat} {o : AObj} {v : AV}, noArrM id l = true → lookM l j = some o → o.cont = .box v → v.noArr id = true
  | [], j, o, v, _, h, _ => by rw [lookM_nil] at h; cases h
  | (i, q) :: l, j, o, v, h, ho, hc => by
    simp only [noArrM, Bool.and_eq_true] at h
    rw [lookM_cons] at ho
    split at ho
    · cases ho; have := h.1; rw [hc] at this; exact this
    · exact noArrM_look h.2 ho hc
/-- A row is from here on a box of so many cells (so its elements may be slices of the call's own). -/
theorem Sub.bx {OT : List TypeId} {R : List (Nat × AV)} {M : List (Nat × AObj)} (id : Nat) {T : TypeId} {l : List D} (hid : id ≠ lentId) (hm : lookM M id = some ⟨T, 1, .row l, false⟩) (hl : l ≠ []) (h1 : l.all D.one = true) (hr : noArrR id R = true) (hb : noArrM id M = true) :
    Sub OT ⟨look R, lookM M⟩ ⟨look (bxR id R), lookM (bxM id ⟨T, l.length, .box (.agg (l.map .p)), false⟩ M)⟩ := by
  have h : (⟨look (bxR id R), lookM (bxM id ⟨T, l.length, .box (.agg (l.map .p)), false⟩ M)⟩ : St) = ⟨fun t => (look R t).bx id, fun j => if j = id then some ⟨T, l.length, .box (.agg (l.map .p)), false⟩ else (lookM M j).map (AObj.bx id)⟩ := by
    congr 1
    · funext t; exact bxR_look id R t
    · funext j; exact bxM_look id _ M j (by rw [hm]; rfl)
  rw [h]
  rintro C a w rfl ⟨⟨loc, hrel⟩, h2⟩
  refine ⟨hrel.bx hid hm hl h1 (fun t => noArrR_look t hr) (fun j o v ho hc => noArrM_look hb ho hc), fun j o ho => ?_⟩
  dsimp only at ho
  split at ho
  · cases ho; exact h2 id (⟨T, 1, .row l, false⟩ : AObj) hm
  · simp only [Option.map_eq_some_iff] at ho
    obtain ⟨x, hx, rfl⟩ := ho
    rw [(x.bx_T id).1]
    exact h2 _ _ hx

end Go.Proofs.Ytlnhembcfhfpkaa.M
