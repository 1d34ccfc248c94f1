/- The small machine: a matrix: a box whose cells are slices of the call's own, so many as there are rows (their objects bear the numbers from 1000000 on). -/
import Derived.Test.YtlnhembcfhfpkaaMXGx
namespace Go.Proofs.Ytlnhembcfhfpkaa.M
open Go.RowKit
set_option linter.defProp false
set_option linter.unusedSimpArgs false
def lookX (T : TypeId) (b : Nat) (M : List (List Int)) (l : List (Nat × AObj)) : Mem := fun j => if 1000000 ≤ j ∧ j < 1000000 + M.length then some ⟨T, 1, .row ((M.getD (j - 1000000) []).map (D.int .i64)), decide (j - 1000000 < b)⟩ else lookM l j
theorem lx_nil (T : TypeId) (b : Nat) (l : List (Nat × AObj)) : lookM l = lookX T b [] l := by
  funext j
  unfold lookX
  rw [if_neg (fun h => by have := h.2; simp at this; omega)]
theorem lx_lo {T : TypeId} {b : Nat} {M : List (List Int)} {l : List (Nat × AObj)} {j : Nat} (h : j < 1000000) : lookX T b M l j = lookM l j := by
  unfold lookX
  rw [if_neg (by omega)]
theorem lx_hi {T : TypeId} {M : List (List Int)} {l : List (Nat × AObj)} {i : Nat} (h : i < M.length) : lookX T 0 M l (1000000 + i) = some ⟨T, 1, .row ((M.getD i []).map (D.int .i64)), false⟩ := by
  unfold lookX
  rw [if_pos (by omega), Nat.add_sub_cancel_left]
  simp
theorem lx_fz {T : TypeId} {b : Nat} {M : List (List Int)} {l : List (Nat × AObj)} {i : Nat} (h : i < M.length) (hb : i < b) : lookX T b M l (1000000 + i) = some ⟨T, 1, .row ((M.getD i []).map (D.int .i64)), true⟩ := by
  unfold lookX
  rw [if_pos (by omega), Nat.add_sub_cancel_left, decide_eq_true hb]
theorem lu_lo {T : TypeId} {b : Nat} {M : List (List Int)} {l : List (Nat × AObj)} {j : Nat} {v : AObj} (h : j < 1000000) : upd (lookX T b M l) j (some v) = lookX T b M (setM j v l) := by
  funext i
  unfold lookX
  rw [← upd_lookM]
  simp only [upd]
  by_cases e : i = j
  · rw [if_pos e, if_neg (by omega), if_pos e]
  · rw [if_neg e, if_neg e]
theorem lu_hi {T : TypeId} {M : List (List Int)} {l : List (Nat × AObj)} {i : Nat} {r : List Int} (h : i < M.length) : upd (lookX T 0 M l) (1000000 + i) (some ⟨T, 1, .row (r.map (D.int .i64)), false⟩) = lookX T 0 (M.set i r) l := by
  funext j
  unfold lookX
  simp only [upd, List.length_set]
  by_cases e : j = 1000000 + i
  · subst e
    rw [if_pos rfl, if_pos (by omega), Nat.add_sub_cancel_left]
    simp [h]
  · rw [if_neg e]
    by_cases e2 : 1000000 ≤ j ∧ j < 1000000 + M.length
    · rw [if_pos e2, if_pos e2]
      have : (M.set i r).getD (j - 1000000) [] = M.getD (j - 1000000) [] := by
        simp only [List.getD_eq_getElem?_getD, List.getElem?_set]
        rw [if_neg (by omega)]
      rw [this]
    · rw [if_neg e2, if_neg e2]
theorem lf_X (T : TypeId) (b : Nat) (M : List (List Int)) (l : List (Nat × AObj)) (i : Nat) : forgetM i (lookX T b M l) = lookX T b M (fgM i l) := by
  funext j
  have h := congrFun (forgetM_look i l) j
  simp only [forgetM] at h ⊢
  unfold lookX
  split
  · rfl
  · exact h
def sw1 (a b i : Nat) : Nat := if i = a then b else if i = b then a else i
theorem sw1_sw1 (a b i : Nat) : sw1 a b (sw1 a b i) = i := by
  unfold sw1
  by_cases h1 : i = a
  · rw [if_pos h1]
    by_cases h2 : b = a
    · rw [if_pos h2]; omega
    · rw [if_neg h2, if_pos rfl]; omega
  · rw [if_neg h1]
    by_cases h2 : i = b
    · rw [if_pos h2, if_pos rfl]; omega
    · rw [if_neg h2, if_neg h1, if_neg h2]
theorem sw1_ne {a b i : Nat} (h1 : i ≠ a) (h2 : i ≠ b) : sw1 a b i = i := by unfold sw1; rw [if_neg h1, if_neg h2]
theorem sw1_l (a b : Nat) : sw1 a b a = b := by unfold sw1; rw [if_pos rfl]
theorem sw1_r (a b : Nat) : sw1 a b b = a := by
  unfold sw1
  by_cases h : b = a
  · rw [if_pos h, h]
  · rw [if_neg h, if_pos rfl]
def renO (ρ : Nat → Nat) : List (Nat × AObj) → List (Nat × AObj)
  | [] => []
  | (i, o) :: l => (i, o.ren ρ) :: renO ρ l
theorem renO_look (ρ : Nat → Nat) : ∀ (l : List (Nat × AObj)) (j : Nat), lookM (renO ρ l) j = (lookM l j).map (AObj.ren ρ)
  | [], j => by rw [renO, lookM_nil]; rfl
  | (i, o) :: l, j => by
    rw [renO, lookM_cons, lookM_cons, renO_look ρ l j]
    split <;> rfl
section
variable {OT : List TypeId} {T : TypeId} {M : List (List Int)} {R : List (Nat × AV)} {l : List (Nat × AObj)}
theorem Sub.toX (b : Nat) (ts L : List Nat) (h1 : closedR L (sel (look R) ts) = true) (h2 : closedM L l = true) (h3 : L.all (fun x => decide (x < 1000000)) = true) : Sub OT ⟨look R, lookX T b M l⟩ ⟨look (sel (look R) ts), lookX T b M (delL L l)⟩ := by
  have hL : ∀ i, 1000000 ≤ i → L.contains i = false := fun i hi => by
    cases e : L.contains i with
    | false => rfl
    | true =>
      have := List.all_eq_true.1 h3 i (by simpa using e)
      simp at this; omega
  refine (Sub.und (sel_or ts)).tr (Sub.dropL L (fun t => .inr ⟨rfl, look_closed t h1⟩) (fun i => ?_) (fun i o ho => ?_) (closedM_lent h2))
  · unfold lookX
    by_cases e : 1000000 ≤ i ∧ i < 1000000 + M.length
    · rw [if_pos e, if_pos e, hL i e.1]; rfl
    · rw [if_neg e, if_neg e, lookM_del]
  · unfold lookX at ho
    split at ho
    · cases ho; rfl
    · exact lookM_closed i o h2 ho
theorem Sub.pushX (i : Nat) {r : List Int} (hi : i < 999999) (hli : lookM l i = some ⟨T, 1, .row (r.map (D.int .i64)), false⟩) (hl : ∀ j, 1000000 ≤ j → lookM l j = none) :
    Sub OT ⟨look R, lookX T 0 M l⟩ ⟨look (rnR (sw1 i (1000000 + M.length)) R), lookX T 0 (M ++ [r]) (renO (sw1 i (1000000 + M.length)) (delL [i] l))⟩ := by
  have h := Sub.renF (OT := OT) (s := ⟨look R, lookX T 0 M l⟩) (ρ := sw1 i (1000000 + M.length)) (sw1_sw1 _ _) (sw1_ne (by unfold lentId; omega) (by unfold lentId; omega))
  have e : (⟨fun t => (look R t).ren (sw1 i (1000000 + M.length)), fun j => (lookX T 0 M l (sw1 i (1000000 + M.length) j)).map (AObj.ren (sw1 i (1000000 + M.length)))⟩ : St) = ⟨look (rnR (sw1 i (1000000 + M.length)) R), lookX T 0 (M ++ [r]) (renO (sw1 i (1000000 + M.length)) (delL [i] l))⟩ := by
    congr 1
    · funext t; exact (rnR_look _ R t).symm
    · funext j
      by_cases h1 : j = 1000000 + M.length
      · rw [h1, sw1_r, lx_lo (by omega), hli]
        unfold lookX
        rw [if_pos (by simp), Nat.add_sub_cancel_left]
        simp [AObj.ren]
      · by_cases h2 : j = i
        · rw [h2, sw1_l]
          unfold lookX
          rw [if_neg (by omega), if_neg (by simp; omega), hl _ (by omega), renO_look, lookM_del]
          simp
        · rw [sw1_ne h2 h1]
          unfold lookX
          by_cases h3 : 1000000 ≤ j ∧ j < 1000000 + M.length
          · rw [if_pos h3, if_pos (by simp; omega)]
            have : (M ++ [r]).getD (j - 1000000) [] = M.getD (j - 1000000) [] := by
              simp only [List.getD_eq_getElem?_getD]
              rw [List.getElem?_append_left (by omega)]
            rw [this]
            rfl
          · rw [if_neg h3, if_neg (by simp; omega), renO_look, lookM_del]
            have : [i].contains j = false := by simpa using h2
            rw [this]; rfl
  rw [← e]; exact h
theorem Sub.swapX (a b : Nat) (ha : a < M.length) (hb : b < M.length) :
    Sub OT ⟨look R, lookX T 0 M l⟩ ⟨look (rnR (sw1 (1000000 + a) (1000000 + b)) R), lookX T 0 ((M.set a (M.getD b [])).set b (M.getD a [])) (renO (sw1 (1000000 + a) (1000000 + b)) l)⟩ := by
  have h := Sub.renF (OT := OT) (s := ⟨look R, lookX T 0 M l⟩) (ρ := sw1 (1000000 + a) (1000000 + b)) (sw1_sw1 _ _) (sw1_ne (by unfold lentId; omega) (by unfold lentId; omega))
  have e : (⟨fun t => (look R t).ren (sw1 (1000000 + a) (1000000 + b)), fun j => (lookX T 0 M l (sw1 (1000000 + a) (1000000 + b) j)).map (AObj.ren (sw1 (1000000 + a) (1000000 + b)))⟩ : St) = ⟨look (rnR (sw1 (1000000 + a) (1000000 + b)) R), lookX T 0 ((M.set a (M.getD b [])).set b (M.getD a [])) (renO (sw1 (1000000 + a) (1000000 + b)) l)⟩ := by
    congr 1
    · funext t; exact (rnR_look _ R t).symm
    · funext j
      have hlen : ((M.set a (M.getD b [])).set b (M.getD a [])).length = M.length := by simp
      by_cases h1 : j = 1000000 + a
      · rw [h1, sw1_l, lx_hi hb, lx_hi (by rw [hlen]; exact ha)]
        have : ((M.set a (M.getD b [])).set b (M.getD a [])).getD a [] = M.getD b [] := by
          simp only [List.getD_eq_getElem?_getD, List.getElem?_set, List.length_set]
          by_cases e : b = a
          · subst e; simp [ha]
          · rw [if_neg e]; simp [ha]
        rw [this]; rfl
      · by_cases h2 : j = 1000000 + b
        · rw [h2, sw1_r, lx_hi ha, lx_hi (by rw [hlen]; exact hb)]
          have : ((M.set a (M.getD b [])).set b (M.getD a [])).getD b [] = M.getD a [] := by
            simp only [List.getD_eq_getElem?_getD, List.getElem?_set, List.length_set]
            simp [hb]
          rw [this]; rfl
        · rw [sw1_ne h1 h2]
          unfold lookX
          rw [hlen]
          by_cases h3 : 1000000 ≤ j ∧ j < 1000000 + M.length
          · rw [if_pos h3, if_pos h3]
            have : ((M.set a (M.getD b [])).set b (M.getD a [])).getD (j - 1000000) [] = M.getD (j - 1000000) [] := by
              simp only [List.getD_eq_getElem?_getD, List.getElem?_set]
              rw [if_neg (by omega), if_neg (by omega)]
            rw [this]; rfl
          · rw [if_neg h3, if_neg h3, renO_look]
  rw [← e]; exact h
theorem Sub.freezeX {r : Nat → AV} : Sub OT ⟨r, lookX T 0 M l⟩ ⟨r, lookX T M.length M l⟩ := by
  have key : ∀ b, b ≤ M.length → Sub OT ⟨r, lookX T 0 M l⟩ ⟨r, lookX T b M l⟩ := by
    intro b
    induction b with
    | zero => exact fun _ => Sub.rf _
    | succ b ih =>
      intro hb
      have hm : lookX T b M l (1000000 + b) = some ⟨T, 1, .row ((M.getD b []).map (D.int .i64)), false⟩ := by
        unfold lookX
        rw [if_pos (by omega), Nat.add_sub_cancel_left]
        simp
      have h := Sub.freeze (OT := OT) (r := r) (i := 1000000 + b) (by unfold lentId; omega) hm
      have e : upd (lookX T b M l) (1000000 + b) (some ⟨T, 1, .row ((M.getD b []).map (D.int .i64)), true⟩) = lookX T (b + 1) M l := by
        funext j
        unfold lookX
        simp only [upd]
        by_cases e : j = 1000000 + b
        · subst e
          rw [if_pos rfl, if_pos (by omega), Nat.add_sub_cancel_left]
          simp
        · rw [if_neg e]
          split
          · have : decide (j - 1000000 < b + 1) = decide (j - 1000000 < b) := decide_eq_decide.2 (by omega)
            rw [this]
          · rfl
      rw [e] at h
      exact (ih (by omega)).tr h
  exact key _ (Nat.le_refl _)
theorem Sub.recell {r : Nat → AV} {m : Mem} {i : Nat} {sz : Nat} {v u : AV} {f : Bool} (hi : i ≠ lentId) (hm : m i = some ⟨T, sz, .box v, f⟩) (hc : u.cells = v.cells) : Sub OT ⟨r, m⟩ ⟨r, upd m i (some ⟨T, sz, .box u, f⟩)⟩ := by
  rintro C a w rfl ⟨⟨loc, hr⟩, h2⟩
  have hother : ∀ j o, upd m i (some ⟨T, sz, .box u, f⟩) j = some o → ∃ o0, m j = some o0 ∧ o0.T = o.T ∧ o0.sz = o.sz ∧ o0.frz = o.frz ∧ (j ≠ i → o0 = o) ∧ (j = i → o0 = ⟨T, sz, .box v, f⟩ ∧ o = ⟨T, sz, .box u, f⟩) := by
    intro j o ho
    by_cases e : j = i
    · subst e; rw [upd_same] at ho; cases ho
      exact ⟨_, hm, rfl, rfl, rfl, fun h => absurd rfl h, fun _ => ⟨rfl, rfl⟩⟩
    · rw [upd_ne _ _ e] at ho
      exact ⟨o, ho, rfl, rfl, rfl, fun _ => rfl, fun h => absurd h e⟩
  have hN : NB C.base (upd m i (some ⟨T, sz, .box u, f⟩)) loc w = NB C.base m loc w := by
    funext b
    refine propext ⟨fun ⟨h1, h2, h3⟩ => ⟨h1, h2, ?_⟩, fun ⟨h1, h2, h3⟩ => ⟨h1, h2, ?_⟩⟩
    · rintro ⟨j, o, L, g1, g2, g3, g4, g5⟩
      by_cases e : j = i
      · subst e
        rw [hm] at g1; cases g1
        exact h3 ⟨j, _, L, upd_same _ _ _, g2, g3, g4, g5⟩
      · exact h3 ⟨j, o, L, by rw [upd_ne _ _ e]; exact g1, g2, g3, g4, g5⟩
    · rintro ⟨j, o, L, g1, g2, g3, g4, g5⟩
      obtain ⟨o0, k1, k2, k3, k4, -, -⟩ := hother j o g1
      exact h3 ⟨j, o0, L, k1, by rw [k4]; exact g2, g3, g4, g5⟩
  refine ⟨⟨loc, hr.ext, hr.defers, hr.size, hr.low, fun j hj => ?_, fun t => ?_, fun j o ho => ?_, fun j j' o o' L L' ho ho' hf hLj hLj' hn hn' hb => ?_, hr.keepL.turn (fun o g1 g2 => ⟨o, by dsimp only; rw [upd_ne _ _ (Ne.symm hi)]; exact g1, g2⟩) (fun _ => rfl)⟩, fun j o ho => ?_⟩
  · dsimp only at hj
    by_cases e : j = i
    · subst e; rw [upd_same] at hj; cases hj
    · rw [upd_ne _ _ e] at hj; exact hr.dom j hj
  · rw [hN]; exact hr.tmps t
  · obtain ⟨o0, k1, k2, k3, k4, k5, k6⟩ := hother j o ho
    obtain ⟨L, hL1, hok⟩ := hr.objs j o0 k1
    by_cases e : j = i
    · obtain ⟨rfl, rfl⟩ := k6 e
      refine ⟨L, hL1, hok.sz, fun hn => (by have := hok.nil hn; cases this), fun hn => ?_⟩
      obtain ⟨c, fr, q1, q2, q3, q4, q5⟩ := hok.at_ hn
      rw [hN]
      refine ⟨c, fr, q1, q2, ?_, q4, q5⟩
      obtain ⟨m1, m2, m3, m4⟩ := q3
      exact ⟨m1, by rw [hc]; exact m2, by rw [hc]; exact m3, by rw [hc]; exact m4⟩
    · obtain rfl := k5 e
      refine ⟨L, hL1, hok.sz, hok.nil, fun hn => ?_⟩
      obtain ⟨c, fr, q1, q2, q3, q4, q5⟩ := hok.at_ hn
      rw [hN]
      exact ⟨c, fr, q1, q2, q3, q4, q5⟩
  · obtain ⟨o0, k1, -, -, k4, -, -⟩ := hother j o ho
    obtain ⟨o1, k1', -, -, -, -, -⟩ := hother j' o' ho'
    exact hr.inj j j' o0 o1 L L' k1 k1' (k4.trans hf) hLj hLj' hn hn' hb
  · obtain ⟨o0, k1, k2, -, -, -, -⟩ := hother j o ho
    rw [← k2]; exact h2 j o0 k1
end
theorem Sub.toXG {OT : List TypeId} {T : TypeId} {M : List (List Int)} {R : List (Nat × AV)} {l : List (Nat × AObj)} (b : Nat) (ts L : List Nat) {r' : Nat → AV} {m' : Mem} (h1 : closedR L (sel (look R) ts) = true) (h2 : closedM L l = true) (e1 : look (sel (look R) ts) = r') (e2 : lookX T b M (delL L l) = m') (h3 : L.all (fun x => decide (x < 1000000)) = true := by rfl) : Sub OT ⟨look R, lookX T b M l⟩ ⟨r', m'⟩ := by
  subst e1 e2; exact Sub.toX b ts L h1 h2 h3
theorem Sub.nilX {OT : List TypeId} {T : TypeId} {M : List (List Int)} {R : List (Nat × AV)} {l : List (Nat × AObj)} (b t i T' sz : Nat) {r' : Nat → AV} {m' : Mem} (ht : look R t = .nils T' sz) (hm : lookM l i = none) (hT : OT.contains T' = true) (hi : i < 1000000)
    (e1 : look (setR t (.slice i 0 0) R) = r') (e2 : lookX T b M (setM i ⟨T', sz, .row [], false⟩ l) = m') : Sub OT ⟨look R, lookX T b M l⟩ ⟨r', m'⟩ := by
  subst e1 e2
  rw [← upd_look, ← lu_lo hi]
  exact Sub.nil t i ht (by rw [lx_lo hi]; exact hm) (by simpa using hT)
def rowsA (T : TypeId) (n m W : Nat) : List AV := (List.range n).map fun i => if i < m then .slice (1000000 + i) 0 W else .p (.list T 1 [])
theorem rowsA_len (T : TypeId) (n m W : Nat) : (rowsA T n m W).length = n := by simp [rowsA]
theorem rowsA_get {T : TypeId} {n m W i : Nat} (h : i < n) : (rowsA T n m W)[i]? = some (if i < m then .slice (1000000 + i) 0 W else .p (.list T 1 [])) := by simp [rowsA, h]
theorem box_get {T : TypeId} {n m W i : Nat} (h : i < m) (hn : i < n) : (AV.agg (rowsA T n m W)).get i 1 n false = some (.slice (1000000 + i) 0 W) := by
  unfold AV.get
  rw [if_neg (by simp [AV.isAgg])]
  unfold AV.part partA
  simp only [AV.cells]
  rw [if_neg (by simp), rowsA_get hn, if_pos h]
theorem get_I (k : IntKind) (n : Int) : AV.get (.p (.int k n)) 0 1 1 false = some (.p (.int k n)) := by
  unfold AV.get
  rw [if_pos ⟨rfl, rfl, rfl⟩]
theorem mk_slices {l : List AV} (h : pureL l = none) : AV.mk l = .agg l := by unfold AV.mk; rw [h]
theorem pure_none {l : List AV} {i j o n : Nat} (h : l[i]? = some (.slice j o n)) : pureL l = none := by
  induction l generalizing i with
  | nil => simp at h
  | cons v l ih =>
    rcases i with _ | i
    · simp only [List.getElem?_cons_zero, Option.some.injEq] at h
      subst h
      simp only [pureL, AV.pure]
    · simp only [List.getElem?_cons_succ] at h
      have := ih h
      simp only [pureL, this]
      split <;> simp_all
theorem men_rows {L : List Nat} {T : TypeId} {n m W : Nat} (hL : L.all (fun x => decide (x < 1000000)) = true) : AV.men L (.agg (rowsA T n m W)) = false := by
  have key : ∀ l : List AV, (∀ v ∈ l, v.men L = false) → menL L l = false := by
    intro l
    induction l with
    | nil => intro _; rfl
    | cons v l ih =>
      intro h
      rw [menL, h v (by simp), ih fun u hu => h u (by simp [hu])]; rfl
  rw [AV.men]
  refine key _ fun v hv => ?_
  simp only [rowsA, List.mem_map] at hv
  obtain ⟨i, -, rfl⟩ := hv
  split
  · rw [AV.men]
    cases e : L.contains (1000000 + i) with
    | false => rfl
    | true =>
      have := List.all_eq_true.1 hL (1000000 + i) (by simpa using e)
      simp only [decide_eq_true_eq] at this
      omega
  · rw [AV.men]
    all_goals (intros; contradiction)
theorem closedM_rows {L : List Nat} {T T2 : TypeId} {n m W i sz : Nat} {f : Bool} {l : List (Nat × AObj)} (hL : L.all (fun x => decide (x < 1000000)) = true) : closedM L ((i, ⟨T2, sz, .box (.agg (rowsA T n m W)), f⟩) :: l) = closedM L l := by
  rw [closedM]
  have : AObj.men L ⟨T2, sz, .box (.agg (rowsA T n m W)), f⟩ = false := men_rows hL
  rw [this]; simp
theorem forget_rows {T T2 : TypeId} {n m W i sz : Nat} {f : Bool} (h : i < 1000000) : AObj.forget i ⟨T2, sz, .box (.agg (rowsA T n m W)), f⟩ = ⟨T2, sz, .box (.agg (rowsA T n m W)), f⟩ := by
  have key : ∀ l : List AV, (∀ v ∈ l, v.forget i = v ∧ v ≠ .und) → forgetL i l = some l := by
    intro l
    induction l with
    | nil => intro _; rw [forgetL]
    | cons v l ih =>
      intro h
      obtain ⟨h1, h2⟩ := h v (by simp)
      have h3 := ih fun u hu => h u (by simp [hu])
      rw [forgetL, h1, h3]
      cases v <;> first | rfl | exact absurd rfl h2
  have h1 : forgetL i (rowsA T n m W) = some (rowsA T n m W) := by
    refine key _ fun v hv => ?_
    simp only [rowsA, List.mem_map] at hv
    obtain ⟨j, -, rfl⟩ := hv
    split
    · exact ⟨by rw [forget_slice, if_neg (by omega)], by intro e; cases e⟩
    · exact ⟨forget_p _ _, by intro e; cases e⟩
  rw [of_box, forget_agg, h1]
theorem box_putL {l : List AV} {i k o W : Nat} (h : i < l.length) : AV.mk (l.take i ++ [AV.slice k o W] ++ l.drop (i + 1)) = .agg (l.set i (.slice k o W)) := by
  have e : l.take i ++ [AV.slice k o W] ++ l.drop (i + 1) = l.set i (.slice k o W) := by
    rw [List.set_eq_take_append_cons_drop, if_pos h]; simp
  rw [e]
  exact mk_slices (pure_none (i := i) (j := k) (o := o) (n := W) (by rw [List.getElem?_set]; simp [h]))
end Go.Proofs.Ytlnhembcfhfpkaa.M
