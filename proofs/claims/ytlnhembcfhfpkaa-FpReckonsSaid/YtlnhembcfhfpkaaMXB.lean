/- The small machine: objects that nobody refers to any more are dropped together. -/
import Derived.Test.YtlnhembcfhfpkaaMXA
namespace Go.Proofs.Ytlnhembcfhfpkaa.M
open Go.RowKit
set_option linter.defProp false

mutual
/-- Does a value refer to one of these objects? -/
def AV.men (L : List Nat) : AV → Bool
  | .slice i _ _ => L.contains i
  | .ptr i _ _ => L.contains i
  | .arr i _ _ => L.contains i
  | .agg l => menL L l
  | .tup l => menL L l
  | _ => false
def menL (L : List Nat) : List AV → Bool
  | [] => false
  | v :: l => v.men L || menL L l
end
def AObj.men (L : List Nat) (o : AObj) : Bool := match o.cont with
  | .box v => v.men L
  | _ => false
/-- Nothing that stays refers to an object of L. -/
def closedR (L : List Nat) : List (Nat × AV) → Bool
  | [] => true
  | (_, v) :: l => !v.men L && closedR L l
def closedM (L : List Nat) : List (Nat × AObj) → Bool
  | [] => !L.contains lentId
  | (i, o) :: l => (L.contains i || !o.men L) && closedM L l
def memN (i : Nat) : List Nat → Bool
  | [] => false
  | j :: l => if i = j then true else memN i l
theorem memN_eq (i : Nat) : ∀ l : List Nat, l.contains i = memN i l
  | [] => rfl
  | j :: l => by
    rw [List.contains_cons, memN_eq i l, memN]
    by_cases h : i = j <;> simp [h]
def delL (L : List Nat) : List (Nat × AObj) → List (Nat × AObj)
  | [] => []
  | (i, o) :: l => if memN i L = true then delL L l else (i, o) :: delL L l
theorem delL_nil (L : List Nat) : delL L [] = [] := rfl
theorem delL_cons (L : List Nat) (i : Nat) (o : AObj) (l : List (Nat × AObj)) : delL L ((i, o) :: l) = if memN i L = true then delL L l else (i, o) :: delL L l := rfl
theorem memN_nil (i : Nat) : memN i [] = false := rfl
theorem memN_cons (i j : Nat) (l : List Nat) : memN i (j :: l) = if i = j then true else memN i l := rfl
def csG := And.intro @delL_nil (And.intro @delL_cons (And.intro @memN_nil (@memN_cons)))

theorem menL_mem {L : List Nat} {l : List AV} (h : menL L l = false) : ∀ v ∈ l, v.men L = false := by
  induction l with
  | nil => simp
  | cons u l ih =>
    simp only [menL, Bool.or_eq_false_iff] at h
    intro v hv
    rcases List.mem_cons.1 hv with rfl | hv
    · exact h.1
    · exact ih h.2 v hv
theorem men_cells {L : List Nat} {x : AV} (h : x.men L = false) : ∀ e ∈ x.cells, e.men L = false := by
  cases x with
  | p d =>
    intro e he
    simp only [AV.cells, List.mem_map] at he
    obtain ⟨_, _, rfl⟩ := he
    unfold AV.men; rfl
  | agg l => rw [AV.men] at h; exact menL_mem h
  | _ => intro e he; simp only [AV.cells, List.mem_singleton] at he; subst he; exact h

section
variable {w0 : World} {base : Bs} {nt : Nat} {loc loc' : Locs} {a : Act} {w : World} {OT : List TypeId} {N N' : Nat → Prop} {r : Nat → AV} {m : Mem}

theorem RV.lose {L : List Nat} {v : Value} {x : AV} (h : RV w N loc v x) (hx : x.men L = false) (hn : ∀ b, N b → N' b) (hl : ∀ id K, L.contains id = false → loc id = some K → loc' id = some K) : RV w N' loc' v x := by
  induction h with
  | und v => exact .und v
  | p v d h => exact .p v d (h.mono (fun _ _ => rfl) hn)
  | agg cs l h1 h2 _ ih => rw [AV.men] at hx; exact .agg cs l h1 h2 fun i d hd => ih i d hd (menL_mem hx d (List.mem_of_getElem? hd))
  | tup cs l h1 _ ih => rw [AV.men] at hx; exact .tup cs l h1 fun i d hd => ih i d hd (menL_mem hx d (List.mem_of_getElem? hd))
  | nils T sz => exact .nils T sz
  | slice K id off len cap h1 h2 h3 h4 h5 => rw [AV.men] at hx; exact .slice K id off len cap (hl _ _ hx h1) h2 h3 h4 h5
  | sliceEmp K id off p h1 => rw [AV.men] at hx; exact .sliceEmp K id off p (hl _ _ hx h1)
  | arr K id off len cap h1 h2 h3 h4 h5 => rw [AV.men] at hx; exact .arr K id off len cap (hl _ _ hx h1) h2 h3 h4 h5
  | arrEmp K id off p h1 => rw [AV.men] at hx; exact .arrEmp K id off p (hl _ _ hx h1)
  | ptr K id i off h1 h2 => rw [AV.men] at hx; exact .ptr K id i off (hl _ _ hx h1) h2

theorem Rel.dropL (h : Rel w0 base nt loc ⟨r, m⟩ a w) (L : List Nat) {r' : Nat → AV} {m' : Mem} (hr : ∀ t, r' t = .und ∨ (r' t = r t ∧ (r t).men L = false)) (hm : ∀ i, m' i = if L.contains i then none else m i)
    (hc : ∀ i o, m' i = some o → o.men L = false) (h9 : L.contains lentId = false) : Rel w0 base nt (fun i => if L.contains i then none else loc i) ⟨r', m'⟩ a w := by
  have hl : ∀ j K, L.contains j = false → loc j = some K → (fun i => if L.contains i then none else loc i) j = some K := fun j K hj hK => by simp only [hj]; exact hK
  have hother : ∀ j ob, m' j = some ob → L.contains j = false ∧ m j = some ob := by
    intro j ob hob
    rw [hm] at hob
    cases hj : L.contains j with
    | true => rw [hj] at hob; cases hob
    | false => rw [hj] at hob; exact ⟨rfl, hob⟩
  have hN : ∀ b, NB base m loc w b → NB base m' (fun i => if L.contains i then none else loc i) w b := by
    rintro b hbN
    refine ⟨hbN.1, hbN.2.1, ?_⟩
    rintro ⟨j, ob, Lj, h1, h2, h3, h4, h5⟩
    obtain ⟨hj, g1⟩ := hother j ob h1
    simp only [hj] at h3
    exact hbN.2.2 ⟨j, ob, Lj, g1, h2, h3, h4, h5⟩
  refine ⟨h.ext, h.defers, h.size, h.low, ?_, fun t => ?_, ?_, ?_, h.keepL.turn (fun o0 g1 g2 => ⟨o0, by dsimp only; rw [hm, h9]; exact g1, g2⟩) (fun _ => by simp only [h9]; rfl)⟩
  · intro j hj
    dsimp only at hj ⊢
    rw [hm] at hj
    cases e : L.contains j with
    | true => rfl
    | false => rw [e] at hj; exact h.dom j hj
  · dsimp only
    rcases hr t with e | ⟨e, e2⟩ <;> rw [e]
    · exact .und _
    · exact RV.lose (L := L) (h.tmps t) e2 hN hl
  · intro j ob hob
    obtain ⟨e, g1⟩ := hother j ob hob
    obtain ⟨Lj, hLj, hokj⟩ := h.objs j ob g1
    refine ⟨Lj, hl j Lj e hLj, hokj.sz, hokj.nil, fun hn => ?_⟩
    obtain ⟨c, fr, k1, k2, k3, k4, k5⟩ := hokj.at_ hn
    refine ⟨c, fr, k1, k2, ?_, k4, fun hf => hN _ (k5 hf)⟩
    have hmen := hc j ob hob
    unfold AObj.men at hmen
    cases hcont : ob.cont with
    | row l => rw [hcont] at k3; exact ⟨k3.1, k3.2.1, fun i e j d h1 h2 => ⟨(k3.2.2 i e j d h1 h2).1, (k3.2.2 i e j d h1 h2).2.mono (fun _ _ => rfl) hN⟩⟩
    | junk => rw [hcont] at k3; exact k3
    | box v =>
      rw [hcont] at k3 hmen
      exact ⟨k3.1, k3.2.1, k3.2.2.1, fun j d h1 => (k3.2.2.2 j d h1).lose (men_cells hmen d (List.mem_of_getElem? h1)) hN hl⟩
  · intro j j' ob ob' Lj Lj' hob hob' hf hLj hLj' hn hn' hbb
    obtain ⟨e, g1⟩ := hother j ob hob
    obtain ⟨e', g1'⟩ := hother j' ob' hob'
    simp only [e] at hLj
    simp only [e'] at hLj'
    exact h.inj j j' ob ob' Lj Lj' g1 g1' hf hLj hLj' hn hn' hbb

theorem Sub.dropL (L : List Nat) {r' : Nat → AV} {m' : Mem} (hr : ∀ t, r' t = .und ∨ (r' t = r t ∧ (r t).men L = false)) (hm : ∀ i, m' i = if L.contains i then none else m i)
    (hc : ∀ i o, m' i = some o → o.men L = false) (h9 : L.contains lentId = false) : Sub OT ⟨r, m⟩ ⟨r', m'⟩ := by
  rintro C a w rfl ⟨⟨loc, hR⟩, h2⟩
  refine ⟨⟨_, hR.dropL L hr hm hc h9⟩, fun j o ho => ?_⟩
  dsimp only at ho
  rw [hm] at ho
  split at ho
  · cases ho
  · exact h2 j o ho

theorem look_closed {L : List Nat} : ∀ {l : List (Nat × AV)} (t : Nat), closedR L l = true → (look l t).men L = false
  | [], t, _ => by rw [look_nil]; unfold AV.men; rfl
  | (i, v) :: l, t, h => by
    simp only [closedR, Bool.and_eq_true, Bool.not_eq_true'] at h
    rw [look_cons]
    split
    · exact h.1
    · exact look_closed t h.2
theorem lookM_del (L : List Nat) : ∀ (l : List (Nat × AObj)) (i : Nat), lookM (delL L l) i = if L.contains i then none else lookM l i
  | [], i => by rw [delL_nil, lookM_nil]; split <;> rfl
  | (j, o) :: l, i => by
    have ih := lookM_del L l i
    rw [delL_cons, lookM_cons]
    by_cases hj : memN j L = true
    · rw [if_pos hj, ih]
      by_cases e : i = j
      · subst e; rw [memN_eq, hj]; rfl
      · rw [if_neg e]
    · rw [if_neg hj, lookM_cons, ih]
      by_cases e : i = j
      · subst e; rw [if_pos rfl, memN_eq, if_neg hj, if_pos rfl]
      · rw [if_neg e, if_neg e]
theorem lookM_closed {L : List Nat} : ∀ {l : List (Nat × AObj)} (i : Nat) (o : AObj), closedM L l = true → lookM (delL L l) i = some o → o.men L = false
  | [], i, o, _, h => by rw [delL_nil] at h; cases h
  | (j, q) :: l, i, o, h, ho => by
    simp only [closedM, Bool.and_eq_true, Bool.or_eq_true, Bool.not_eq_true'] at h
    rw [delL_cons] at ho
    split at ho
    · exact lookM_closed i o h.2 ho
    · rename_i hj
      rw [lookM_cons] at ho
      split at ho
      · cases ho
        rw [memN_eq] at h
        exact h.1.resolve_left hj
      · exact lookM_closed i o h.2 ho

theorem closedM_lent {L : List Nat} : ∀ {l : List (Nat × AObj)}, closedM L l = true → L.contains lentId = false
  | [], h => by simpa [closedM] using h
  | (j, q) :: l, h => by
    simp only [closedM, Bool.and_eq_true] at h
    exact closedM_lent h.2
/-- Slots ts are wanted, objects L are not. -/
theorem Sub.keepG (ts L : List Nat) {R : List (Nat × AV)} {M : List (Nat × AObj)} (h1 : closedR L (sel (look R) ts) = true) (h2 : closedM L M = true) : Sub OT ⟨look R, lookM M⟩ ⟨look (sel (look R) ts), lookM (delL L M)⟩ :=
  (Sub.und (sel_or ts)).tr (Sub.dropL L (fun t => .inr ⟨rfl, look_closed t h1⟩) (lookM_del L M) (fun i o ho => lookM_closed i o h2 ho) (closedM_lent h2))
theorem keepG (ts L : List Nat) {R : List (Nat × AV)} {M : List (Nat × AObj)} {K : St → Prop} (h1 : closedR L (sel (look R) ts) = true) (h2 : closedM L M = true) (h : K ⟨look (sel (look R) ts), lookM (delL L M)⟩) : ∃ u, Sub OT ⟨look R, lookM M⟩ u ∧ K u :=
  ⟨_, Sub.keepG ts L h1 h2, h⟩
theorem Sub.toG (ts L : List Nat) {R : List (Nat × AV)} {M : List (Nat × AObj)} {r' : Nat → AV} {m' : Mem} (h1 : closedR L (sel (look R) ts) = true) (h2 : closedM L M = true) (e1 : look (sel (look R) ts) = r') (e2 : lookM (delL L M) = m') : Sub OT ⟨look R, lookM M⟩ ⟨r', m'⟩ := by
  subst e1 e2; exact Sub.keepG ts L h1 h2
/-- Ahead of a loop: a nil slice is an empty object from here on. -/
theorem Sub.nilG (t i T sz : Nat) {R : List (Nat × AV)} {M : List (Nat × AObj)} {r' : Nat → AV} {m' : Mem} (ht : look R t = .nils T sz) (hm : lookM M i = none) (hT : OT.contains T = true)
    (e1 : look (setR t (.slice i 0 0) R) = r') (e2 : lookM (setM i ⟨T, sz, .row [], false⟩ M) = m') : Sub OT ⟨look R, lookM M⟩ ⟨r', m'⟩ := by
  subst e1 e2
  rw [← upd_look, ← upd_lookM]
  exact Sub.nil t i ht hm (by simpa using hT)
theorem Sub.nilG2 (t i T sz t2 i2 T2 sz2 : Nat) {R : List (Nat × AV)} {M : List (Nat × AObj)} {r' : Nat → AV} {m' : Mem} (ht : look R t = .nils T sz) (hm : lookM M i = none) (hT : OT.contains T = true)
    (ht2 : look (setR t (.slice i 0 0) R) t2 = .nils T2 sz2) (hm2 : lookM (setM i ⟨T, sz, .row [], false⟩ M) i2 = none) (hT2 : OT.contains T2 = true)
    (e1 : look (setR t2 (.slice i2 0 0) (setR t (.slice i 0 0) R)) = r') (e2 : lookM (setM i2 ⟨T2, sz2, .row [], false⟩ (setM i ⟨T, sz, .row [], false⟩ M)) = m') : Sub OT ⟨look R, lookM M⟩ ⟨r', m'⟩ :=
  (Sub.nilG t i T sz ht hm hT rfl rfl).tr (Sub.nilG t2 i2 T2 sz2 ht2 hm2 hT2 e1 e2)
theorem ea_nils (T sz bytes : Nat) (x y : Opd) (id : Nat) (s : St) : evApp T sz bytes x y id s = (match elemsOf sz s.m (y.ev s.r) with
  | none => none
  | some ys => match x.ev s.r with
    | .nils _ sz' => match s.m id with
      | none => if sz' = sz then some (decide (ys.length * bytes ≤ 140737488355328 ∧ ys.length ≤ 9223372036854775807), .slice id 0 ys.length, ⟨s.r, upd s.m id (some ⟨T, sz, .row ys, false⟩)⟩) else none
      | some _ => none
    | .slice i 0 n => match s.m i with
      | some ⟨T', sz', .row l, false⟩ => if sz' = sz ∧ T' = T ∧ n = l.length ∧ i ≠ 999999 then
          some (decide ((n + ys.length) * bytes ≤ 140737488355328 ∧ n + ys.length ≤ 9223372036854775807), .slice i 0 (n + ys.length), ⟨forgetR i s.r, upd (forgetM i s.m) i (some ⟨T, sz, .row (l ++ ys), false⟩)⟩) else none
      | _ => none
    | _ => none) := rfl
theorem eo_eq (sz : Nat) (m : Mem) (v : AV) : elemsOf sz m v = (match v with
  | .slice j off n => match m j with
    | some ⟨_, sz', .row l, _⟩ => if sz' = sz ∧ off + n ≤ l.length then some ((l.drop off).take n) else none
    | _ => none
  | .p (.list _ sz' l) => if sz' = sz then some l else none
  | .nils _ sz' => if sz' = sz then some [] else none
  | _ => none) := rfl
theorem fr_nil (sz : Nat) (l : List D) (r : Nat → AV) (M : Mem) : fillR sz l r M [] = some l := rfl
theorem fr_cons (sz : Nat) (l : List D) (r : Nat → AV) (M : Mem) (i : Nat) (x : Opd) (rest : List (Nat × Opd)) : fillR sz l r M ((i, x) :: rest) = (match (x.ev r).toD false M 20 with
  | some d => if d.cells.length = sz ∧ d.cells.all D.one = true ∧ i < l.length then fillR sz (l.set i d) r M rest else none
  | none => none) := rfl
theorem rep_1 (z : D) : List.replicate 1 z = [z] := rfl
theorem rep_2 (z : D) : List.replicate 2 z = [z, z] := rfl
theorem set_0 (x z : D) (l : List D) : (z :: l).set 0 x = x :: l := rfl
theorem set_1 (x y z : D) (l : List D) : (z :: y :: l).set 1 x = z :: x :: l := rfl
theorem st_bsF (G : FuncId → List D → D → Prop) (dd : Option Nat) (T : Nat) (sz : Nat) (z : D) (n : Nat) (parts : List (Nat × Opd)) (g : Option (Nat × Bool)) (K : St → Prop) (s : St) : step G ⟨dd, .buildSliceF T sz z n parts, g⟩ K s = fin dd K (ev (.buildSliceF T sz z n parts) (dd.getD 0) s) := rfl
theorem ev_bsF (T : Nat) (sz : Nat) (z : D) (n : Nat) (parts : List (Nat × Opd)) (id : Nat) (s : St) : ev (.buildSliceF T sz z n parts) id s = (if id = 999999 then none else match s.m id with
    | none => match fillR sz (List.replicate n z) s.r s.m parts with
      | some l => some (true, .slice id 0 n, ⟨s.r, upd s.m id (some ⟨T, sz, .row l, true⟩)⟩)
      | none => none
    | some _ => none) := rfl
theorem fin_app (d : Option Nat) (K : St → Prop) (id : Nat) (p : Bool) (v : AV) (t : St) : fin d (fun u => K u) (some (p, v, frzS id t)) = (p = true ∧ K ((frzS id t).put d v)) := rfl
def frzO (id : Nat) : Option (Bool × AV × St) → Option (Bool × AV × St)
  | some (p, v, t) => some (p, v, frzS (slId id v) t)
  | none => none
theorem frzO_some (id : Nat) (p : Bool) (i o n : Nat) (t : St) : frzO id (some (p, .slice i o n, t)) = some (p, .slice i o n, frzS i t) := rfl
theorem st_appF (G : FuncId → List D → D → Prop) (d : Option Nat) (T sz b : Nat) (x y : Opd) (g : Option (Nat × Bool)) (K : St → Prop) (s : St) : step G ⟨d, .appendF T sz b x y, g⟩ K s = fin d K (frzO (d.getD 0) (evApp T sz b x y (d.getD 0) s)) := by
  unfold step frzO
  simp only
  cases evApp T sz b x y (d.getD 0) s <;> rfl
theorem frzS_eq (id : Nat) (r : Nat → AV) (m : Mem) : frzS id ⟨r, m⟩ = (if id = 999999 then ⟨r, m⟩ else match m id with
  | some o => ⟨r, upd m id (some ⟨o.T, o.sz, o.cont, true⟩)⟩
  | none => ⟨r, m⟩) := rfl
def csA := And.intro @st_bsF (And.intro @ev_bsF (And.intro @frzO_some (And.intro @st_appF (And.intro @frzS_eq (And.intro @fr_nil (And.intro @fr_cons (And.intro @rep_1 (And.intro @rep_2 (And.intro @set_0 (And.intro @set_1 (And.intro @ea_nils (And.intro @eo_eq (And.intro @forgetR_look (And.intro @forgetM_look (And.intro @fgR_nil (And.intro @fgR_cons (And.intro @fgM_nil (And.intro @fgM_cons (And.intro @forget_und (And.intro @forget_p (And.intro @forget_nils (And.intro @forget_slice (And.intro @forget_ptr (And.intro @of_row (And.intro @of_junk (@of_boxp))))))))))))))))))))))))))
def csW := And.intro cs0 (And.intro cs1 (And.intro cs2 (And.intro cs3 (And.intro cs4 (And.intro cs5 (And.intro cs6 (And.intro csG (And.intro csA (And.intro @St.put.eq_1 (And.intro @St.put.eq_2 (And.intro @apOk.eq_1 (And.intro @bounds.eq_1 (And.intro @bounds.eq_2 (And.intro @bounds.eq_3 (And.intro @bounds.eq_4 (And.intro @bounds.eq_5 (And.intro @Option.getD_none.{0} (And.intro @forall_const.{0} (@forall_const.{1})))))))))))))))))))
end

end Go.Proofs.Ytlnhembcfhfpkaa.M
