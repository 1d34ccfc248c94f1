/- The small machine: states written out; what may be forgotten. -/
import Derived.Test.YtlnhembcfhfpkaaMV
namespace Go.Proofs.Ytlnhembcfhfpkaa.M
open Go.RowKit

/-- Slots, written out. -/
def look : List (Nat × AV) → Nat → AV
  | [], _ => .und
  | (i, v) :: l, t => if t = i then v else look l t
/-- Objects, written out. -/
def lookM : List (Nat × AObj) → Mem
  | [], _ => none
  | (i, v) :: l, t => if t = i then some v else lookM l t
def setR (t : Nat) (v : AV) : List (Nat × AV) → List (Nat × AV)
  | [] => [(t, v)]
  | (i, u) :: l => if i = t then (t, v) :: l else (i, u) :: setR t v l
def setM (t : Nat) (v : AObj) : List (Nat × AObj) → List (Nat × AObj)
  | [] => [(t, v)]
  | (i, u) :: l => if i = t then (t, v) :: l else (i, u) :: setM t v l
def sel (r : Nat → AV) : List Nat → List (Nat × AV)
  | [] => []
  | t :: l => (t, r t) :: sel r l

theorem look_nil (t : Nat) : look [] t = .und := rfl
theorem look_cons (i : Nat) (v : AV) (l : List (Nat × AV)) (t : Nat) : look ((i, v) :: l) t = if t = i then v else look l t := rfl
theorem lookM_nil (t : Nat) : lookM [] t = none := rfl
theorem lookM_cons (i : Nat) (v : AObj) (l : List (Nat × AObj)) (t : Nat) : lookM ((i, v) :: l) t = if t = i then some v else lookM l t := rfl
theorem setR_nil (t : Nat) (v : AV) : setR t v [] = [(t, v)] := rfl
theorem setR_cons (t : Nat) (v : AV) (i : Nat) (u : AV) (l : List (Nat × AV)) : setR t v ((i, u) :: l) = if i = t then (t, v) :: l else (i, u) :: setR t v l := rfl
theorem setM_nil (t : Nat) (v : AObj) : setM t v [] = [(t, v)] := rfl
theorem setM_cons (t : Nat) (v : AObj) (i : Nat) (u : AObj) (l : List (Nat × AObj)) : setM t v ((i, u) :: l) = if i = t then (t, v) :: l else (i, u) :: setM t v l := rfl
theorem sel_nil (r : Nat → AV) : sel r [] = [] := rfl
theorem sel_cons (r : Nat → AV) (t : Nat) (l : List Nat) : sel r (t :: l) = (t, r t) :: sel r l := rfl

theorem upd_look (t : Nat) (v : AV) : ∀ (l : List (Nat × AV)), upd (look l) t v = look (setR t v l)
  | [] => by funext j; simp only [upd, setR_nil, look_cons, look_nil]
  | (i, u) :: l => by
    funext j
    have ih := congrFun (upd_look t v l) j
    simp only [upd] at ih
    simp only [upd, setR_cons, look_cons]
    by_cases hit : i = t
    · subst hit
      rw [if_pos rfl, look_cons]
      split
      · rfl
      · rfl
    · rw [if_neg hit, look_cons, ← ih]
      by_cases hj : j = t
      · subst hj
        rw [if_pos rfl, if_neg (fun e => hit e.symm), if_pos rfl]
      · rw [if_neg hj, if_neg hj]
theorem upd_lookM (t : Nat) (v : AObj) : ∀ (l : List (Nat × AObj)), upd (lookM l) t (some v) = lookM (setM t v l)
  | [] => by funext j; simp only [upd, setM_nil, lookM_cons, lookM_nil]
  | (i, u) :: l => by
    funext j
    have ih := congrFun (upd_lookM t v l) j
    simp only [upd] at ih
    simp only [upd, setM_cons, lookM_cons]
    by_cases hit : i = t
    · subst hit
      rw [if_pos rfl, lookM_cons]
      split
      · rfl
      · rfl
    · rw [if_neg hit, lookM_cons, ← ih]
      by_cases hj : j = t
      · subst hj
        rw [if_pos rfl, if_neg (fun e => hit e.symm), if_pos rfl]
      · rw [if_neg hj, if_neg hj]

theorem sel_or {r : Nat → AV} : ∀ (ts : List Nat) (t : Nat), look (sel r ts) t = .und ∨ look (sel r ts) t = r t
  | [], _ => .inl rfl
  | i :: ts, t => by
    rw [sel_cons, look_cons]
    split
    · rename_i e; subst e; exact .inr rfl
    · exact sel_or ts t

section
variable {s t : St} {r : Nat → AV} {m : Mem} {OT : List TypeId}

theorem Sub.und {r' : Nat → AV} (h : ∀ t, r' t = .und ∨ r' t = r t) : Sub OT ⟨r, m⟩ ⟨r', m⟩ := by
  rintro C a w - ⟨⟨loc, hr⟩, h2⟩
  refine ⟨⟨loc, hr.ext, hr.defers, hr.size, hr.low, hr.dom, fun t => ?_, hr.objs, hr.inj, hr.keepL⟩, h2⟩
  rcases h t with e | e <;> simp only [e]
  · exact .und _
  · exact hr.tmps t

/-- A nil slice may be taken for an empty object of the call's own. -/
theorem Sub.nil {T sz : Nat} (i id : Nat) (hi : r i = .nils T sz) (hm : m id = none) (hT : T ∈ OT) : Sub OT ⟨r, m⟩ ⟨upd r i (.slice id 0 0), upd m id (some ⟨T, sz, .row [], false⟩)⟩ := by
  rintro C a w rfl ⟨⟨loc, hr⟩, h2⟩
  have h' := hr.allocNil hm T sz
  refine ⟨⟨_, h'.ext, h'.defers, h'.size, h'.low, h'.dom, fun t => ?_, h'.objs, h'.inj, h'.keepL⟩, fun j o ho => ?_⟩
  · by_cases e : t = i
    · subst e
      have hv : RV w (NB C.base m loc w) loc (a.tmps.getD t undef) (r t) := hr.tmps t
      rw [hi] at hv
      simp only [upd_same]
      generalize a.tmps.getD t undef = v at hv
      cases hv with
      | nils => exact .sliceEmp _ id 0 none (upd_same _ _ _)
    · simp only [upd_ne _ _ e]
      exact h'.tmps t
  · by_cases e : j = id
    · subst e
      simp only [upd_same, Option.some.injEq] at ho
      subst ho
      exact hT
    · simp only [upd_ne _ _ e] at ho
      exact h2 j o ho

/-- Behind a piece of code: these slots are still wanted. -/
theorem keep (ts : List Nat) {R : St → Prop} (h : R ⟨look (sel r ts), m⟩) : ∃ u, Sub OT ⟨r, m⟩ u ∧ R u := ⟨_, Sub.und (sel_or ts), h⟩

theorem init1 (a : D) : init [a] = ⟨look [(0, .p a)], lookM []⟩ := by
  unfold init; congr 1; funext t
  match t with
  | 0 => rfl
  | t + 1 => simp [look_cons, look_nil]
theorem init2 (a b : D) : init [a, b] = ⟨look [(0, .p a), (1, .p b)], lookM []⟩ := by
  unfold init; congr 1; funext t
  match t with
  | 0 | 1 => rfl
  | t + 2 => simp [look_cons, look_nil]
theorem init3 (a b c : D) : init [a, b, c] = ⟨look [(0, .p a), (1, .p b), (2, .p c)], lookM []⟩ := by
  unfold init; congr 1; funext t
  match t with
  | 0 | 1 | 2 => rfl
  | t + 3 => simp [look_cons, look_nil]
theorem init4 (a b c d : D) : init [a, b, c, d] = ⟨look [(0, .p a), (1, .p b), (2, .p c), (3, .p d)], lookM []⟩ := by
  unfold init; congr 1; funext t
  match t with
  | 0 | 1 | 2 | 3 => rfl
  | t + 4 => simp [look_cons, look_nil]
theorem dc_bool (b : Bool) : D.cells (.bool b) = [.bool b] := rfl
theorem do_bool (b : Bool) : D.one (.bool b) = true := rfl
theorem da_bool (b : Bool) : D.isAgg (.bool b) = false := rfl
theorem dc_int (k : IntKind) (n : Int) : D.cells (.int k n) = [.int k n] := rfl
theorem do_int (k : IntKind) (n : Int) : D.one (.int k n) = true := rfl
theorem da_int (k : IntKind) (n : Int) : D.isAgg (.int k n) = false := rfl
theorem dc_str (s : List UInt8) : D.cells (.str s) = [.str s] := rfl
theorem do_str (s : List UInt8) : D.one (.str s) = true := rfl
theorem da_str (s : List UInt8) : D.isAgg (.str s) = false := rfl
theorem dc_list (T : TypeId) (sz : Nat) (l : List D) : D.cells (.list T sz l) = [.list T sz l] := rfl
theorem do_list (T : TypeId) (sz : Nat) (l : List D) : D.one (.list T sz l) = true := rfl
theorem da_list (T : TypeId) (sz : Nat) (l : List D) : D.isAgg (.list T sz l) = false := rfl
theorem dc_nilp  : D.cells .nilp = [.nilp] := rfl
theorem do_nilp  : D.one .nilp = true := rfl
theorem da_nilp  : D.isAgg .nilp = false := rfl
theorem dc_ref (d : D) : D.cells (.ref d) = [.ref d] := rfl
theorem do_ref (d : D) : D.one (.ref d) = true := rfl
theorem da_ref (d : D) : D.isAgg (.ref d) = false := rfl
theorem dc_fn (f : Fn) (x y : List D) : D.cells (.fn f x y) = [.fn f x y] := rfl
theorem do_fn (f : Fn) (x y : List D) : D.one (.fn f x y) = true := rfl
theorem da_fn (f : Fn) (x y : List D) : D.isAgg (.fn f x y) = false := rfl
theorem dc_agg (l : List D) : D.cells (.agg l) = l := rfl
theorem do_agg (l : List D) : D.one (.agg l) = false := rfl
theorem da_agg (l : List D) : D.isAgg (.agg l) = true := rfl
theorem ac_p (d : D) : AV.cells (.p d) = d.cells.map AV.p := rfl
theorem ao_p (d : D) : AV.one (.p d) = d.one := rfl
theorem aa_p (d : D) : AV.isAgg (.p d) = some d.isAgg := rfl
theorem ac_agg (l : List AV) : AV.cells (.agg l) = l := rfl
theorem aa_agg (l : List AV) : AV.isAgg (.agg l) = some true := rfl
theorem ao_agg (l : List AV) : AV.one (.agg l) = false := rfl
theorem ac_slice (i o n : Nat) : AV.cells (.slice i o n) = [.slice i o n] := rfl
theorem ao_slice (i o n : Nat) : AV.one (.slice i o n) = true := rfl
theorem aa_slice (i o n : Nat) : AV.isAgg (.slice i o n) = some false := rfl
theorem ac_ptr (i j o : Nat) : AV.cells (.ptr i j o) = [.ptr i j o] := rfl
theorem ao_ptr (i j o : Nat) : AV.one (.ptr i j o) = true := rfl
theorem aa_ptr (i j o : Nat) : AV.isAgg (.ptr i j o) = some false := rfl
theorem ac_nils (T : TypeId) (sz : Nat) : AV.cells (.nils T sz) = [.nils T sz] := rfl
theorem ao_nils (T : TypeId) (sz : Nat) : AV.one (.nils T sz) = true := rfl
theorem aa_nils (T : TypeId) (sz : Nat) : AV.isAgg (.nils T sz) = some false := rfl
theorem init0 : init [] = ⟨look [], lookM []⟩ := rfl
theorem cops_app (G : FuncId → List D → D → Prop) (K : St → Prop) : ∀ (l l' : List COp) (s : St), cops G (l ++ l') K s = cops G l (cops G l' K) s
  | [], _, _ => rfl
  | c :: l, l', s => by
    have : (fun t => cops G (l ++ l') K t) = cops G l (cops G l' K) := funext fun t => cops_app G K l l' t
    show gstep G c (fun t => cops G (l ++ l') K t) s = gstep G c (cops G l (cops G l' K)) s
    rw [this]

theorem Sub.to (ts : List Nat) {r' : Nat → AV} (h : look (sel r ts) = r') : Sub OT ⟨r, m⟩ ⟨r', m⟩ := by subst h; exact Sub.und (sel_or ts)

theorem cw_mono {OT : List TypeId} {G : FuncId → List D → D → Prop} : ∀ {cc : CC} {Q Q' : AExit → St → Prop} {s : St}, (∀ e t, Q e t → Q' e t) → cw OT G cc Q s → cw OT G cc Q' s
  | .skip, _, _, _, h, k => h _ _ k
  | .ops _ l, _, _, _, h, k => ⟨k.1, cops_mono l _ k.2 fun _ ht => h _ _ ht⟩
  | .seq a b, Q, Q', s, h, k => by
    refine cw_mono (cc := a) (fun e t ht => ?_) k
    cases e with
    | normal => obtain ⟨u, h1, h2⟩ := ht; exact ⟨u, h1, cw_mono h h2⟩
    | exit id => exact h _ _ ht
    | ret => exact h _ _ ht
  | .cond x a b, Q, Q', s, h, k => by
    simp only [cw] at k ⊢
    split at k
    · exact ⟨fun e => cw_mono h (k.1 e), fun e => cw_mono h (k.2 e)⟩
    · exact k.elim
  | .block id a, Q, Q', s, h, k => by
    refine cw_mono (cc := a) (fun e t ht => ?_) k
    cases e with
    | normal => exact h _ _ ht
    | exit j =>
      simp only at ht ⊢
      split
      · rw [if_pos ‹_›] at ht; exact h _ _ ht
      · rw [if_neg ‹_›] at ht; exact h _ _ ht
    | ret => exact h _ _ ht
  | .loop a, Q, Q', s, h, k => fun R hR => k R fun t ht => hR t (cw_mono (fun e u hu => by
    cases e with
    | normal => exact hu
    | exit id => exact h _ _ hu
    | ret => exact h _ _ hu) ht)
  | .exit id, _, _, _, h, k => h _ _ k
  | .ret, _, _, _, h, k => h _ _ k

/-- A loop. -/
theorem loop_of {G : FuncId → List D → D → Prop} {a : CC} {Q : AExit → St → Prop} {s : St} {ι : Type} (p : ι → Prop) (I : ι → St) (μ : ι → Nat) (i0 : ι) (h0 : p i0) (hs : Sub OT s (I i0))
    (round : ∀ i, p i → cw OT G a (fun e t => match e with
      | .normal => ∃ j, p j ∧ Sub OT t (I j) ∧ μ j < μ i
      | e => Q e t) (I i)) : cw OT G (.loop a) Q s := fun R hR => by
  have key : ∀ n i, μ i = n → p i → R (I i) := by
    intro n
    induction n using Nat.strongRecOn with
    | _ n ih =>
      intro i hn hp
      refine hR _ (cw_mono ?_ (round i hp))
      intro e t h
      cases e with
      | normal =>
        obtain ⟨j, h1, h2, h3⟩ := h
        exact ⟨_, h2, ih _ (hn ▸ h3) j rfl h1⟩
      | exit id => exact h
      | ret => exact h
  exact ⟨_, hs, key _ i0 rfl h0⟩
/-- A loop, its first round. -/
theorem loop_in {G : FuncId → List D → D → Prop} {a : CC} {Q : AExit → St → Prop} {s u : St} (hs : Sub OT s u) (round : cw OT G a (fun e t => match e with
      | .normal => cw OT G (.loop a) Q t
      | e => Q e t) u) : cw OT G (.loop a) Q s := fun R hR => ⟨u, hs, hR _ (cw_mono (fun e t h => by
  cases e with
  | normal => exact h R hR
  | exit id => exact h
  | ret => exact h) round)⟩

theorem getD_I (l : List Int) (i : Nat) : (l.map (D.int .i64)).getD i default = D.int .i64 (l.getD i 0) := by
  rw [List.getD_eq_getElem?_getD, List.getD_eq_getElem?_getD, List.getElem?_map]
  cases l[i]? <;> rfl
theorem set_I (l : List Int) (i : Nat) (x : Int) : (l.map (D.int .i64)).set i (D.int .i64 x) = (l.set i x).map (D.int .i64) := List.map_set.symm
theorem rep_I (n : Nat) (x : Int) : List.replicate n (D.int .i64 x) = (List.replicate n x).map (D.int .i64) := List.map_replicate.symm
theorem take_I (l : List Int) (n : Nat) : (l.map (D.int .i64)).take n = (l.take n).map (D.int .i64) := List.map_take.symm
theorem drop_I (l : List Int) (n : Nat) : (l.map (D.int .i64)).drop n = (l.drop n).map (D.int .i64) := List.map_drop.symm
theorem app_I (l m : List Int) : l.map (D.int .i64) ++ m.map (D.int .i64) = (l ++ m).map (D.int .i64) := List.map_append.symm
theorem cast0 : ((0 : Nat) : Int) = 0 := rfl
theorem toNat1 (n : Nat) : ((n : Int) + 1).toNat = n + 1 := by omega
theorem cast1 (n : Nat) : ((n + 1 : Nat) : Int) = (n : Int) + 1 := rfl
end

end Go.Proofs.Ytlnhembcfhfpkaa.M
