/- The small machine: objects that are dropped, or not written any more. The small machine: objects that nobody refers to any more are dropped together. The small machine: a slice of an object that is not written any more is plain data. The small machine: the contract of a function to which a slice is lent, out of its code. The small machine: lent arguments and calls of function values, as equations. The small machine: objects get other numbers; a row whose elements may be slices of the call's own. -/
import Derived.Test.YtlnhembcfhfpkaaMXx
section
namespace Go.Proofs.Ytlnhembcfhfpkaa.M
open Go.RowKit
set_option linter.defProp false
theorem bd_add (k : IntKind) (a b : Int) : binD .add (.int k a) (.int k b) = some (inK k (a + b), .int k (a + b)) := by simp [binD]
theorem bd_sub (k : IntKind) (a b : Int) : binD .sub (.int k a) (.int k b) = some (inK k (a - b), .int k (a - b)) := by simp [binD]
theorem bd_mul (k : IntKind) (a b : Int) : binD .mul (.int k a) (.int k b) = some (inK k (a * b), .int k (a * b)) := by simp [binD]
theorem bd_quo (k : IntKind) (a b : Int) : binD .quo (.int k a) (.int k b) = some (decide (b ≠ 0) && inK k (a.tdiv b), .int k (a.tdiv b)) := by simp [binD]
theorem bd_rem (k : IntKind) (a b : Int) : binD .rem (.int k a) (.int k b) = some (decide (b ≠ 0), .int k (a.tmod b)) := by simp [binD]
theorem bd_eql (k : IntKind) (a b : Int) : binD .eql (.int k a) (.int k b) = some (true, .bool (decide (a = b))) := by simp [binD]
theorem bd_neq (k : IntKind) (a b : Int) : binD .neq (.int k a) (.int k b) = some (true, .bool (!decide (a = b))) := by simp [binD]
theorem bd_lss (k : IntKind) (a b : Int) : binD .lss (.int k a) (.int k b) = some (true, .bool (decide (a < b))) := by simp [binD]
theorem bd_leq (k : IntKind) (a b : Int) : binD .leq (.int k a) (.int k b) = some (true, .bool (decide (a ≤ b))) := by simp [binD]
theorem bd_gtr (k : IntKind) (a b : Int) : binD .gtr (.int k a) (.int k b) = some (true, .bool (decide (b < a))) := by simp [binD]
theorem bd_geq (k : IntKind) (a b : Int) : binD .geq (.int k a) (.int k b) = some (true, .bool (decide (b ≤ a))) := by simp [binD]
theorem bd_sadd (a b : List UInt8) : binD .add (.str a) (.str b) = some (decide (a.length + b.length ≤ 9223372036854775807), .str (a ++ b)) := rfl
theorem bd_seql (a b : List UInt8) : binD .eql (.str a) (.str b) = some (true, .bool (decide (a = b))) := rfl
theorem bd_sneq (a b : List UInt8) : binD .neq (.str a) (.str b) = some (true, .bool (!decide (a = b))) := rfl
theorem bd_beql (a b : Bool) : binD .eql (.bool a) (.bool b) = some (true, .bool (a == b)) := rfl
theorem bd_bneq (a b : Bool) : binD .neq (.bool a) (.bool b) = some (true, .bool (!(a == b))) := rfl
theorem ud_not (a : Bool) : unD .not (.bool a) = some (true, .bool (!a)) := rfl
theorem ud_neg (k : IntKind) (a : Int) : unD .neg (.int k a) = some (inK k (-a), .int k (-a)) := rfl
theorem ik_i64 (n : Int) : inK .i64 n = decide (-9223372036854775808 ≤ n ∧ n ≤ 9223372036854775807) := rfl
theorem ik_u8 (n : Int) : inK .u8 n = decide (0 ≤ n ∧ n ≤ 255) := rfl
theorem ib_int (k : IntKind) (n : Int) : D.isBool (.int k n) = false := rfl
theorem ib_str (s : List UInt8) : D.isBool (.str s) = false := rfl
theorem ib_bool (b : Bool) : D.isBool (.bool b) = true := rfl
def cs6 := And.intro @bd_add (And.intro @bd_sub (And.intro @bd_mul (And.intro @bd_quo (And.intro @bd_rem (And.intro @bd_eql (And.intro @bd_neq (And.intro @bd_lss (And.intro @bd_leq (And.intro @bd_gtr (And.intro @bd_geq (And.intro @bd_sadd (And.intro @bd_seql (And.intro @bd_sneq (And.intro @bd_beql (And.intro @bd_bneq (And.intro @ud_not (And.intro @ud_neg (And.intro @ik_i64 (And.intro @ik_u8 (And.intro @ib_int (And.intro @ib_str (@ib_bool))))))))))))))))))))))
def fgR (i : Nat) : List (Nat × AV) → List (Nat × AV)
  | [] => []
  | (j, v) :: l => (j, v.forget i) :: fgR i l
def fgM (i : Nat) : List (Nat × AObj) → List (Nat × AObj)
  | [] => []
  | (j, v) :: l => (j, v.forget i) :: fgM i l
theorem fgR_nil (i : Nat) : fgR i [] = [] := rfl
theorem fgR_cons (i j : Nat) (v : AV) (l : List (Nat × AV)) : fgR i ((j, v) :: l) = (j, v.forget i) :: fgR i l := rfl
theorem fgM_nil (i : Nat) : fgM i [] = [] := rfl
theorem fgM_cons (i j : Nat) (v : AObj) (l : List (Nat × AObj)) : fgM i ((j, v) :: l) = (j, v.forget i) :: fgM i l := rfl
theorem forget_und (i : Nat) : AV.forget i .und = .und := by unfold AV.forget; rfl
theorem forget_p (i : Nat) (d : D) : AV.forget i (.p d) = .p d := by unfold AV.forget; rfl
theorem forget_nils (i T sz : Nat) : AV.forget i (.nils T sz) = .nils T sz := by unfold AV.forget; rfl
theorem forget_slice (i j o n : Nat) : AV.forget i (.slice j o n) = if j = i then .und else .slice j o n := by unfold AV.forget; rfl
theorem forget_ptr (i j k o : Nat) : AV.forget i (.ptr j k o) = if j = i then .und else .ptr j k o := by unfold AV.forget; rfl
theorem forget_agg (i : Nat) (l : List AV) : AV.forget i (.agg l) = (match forgetL i l with | some l => .agg l | none => .und) := by unfold AV.forget; rfl
theorem of_row (i T sz : Nat) (l : List D) (f : Bool) : AObj.forget i ⟨T, sz, .row l, f⟩ = ⟨T, sz, .row l, f⟩ := rfl
theorem of_junk (i T sz : Nat) (f : Bool) : AObj.forget i ⟨T, sz, .junk, f⟩ = ⟨T, sz, .junk, f⟩ := rfl
theorem of_boxp (i T sz : Nat) (d : D) (f : Bool) : AObj.forget i ⟨T, sz, .box (.p d), f⟩ = ⟨T, sz, .box (.p d), f⟩ := by simp only [AObj.forget, forget_p]
theorem of_box (i T sz : Nat) (v : AV) (f : Bool) : AObj.forget i ⟨T, sz, .box v, f⟩ = (match v.forget i with
    | .und => ⟨T, sz, .junk, f⟩
    | u => ⟨T, sz, .box u, f⟩) := rfl
theorem forgetR_look (i : Nat) : ∀ (l : List (Nat × AV)), forgetR i (look l) = look (fgR i l)
  | [] => by funext j; simp only [forgetR, fgR_nil, look_nil, forget_und]
  | (k, u) :: l => by
    funext j
    have ih := congrFun (forgetR_look i l) j
    simp only [forgetR] at ih
    simp only [forgetR, fgR_cons, look_cons]
    split
    · rfl
    · exact ih
theorem forgetM_look (i : Nat) : ∀ (l : List (Nat × AObj)), forgetM i (lookM l) = lookM (fgM i l)
  | [] => by funext j; simp only [forgetM, fgM_nil, lookM_nil, Option.map_none]
  | (k, u) :: l => by
    funext j
    have ih := congrFun (forgetM_look i l) j
    simp only [forgetM] at ih
    simp only [forgetM, fgM_cons, lookM_cons]
    split
    · rfl
    · exact ih
section
variable {w0 : World} {base : Bs} {nt : Nat} {loc : Locs} {s : St} {a : Act} {w : World} {OT : List TypeId}
theorem Rel.drop (h : Rel w0 base nt loc s a w) (i : Nat) (hi : i ≠ lentId) : Rel w0 base nt (upd loc i none) ⟨forgetR i s.r, upd (forgetM i s.m) i none⟩ a w := by
  have hl : ∀ j L, j ≠ i → loc j = some L → upd loc i none j = some L := fun j L hj hL => by rw [upd_ne _ _ hj]; exact hL
  have hother : ∀ j ob, upd (forgetM i s.m) i none j = some ob → j ≠ i ∧ ∃ ob0, s.m j = some ob0 ∧ ob = ob0.forget i := by
    intro j ob hob
    by_cases hj : j = i
    · subst hj; rw [upd_same] at hob; cases hob
    · rw [upd_ne _ _ hj] at hob
      unfold forgetM at hob
      simp only [Option.map_eq_some_iff] at hob
      obtain ⟨ob0, h1, h2⟩ := hob
      exact ⟨hj, ob0, h1, h2.symm⟩
  have hN : ∀ b, NB base s.m loc w b → NB base (upd (forgetM i s.m) i none) (upd loc i none) w b := by
    rintro b hbN
    refine ⟨hbN.1, hbN.2.1, ?_⟩
    rintro ⟨j, ob, Lj, h1, h2, h3, h4, h5⟩
    obtain ⟨hj, ob0, g1, rfl⟩ := hother j ob h1
    rw [upd_ne _ _ hj] at h3
    exact hbN.2.2 ⟨j, ob0, Lj, g1, by rw [← (forget_same i ob0).2.2.1]; exact h2, h3, h4, h5⟩
  refine ⟨h.ext, h.defers, h.size, h.low, ?_, fun t => (h.tmps t).forget (fun _ _ => rfl) hN hl, ?_, ?_, h.keepL.turn (fun o0 g1 g2 => ⟨o0.forget i, by dsimp only; rw [upd_ne _ _ (Ne.symm hi)]; unfold forgetM; rw [g1]; rfl, by rw [(forget_same i o0).2.2.1]; exact g2⟩) (fun _ => upd_ne _ _ (Ne.symm hi))⟩
  · intro j hj
    dsimp only at hj
    by_cases e : j = i
    · subst e; exact upd_same _ _ _
    · rw [upd_ne _ _ e] at hj ⊢
      unfold forgetM at hj
      simp only [Option.map_eq_none_iff] at hj
      exact h.dom j hj
  · intro j ob hob
    obtain ⟨e, ob0, g1, rfl⟩ := hother j ob hob
    obtain ⟨Lj, hLj, hokj⟩ := h.objs j ob0 g1
    obtain ⟨f1, f2, f3, f4⟩ := forget_same i ob0
    refine ⟨Lj, hl j Lj e hLj, hokj.sz.trans f2.symm, fun hn => f4 (hokj.nil hn), fun hn => ?_⟩
    obtain ⟨c, fr, k1, k2, k3, k4, k5⟩ := hokj.at_ hn
    exact ⟨c, fr, by rw [f1]; exact k1, k2, by rw [f2]; exact k3.forget (fun _ _ => rfl) hN hl, fun hf => k4 (f3 ▸ hf), fun hf => hN _ (k5 (f3 ▸ hf))⟩
  · intro j j' ob ob' Lj Lj' hob hob' hf hLj hLj' hn hn' hbb
    obtain ⟨e, ob0, g1, rfl⟩ := hother j ob hob
    obtain ⟨e', ob0', g1', rfl⟩ := hother j' ob' hob'
    rw [upd_ne _ _ e] at hLj
    rw [upd_ne _ _ e'] at hLj'
    exact h.inj j j' ob0 ob0' Lj Lj' g1 g1' ((forget_same i ob0).2.2.1 ▸ hf) hLj hLj' hn hn' hbb
theorem Rel.freeze (h : Rel w0 base nt loc s a w) {i : Nat} {ob : AObj} (hi : i ≠ lentId) (hm : s.m i = some ob) : Rel w0 base nt loc ⟨s.r, upd s.m i (some ⟨ob.T, ob.sz, ob.cont, true⟩)⟩ a w := h.frz0 hi hm
theorem Sub.drop (i : Nat) (s : St) (hi : i ≠ lentId) : Sub OT s ⟨forgetR i s.r, upd (forgetM i s.m) i none⟩ := by
  rintro C a w rfl ⟨⟨loc, hr⟩, h2⟩
  refine ⟨⟨_, hr.drop i hi⟩, fun j o ho => ?_⟩
  dsimp only at ho
  by_cases e : j = i
  · subst e; rw [upd_same] at ho; cases ho
  · rw [upd_ne _ _ e] at ho
    unfold forgetM at ho
    simp only [Option.map_eq_some_iff] at ho
    obtain ⟨o', h1, rfl⟩ := ho
    rw [(forget_same _ o').1]
    exact h2 j o' h1
theorem Sub.freeze {i : Nat} {r : Nat → AV} {m : Mem} {ob : AObj} (hi : i ≠ lentId) (hm : m i = some ob) : Sub OT ⟨r, m⟩ ⟨r, upd m i (some ⟨ob.T, ob.sz, ob.cont, true⟩)⟩ := by
  rintro C a w rfl ⟨⟨loc, hr⟩, h2⟩
  refine ⟨⟨_, hr.freeze hi hm⟩, fun j o ho => ?_⟩
  dsimp only at ho
  by_cases e : j = i
  · subst e; rw [upd_same] at ho; cases ho; exact h2 j ob hm
  · rw [upd_ne _ _ e] at ho; exact h2 j o ho
theorem keepF (i : Nat) (ob : AObj) (ts : List Nat) {r : Nat → AV} {m : Mem} {R : St → Prop} (hm : m i = some ob) (h : R ⟨look (sel r ts), upd m i (some ⟨ob.T, ob.sz, ob.cont, true⟩)⟩) (hi : i ≠ lentId := by decide) : ∃ u, Sub OT ⟨r, m⟩ u ∧ R u := ⟨_, (Sub.freeze hi hm).tr (Sub.und (sel_or ts)), h⟩
end
end Go.Proofs.Ytlnhembcfhfpkaa.M
end

section
namespace Go.Proofs.Ytlnhembcfhfpkaa.M
open Go.RowKit
set_option linter.defProp false
mutual
def AV.men (L : List Nat) : AV → Bool
  | .slice i _ _ => L.contains i
  | .ptr i _ _ => L.contains i
  | .arr i _ _ => L.contains i
  | .agg l => menL L l
  | .tup l => menL L l
  | _ => false
def menL (L : List Nat) : List AV → Bool
  | [] => false
  | v :: l => v.men L || menL L l
end
def AObj.men (L : List Nat) (o : AObj) : Bool := match o.cont with
  | .box v => v.men L
  | _ => false
def closedR (L : List Nat) : List (Nat × AV) → Bool
  | [] => true
  | (_, v) :: l => !v.men L && closedR L l
def closedM (L : List Nat) : List (Nat × AObj) → Bool
  | [] => !L.contains lentId
  | (i, o) :: l => (L.contains i || !o.men L) && closedM L l
def memN (i : Nat) : List Nat → Bool
  | [] => false
  | j :: l => if i = j then true else memN i l
theorem memN_eq (i : Nat) : ∀ l : List Nat, l.contains i = memN i l
  | [] => rfl
  | j :: l => by
    rw [List.contains_cons, memN_eq i l, memN]
    by_cases h : i = j <;> simp [h]
def delL (L : List Nat) : List (Nat × AObj) → List (Nat × AObj)
  | [] => []
  | (i, o) :: l => if memN i L = true then delL L l else (i, o) :: delL L l
theorem delL_nil (L : List Nat) : delL L [] = [] := rfl
theorem delL_cons (L : List Nat) (i : Nat) (o : AObj) (l : List (Nat × AObj)) : delL L ((i, o) :: l) = if memN i L = true then delL L l else (i, o) :: delL L l := rfl
theorem memN_nil (i : Nat) : memN i [] = false := rfl
theorem memN_cons (i j : Nat) (l : List Nat) : memN i (j :: l) = if i = j then true else memN i l := rfl
def csG := And.intro @delL_nil (And.intro @delL_cons (And.intro @memN_nil (@memN_cons)))
theorem menL_mem {L : List Nat} {l : List AV} (h : menL L l = false) : ∀ v ∈ l, v.men L = false := by
  induction l with
  | nil => simp
  | cons u l ih =>
    simp only [menL, Bool.or_eq_false_iff] at h
    intro v hv
    rcases List.mem_cons.1 hv with rfl | hv
    · exact h.1
    · exact ih h.2 v hv
theorem men_cells {L : List Nat} {x : AV} (h : x.men L = false) : ∀ e ∈ x.cells, e.men L = false := by
  cases x with
  | p d =>
    intro e he
    simp only [AV.cells, List.mem_map] at he
    obtain ⟨_, _, rfl⟩ := he
    unfold AV.men; rfl
  | agg l => rw [AV.men] at h; exact menL_mem h
  | _ => intro e he; simp only [AV.cells, List.mem_singleton] at he; subst he; exact h
section
variable {w0 : World} {base : Bs} {nt : Nat} {loc loc' : Locs} {a : Act} {w : World} {OT : List TypeId} {N N' : Nat → Prop} {r : Nat → AV} {m : Mem}
theorem RV.lose {L : List Nat} {v : Value} {x : AV} (h : RV w N loc v x) (hx : x.men L = false) (hn : ∀ b, N b → N' b) (hl : ∀ id K, L.contains id = false → loc id = some K → loc' id = some K) : RV w N' loc' v x := by
  induction h with
  | und v => exact .und v
  | p v d h => exact .p v d (h.mono (fun _ _ => rfl) hn)
  | agg cs l h1 h2 _ ih => rw [AV.men] at hx; exact .agg cs l h1 h2 fun i d hd => ih i d hd (menL_mem hx d (List.mem_of_getElem? hd))
  | tup cs l h1 _ ih => rw [AV.men] at hx; exact .tup cs l h1 fun i d hd => ih i d hd (menL_mem hx d (List.mem_of_getElem? hd))
  | nils T sz => exact .nils T sz
  | slice K id off len cap h1 h2 h3 h4 h5 => rw [AV.men] at hx; exact .slice K id off len cap (hl _ _ hx h1) h2 h3 h4 h5
  | sliceEmp K id off p h1 => rw [AV.men] at hx; exact .sliceEmp K id off p (hl _ _ hx h1)
  | arr K id off len cap h1 h2 h3 h4 h5 => rw [AV.men] at hx; exact .arr K id off len cap (hl _ _ hx h1) h2 h3 h4 h5
  | arrEmp K id off p h1 => rw [AV.men] at hx; exact .arrEmp K id off p (hl _ _ hx h1)
  | ptr K id i off h1 h2 => rw [AV.men] at hx; exact .ptr K id i off (hl _ _ hx h1) h2
theorem Rel.dropL (h : Rel w0 base nt loc ⟨r, m⟩ a w) (L : List Nat) {r' : Nat → AV} {m' : Mem} (hr : ∀ t, r' t = .und ∨ (r' t = r t ∧ (r t).men L = false)) (hm : ∀ i, m' i = if L.contains i then none else m i)
    (hc : ∀ i o, m' i = some o → o.men L = false) (h9 : L.contains lentId = false) : Rel w0 base nt (fun i => if L.contains i then none else loc i) ⟨r', m'⟩ a w := by
  have hl : ∀ j K, L.contains j = false → loc j = some K → (fun i => if L.contains i then none else loc i) j = some K := fun j K hj hK => by simp only [hj]; exact hK
  have hother : ∀ j ob, m' j = some ob → L.contains j = false ∧ m j = some ob := by
    intro j ob hob
    rw [hm] at hob
    cases hj : L.contains j with
    | true => rw [hj] at hob; cases hob
    | false => rw [hj] at hob; exact ⟨rfl, hob⟩
  have hN : ∀ b, NB base m loc w b → NB base m' (fun i => if L.contains i then none else loc i) w b := by
    rintro b hbN
    refine ⟨hbN.1, hbN.2.1, ?_⟩
    rintro ⟨j, ob, Lj, h1, h2, h3, h4, h5⟩
    obtain ⟨hj, g1⟩ := hother j ob h1
    simp only [hj] at h3
    exact hbN.2.2 ⟨j, ob, Lj, g1, h2, h3, h4, h5⟩
  refine ⟨h.ext, h.defers, h.size, h.low, ?_, fun t => ?_, ?_, ?_, h.keepL.turn (fun o0 g1 g2 => ⟨o0, by dsimp only; rw [hm, h9]; exact g1, g2⟩) (fun _ => by simp only [h9]; rfl)⟩
  · intro j hj
    dsimp only at hj ⊢
    rw [hm] at hj
    cases e : L.contains j with
    | true => rfl
    | false => rw [e] at hj; exact h.dom j hj
  · dsimp only
    rcases hr t with e | ⟨e, e2⟩ <;> rw [e]
    · exact .und _
    · exact RV.lose (L := L) (h.tmps t) e2 hN hl
  · intro j ob hob
    obtain ⟨e, g1⟩ := hother j ob hob
    obtain ⟨Lj, hLj, hokj⟩ := h.objs j ob g1
    refine ⟨Lj, hl j Lj e hLj, hokj.sz, hokj.nil, fun hn => ?_⟩
    obtain ⟨c, fr, k1, k2, k3, k4, k5⟩ := hokj.at_ hn
    refine ⟨c, fr, k1, k2, ?_, k4, fun hf => hN _ (k5 hf)⟩
    have hmen := hc j ob hob
    unfold AObj.men at hmen
    cases hcont : ob.cont with
    | row l => rw [hcont] at k3; exact ⟨k3.1, k3.2.1, fun i e j d h1 h2 => ⟨(k3.2.2 i e j d h1 h2).1, (k3.2.2 i e j d h1 h2).2.mono (fun _ _ => rfl) hN⟩⟩
    | junk => rw [hcont] at k3; exact k3
    | box v =>
      rw [hcont] at k3 hmen
      exact ⟨k3.1, k3.2.1, k3.2.2.1, fun j d h1 => (k3.2.2.2 j d h1).lose (men_cells hmen d (List.mem_of_getElem? h1)) hN hl⟩
  · intro j j' ob ob' Lj Lj' hob hob' hf hLj hLj' hn hn' hbb
    obtain ⟨e, g1⟩ := hother j ob hob
    obtain ⟨e', g1'⟩ := hother j' ob' hob'
    simp only [e] at hLj
    simp only [e'] at hLj'
    exact h.inj j j' ob ob' Lj Lj' g1 g1' hf hLj hLj' hn hn' hbb
theorem Sub.dropL (L : List Nat) {r' : Nat → AV} {m' : Mem} (hr : ∀ t, r' t = .und ∨ (r' t = r t ∧ (r t).men L = false)) (hm : ∀ i, m' i = if L.contains i then none else m i)
    (hc : ∀ i o, m' i = some o → o.men L = false) (h9 : L.contains lentId = false) : Sub OT ⟨r, m⟩ ⟨r', m'⟩ := by
  rintro C a w rfl ⟨⟨loc, hR⟩, h2⟩
  refine ⟨⟨_, hR.dropL L hr hm hc h9⟩, fun j o ho => ?_⟩
  dsimp only at ho
  rw [hm] at ho
  split at ho
  · cases ho
  · exact h2 j o ho
theorem look_closed {L : List Nat} : ∀ {l : List (Nat × AV)} (t : Nat), closedR L l = true → (look l t).men L = false
  | [], t, _ => by rw [look_nil]; unfold AV.men; rfl
  | (i, v) :: l, t, h => by
    simp only [closedR, Bool.and_eq_true, Bool.not_eq_true'] at h
    rw [look_cons]
    split
    · exact h.1
    · exact look_closed t h.2
theorem lookM_del (L : List Nat) : ∀ (l : List (Nat × AObj)) (i : Nat), lookM (delL L l) i = if L.contains i then none else lookM l i
  | [], i => by rw [delL_nil, lookM_nil]; split <;> rfl
  | (j, o) :: l, i => by
    have ih := lookM_del L l i
    rw [delL_cons, lookM_cons]
    by_cases hj : memN j L = true
    · rw [if_pos hj, ih]
      by_cases e : i = j
      · subst e; rw [memN_eq, hj]; rfl
      · rw [if_neg e]
    · rw [if_neg hj, lookM_cons, ih]
      by_cases e : i = j
      · subst e; rw [if_pos rfl, memN_eq, if_neg hj, if_pos rfl]
      · rw [if_neg e, if_neg e]
theorem lookM_closed {L : List Nat} : ∀ {l : List (Nat × AObj)} (i : Nat) (o : AObj), closedM L l = true → lookM (delL L l) i = some o → o.men L = false
  | [], i, o, _, h => by rw [delL_nil] at h; cases h
  | (j, q) :: l, i, o, h, ho => by
    simp only [closedM, Bool.and_eq_true, Bool.or_eq_true, Bool.not_eq_true'] at h
    rw [delL_cons] at ho
    split at ho
    · exact lookM_closed i o h.2 ho
    · rename_i hj
      rw [lookM_cons] at ho
      split at ho
      · cases ho
        rw [memN_eq] at h
        exact h.1.resolve_left hj
      · exact lookM_closed i o h.2 ho
theorem closedM_lent {L : List Nat} : ∀ {l : List (Nat × AObj)}, closedM L l = true → L.contains lentId = false
  | [], h => by simpa [closedM] using h
  | (j, q) :: l, h => by
    simp only [closedM, Bool.and_eq_true] at h
    exact closedM_lent h.2
theorem Sub.keepG (ts L : List Nat) {R : List (Nat × AV)} {M : List (Nat × AObj)} (h1 : closedR L (sel (look R) ts) = true) (h2 : closedM L M = true) : Sub OT ⟨look R, lookM M⟩ ⟨look (sel (look R) ts), lookM (delL L M)⟩ :=
  (Sub.und (sel_or ts)).tr (Sub.dropL L (fun t => .inr ⟨rfl, look_closed t h1⟩) (lookM_del L M) (fun i o ho => lookM_closed i o h2 ho) (closedM_lent h2))
theorem keepG (ts L : List Nat) {R : List (Nat × AV)} {M : List (Nat × AObj)} {K : St → Prop} (h1 : closedR L (sel (look R) ts) = true) (h2 : closedM L M = true) (h : K ⟨look (sel (look R) ts), lookM (delL L M)⟩) : ∃ u, Sub OT ⟨look R, lookM M⟩ u ∧ K u :=
  ⟨_, Sub.keepG ts L h1 h2, h⟩
theorem Sub.toG (ts L : List Nat) {R : List (Nat × AV)} {M : List (Nat × AObj)} {r' : Nat → AV} {m' : Mem} (h1 : closedR L (sel (look R) ts) = true) (h2 : closedM L M = true) (e1 : look (sel (look R) ts) = r') (e2 : lookM (delL L M) = m') : Sub OT ⟨look R, lookM M⟩ ⟨r', m'⟩ := by
  subst e1 e2; exact Sub.keepG ts L h1 h2
theorem Sub.nilG (t i T sz : Nat) {R : List (Nat × AV)} {M : List (Nat × AObj)} {r' : Nat → AV} {m' : Mem} (ht : look R t = .nils T sz) (hm : lookM M i = none) (hT : OT.contains T = true)
    (e1 : look (setR t (.slice i 0 0) R) = r') (e2 : lookM (setM i ⟨T, sz, .row [], false⟩ M) = m') : Sub OT ⟨look R, lookM M⟩ ⟨r', m'⟩ := by
  subst e1 e2
  rw [← upd_look, ← upd_lookM]
  exact Sub.nil t i ht hm (by simpa using hT)
theorem ea_nils (T sz bytes : Nat) (x y : Opd) (id : Nat) (s : St) : evApp T sz bytes x y id s = (match elemsOf sz s.m (y.ev s.r) with
  | none => none
  | some ys => match x.ev s.r with
    | .nils _ sz' => match s.m id with
      | none => if sz' = sz then some (decide (ys.length * bytes ≤ 140737488355328 ∧ ys.length ≤ 9223372036854775807), .slice id 0 ys.length, ⟨s.r, upd s.m id (some ⟨T, sz, .row ys, false⟩)⟩) else none
      | some _ => none
    | .slice i 0 n => match s.m i with
      | some ⟨T', sz', .row l, false⟩ => if sz' = sz ∧ T' = T ∧ n = l.length ∧ i ≠ 999999 then
          some (decide ((n + ys.length) * bytes ≤ 140737488355328 ∧ n + ys.length ≤ 9223372036854775807), .slice i 0 (n + ys.length), ⟨forgetR i s.r, upd (forgetM i s.m) i (some ⟨T, sz, .row (l ++ ys), false⟩)⟩) else none
      | _ => none
    | _ => none) := rfl
theorem eo_eq (sz : Nat) (m : Mem) (v : AV) : elemsOf sz m v = (match v with
  | .slice j off n => match m j with
    | some ⟨_, sz', .row l, _⟩ => if sz' = sz ∧ off + n ≤ l.length then some ((l.drop off).take n) else none
    | _ => none
  | .p (.list _ sz' l) => if sz' = sz then some l else none
  | .nils _ sz' => if sz' = sz then some [] else none
  | _ => none) := rfl
theorem fr_nil (sz : Nat) (l : List D) (r : Nat → AV) (M : Mem) : fillR sz l r M [] = some l := rfl
theorem fr_cons (sz : Nat) (l : List D) (r : Nat → AV) (M : Mem) (i : Nat) (x : Opd) (rest : List (Nat × Opd)) : fillR sz l r M ((i, x) :: rest) = (match (x.ev r).toD false M 20 with
  | some d => if d.cells.length = sz ∧ d.cells.all D.one = true ∧ i < l.length then fillR sz (l.set i d) r M rest else none
  | none => none) := rfl
theorem rep_1 (z : D) : List.replicate 1 z = [z] := rfl
theorem rep_2 (z : D) : List.replicate 2 z = [z, z] := rfl
theorem set_0 (x z : D) (l : List D) : (z :: l).set 0 x = x :: l := rfl
theorem set_1 (x y z : D) (l : List D) : (z :: y :: l).set 1 x = z :: x :: l := rfl
theorem st_bsF (G : FuncId → List D → D → Prop) (dd : Option Nat) (T : Nat) (sz : Nat) (z : D) (n : Nat) (parts : List (Nat × Opd)) (g : Option (Nat × Bool)) (K : St → Prop) (s : St) : step G ⟨dd, .buildSliceF T sz z n parts, g⟩ K s = fin dd K (ev (.buildSliceF T sz z n parts) (dd.getD 0) s) := rfl
theorem ev_bsF (T : Nat) (sz : Nat) (z : D) (n : Nat) (parts : List (Nat × Opd)) (id : Nat) (s : St) : ev (.buildSliceF T sz z n parts) id s = (if id = 999999 then none else match s.m id with
    | none => match fillR sz (List.replicate n z) s.r s.m parts with
      | some l => some (true, .slice id 0 n, ⟨s.r, upd s.m id (some ⟨T, sz, .row l, true⟩)⟩)
      | none => none
    | some _ => none) := rfl
def frzO (id : Nat) : Option (Bool × AV × St) → Option (Bool × AV × St)
  | some (p, v, t) => some (p, v, frzS (slId id v) t)
  | none => none
theorem frzO_some (id : Nat) (p : Bool) (i o n : Nat) (t : St) : frzO id (some (p, .slice i o n, t)) = some (p, .slice i o n, frzS i t) := rfl
theorem st_appF (G : FuncId → List D → D → Prop) (d : Option Nat) (T sz b : Nat) (x y : Opd) (g : Option (Nat × Bool)) (K : St → Prop) (s : St) : step G ⟨d, .appendF T sz b x y, g⟩ K s = fin d K (frzO (d.getD 0) (evApp T sz b x y (d.getD 0) s)) := by
  unfold step frzO
  simp only
  cases evApp T sz b x y (d.getD 0) s <;> rfl
theorem frzS_eq (id : Nat) (r : Nat → AV) (m : Mem) : frzS id ⟨r, m⟩ = (if id = 999999 then ⟨r, m⟩ else match m id with
  | some o => ⟨r, upd m id (some ⟨o.T, o.sz, o.cont, true⟩)⟩
  | none => ⟨r, m⟩) := rfl
def csA := And.intro @st_bsF (And.intro @ev_bsF (And.intro @frzO_some (And.intro @st_appF (And.intro @frzS_eq (And.intro @fr_nil (And.intro @fr_cons (And.intro @rep_1 (And.intro @rep_2 (And.intro @set_0 (And.intro @set_1 (And.intro @ea_nils (And.intro @eo_eq (And.intro @forgetR_look (And.intro @forgetM_look (And.intro @fgR_nil (And.intro @fgR_cons (And.intro @fgM_nil (And.intro @fgM_cons (And.intro @forget_und (And.intro @forget_p (And.intro @forget_nils (And.intro @forget_slice (And.intro @forget_ptr (And.intro @of_row (And.intro @of_junk (@of_boxp))))))))))))))))))))))))))
def csW := And.intro cs0 (And.intro cs1 (And.intro cs2 (And.intro cs3 (And.intro cs4 (And.intro cs5 (And.intro cs6 (And.intro csG (And.intro csA (And.intro @St.put.eq_1 (And.intro @St.put.eq_2 (And.intro @apOk.eq_1 (And.intro @bounds.eq_1 (And.intro @bounds.eq_2 (And.intro @bounds.eq_3 (And.intro @bounds.eq_4 (And.intro @bounds.eq_5 (And.intro @Option.getD_none.{0} (And.intro @forall_const.{0} (@forall_const.{1})))))))))))))))))))
end
end Go.Proofs.Ytlnhembcfhfpkaa.M
end

section
namespace Go.Proofs.Ytlnhembcfhfpkaa.M
open Go.RowKit
section
variable {OT : List TypeId} {r : Nat → AV} {m : Mem}
theorem Sub.reveal (t : Nat) (d : D) (hd : (r t).toD false m 20 = some d) : Sub OT ⟨r, m⟩ ⟨upd r t (.p d), m⟩ := by
  rintro C a w - ⟨⟨loc, hr⟩, h2⟩
  refine ⟨⟨loc, hr.ext, hr.defers, hr.size, hr.low, hr.dom, fun u => ?_, hr.objs, hr.inj, hr.keepL⟩, h2⟩
  by_cases e : u = t
  · subst e
    simp only [upd_same]
    exact .p _ _ (toD_pure hr hd (hr.tmps u))
  · simp only [upd_ne _ _ e]
    exact hr.tmps u
theorem Sub.showG (t i : Nat) (ob : AObj) (d : D) {R : List (Nat × AV)} {M : List (Nat × AObj)} (hm : lookM M i = some ob) (hd : (look R t).toD false (lookM (setM i ⟨ob.T, ob.sz, ob.cont, true⟩ M)) 20 = some d) (hi : i ≠ lentId := by decide) :
    Sub OT ⟨look R, lookM M⟩ ⟨look (setR t (.p d) R), lookM (setM i ⟨ob.T, ob.sz, ob.cont, true⟩ M)⟩ := by
  rw [← upd_look]
  refine (Sub.freeze hi hm).tr ?_
  rw [upd_lookM]
  exact Sub.reveal t d hd
theorem keepF2 (i : Nat) (ob : AObj) (j : Nat) (ob' : AObj) (ts : List Nat) {R : St → Prop} (hm : m i = some ob) (hm' : upd m i (some ⟨ob.T, ob.sz, ob.cont, true⟩) j = some ob')
    (h : R ⟨look (sel r ts), upd (upd m i (some ⟨ob.T, ob.sz, ob.cont, true⟩)) j (some ⟨ob'.T, ob'.sz, ob'.cont, true⟩)⟩) (hi : i ≠ lentId := by decide) (hj : j ≠ lentId := by decide) : ∃ u, Sub OT ⟨r, m⟩ u ∧ R u :=
  ⟨_, ((Sub.freeze hi hm).tr (Sub.freeze hj hm')).tr (Sub.und (sel_or ts)), h⟩
end
end Go.Proofs.Ytlnhembcfhfpkaa.M
end

section
namespace Go.Proofs.Ytlnhembcfhfpkaa.M
open Go.RowKit
def initL (k T sz : Nat) (l : List D) (ds : List D) : St := ⟨fun t => if t = k then .slice lentId 0 l.length else match ds[t]? with
  | some d => .p d
  | none => .und, fun i => if i = lentId then some ⟨T, sz, .row l, false⟩ else none⟩
def unlent (s : St) : St := ⟨s.r, fun i => if i = lentId then none else s.m i⟩
inductive ResLt (s : St) (rs : List (Nat × Option (Bool × Nat))) : D → Prop
  | plain {r : D} : resD (unlent s) rs = some r → (∀ m, r ≠ .tup [.int .i64 m]) → ResLt s rs r
  | pre {m : Int} {t : Nat} : rs = [(t, none)] → s.r t = .slice lentId 0 m.toNat → ResLt s rs (.tup [.int .i64 m])
def EndsL (T sz : Nat) (l' : List D) (r : D) (rs : List (Nat × Option (Bool × Nat))) : AExit → St → Prop
  | .exit _, _ => False
  | _, s => s.m lentId = some ⟨T, sz, .row l', false⟩ ∧ ResLt s rs r
theorem lentRes_plain {w : World} {N : Nat → Prop} {b o sz n : Nat} {v : Value} {r : D} (h : ∀ m, r ≠ .tup [.int .i64 m]) (hv : V w N v r) : LentRes w N b o sz n v r := by
  unfold LentRes
  split
  · exact absurd rfl (h _)
  · exact hv
theorem FnOk.conL {P : Program} {A OT : List TypeId} {f : FuncId} {cc : CC} {rs : List (Nat × Option (Bool × Nat))} {nt k : Nat} {ds : List D} {T sz : Nat} {l l' : List D} {r : D} (h : FnOk P f OT cc rs nt) (hA : OT.all (fun T => !A.contains T) = true) (hn : ds.length ≤ nt) (hT : OT.contains T = true) (hk : k < ds.length)
    (hcw : cw OT (ConX P A) cc (EndsL T sz l' r rs) (initL k T sz l ds)) : ConLent P A f k ds T sz l r l' := by
  obtain ⟨fn, H, hf, hbd, hm, hc, hr, rfl⟩ := h
  obtain ⟨code, hb⟩ := Option.isSome_iff_exists.1 hbd
  rw [hb] at hc
  simp only [Option.getD_some] at hc
  intro own w vs b o cap c fr h1 h2 h3 h4 hob hargk hheap hcap hcap2 hroom hfr hcont
  have hblt : b < w.heap.size := lt_of_heap hheap
  have hnb : ∀ x, (x < w.heap.size ∧ ¬ own x) → NB ⟨own, some ⟨b, o, c.size, sz, false⟩⟩ (initL k T sz l ds).m (fun i => if i = lentId then some ⟨b, o, c.size, sz, false⟩ else none) w x := fun x hx => ⟨hx.1, hx.2, by
    rintro ⟨id, ob, L, g1, g2, g3, g4, g5⟩
    dsimp only [initL] at g1 g3
    by_cases e : id = lentId
    · subst e
      rw [if_pos rfl] at g3
      cases g3
      exact hx.2 (g5 ▸ hob)
    · rw [if_neg e] at g1; cases g1⟩
  have hbody := cw_sound (C := ⟨P, A, OT, fn.ntmps, w, ⟨own, some ⟨b, o, c.size, sz, false⟩⟩⟩) ⟨h2, fun T hT => by
    rw [List.all_eq_true] at hA
    have := hA T hT
    simpa using this⟩ hm H code cc _ (initL k T sz l ds) { tmps := vs ++ Array.replicate (fn.ntmps - vs.size) undef, defers := [] } w hc hcw ⟨⟨fun i => if i = lentId then some ⟨b, o, c.size, sz, false⟩ else none, ExtL.rf _ w, rfl, by simp; omega, h1, fun id hid => ?_, fun t => ?_, fun id ob ho => ?_, fun id id' ob ob' L L' g1 g2 _ _ _ _ _ _ => ?_, fun L hL => ?_⟩, fun id ob ho => ?_⟩
  · refine calls_of_wp hf hb (wp_mono hbody ?_)
    intro e a' w' hq
    have fin : (∃ t, Is ⟨P, A, OT, fn.ntmps, w, ⟨own, some ⟨b, o, c.size, sz, false⟩⟩⟩ t a' w' ∧ t.m lentId = some ⟨T, sz, .row l', false⟩ ∧ ResLt t rs r) → a'.defers = [] ∧ ∃ v, (results fn a'.tmps).run P w' = .ok v w' ∧ ∃ v' c', Ending.returned v = Ending.returned v' ∧ ExtL ⟨own, some ⟨b, o, c.size, sz, false⟩⟩ w w' ∧ w'.heap[b]? = some (.cells c' T fr) ∧ c'.size = c.size ∧
      ContOk w' (fun b => b < w'.heap.size ∧ ¬ own b) (fun _ => none) c' o sz (.row l') ∧ LentRes w' (fun b => b < w'.heap.size ∧ ¬ own b) b o sz c.size v' r := by
      rintro ⟨t, ht, hlm, hres⟩
      obtain ⟨loc, hrel⟩ := ht.1
      refine ⟨hrel.defers, ?_⟩
      obtain ⟨L, hL, hok⟩ := hrel.objs lentId _ hlm
      obtain ⟨y1, y2, y3, -⟩ := hrel.keepL _ rfl
      rw [hL] at y1
      cases y1
      obtain ⟨c1, fr1, k1, k2, k3, k4, -⟩ := hok.at_ rfl
      obtain ⟨c2, z1, z2⟩ := hrel.ext.lentB b c T fr hheap
      dsimp only at k1 k2 z2
      rw [z2] at k1
      simp only [Option.some.injEq, Obj.cells.injEq, true_and] at k1
      obtain ⟨rfl, rfl⟩ := k1
      have hcont' : ContOk w' (fun b => b < w'.heap.size ∧ ¬ own b) (fun _ => none) c2 o sz (.row l') := ⟨k3.1, k3.2.1, fun i e j d q1 q2 => ⟨(k3.2.2 i e j d q1 q2).1, (k3.2.2 i e j d q1 q2).2.mono (fun _ _ => rfl) fun b hb => ⟨hb.1, hb.2.1⟩⟩⟩
      have hresults : ∀ vs : List Value, (fn.results.toList.mapM (resRun a'.tmps)).run P w' = .ok vs w' → (results fn a'.tmps).run P w' = .ok (if h : vs.toArray.size = 1 then vs.toArray[0] else .tuple vs.toArray) w' := by
        intro vs hv
        have hv' : (fn.results.mapM (resRun a'.tmps)).run P w' = .ok vs.toArray w' := by
          rw [Array.mapM_eq_mapM_toList]
          simp [hv]
        rw [results_eq]
        simp only [Sem.run_bind, hv', Result.andThen]
        rfl
      cases hres with
      | plain hres hne =>
        have key : ∀ ds', resL (unlent t) rs = some ds' → ∃ vs : List Value, (fn.results.toList.mapM (resRun a'.tmps)).run P w' = .ok vs w' ∧ vs.length = ds'.length ∧ ∀ (i : Nat) (d : D), ds'[i]? = some d → V w' (fun b => b < w'.heap.size ∧ ¬ own b) (vs.getD i undef) d := by
          intro ds' hds
          exact resL_run (M' := (unlent t).m) (fun i x hx => by
            dsimp only [unlent] at hx
            split at hx
            · cases hx
            · exact hx) (.inr (by simp [unlent])) hrel _ _ _ hr hds
        unfold resD at hres
        split at hres
        · rename_i d' hd'
          simp only [Option.some.injEq] at hres
          subst hres
          obtain ⟨vs, q1, q2, q3⟩ := key _ hd'
          match vs, q2 with
          | [v], _ =>
            refine ⟨v, by rw [hresults _ q1]; simp, v, c2, rfl, hrel.ext, z2, z1, hcont', lentRes_plain hne ?_⟩
            have := q3 0 d' rfl
            simpa using this
        · rename_i ds' hne1 hd'
          simp only [Option.some.injEq] at hres
          subst hres
          obtain ⟨vs, q1, q2, q3⟩ := key _ hd'
          have hne2 : vs.length ≠ 1 := by
            intro h1
            rw [q2] at h1
            match ds', h1 with
            | [d'], _ => exact hne1 d' rfl
          exact ⟨.tuple vs.toArray, by rw [hresults _ q1, dif_neg (by simpa using hne2)], _, c2, rfl, hrel.ext, z2, z1, hcont', lentRes_plain hne (.tup _ _ (by simpa using q2) (fun i e he => by simpa using q3 i e he))⟩
        · cases hres
      | pre hrs hst =>
        rename_i m tt
        subst hrs
        cases hfr : fn.results.toList with
        | nil => rw [hfr] at hr; simp [resC] at hr
        | cons x rest =>
          rw [hfr] at hr
          obtain ⟨y, rs', g1, g2, g3⟩ := resV_run hrel x rest _ hr
          obtain ⟨rfl, rfl⟩ := List.cons.inj g1
          obtain ⟨v, q1, q2⟩ := g3 t.m _ (fun _ _ h => h) rfl
          have hrest : rest = [] := by
            cases rest with
            | nil => rfl
            | cons y ys =>
              cases y <;> simp only [resC] at g2
              · simp [Option.map_eq_some_iff] at g2
              · split at g2
                · split at g2
                  · simp [Option.map_eq_some_iff] at g2
                  · cases g2
                · cases g2
          subst hrest
          refine ⟨v, by rw [hresults [v] (by rw [hfr]; simp [List.mapM_cons, q1])]; simp, v, c2, rfl, hrel.ext, z2, z1, hcont', ?_⟩
          rw [hst] at q2
          show (∃ cap, v = .slice (some ⟨b, o, none⟩) m.toNat cap ∧ m.toNat ≤ cap ∧ cap ≤ 9223372036854775807 ∧ o + cap * sz ≤ c.size) ∨ (m.toNat = 0 ∧ ∃ p, v = .slice p 0 0)
          generalize m.toNat = mm at q2 ⊢
          cases q2 with
          | slice L id off len cap' e1 e2 e3 e4 e5 =>
            rw [hL] at e1
            cases e1
            refine .inl ⟨cap', ?_, e3, e4, ?_⟩
            · simp
            · simpa using e5
          | sliceEmp L id off p e1 =>
            exact .inr ⟨rfl, p, rfl⟩
    cases e with
    | normal => obtain ⟨t, ht, hres⟩ := hq; exact fin ⟨t, ht, hres⟩
    | ret => obtain ⟨t, ht, hres⟩ := hq; exact fin ⟨t, ht, hres⟩
    | exit id => obtain ⟨t, ht, hbad⟩ := hq; exact hbad.elim
    | _ => exact hq.elim
  · dsimp only [initL] at hid
    split at hid
    · cases hid
    · rename_i e; rw [if_neg e]
  · by_cases htk : t = k
    · subst htk
      have hr' : (initL t T sz l ds).r t = .slice lentId 0 l.length := by simp [initL]
      rw [hr']
      have hg : (vs ++ Array.replicate (fn.ntmps - vs.size) undef).getD t undef = vs.getD t undef := by
        simp only [Array.getD_eq_getD_getElem?]
        rw [Array.getElem?_append_left (by omega)]
      simp only [hg]
      rw [hargk]
      have := RV.slice (w := w) (N := NB ⟨own, some ⟨b, o, c.size, sz, false⟩⟩ (initL t T sz l ds).m (fun i => if i = lentId then some ⟨b, o, c.size, sz, false⟩ else none) w) (loc := fun i => if i = lentId then some ⟨b, o, c.size, sz, false⟩ else none) ⟨b, o, c.size, sz, false⟩ lentId 0 l.length cap (if_pos rfl) rfl hcap hcap2 (by simpa using hroom)
      simpa using this
    · by_cases ht : t < vs.size
      · have hd : ∃ d, ds[t]? = some d := ⟨ds[t]'(by omega), by simp⟩
        obtain ⟨d', hd⟩ := hd
        have hr' : (initL k T sz l ds).r t = .p d' := by simp [initL, hd, htk]
        rw [hr']
        have hg : (vs ++ Array.replicate (fn.ntmps - vs.size) undef).getD t undef = vs.getD t undef := by
          simp only [Array.getD_eq_getD_getElem?]
          rw [Array.getElem?_append_left ht]
        simp only [hg]
        exact .p _ _ ((h4 t d' htk hd).mono (fun _ _ => rfl) hnb)
      · have hr' : (initL k T sz l ds).r t = .und := by
          have : ds[t]? = none := List.getElem?_eq_none (by omega)
          simp [initL, this, htk]
        rw [hr']
        exact .und _
  · dsimp only [initL] at ho
    split at ho
    case isFalse => cases ho
    rename_i e
    subst e
    cases ho
    refine ⟨⟨b, o, c.size, sz, false⟩, if_pos rfl, rfl, fun hh => (by cases hh), fun _ => ⟨c, fr, hheap, rfl, ⟨hcont.1, hcont.2.1, fun i e j d q1 q2 => ⟨(hcont.2.2 i e j d q1 q2).1, (hcont.2.2 i e j d q1 q2).2.mono (fun _ _ => rfl) hnb⟩⟩, fun _ => ⟨.inr ⟨_, rfl, rfl⟩, hfr⟩, fun hh => (by cases hh)⟩⟩
  · dsimp only [initL] at g1 g2
    split at g1
    case isFalse => cases g1
    split at g2
    case isFalse => cases g2
    rename_i e1 e2
    rw [e1, e2]
  · cases hL
    exact ⟨if_pos rfl, hob, rfl, ⟨T, sz, .row l, false⟩, by simp [initL], rfl⟩
  · dsimp only [initL] at ho
    split at ho
    case isFalse => cases ho
    cases ho
    simpa using hT
inductive ResNew (s : St) (rs : List (Nat × Option (Bool × Nat))) (T sz : Nat) : List D → Prop
  | row {l : List D} {y : Nat × Option (Bool × Nat)} {i : Nat} : rs = [y] → resV s y = some (.slice i 0 l.length) → s.m i = some ⟨T, sz, .row l, false⟩ → ResNew s rs T sz l
  | nil {y : Nat × Option (Bool × Nat)} : rs = [y] → resV s y = some (.nils T sz) → ResNew s rs T sz []
def EndsN (T sz : Nat) (l : List D) (rs : List (Nat × Option (Bool × Nat))) : AExit → St → Prop
  | .exit _, _ => False
  | _, s => ResNew s rs T sz l
theorem resC_one {P : Program} {x : ResultVar} {rest : List ResultVar} {y : Nat × Option (Bool × Nat)} (h : resC P (x :: rest) = some [y]) : rest = [] := by
  cases rest with
  | nil => rfl
  | cons z zs =>
    have h2 : ∀ q, resC P (z :: zs) ≠ some [] ∧ resC P (z :: zs) = q → q ≠ some [] := by rintro q ⟨h1, rfl⟩; exact h1
    have h3 : resC P (z :: zs) ≠ some [] := by
      cases z <;> simp only [resC]
      · cases resC P zs <;> simp
      · split
        · split
          · cases resC P zs <;> simp
          · simp
        · simp
    exfalso
    cases x <;> simp only [resC] at h
    · simp only [Option.map_eq_some_iff, List.cons.injEq] at h
      obtain ⟨q, h4, h5, rfl⟩ := h
      exact h3 h4
    · split at h
      · split at h
        · simp only [Option.map_eq_some_iff, List.cons.injEq] at h
          obtain ⟨q, h4, h5, rfl⟩ := h
          exact h3 h4
        · cases h
      · cases h
theorem FnOk.conN {P : Program} {A OT : List TypeId} {f : FuncId} {cc : CC} {rs : List (Nat × Option (Bool × Nat))} {nt : Nat} {ds : List D} {T sz : Nat} {l : List D} (h : FnOk P f OT cc rs nt) (hA : OT.all (fun T => !A.contains T) = true) (hn : ds.length ≤ nt)
    (hcw : cw OT (ConX P A) cc (EndsN T sz l rs) (init ds)) : ConNew P A f ds T sz l := by
  obtain ⟨fn, H, hf, hbd, hm, hc, hr, rfl⟩ := h
  obtain ⟨code, hb⟩ := Option.isSome_iff_exists.1 hbd
  rw [hb] at hc
  simp only [Option.getD_some] at hc
  intro own w vs h1 h2 h3 h4
  have hbody := cw_sound (C := ⟨P, A, OT, fn.ntmps, w, ⟨own, none⟩⟩) ⟨h2, fun T hT => by
    rw [List.all_eq_true] at hA
    have := hA T hT
    simpa using this⟩ hm H code cc _ (init ds) { tmps := vs ++ Array.replicate (fn.ntmps - vs.size) undef, defers := [] } w hc hcw ⟨⟨fun _ => none, ExtL.rf _ w, rfl, by simp; omega, h1, fun _ _ => rfl, fun t => ?_, fun id o ho => by simp [init] at ho, fun id _ o _ _ _ ho => by simp [init] at ho, KeepL.none_ rfl _ _⟩, fun id o ho => by simp [init] at ho⟩
  · refine calls_of_wp hf hb (wp_mono hbody ?_)
    intro e a' w' hq
    have fin : (∃ t, Is ⟨P, A, OT, fn.ntmps, w, ⟨own, none⟩⟩ t a' w' ∧ ResNew t rs T sz l) → a'.defers = [] ∧ ∃ v, (results fn a'.tmps).run P w' = .ok v w' ∧ ∃ v' L, Ending.returned v = Ending.returned v' ∧ Ext w w' ∧ NewOk w w' own T sz l v' L := by
      rintro ⟨t, ht, hres⟩
      obtain ⟨loc, hrel⟩ := ht.1
      refine ⟨hrel.defers, ?_⟩
      have hresults : ∀ vs : List Value, (fn.results.toList.mapM (resRun a'.tmps)).run P w' = .ok vs w' → (results fn a'.tmps).run P w' = .ok (if h : vs.toArray.size = 1 then vs.toArray[0] else .tuple vs.toArray) w' := by
        intro vs hv
        have hv' : (fn.results.mapM (resRun a'.tmps)).run P w' = .ok vs.toArray w' := by
          rw [Array.mapM_eq_mapM_toList]
          simp [hv]
        rw [results_eq]
        simp only [Sem.run_bind, hv', Result.andThen]
        rfl
      have one : ∀ y u, rs = [y] → resV t y = some u → ∃ v, (results fn a'.tmps).run P w' = .ok v w' ∧ RV w' (NB ⟨own, none⟩ t.m loc w') loc v u := by
        rintro y u rfl hu
        cases hfr : fn.results.toList with
        | nil => rw [hfr] at hr; simp [resC] at hr
        | cons x rest =>
          rw [hfr] at hr
          have hrest := resC_one hr
          obtain ⟨y', rs', g1, g2, g3⟩ := resV_run hrel x rest _ hr
          obtain ⟨rfl, rfl⟩ := List.cons.inj g1
          obtain ⟨v, q1, q2⟩ := g3 t.m u (fun _ _ h => h) hu
          subst hrest
          exact ⟨v, by rw [hresults [v] (by rw [hfr]; simp [List.mapM_cons, q1])]; simp, q2⟩
      cases hres with
      | nil h1 h2 =>
        obtain ⟨v, g1, g2⟩ := one _ _ h1 h2
        cases g2
        exact ⟨_, g1, _, ⟨0, 0, 0, sz, true⟩, rfl, hrel.ext.ext rfl, ⟨rfl, fun _ => rfl, fun hh => (by cases hh), .inl ⟨rfl, _, rfl⟩⟩⟩
      | row h1 h2 h5 =>
        rename_i y i
        obtain ⟨v, g1, g2⟩ := one _ _ h1 h2
        obtain ⟨L, hL, hok⟩ := hrel.objs i _ h5
        refine ⟨v, g1, v, L, rfl, hrel.ext.ext rfl, hok.sz, fun hh => by simpa using hok.nil hh, fun hh => ?_, ?_⟩
        · obtain ⟨c, fr, k1, k2, k3, k4, -⟩ := hok.at_ hh
          have k5 := k4 rfl
          refine ⟨?_, c, fr, k1, k2, ⟨k3.1, k3.2.1, fun p0 e0 j0 d0 q1 q2 => ⟨(k3.2.2 p0 e0 j0 d0 q1 q2).1, (k3.2.2 p0 e0 j0 d0 q1 q2).2.mono (fun _ _ => rfl) fun b hb => ⟨⟨hb.1, hb.2.1⟩, fun e => hb.2.2 ⟨i, _, L, h5, rfl, hL, hh, e.symm⟩⟩⟩⟩, k5.2⟩
          rcases k5.1 with g | ⟨L', hL', -⟩
          · exact g
          · cases hL'
        · generalize hlen : l.length = n at g2 ⊢
          cases g2 with
          | slice L' _ _ _ cap e1 e2 e3 e4 e5 =>
            rw [hL] at e1
            cases e1
            refine .inr ⟨e2, cap, by simp, e3, e4, ?_⟩
            have := hok.sz
            dsimp only at this
            rw [this] at e5
            simpa using e5
          | sliceEmp L' _ _ p e1 => exact .inl ⟨List.eq_nil_of_length_eq_zero hlen, p, rfl⟩
    cases e with
    | normal => obtain ⟨t, ht, hres⟩ := hq; exact fin ⟨t, ht, hres⟩
    | ret => obtain ⟨t, ht, hres⟩ := hq; exact fin ⟨t, ht, hres⟩
    | exit id => obtain ⟨t, ht, hbad⟩ := hq; exact hbad.elim
    | _ => exact hq.elim
  · by_cases ht : t < vs.size
    · have hd : ∃ d, ds[t]? = some d := ⟨ds[t]'(by omega), by simp⟩
      obtain ⟨d', hd⟩ := hd
      have hr' : (init ds).r t = .p d' := by simp [init, hd]
      rw [hr']
      have hg : (vs ++ Array.replicate (fn.ntmps - vs.size) undef).getD t undef = vs.getD t undef := by
        simp only [Array.getD_eq_getD_getElem?]
        rw [Array.getElem?_append_left ht]
      simp only [hg]
      exact .p _ _ ((h4 t d' hd).mono (fun _ _ => rfl) fun b hb => ⟨hb.1, hb.2, by rintro ⟨id, o, L, ho, _⟩; simp [init] at ho⟩)
    · have hr' : (init ds).r t = .und := by
        have : ds[t]? = none := List.getElem?_eq_none (by omega)
        simp [init, this]
      rw [hr']
      exact .und _
end Go.Proofs.Ytlnhembcfhfpkaa.M
end

section
namespace Go.Proofs.Ytlnhembcfhfpkaa.M
open Go.RowKit
set_option linter.defProp false
theorem st_callL (G : FuncId → List D → D → Prop) (dd : Option Nat) (f : FuncId) (k : Nat) (args : List Opd) (g : Option (Nat × Bool)) (K : St → Prop) (s : St) : step G ⟨dd, .callL f k args, g⟩ K s = (match opdAt s k args with
    | .slice i 0 n => match s.m i with
      | some ⟨T, sz, .row l, false⟩ => match argsDL s (.list T sz l) k args with
        | some ds => n = l.length ∧ ∃ r l', G (f + LB * (k + 1)) ds (.tup [r, .list T sz l']) ∧ K ((⟨s.r, upd s.m i (some ⟨T, sz, .row l', false⟩)⟩ : St).put dd (if l = [] then .p (lentE T sz r) else lentR i r))
        | none => False
      | _ => False
    | _ => False) := rfl
theorem st_callv (G : FuncId → List D → D → Prop) (dd : Option Nat) (fs : List FuncId) (x : Opd) (args : List Opd) (g : Option (Nat × Bool)) (K : St → Prop) (s : St) : step G ⟨dd, .callv fs x args, g⟩ K s = (match (x.ev s.r).toD false s.m 20, argsD s args with
    | some (.fn (.func f) a b), some ds => fs.contains f = true ∧ ∃ d, G f (a ++ ds ++ b) d ∧ K (s.put dd (.p d))
    | _, _ => False) := rfl
theorem st_callN (G : FuncId → List D → D → Prop) (dd : Option Nat) (f : FuncId) (T : TypeId) (args : List Opd) (g : Option (Nat × Bool)) (K : St → Prop) (s : St) : step G ⟨dd, .callN f T args, g⟩ K s = (match argsD s args with
    | some ds => match s.m (dd.getD 0) with
      | none => ∃ sz l, G (f + LB * (8 + 1)) ds (.list T sz l) ∧ K ((⟨s.r, upd s.m (dd.getD 0) (some ⟨T, sz, .row l, false⟩)⟩ : St).put dd (.slice (dd.getD 0) 0 l.length))
      | some _ => False
    | none => False) := rfl
theorem oa_0 (s : St) (x : Opd) (l : List Opd) : opdAt s 0 (x :: l) = x.ev s.r := rfl
theorem oa_1 (s : St) (x y : Opd) (l : List Opd) : opdAt s 1 (x :: y :: l) = y.ev s.r := rfl
theorem al_0 (s : St) (d : D) (x : Opd) (l : List Opd) : argsDL s d 0 (x :: l) = (match argsD s l with
    | some ds => some (d :: ds)
    | none => none) := rfl
theorem al_1 (s : St) (d : D) (x y : Opd) (l : List Opd) : argsDL s d 1 (x :: y :: l) = (match (x.ev s.r).toD false s.m 20, (match argsD s l with
    | some ds => some (d :: ds)
    | none => none) with
    | some e, some es => some (e :: es)
    | _, _ => none) := rfl
theorem lr_pre (i : Nat) (m : Int) : lentR i (.tup [.int .i64 m]) = .slice i 0 m.toNat := rfl
theorem lr_nil (i : Nat) : lentR i (.tup []) = .p (.tup []) := rfl
theorem lr_int (i : Nat) (k : IntKind) (m : Int) : lentR i (.int k m) = .p (.int k m) := rfl
theorem le_pre (T sz : Nat) (m : Int) : lentE T sz (.tup [.int .i64 m]) = .list T sz [] := rfl
theorem le_nil (T sz : Nat) : lentE T sz (.tup []) = .tup [] := rfl
theorem endsL_ret (T sz : Nat) (l' : List D) (r : D) (rs : List (Nat × Option (Bool × Nat))) (s : St) : EndsL T sz l' r rs .ret s = (s.m 999999 = some ⟨T, sz, .row l', false⟩ ∧ ResLt s rs r) := rfl
theorem endsL_normal (T sz : Nat) (l' : List D) (r : D) (rs : List (Nat × Option (Bool × Nat))) (s : St) : EndsL T sz l' r rs .normal s = (s.m 999999 = some ⟨T, sz, .row l', false⟩ ∧ ResLt s rs r) := rfl
theorem endsL_exit (T sz : Nat) (l' : List D) (r : D) (rs : List (Nat × Option (Bool × Nat))) (i : Nat) (s : St) : EndsL T sz l' r rs (.exit i) s = False := rfl
theorem st_indexAddrA (G : FuncId → List D → D → Prop) (dd : Option Nat) (n esz : Nat) (ag : Bool) (x i : Opd) (g : Option (Nat × Bool)) (K : St → Prop) (s : St) : step G ⟨dd, .indexAddrA n esz ag x i, g⟩ K s = fin dd K (ev (.indexAddrA n esz ag x i) (dd.getD 0) s) := rfl
theorem ev_indexAddrA (n esz : Nat) (ag : Bool) (x i : Opd) (id : Nat) (s : St) : ev (.indexAddrA n esz ag x i) id s = (match x.ev s.r, asI (i.ev s.r) with
    | .ptr j k off, some q => some (decide (0 ≤ q ∧ q < n), .ptr j k (off + q.toNat * esz), s)
    | .p (.ref d), some q => match d.part (q.toNat * esz) esz ag with
      | some e => some (decide (0 ≤ q ∧ q < n), .p (.ref e), s)
      | none => none
    | _, _ => none) := rfl
theorem st_indexA (G : FuncId → List D → D → Prop) (dd : Option Nat) (n esz : Nat) (ag : Bool) (x i : Opd) (g : Option (Nat × Bool)) (K : St → Prop) (s : St) : step G ⟨dd, .indexA n esz ag x i, g⟩ K s = fin dd K (ev (.indexA n esz ag x i) (dd.getD 0) s) := rfl
theorem ev_indexA (n esz : Nat) (ag : Bool) (x i : Opd) (id : Nat) (s : St) : ev (.indexA n esz ag x i) id s = (match asI (i.ev s.r) with
    | some q => if (x.ev s.r).isAgg = some true then match (x.ev s.r).part (q.toNat * esz) esz ag with
      | some v => some (decide (0 ≤ q ∧ q < n), v, s)
      | none => none else none
    | none => none) := rfl
theorem st_copyS (G : FuncId → List D → D → Prop) (dd : Option Nat) (T sz bytes : Nat) (y : Opd) (g : Option (Nat × Bool)) (K : St → Prop) (s : St) : step G ⟨dd, .copyS T sz bytes y, g⟩ K s = fin dd K (ev (.copyS T sz bytes y) (dd.getD 0) s) := rfl
theorem ev_copyS (T sz bytes : Nat) (y : Opd) (id : Nat) (s : St) : ev (.copyS T sz bytes y) id s = (match s.m id, elemsOf sz s.m (y.ev s.r) with
    | none, some ys => some (decide (ys.length * bytes ≤ 140737488355328 ∧ ys.length ≤ 9223372036854775807), .slice id 0 ys.length, ⟨s.r, upd s.m id (some ⟨T, sz, .row ys, false⟩)⟩)
    | _, _ => none) := rfl
theorem st_copyF (G : FuncId → List D → D → Prop) (dd : Option Nat) (T sz bytes : Nat) (y : Opd) (g : Option (Nat × Bool)) (K : St → Prop) (s : St) : step G ⟨dd, .copyF T sz bytes y, g⟩ K s = fin dd K (ev (.copyF T sz bytes y) (dd.getD 0) s) := rfl
theorem ev_copyF (T sz bytes : Nat) (y : Opd) (id : Nat) (s : St) : ev (.copyF T sz bytes y) id s = (if id = 999999 then none else match s.m id, elemsOf sz s.m (y.ev s.r) with
    | none, some ys => some (decide (ys.length * bytes ≤ 140737488355328 ∧ ys.length ≤ 9223372036854775807), .slice id 0 ys.length, ⟨s.r, upd s.m id (some ⟨T, sz, .row ys, true⟩)⟩)
    | _, _ => none) := rfl
theorem st_fnv (G : FuncId → List D → D → Prop) (dd : Option Nat) (fn : Fn) (x y : List Opd) (g : Option (Nat × Bool)) (K : St → Prop) (s : St) : step G ⟨dd, .fnv fn x y, g⟩ K s = fin dd K (ev (.fnv fn x y) (dd.getD 0) s) := rfl
theorem ev_fnv (fn : Fn) (x y : List Opd) (id : Nat) (s : St) : ev (.fnv fn x y) id s = (match opdsD s.r s.m x, opdsD s.r s.m y with
    | some l, some k => some (true, .p (.fn fn l k), s)
    | _, _ => none) := rfl
theorem od_nil (r : Nat → AV) (M : Mem) : opdsD r M [] = some [] := rfl
theorem od_cons (r : Nat → AV) (M : Mem) (x : Opd) (l : List Opd) : opdsD r M (x :: l) = (match (x.ev r).toD false M 20, opdsD r M l with
    | some d, some ds => some (d :: ds)
    | _, _ => none) := rfl
theorem toD_ptr (any : Bool) (M : Mem) (id i off : Nat) : AV.toD any M 20 (.ptr id i off) = (if i = 0 ∧ off = 0 then match M id with
      | some o => match o.cont with
        | .box v => if o.frz || any then (AV.toD any M 19 v).map .ref else none
        | _ => none
      | none => none else none) := rfl
theorem toD_p19 (any : Bool) (M : Mem) (d : D) : AV.toD any M 19 (.p d) = some d := rfl
theorem st_sliceA (G : FuncId → List D → D → Prop) (dd : Option Nat) (n : Nat) (x : Opd) (lo hi mx : Option Opd) (g : Option (Nat × Bool)) (K : St → Prop) (s : St) : step G ⟨dd, .sliceA n x lo hi mx, g⟩ K s = fin dd K (ev (.sliceA n x lo hi mx) (dd.getD 0) s) := rfl
theorem ev_sliceA (n : Nat) (x : Opd) (lo hi mx : Option Opd) (id : Nat) (s : St) : ev (.sliceA n x lo hi mx) id s = (match x.ev s.r with
    | .ptr i 0 off => match s.m i with
      | some ⟨_, osz, .box _, _⟩ => if off + n ≤ osz ∧ n ≤ 9223372036854775807 then match bounds s.r n lo hi mx with
        | some (c, l, h) => some (c, .arr i (off + l) (h - l), s)
        | none => none else none
      | _ => none
    | _ => none) := rfl
theorem toD_arr (any : Bool) (M : Mem) (id off len : Nat) : AV.toD any M 20 (.arr id off len) = (match M id with
      | some o => match o.cont with
        | .box (.p d) => if (o.frz || any) && decide (off + len ≤ d.cells.length) && decide (len ≤ 9223372036854775807) then some (.list 1000000 1 ((d.cells.drop off).take len)) else none
        | _ => none
      | none => none) := rfl
theorem forget_arr (i j o n : Nat) : AV.forget i (.arr j o n) = if j = i then .und else .arr j o n := by unfold AV.forget; rfl
theorem st_copyA (G : FuncId → List D → D → Prop) (dd : Option Nat) (x y : Opd) (g : Option (Nat × Bool)) (K : St → Prop) (s : St) : step G ⟨dd, .copyA x y, g⟩ K s = fin dd K (ev (.copyA x y) (dd.getD 0) s) := rfl
theorem ev_copyA (x y : Opd) (id : Nat) (s : St) : ev (.copyA x y) id s = (match x.ev s.r, elemsOf 1 s.m (y.ev s.r) with
    | .arr i off len, some ys => match s.m i with
      | some ⟨T, osz, .box u, false⟩ => if off + len ≤ osz ∧ ys.all D.one = true then
          some (decide (ys.length ≤ len), .p (.int .i64 (ys.length : Nat)), ⟨s.r, upd s.m i (some ⟨T, osz, .box (AV.mk (u.cells.take off ++ ys.map .p ++ u.cells.drop (off + ys.length))), false⟩)⟩) else none
      | _ => none
    | _, _ => none) := rfl
theorem st_clearS (G : FuncId → List D → D → Prop) (dd : Option Nat) (sz : Nat) (z : D) (x : Opd) (g : Option (Nat × Bool)) (K : St → Prop) (s : St) : step G ⟨dd, .clearS sz z x, g⟩ K s = fin dd K (ev (.clearS sz z x) (dd.getD 0) s) := rfl
theorem ev_clearS (sz : Nat) (z : D) (x : Opd) (id : Nat) (s : St) : ev (.clearS sz z x) id s = (match x.ev s.r with
    | .slice i off len => match s.m i with
      | some ⟨T, osz, .row l, false⟩ => if osz = sz then some (decide (off + len ≤ l.length), .und, ⟨s.r, upd s.m i (some ⟨T, osz, .row (l.take off ++ List.replicate len z ++ l.drop (off + len)), false⟩)⟩) else none
      | _ => none
    | _ => none) := rfl
theorem st_isNil (G : FuncId → List D → D → Prop) (dd : Option Nat) (neg : Bool) (x : Opd) (g : Option (Nat × Bool)) (K : St → Prop) (s : St) : step G ⟨dd, .isNil neg x, g⟩ K s = (match x.ev s.r with
    | .nils _ _ => K (s.put dd (.p (.bool (!neg))))
    | .p (.list _ _ l) => ∀ b : Bool, (l ≠ [] → b = false) → K (s.put dd (.p (.bool (b != neg))))
    | _ => False) := rfl
theorem endsN_ret (T sz : Nat) (l : List D) (rs : List (Nat × Option (Bool × Nat))) (s : St) : EndsN T sz l rs .ret s = ResNew s rs T sz l := rfl
theorem endsN_normal (T sz : Nat) (l : List D) (rs : List (Nat × Option (Bool × Nat))) (s : St) : EndsN T sz l rs .normal s = ResNew s rs T sz l := rfl
theorem endsN_exit (T sz : Nat) (l : List D) (rs : List (Nat × Option (Bool × Nat))) (i : Nat) (s : St) : EndsN T sz l rs (.exit i) s = False := rfl
theorem st_strB (G : FuncId → List D → D → Prop) (dd : Option Nat) (x : Opd) (g : Option (Nat × Bool)) (K : St → Prop) (s : St) : step G ⟨dd, .strB x, g⟩ K s = fin dd K (ev (.strB x) (dd.getD 0) s) := rfl
theorem ev_strB (x : Opd) (id : Nat) (s : St) : ev (.strB x) id s = (match elemsOf 1 s.m (x.ev s.r) with
    | some ys => match bytesD ys with
      | some b => some (true, .p (.str b), s)
      | none => none
    | none => none) := rfl
theorem st_bytS (G : FuncId → List D → D → Prop) (dd : Option Nat) (T : TypeId) (x : Opd) (g : Option (Nat × Bool)) (K : St → Prop) (s : St) : step G ⟨dd, .bytS T x, g⟩ K s = fin dd K (ev (.bytS T x) (dd.getD 0) s) := rfl
theorem ev_bytS (T : TypeId) (x : Opd) (id : Nat) (s : St) : ev (.bytS T x) id s = (match s.m id with
    | none => match x.ev s.r with
      | .p (.str t) => some (decide (t.length ≤ 9223372036854775807), .slice id 0 t.length, ⟨s.r, upd s.m id (some ⟨T, 1, .row (t.map fun b => .int .u8 b.toNat), false⟩)⟩)
      | _ => none
    | some _ => none) := rfl
theorem bd_and (k : IntKind) (a b : Int) : binD .and (.int k a) (.int k b) = some (bitB k a b, .int k (bitN .and a.toNat b.toNat : Nat)) := by simp [binD]
theorem bd_or (k : IntKind) (a b : Int) : binD .or (.int k a) (.int k b) = some (bitB k a b, .int k (bitN .or a.toNat b.toNat : Nat)) := by simp [binD]
theorem bd_xor (k : IntKind) (a b : Int) : binD .xor (.int k a) (.int k b) = some (bitB k a b, .int k (bitN .xor a.toNat b.toNat : Nat)) := by simp [binD]
theorem bd_anot (k : IntKind) (a b : Int) : binD .andNot (.int k a) (.int k b) = some (bitB k a b, .int k (bitN .andNot a.toNat b.toNat : Nat)) := by simp [binD]
theorem bd_shr (k k' : IntKind) (a b : Int) : binD .shr (.int k a) (.int k' b) = some (decide (0 ≤ b ∧ b < k.bits), .int k (a / 2 ^ b.toNat)) := by simp [binD]
theorem bd_shl (k k' : IntKind) (a b : Int) : binD .shl (.int k a) (.int k' b) = some (decide (0 ≤ b ∧ b < k.bits) && inK k (a * 2 ^ b.toNat), .int k (a * 2 ^ b.toNat)) := by simp [binD]
def csL := And.intro @st_strB (And.intro @ev_strB (And.intro @st_bytS (And.intro @ev_bytS (And.intro @bd_and (And.intro @bd_or (And.intro @bd_xor (And.intro @bd_anot (And.intro @bd_shr (And.intro @bd_shl (And.intro @st_isNil (And.intro @ev_clearS (And.intro @st_clearS (And.intro @ev_copyA (And.intro @st_copyA (And.intro @forget_arr (And.intro @toD_arr (And.intro @ev_sliceA (And.intro @st_sliceA (And.intro @Option.map_some.{0,0} (And.intro @toD_p19 (And.intro @toD_ptr (And.intro @od_cons (And.intro @od_nil (And.intro @ev_fnv (And.intro @st_fnv (And.intro @ev_copyF (And.intro @st_copyF (And.intro @ev_copyS (And.intro @st_copyS (And.intro @ev_indexA (And.intro @st_indexA (And.intro @ev_indexAddrA (And.intro @st_indexAddrA (And.intro @st_callN (And.intro @endsN_ret (And.intro @endsN_normal (And.intro @endsN_exit (And.intro @st_callL (And.intro @st_callv (And.intro @oa_0 (And.intro @oa_1 (And.intro @al_0 (And.intro @al_1 (And.intro @lr_pre (And.intro @lr_nil (And.intro @lr_int (And.intro @le_pre (And.intro @le_nil (And.intro @endsL_ret (And.intro @endsL_normal @endsL_exit))))))))))))))))))))))))))))))))))))))))))))))))))
theorem ResLt.unit (s : St) : ResLt s [] (.tup []) := .plain rfl (fun m h => by cases h)
theorem ResLt.one {s : St} {t : Nat} {d : D} (h : s.r t = .p d) (hd : ∀ m, d ≠ .tup [.int .i64 m]) : ResLt s [(t, none)] d := .plain (by simp [resD, resL, resV, unlent, h, toD_p]) hd
def LentC (P : Program) (A : List TypeId) (f : FuncId) (k : Nat) (ds : List D) (T sz : Nat) (l : List D) (r : D) (l' : List D) : Prop :=
  f < LB ∧ ds[k]? = some (.list T sz l) ∧ l'.length = l.length ∧ (l = [] → Con P A f ds (lentE T sz r)) ∧ (l ≠ [] → ConLent P A f k ds T sz l r l')
theorem LentC.x {P : Program} {A : List TypeId} {f : FuncId} {k : Nat} {ds : List D} {T sz : Nat} {l : List D} {r : D} {l' : List D} (h : LentC P A f k ds T sz l r l') : ConX P A (f + LB * (k + 1)) ds (.tup [r, .list T sz l']) :=
  .lent h.1 h.2.1 h.2.2.1 h.2.2.2.1 h.2.2.2.2
theorem ConNew.x {P : Program} {A : List TypeId} {f : FuncId} {ds : List D} {T sz : Nat} {l : List D} (h : ConNew P A f ds T sz l) (hf : f < LB := by decide) : ConX P A (f + LB * (8 + 1)) ds (.list T sz l) := .fresh hf h
end Go.Proofs.Ytlnhembcfhfpkaa.M
end

section
namespace Go.Proofs.Ytlnhembcfhfpkaa.M
open Go.RowKit
mutual
def AV.ren (ρ : Nat → Nat) : AV → AV
  | .slice i o n => .slice (ρ i) o n
  | .ptr i j o => .ptr (ρ i) j o
  | .arr i o n => .arr (ρ i) o n
  | .agg l => .agg (renL ρ l)
  | .tup l => .tup (renL ρ l)
  | v => v
def renL (ρ : Nat → Nat) : List AV → List AV
  | [] => []
  | v :: l => v.ren ρ :: renL ρ l
end
theorem renL_eq (ρ : Nat → Nat) : ∀ l : List AV, renL ρ l = l.map (AV.ren ρ)
  | [] => by simp [renL]
  | v :: l => by simp [renL, renL_eq ρ l]
def AObj.ren (ρ : Nat → Nat) (o : AObj) : AObj := match o.cont with
  | .box v => ⟨o.T, o.sz, .box (v.ren ρ), o.frz⟩
  | _ => o
theorem AObj.ren_T (ρ : Nat → Nat) (o : AObj) : (o.ren ρ).T = o.T ∧ (o.ren ρ).sz = o.sz ∧ (o.ren ρ).frz = o.frz := by
  unfold AObj.ren; split <;> exact ⟨rfl, rfl, rfl⟩
theorem AV.ren_one (ρ : Nat → Nat) (v : AV) : (v.ren ρ).one = v.one := by
  cases v <;> simp [AV.ren, AV.one]
theorem AV.ren_cells (ρ : Nat → Nat) (v : AV) : (v.ren ρ).cells = v.cells.map (AV.ren ρ) := by
  cases v <;> simp [AV.ren, AV.cells, renL_eq]
theorem RV.ren {w : World} {N : Nat → Prop} {loc : Locs} {ρ : Nat → Nat} (hρ : ∀ i, ρ (ρ i) = i) {v : Value} {d : AV} (h : RV w N loc v d) : RV w N (fun i => loc (ρ i)) v (d.ren ρ) := by
  induction h with
  | und v => unfold AV.ren; exact .und v
  | p v d h => unfold AV.ren; exact .p v d h
  | agg cs l h1 h2 _ ih =>
    unfold AV.ren
    rw [renL_eq]
    refine .agg cs _ (by simpa using h1) (fun e he => ?_) (fun i e he => ?_)
    · simp only [List.mem_map] at he
      obtain ⟨x, hx, rfl⟩ := he
      rw [AV.ren_one]; exact h2 x hx
    · simp only [List.getElem?_map, Option.map_eq_some_iff] at he
      obtain ⟨x, hx, rfl⟩ := he
      exact ih i x hx
  | tup cs l h1 _ ih =>
    unfold AV.ren
    rw [renL_eq]
    refine .tup cs _ (by simpa using h1) (fun i e he => ?_)
    simp only [List.getElem?_map, Option.map_eq_some_iff] at he
    obtain ⟨x, hx, rfl⟩ := he
    exact ih i x hx
  | nils T sz => unfold AV.ren; exact .nils T sz
  | slice L id off len cap h1 h2 h3 h4 h5 => unfold AV.ren; exact .slice L _ off len cap (by simpa only [hρ] using h1) h2 h3 h4 h5
  | sliceEmp L id off p h1 => unfold AV.ren; exact .sliceEmp L _ off p (by simpa only [hρ] using h1)
  | arr L id off len cap h1 h2 h3 h4 h5 => unfold AV.ren; exact .arr L _ off len cap (by simpa only [hρ] using h1) h2 h3 h4 h5
  | arrEmp L id off p h1 => unfold AV.ren; exact .arrEmp L _ off p (by simpa only [hρ] using h1)
  | ptr L id i off h1 h2 => unfold AV.ren; exact .ptr L _ i off (by simpa only [hρ] using h1) h2
section
variable {w0 : World} {base : Bs} {nt : Nat} {loc : Locs} {a : Act} {w : World} {OT : List TypeId} {s : St} {ρ : Nat → Nat}
theorem Rel.ren (h : Rel w0 base nt loc s a w) (hρ : ∀ i, ρ (ρ i) = i) (hL : ρ lentId = lentId) : Rel w0 base nt (fun i => loc (ρ i)) ⟨fun t => (s.r t).ren ρ, fun j => (s.m (ρ j)).map (AObj.ren ρ)⟩ a w := by
  have hm : ∀ j o, (s.m (ρ j)).map (AObj.ren ρ) = some o → ∃ o0, s.m (ρ j) = some o0 ∧ o = o0.ren ρ := by
    intro j o ho
    simp only [Option.map_eq_some_iff] at ho
    obtain ⟨x, hx, rfl⟩ := ho
    exact ⟨x, hx, rfl⟩
  have hN : NB base (fun j => (s.m (ρ j)).map (AObj.ren ρ)) (fun i => loc (ρ i)) w = NB base s.m loc w := by
    funext b
    refine propext ⟨fun ⟨h1, h2, h3⟩ => ⟨h1, h2, ?_⟩, fun ⟨h1, h2, h3⟩ => ⟨h1, h2, ?_⟩⟩
    · rintro ⟨id, o, L, g1, g2, g3, g4, g5⟩
      exact h3 ⟨ρ id, o.ren ρ, L, by simp only [hρ, g1, Option.map_some], by rw [(o.ren_T ρ).2.2]; exact g2, by simp only [hρ]; exact g3, g4, g5⟩
    · rintro ⟨id, o, L, g1, g2, g3, g4, g5⟩
      obtain ⟨o0, k1, rfl⟩ := hm id o g1
      exact h3 ⟨ρ id, o0, L, k1, by rw [(o0.ren_T ρ).2.2] at g2; exact g2, g3, g4, g5⟩
  refine ⟨h.ext, h.defers, h.size, h.low, fun j hj => ?_, fun t => ?_, fun j o ho => ?_, fun j j' o o' L L' ho ho' hf hLj hLj' hn hn' hb => ?_, fun L hB => ?_⟩
  · dsimp only at hj
    simp only [Option.map_eq_none_iff] at hj
    exact h.dom _ hj
  · rw [hN]; exact (h.tmps t).ren hρ
  · obtain ⟨o0, k1, rfl⟩ := hm j o ho
    obtain ⟨L, hL1, hok⟩ := h.objs _ _ k1
    obtain ⟨e1, e2, e3⟩ := o0.ren_T ρ
    refine ⟨L, hL1, by rw [e2]; exact hok.sz, fun hn => ?_, fun hn => ?_⟩
    · have := hok.nil hn
      unfold AObj.ren
      rw [this]; exact this
    · obtain ⟨c, fr, q1, q2, q3, q4, q5⟩ := hok.at_ hn
      rw [e1, e2, e3, hN]
      refine ⟨c, fr, q1, q2, ?_, q4, q5⟩
      unfold AObj.ren
      cases hc : o0.cont with
      | row l => rw [hc] at q3; simp only [hc]; exact q3
      | junk => rw [hc] at q3; simp only [hc]; exact q3
      | box v =>
        rw [hc] at q3
        obtain ⟨m1, m2, m3, m4⟩ := q3
        refine ⟨m1, by rw [AV.ren_cells]; simpa using m2, fun e he => ?_, fun i e he => ?_⟩
        · rw [AV.ren_cells] at he
          simp only [List.mem_map] at he
          obtain ⟨x, hx, rfl⟩ := he
          rw [AV.ren_one]; exact m3 x hx
        · rw [AV.ren_cells] at he
          simp only [List.getElem?_map, Option.map_eq_some_iff] at he
          obtain ⟨x, hx, rfl⟩ := he
          exact (m4 i x hx).ren hρ
  · obtain ⟨o0, k1, rfl⟩ := hm j o ho
    obtain ⟨o1, k2, rfl⟩ := hm j' o' ho'
    have := h.inj (ρ j) (ρ j') o0 o1 L L' k1 k2 (by rw [(o0.ren_T ρ).2.2] at hf; exact hf) hLj hLj' hn hn' hb
    have := congrArg ρ this
    simpa only [hρ] using this
  · obtain ⟨h1, h2, h3, o, h4, h5⟩ := h.keepL L hB
    exact ⟨by simp only [hL]; exact h1, h2, h3, o.ren ρ, by simp only [hL, h4, Option.map_some], by rw [(o.ren_T ρ).2.2]; exact h5⟩
theorem Sub.renF (hρ : ∀ i, ρ (ρ i) = i) (hL : ρ lentId = lentId) : Sub OT s ⟨fun t => (s.r t).ren ρ, fun j => (s.m (ρ j)).map (AObj.ren ρ)⟩ := by
  rintro C a w rfl ⟨⟨loc, hr⟩, h2⟩
  refine ⟨⟨_, hr.ren hρ hL⟩, fun j o ho => ?_⟩
  simp only [Option.map_eq_some_iff] at ho
  obtain ⟨x, hx, rfl⟩ := ho
  rw [(x.ren_T ρ).1]
  exact h2 _ _ hx
end
def rnR (ρ : Nat → Nat) : List (Nat × AV) → List (Nat × AV)
  | [] => []
  | (i, v) :: l => (i, v.ren ρ) :: rnR ρ l
def rnM (ρ : Nat → Nat) : List (Nat × AObj) → List (Nat × AObj)
  | [] => []
  | (i, o) :: l => (ρ i, o.ren ρ) :: rnM ρ l
theorem rnR_look (ρ : Nat → Nat) : ∀ (l : List (Nat × AV)) (t : Nat), look (rnR ρ l) t = (look l t).ren ρ
  | [], t => by rw [rnR, look_nil]; simp [AV.ren]
  | (i, v) :: l, t => by
    rw [rnR, look_cons, look_cons]
    split
    · rfl
    · exact rnR_look ρ l t
theorem rnM_look (ρ : Nat → Nat) (hρ : ∀ i, ρ (ρ i) = i) : ∀ (l : List (Nat × AObj)) (j : Nat), lookM (rnM ρ l) j = (lookM l (ρ j)).map (AObj.ren ρ)
  | [], j => by rw [rnM, lookM_nil, lookM_nil]; rfl
  | (i, o) :: l, j => by
    rw [rnM, lookM_cons, lookM_cons, rnM_look ρ hρ l j]
    by_cases e : j = ρ i
    · rw [if_pos e, if_pos (by rw [e, hρ])]; rfl
    · rw [if_neg e, if_neg (fun h => e (by rw [← h, hρ]))]
theorem Sub.ren {OT : List TypeId} {R : List (Nat × AV)} {M : List (Nat × AObj)} {ρ : Nat → Nat} (hρ : ∀ i, ρ (ρ i) = i) (hL : ρ lentId = lentId) : Sub OT ⟨look R, lookM M⟩ ⟨look (rnR ρ R), lookM (rnM ρ M)⟩ := by
  have h : (⟨look (rnR ρ R), lookM (rnM ρ M)⟩ : St) = ⟨fun t => (look R t).ren ρ, fun j => (lookM M (ρ j)).map (AObj.ren ρ)⟩ := by
    congr 1
    · funext t; exact rnR_look ρ R t
    · funext j; exact rnM_look ρ hρ M j
  rw [h]
  exact Sub.renF hρ hL
def swp (K i : Nat) : Nat := if i < 100000 then i + K else if K ≤ i ∧ i < K + 100000 then i - K else i
theorem swp_swp {K : Nat} (hK : 1000000 ≤ K) (i : Nat) : swp K (swp K i) = i := by
  unfold swp
  by_cases h1 : i < 100000
  · rw [if_pos h1, if_neg (by omega), if_pos (by omega)]; omega
  · rw [if_neg h1]
    by_cases h2 : K ≤ i ∧ i < K + 100000
    · rw [if_pos h2, if_pos (by omega)]; omega
    · rw [if_neg h2, if_neg h1, if_neg h2]
theorem swp_lent {K : Nat} (hK : 1000000 ≤ K) : swp K lentId = lentId := by
  unfold swp lentId
  rw [if_neg (by decide), if_neg (by omega)]
mutual
def AV.bx (id : Nat) : AV → AV
  | .slice i o n => if i = id then .arr i o n else .slice i o n
  | .ptr i j o => if i = id then .ptr i 0 (j + o) else .ptr i j o
  | .arr i o n => if i = id then .und else .arr i o n
  | .agg l => .agg (bxL id l)
  | .tup l => .tup (bxL id l)
  | v => v
def bxL (id : Nat) : List AV → List AV
  | [] => []
  | v :: l => v.bx id :: bxL id l
end
theorem bxL_eq (id : Nat) : ∀ l : List AV, bxL id l = l.map (AV.bx id)
  | [] => by simp [bxL]
  | v :: l => by simp [bxL, bxL_eq id l]
def AObj.bx (id : Nat) (o : AObj) : AObj := match o.cont with
  | .box v => ⟨o.T, o.sz, .box (v.bx id), o.frz⟩
  | _ => o
theorem AObj.bx_T (id : Nat) (o : AObj) : (o.bx id).T = o.T ∧ (o.bx id).sz = o.sz ∧ (o.bx id).frz = o.frz := by
  unfold AObj.bx; split <;> exact ⟨rfl, rfl, rfl⟩
mutual
def AV.noArr (id : Nat) : AV → Bool
  | .arr i _ _ => !(i == id)
  | .agg l => noArrL id l
  | .tup l => noArrL id l
  | _ => true
def noArrL (id : Nat) : List AV → Bool
  | [] => true
  | v :: l => v.noArr id && noArrL id l
end
theorem noArrL_mem {id : Nat} : ∀ {l : List AV}, noArrL id l = true → ∀ v ∈ l, v.noArr id = true
  | [], _, v, hv => by cases hv
  | u :: l, h, v, hv => by
    simp only [noArrL, Bool.and_eq_true] at h
    rcases List.mem_cons.1 hv with rfl | hv
    · exact h.1
    · exact noArrL_mem h.2 v hv
theorem AV.bx_one {id : Nat} {v : AV} (h : v.noArr id = true) : (v.bx id).one = v.one := by
  cases v <;> simp only [AV.bx] <;> (try rfl)
  all_goals (split <;> (try rfl))
  rename_i e
  simp [AV.noArr, e] at h
theorem AV.bx_cells {id : Nat} {v : AV} (h : v.noArr id = true) : (v.bx id).cells = v.cells.map (AV.bx id) := by
  cases v <;> simp only [AV.bx, AV.cells, bxL_eq] <;> (try rfl)
  case p d => simp [AV.bx]
  case tup l => simp [AV.bx, bxL_eq]
  case slice i o n => by_cases e : i = id <;> simp [AV.bx, e]
  case ptr i o n => by_cases e : i = id <;> simp [AV.bx, e]
  case arr i o n =>
    have e : i ≠ id := by simpa [AV.noArr] using h
    simp [AV.bx, e]
  all_goals simp [AV.bx]
theorem AV.noArr_cells {id : Nat} {v : AV} (h : v.noArr id = true) : ∀ e ∈ v.cells, e.noArr id = true := by
  cases v <;> simp only [AV.cells] <;> intro e he
  case p d =>
    simp only [List.mem_map] at he
    obtain ⟨x, hx, rfl⟩ := he
    simp [AV.noArr]
  case agg l => simp only [AV.noArr] at h; exact noArrL_mem h e he
  all_goals (simp only [List.mem_singleton] at he; subst he; exact h)
theorem RV.bx {w : World} {N : Nat → Prop} {loc : Locs} {id : Nat} {L0 : Loc} (h0 : loc id = some L0) (hs0 : L0.sz = 1) {n : Nat} {v : Value} {d : AV} (h : RV w N loc v d) (hd : d.noArr id = true) : RV w N (upd loc id (some ⟨L0.b, L0.o, L0.n, n, false⟩)) v (d.bx id) := by
  have hne : ∀ j L, j ≠ id → loc j = some L → upd loc id (some ⟨L0.b, L0.o, L0.n, n, false⟩) j = some L := fun j L hj hL => by rw [upd_ne _ _ hj]; exact hL
  induction h with
  | und v => unfold AV.bx; exact .und v
  | p v d h => unfold AV.bx; exact .p v d h
  | agg cs l h1 h2 _ ih =>
    unfold AV.bx
    simp only [AV.noArr] at hd
    rw [bxL_eq]
    refine .agg cs _ (by simpa using h1) (fun e he => ?_) (fun i e he => ?_)
    · simp only [List.mem_map] at he
      obtain ⟨x, hx, rfl⟩ := he
      rw [AV.bx_one (noArrL_mem hd x hx)]; exact h2 x hx
    · simp only [List.getElem?_map, Option.map_eq_some_iff] at he
      obtain ⟨x, hx, rfl⟩ := he
      exact ih i x hx (noArrL_mem hd x (List.mem_of_getElem? hx))
  | tup cs l h1 _ ih =>
    unfold AV.bx
    simp only [AV.noArr] at hd
    rw [bxL_eq]
    refine .tup cs _ (by simpa using h1) (fun i e he => ?_)
    simp only [List.getElem?_map, Option.map_eq_some_iff] at he
    obtain ⟨x, hx, rfl⟩ := he
    exact ih i x hx (noArrL_mem hd x (List.mem_of_getElem? hx))
  | nils T sz => unfold AV.bx; exact .nils T sz
  | slice L i off len cap h1 h2 h3 h4 h5 =>
    unfold AV.bx
    split
    · rename_i e
      subst e
      rw [h0] at h1
      cases h1
      have := RV.arr (w := w) (N := N) (loc := upd loc i (some ⟨L0.b, L0.o, L0.n, n, false⟩)) ⟨L0.b, L0.o, L0.n, n, false⟩ i off len cap (upd_same _ _ _) rfl h3 h4 (by rw [hs0] at h5; simpa using h5)
      rw [hs0, Nat.mul_one]
      exact this
    · rename_i e; exact .slice L i off len cap (hne _ _ e h1) h2 h3 h4 h5
  | sliceEmp L i off p h1 =>
    unfold AV.bx
    split
    · rename_i e
      subst e
      exact .arrEmp ⟨L0.b, L0.o, L0.n, n, false⟩ i off p (upd_same _ _ _)
    · rename_i e; exact .sliceEmp L i off p (hne _ _ e h1)
  | arr L i off len cap h1 h2 h3 h4 h5 =>
    simp only [AV.noArr, Bool.not_eq_true', beq_eq_false_iff_ne, ne_eq] at hd
    unfold AV.bx
    rw [if_neg hd]
    exact .arr L i off len cap (hne _ _ hd h1) h2 h3 h4 h5
  | arrEmp L i off p h1 =>
    simp only [AV.noArr, Bool.not_eq_true', beq_eq_false_iff_ne, ne_eq] at hd
    unfold AV.bx
    rw [if_neg hd]
    exact .arrEmp L i off p (hne _ _ hd h1)
  | ptr L i j off h1 h2 =>
    unfold AV.bx
    split
    · rename_i e
      subst e
      rw [h0] at h1
      cases h1
      have := RV.ptr (w := w) (N := N) (loc := upd loc i (some ⟨L0.b, L0.o, L0.n, n, false⟩)) ⟨L0.b, L0.o, L0.n, n, false⟩ i 0 (j + off) (upd_same _ _ _) rfl
      rw [hs0, Nat.mul_one]
      simpa using this
    · rename_i e; exact .ptr L i j off (hne _ _ e h1) h2
section
variable {w0 : World} {base : Bs} {nt : Nat} {loc : Locs} {a : Act} {w : World} {OT : List TypeId} {s : St}
theorem Rel.bx (h : Rel w0 base nt loc s a w) {id : Nat} {T : TypeId} {l : List D} (hid : id ≠ lentId) (hm : s.m id = some ⟨T, 1, .row l, false⟩) (hl : l ≠ []) (h1 : l.all D.one = true) (hr : ∀ t, (s.r t).noArr id = true)
    (hb : ∀ j o v, s.m j = some o → o.cont = .box v → v.noArr id = true) :
    ∃ loc', Rel w0 base nt loc' ⟨fun t => (s.r t).bx id, fun j => if j = id then some ⟨T, l.length, .box (.agg (l.map .p)), false⟩ else (s.m j).map (AObj.bx id)⟩ a w := by
  obtain ⟨L0, hL0, hok0⟩ := h.objs id _ hm
  have hn0 : L0.nil = false := by
    cases e : L0.nil with
    | false => rfl
    | true => have := hok0.nil e; simp only [Cont.row.injEq] at this; exact absurd this hl
  have hs0 : L0.sz = 1 := hok0.sz
  obtain ⟨c0, fr0, z1, z2, z3, z4, -⟩ := hok0.at_ hn0
  have hlocne : ∀ j, j ≠ id → upd loc id (some (⟨L0.b, L0.o, L0.n, l.length, false⟩ : Loc)) j = loc j := fun j hj => upd_ne _ _ hj
  have hmm : ∀ j o, (if j = id then some (⟨T, l.length, .box (.agg (l.map .p)), false⟩ : AObj) else (s.m j).map (AObj.bx id)) = some o → (j = id ∧ o = ⟨T, l.length, .box (.agg (l.map .p)), false⟩) ∨ (j ≠ id ∧ ∃ o0, s.m j = some o0 ∧ o = o0.bx id) := by
    intro j o ho
    by_cases e : j = id
    · rw [if_pos e] at ho; cases ho; exact .inl ⟨e, rfl⟩
    · rw [if_neg e] at ho
      simp only [Option.map_eq_some_iff] at ho
      obtain ⟨x, hx, rfl⟩ := ho
      exact .inr ⟨e, x, hx, rfl⟩
  have hN : NB base (fun j => if j = id then some (⟨T, l.length, .box (.agg (l.map .p)), false⟩ : AObj) else (s.m j).map (AObj.bx id)) (upd loc id (some ⟨L0.b, L0.o, L0.n, l.length, false⟩)) w = NB base s.m loc w := by
    funext b
    refine propext ⟨fun ⟨h1, h2, h3⟩ => ⟨h1, h2, ?_⟩, fun ⟨h1, h2, h3⟩ => ⟨h1, h2, ?_⟩⟩
    · rintro ⟨j, o, L, g1, g2, g3, g4, g5⟩
      by_cases e : j = id
      · subst e
        rw [hL0] at g3
        cases g3
        exact h3 ⟨j, _, ⟨L0.b, L0.o, L0.n, l.length, false⟩, if_pos rfl, rfl, upd_same _ _ _, rfl, g5⟩
      · exact h3 ⟨j, o.bx id, L, by dsimp only; rw [if_neg e, g1]; rfl, by rw [(o.bx_T id).2.2]; exact g2, by rw [hlocne _ e]; exact g3, g4, g5⟩
    · rintro ⟨j, o, L, g1, g2, g3, g4, g5⟩
      rcases hmm j o g1 with ⟨rfl, rfl⟩ | ⟨e, o0, k1, rfl⟩
      · rw [upd_same] at g3
        cases g3
        exact h3 ⟨j, _, L0, hm, rfl, hL0, hn0, g5⟩
      · rw [hlocne _ e] at g3
        exact h3 ⟨j, o0, L, k1, by rw [(o0.bx_T id).2.2] at g2; exact g2, g3, g4, g5⟩
  refine ⟨upd loc id (some ⟨L0.b, L0.o, L0.n, l.length, false⟩), h.ext, h.defers, h.size, h.low, fun j hj => ?_, fun t => ?_, fun j o ho => ?_, fun j j' o o' L L' ho ho' hf hLj hLj' hn hn' hb' => ?_, fun L hB => ?_⟩
  · dsimp only at hj
    by_cases e : j = id
    · rw [if_pos e] at hj; cases hj
    · rw [if_neg e] at hj
      simp only [Option.map_eq_none_iff] at hj
      rw [hlocne _ e]
      exact h.dom _ hj
  · rw [hN]; exact (h.tmps t).bx hL0 hs0 (hr t)
  · rcases hmm j o ho with ⟨rfl, rfl⟩ | ⟨e, o0, k1, rfl⟩
    · refine ⟨_, upd_same _ _ _, rfl, fun hh => (by cases hh), fun _ => ⟨c0, fr0, z1, z2, ?_, fun _ => z4 rfl, fun hh => (by cases hh)⟩⟩
      rw [hN]
      obtain ⟨m1, m2, m3⟩ := z3
      refine ⟨by simpa using m1, by simp [AV.cells], fun e he => ?_, fun i e he => ?_⟩
      · simp only [AV.cells, List.mem_map] at he
        obtain ⟨x, hx, rfl⟩ := he
        exact List.all_eq_true.1 h1 x hx
      · simp only [AV.cells, List.getElem?_map, Option.map_eq_some_iff] at he
        obtain ⟨x, hx, rfl⟩ := he
        have ho1 : x.one = true := List.all_eq_true.1 h1 x (List.mem_of_getElem? hx)
        have hxc : x.cells = [x] := by cases x <;> first | rfl | (simp [D.one] at ho1)
        have := (m3 i x 0 x hx (by rw [hxc]; rfl)).2
        exact .p _ _ (by simpa using this)
    · obtain ⟨L, hL1, hok⟩ := h.objs _ _ k1
      obtain ⟨e1, e2, e3⟩ := o0.bx_T id
      refine ⟨L, by rw [hlocne _ e]; exact hL1, by rw [e2]; exact hok.sz, fun hn => ?_, fun hn => ?_⟩
      · have := hok.nil hn
        unfold AObj.bx
        rw [this]; exact this
      · obtain ⟨c, fr, q1, q2, q3, q4, q5⟩ := hok.at_ hn
        rw [e1, e2, e3, hN]
        refine ⟨c, fr, q1, q2, ?_, q4, q5⟩
        unfold AObj.bx
        cases hc : o0.cont with
        | row l => rw [hc] at q3; simp only [hc]; exact q3
        | junk => rw [hc] at q3; simp only [hc]; exact q3
        | box v =>
          have hv := hb j o0 v k1 hc
          rw [hc] at q3
          obtain ⟨m1, m2, m3, m4⟩ := q3
          refine ⟨m1, by rw [AV.bx_cells hv]; simpa using m2, fun e he => ?_, fun i e he => ?_⟩
          · rw [AV.bx_cells hv] at he
            simp only [List.mem_map] at he
            obtain ⟨x, hx, rfl⟩ := he
            rw [AV.bx_one (AV.noArr_cells hv x hx)]; exact m3 x hx
          · rw [AV.bx_cells hv] at he
            simp only [List.getElem?_map, Option.map_eq_some_iff] at he
            obtain ⟨x, hx, rfl⟩ := he
            exact (m4 i x hx).bx hL0 hs0 (AV.noArr_cells hv x (List.mem_of_getElem? hx))
  · have key : ∀ j o L, (if j = id then some (⟨T, l.length, .box (.agg (l.map .p)), false⟩ : AObj) else (s.m j).map (AObj.bx id)) = some o → upd loc id (some ⟨L0.b, L0.o, L0.n, l.length, false⟩) j = some L → L.nil = false → ∃ o0 L1, s.m j = some o0 ∧ loc j = some L1 ∧ L1.nil = false ∧ L1.b = L.b ∧ o0.frz = o.frz := by
      intro j o L g1 g2 g3
      rcases hmm j o g1 with ⟨rfl, rfl⟩ | ⟨e, o0, k1, rfl⟩
      · rw [upd_same] at g2
        cases g2
        exact ⟨_, L0, hm, hL0, hn0, rfl, rfl⟩
      · rw [hlocne _ e] at g2
        exact ⟨o0, L, k1, g2, g3, rfl, ((o0.bx_T id).2.2).symm⟩
    obtain ⟨o0, L1, x1, x2, x3, x4, x5⟩ := key j o L ho hLj hn
    obtain ⟨o1, L2, y1, y2, y3, y4, y5⟩ := key j' o' L' ho' hLj' hn'
    exact h.inj j j' o0 o1 L1 L2 x1 y1 (x5.trans hf) x2 y2 x3 y3 (by rw [x4, y4]; exact hb')
  · obtain ⟨h1, h2, h3, o, h4, h5⟩ := h.keepL L hB
    have e : lentId ≠ id := fun e => hid e.symm
    exact ⟨by rw [hlocne _ e]; exact h1, h2, h3, o.bx id, by simp only [if_neg e, h4, Option.map_some], by rw [(o.bx_T id).2.2]; exact h5⟩
end
def bxR (id : Nat) : List (Nat × AV) → List (Nat × AV)
  | [] => []
  | (i, v) :: l => (i, v.bx id) :: bxR id l
def bxM (id : Nat) (ob : AObj) : List (Nat × AObj) → List (Nat × AObj)
  | [] => []
  | (i, o) :: l => (i, if i = id then ob else o.bx id) :: bxM id ob l
def noArrR (id : Nat) : List (Nat × AV) → Bool
  | [] => true
  | (_, v) :: l => v.noArr id && noArrR id l
def noArrM (id : Nat) : List (Nat × AObj) → Bool
  | [] => true
  | (_, o) :: l => (match o.cont with | .box v => v.noArr id | _ => true) && noArrM id l
theorem bxR_look (id : Nat) : ∀ (l : List (Nat × AV)) (t : Nat), look (bxR id l) t = (look l t).bx id
  | [], t => by rw [bxR, look_nil]; simp [AV.bx]
  | (i, v) :: l, t => by
    rw [bxR, look_cons, look_cons]
    split
    · rfl
    · exact bxR_look id l t
theorem bxM_look (id : Nat) (ob : AObj) : ∀ (l : List (Nat × AObj)) (j : Nat), (lookM l id).isSome = true → lookM (bxM id ob l) j = if j = id then some ob else (lookM l j).map (AObj.bx id)
  | [], j, h => by rw [lookM_nil] at h; cases h
  | (i, o) :: l, j, h => by
    have other : j ≠ id → lookM (bxM id ob l) j = (lookM l j).map (AObj.bx id) := by
      intro hj
      clear h
      induction l with
      | nil => rfl
      | cons p l ih =>
        obtain ⟨i, o⟩ := p
        rw [bxM, lookM_cons, lookM_cons, ih]
        by_cases e : j = i
        · rw [if_pos e, if_pos e, if_neg (by rw [← e]; exact hj)]; rfl
        · rw [if_neg e, if_neg e]
    rw [bxM, lookM_cons]
    by_cases e : j = i
    · rw [if_pos e, lookM_cons, if_pos e]
      subst e
      by_cases e2 : j = id
      · rw [if_pos e2, if_pos e2]
      · rw [if_neg e2, if_neg e2]; rfl
    · rw [if_neg e, lookM_cons, if_neg e]
      by_cases e2 : j = id
      · subst e2
        rw [lookM_cons, if_neg e] at h
        rw [bxM_look j ob l j h, if_pos rfl]
      · rw [other e2, if_neg e2]
theorem noArrR_look {id : Nat} : ∀ {l : List (Nat × AV)} (t : Nat), noArrR id l = true → (look l t).noArr id = true
  | [], t, _ => by rw [look_nil]; simp [AV.noArr]
  | (i, v) :: l, t, h => by
    simp only [noArrR, Bool.and_eq_true] at h
    rw [look_cons]
    split
    · exact h.1
    · exact noArrR_look t h.2
theorem noArrM_look {id : Nat} : ∀ {l : List (Nat × AObj)} {j : Nat} {o : AObj} {v : AV}, noArrM id l = true → lookM l j = some o → o.cont = .box v → v.noArr id = true
  | [], j, o, v, _, h, _ => by rw [lookM_nil] at h; cases h
  | (i, q) :: l, j, o, v, h, ho, hc => by
    simp only [noArrM, Bool.and_eq_true] at h
    rw [lookM_cons] at ho
    split at ho
    · cases ho; have := h.1; rw [hc] at this; exact this
    · exact noArrM_look h.2 ho hc
theorem Sub.bx {OT : List TypeId} {R : List (Nat × AV)} {M : List (Nat × AObj)} (id : Nat) {T : TypeId} {l : List D} (hid : id ≠ lentId) (hm : lookM M id = some ⟨T, 1, .row l, false⟩) (hl : l ≠ []) (h1 : l.all D.one = true) (hr : noArrR id R = true) (hb : noArrM id M = true) :
    Sub OT ⟨look R, lookM M⟩ ⟨look (bxR id R), lookM (bxM id ⟨T, l.length, .box (.agg (l.map .p)), false⟩ M)⟩ := by
  have h : (⟨look (bxR id R), lookM (bxM id ⟨T, l.length, .box (.agg (l.map .p)), false⟩ M)⟩ : St) = ⟨fun t => (look R t).bx id, fun j => if j = id then some ⟨T, l.length, .box (.agg (l.map .p)), false⟩ else (lookM M j).map (AObj.bx id)⟩ := by
    congr 1
    · funext t; exact bxR_look id R t
    · funext j; exact bxM_look id _ M j (by rw [hm]; rfl)
  rw [h]
  rintro C a w rfl ⟨⟨loc, hrel⟩, h2⟩
  refine ⟨hrel.bx hid hm hl h1 (fun t => noArrR_look t hr) (fun j o v ho hc => noArrM_look hb ho hc), fun j o ho => ?_⟩
  dsimp only at ho
  split at ho
  · cases ho; exact h2 id (⟨T, 1, .row l, false⟩ : AObj) hm
  · simp only [Option.map_eq_some_iff] at ho
    obtain ⟨x, hx, rfl⟩ := ho
    rw [(x.bx_T id).1]
    exact h2 _ _ hx
end Go.Proofs.Ytlnhembcfhfpkaa.M
end
