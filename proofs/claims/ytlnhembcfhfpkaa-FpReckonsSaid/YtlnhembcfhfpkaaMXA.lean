/- The small machine: objects that are dropped, or not written any more. -/
import Derived.Test.YtlnhembcfhfpkaaMX
namespace Go.Proofs.Ytlnhembcfhfpkaa.M
open Go.RowKit
set_option linter.defProp false

/-- What each operation on plain data gives, as equations. -/
theorem bd_add (k : IntKind) (a b : Int) : binD .add (.int k a) (.int k b) = some (inK k (a + b), .int k (a + b)) := by simp [binD]
theorem bd_sub (k : IntKind) (a b : Int) : binD .sub (.int k a) (.int k b) = some (inK k (a - b), .int k (a - b)) := by simp [binD]
theorem bd_mul (k : IntKind) (a b : Int) : binD .mul (.int k a) (.int k b) = some (inK k (a * b), .int k (a * b)) := by simp [binD]
theorem bd_quo (k : IntKind) (a b : Int) : binD .quo (.int k a) (.int k b) = some (decide (b ≠ 0) && inK k (a.tdiv b), .int k (a.tdiv b)) := by simp [binD]
theorem bd_rem (k : IntKind) (a b : Int) : binD .rem (.int k a) (.int k b) = some (decide (b ≠ 0), .int k (a.tmod b)) := by simp [binD]
theorem bd_eql (k : IntKind) (a b : Int) : binD .eql (.int k a) (.int k b) = some (true, .bool (decide (a = b))) := by simp [binD]
theorem bd_neq (k : IntKind) (a b : Int) : binD .neq (.int k a) (.int k b) = some (true, .bool (!decide (a = b))) := by simp [binD]
theorem bd_lss (k : IntKind) (a b : Int) : binD .lss (.int k a) (.int k b) = some (true, .bool (decide (a < b))) := by simp [binD]
theorem bd_leq (k : IntKind) (a b : Int) : binD .leq (.int k a) (.int k b) = some (true, .bool (decide (a ≤ b))) := by simp [binD]
theorem bd_gtr (k : IntKind) (a b : Int) : binD .gtr (.int k a) (.int k b) = some (true, .bool (decide (b < a))) := by simp [binD]
theorem bd_geq (k : IntKind) (a b : Int) : binD .geq (.int k a) (.int k b) = some (true, .bool (decide (b ≤ a))) := by simp [binD]
theorem bd_sadd (a b : List UInt8) : binD .add (.str a) (.str b) = some (decide (a.length + b.length ≤ 9223372036854775807), .str (a ++ b)) := rfl
theorem bd_seql (a b : List UInt8) : binD .eql (.str a) (.str b) = some (true, .bool (decide (a = b))) := rfl
theorem bd_sneq (a b : List UInt8) : binD .neq (.str a) (.str b) = some (true, .bool (!decide (a = b))) := rfl
theorem bd_beql (a b : Bool) : binD .eql (.bool a) (.bool b) = some (true, .bool (a == b)) := rfl
theorem bd_bneq (a b : Bool) : binD .neq (.bool a) (.bool b) = some (true, .bool (!(a == b))) := rfl
theorem ud_not (a : Bool) : unD .not (.bool a) = some (true, .bool (!a)) := rfl
theorem ud_neg (k : IntKind) (a : Int) : unD .neg (.int k a) = some (inK k (-a), .int k (-a)) := rfl
theorem ik_i64 (n : Int) : inK .i64 n = decide (-9223372036854775808 ≤ n ∧ n ≤ 9223372036854775807) := rfl
theorem ik_u8 (n : Int) : inK .u8 n = decide (0 ≤ n ∧ n ≤ 255) := rfl
theorem ib_int (k : IntKind) (n : Int) : D.isBool (.int k n) = false := rfl
theorem ib_str (s : List UInt8) : D.isBool (.str s) = false := rfl
theorem ib_bool (b : Bool) : D.isBool (.bool b) = true := rfl
def cs6 := And.intro @bd_add (And.intro @bd_sub (And.intro @bd_mul (And.intro @bd_quo (And.intro @bd_rem (And.intro @bd_eql (And.intro @bd_neq (And.intro @bd_lss (And.intro @bd_leq (And.intro @bd_gtr (And.intro @bd_geq (And.intro @bd_sadd (And.intro @bd_seql (And.intro @bd_sneq (And.intro @bd_beql (And.intro @bd_bneq (And.intro @ud_not (And.intro @ud_neg (And.intro @ik_i64 (And.intro @ik_u8 (And.intro @ib_int (And.intro @ib_str (@ib_bool))))))))))))))))))))))

/-- Slots with an object forgotten. -/
def fgR (i : Nat) : List (Nat × AV) → List (Nat × AV)
  | [] => []
  | (j, v) :: l => (j, v.forget i) :: fgR i l
def fgM (i : Nat) : List (Nat × AObj) → List (Nat × AObj)
  | [] => []
  | (j, v) :: l => (j, v.forget i) :: fgM i l
def delM (i : Nat) : List (Nat × AObj) → List (Nat × AObj)
  | [] => []
  | (j, v) :: l => if j = i then delM i l else (j, v) :: delM i l
theorem fgR_nil (i : Nat) : fgR i [] = [] := rfl
theorem fgR_cons (i j : Nat) (v : AV) (l : List (Nat × AV)) : fgR i ((j, v) :: l) = (j, v.forget i) :: fgR i l := rfl
theorem fgM_nil (i : Nat) : fgM i [] = [] := rfl
theorem fgM_cons (i j : Nat) (v : AObj) (l : List (Nat × AObj)) : fgM i ((j, v) :: l) = (j, v.forget i) :: fgM i l := rfl
theorem delM_nil (i : Nat) : delM i [] = [] := rfl
theorem delM_cons (i j : Nat) (v : AObj) (l : List (Nat × AObj)) : delM i ((j, v) :: l) = if j = i then delM i l else (j, v) :: delM i l := rfl
theorem forget_und (i : Nat) : AV.forget i .und = .und := by unfold AV.forget; rfl
theorem forget_p (i : Nat) (d : D) : AV.forget i (.p d) = .p d := by unfold AV.forget; rfl
theorem forget_nils (i T sz : Nat) : AV.forget i (.nils T sz) = .nils T sz := by unfold AV.forget; rfl
theorem forget_slice (i j o n : Nat) : AV.forget i (.slice j o n) = if j = i then .und else .slice j o n := by unfold AV.forget; rfl
theorem forget_ptr (i j k o : Nat) : AV.forget i (.ptr j k o) = if j = i then .und else .ptr j k o := by unfold AV.forget; rfl
theorem forget_agg (i : Nat) (l : List AV) : AV.forget i (.agg l) = (match forgetL i l with | some l => .agg l | none => .und) := by unfold AV.forget; rfl
theorem forget_tup (i : Nat) (l : List AV) : AV.forget i (.tup l) = (match forgetL i l with | some l => .tup l | none => .und) := by unfold AV.forget; rfl
theorem of_row (i T sz : Nat) (l : List D) (f : Bool) : AObj.forget i ⟨T, sz, .row l, f⟩ = ⟨T, sz, .row l, f⟩ := rfl
theorem of_junk (i T sz : Nat) (f : Bool) : AObj.forget i ⟨T, sz, .junk, f⟩ = ⟨T, sz, .junk, f⟩ := rfl
theorem of_boxp (i T sz : Nat) (d : D) (f : Bool) : AObj.forget i ⟨T, sz, .box (.p d), f⟩ = ⟨T, sz, .box (.p d), f⟩ := by simp only [AObj.forget, forget_p]
theorem of_box (i T sz : Nat) (v : AV) (f : Bool) : AObj.forget i ⟨T, sz, .box v, f⟩ = (match v.forget i with
    | .und => ⟨T, sz, .junk, f⟩
    | u => ⟨T, sz, .box u, f⟩) := rfl

theorem forgetR_look (i : Nat) : ∀ (l : List (Nat × AV)), forgetR i (look l) = look (fgR i l)
  | [] => by funext j; simp only [forgetR, fgR_nil, look_nil, forget_und]
  | (k, u) :: l => by
    funext j
    have ih := congrFun (forgetR_look i l) j
    simp only [forgetR] at ih
    simp only [forgetR, fgR_cons, look_cons]
    split
    · rfl
    · exact ih
theorem forgetM_look (i : Nat) : ∀ (l : List (Nat × AObj)), forgetM i (lookM l) = lookM (fgM i l)
  | [] => by funext j; simp only [forgetM, fgM_nil, lookM_nil, Option.map_none]
  | (k, u) :: l => by
    funext j
    have ih := congrFun (forgetM_look i l) j
    simp only [forgetM] at ih
    simp only [forgetM, fgM_cons, lookM_cons]
    split
    · rfl
    · exact ih
theorem delM_look (i : Nat) : ∀ (l : List (Nat × AObj)), upd (lookM l) i none = lookM (delM i l)
  | [] => by funext j; simp only [upd, delM_nil, lookM_nil, ite_self]
  | (k, u) :: l => by
    funext j
    have ih := congrFun (delM_look i l) j
    simp only [upd] at ih
    simp only [upd, delM_cons, lookM_cons]
    by_cases hj : j = i
    · rw [if_pos hj] at ih ⊢
      split
      · exact ih
      · rename_i hk
        rw [lookM_cons, if_neg (fun e => hk (by omega))]
        exact ih
    · rw [if_neg hj] at ih ⊢
      by_cases hk : k = i
      · rw [if_pos hk, if_neg (by omega)]
        exact ih
      · rw [if_neg hk, lookM_cons]
        split
        · rfl
        · exact ih

section
variable {w0 : World} {base : Bs} {nt : Nat} {loc : Locs} {s : St} {a : Act} {w : World} {OT : List TypeId}

theorem Rel.drop (h : Rel w0 base nt loc s a w) (i : Nat) (hi : i ≠ lentId) : Rel w0 base nt (upd loc i none) ⟨forgetR i s.r, upd (forgetM i s.m) i none⟩ a w := by
  have hl : ∀ j L, j ≠ i → loc j = some L → upd loc i none j = some L := fun j L hj hL => by rw [upd_ne _ _ hj]; exact hL
  have hother : ∀ j ob, upd (forgetM i s.m) i none j = some ob → j ≠ i ∧ ∃ ob0, s.m j = some ob0 ∧ ob = ob0.forget i := by
    intro j ob hob
    by_cases hj : j = i
    · subst hj; rw [upd_same] at hob; cases hob
    · rw [upd_ne _ _ hj] at hob
      unfold forgetM at hob
      simp only [Option.map_eq_some_iff] at hob
      obtain ⟨ob0, h1, h2⟩ := hob
      exact ⟨hj, ob0, h1, h2.symm⟩
  have hN : ∀ b, NB base s.m loc w b → NB base (upd (forgetM i s.m) i none) (upd loc i none) w b := by
    rintro b hbN
    refine ⟨hbN.1, hbN.2.1, ?_⟩
    rintro ⟨j, ob, Lj, h1, h2, h3, h4, h5⟩
    obtain ⟨hj, ob0, g1, rfl⟩ := hother j ob h1
    rw [upd_ne _ _ hj] at h3
    exact hbN.2.2 ⟨j, ob0, Lj, g1, by rw [← (forget_same i ob0).2.2.1]; exact h2, h3, h4, h5⟩
  refine ⟨h.ext, h.defers, h.size, h.low, ?_, fun t => (h.tmps t).forget (fun _ _ => rfl) hN hl, ?_, ?_, h.keepL.turn (fun o0 g1 g2 => ⟨o0.forget i, by dsimp only; rw [upd_ne _ _ (Ne.symm hi)]; unfold forgetM; rw [g1]; rfl, by rw [(forget_same i o0).2.2.1]; exact g2⟩) (fun _ => upd_ne _ _ (Ne.symm hi))⟩
  · intro j hj
    dsimp only at hj
    by_cases e : j = i
    · subst e; exact upd_same _ _ _
    · rw [upd_ne _ _ e] at hj ⊢
      unfold forgetM at hj
      simp only [Option.map_eq_none_iff] at hj
      exact h.dom j hj
  · intro j ob hob
    obtain ⟨e, ob0, g1, rfl⟩ := hother j ob hob
    obtain ⟨Lj, hLj, hokj⟩ := h.objs j ob0 g1
    obtain ⟨f1, f2, f3, f4⟩ := forget_same i ob0
    refine ⟨Lj, hl j Lj e hLj, hokj.sz.trans f2.symm, fun hn => f4 (hokj.nil hn), fun hn => ?_⟩
    obtain ⟨c, fr, k1, k2, k3, k4, k5⟩ := hokj.at_ hn
    exact ⟨c, fr, by rw [f1]; exact k1, k2, by rw [f2]; exact k3.forget (fun _ _ => rfl) hN hl, fun hf => k4 (f3 ▸ hf), fun hf => hN _ (k5 (f3 ▸ hf))⟩
  · intro j j' ob ob' Lj Lj' hob hob' hf hLj hLj' hn hn' hbb
    obtain ⟨e, ob0, g1, rfl⟩ := hother j ob hob
    obtain ⟨e', ob0', g1', rfl⟩ := hother j' ob' hob'
    rw [upd_ne _ _ e] at hLj
    rw [upd_ne _ _ e'] at hLj'
    exact h.inj j j' ob0 ob0' Lj Lj' g1 g1' ((forget_same i ob0).2.2.1 ▸ hf) hLj hLj' hn hn' hbb

theorem Rel.freeze (h : Rel w0 base nt loc s a w) {i : Nat} {ob : AObj} (hi : i ≠ lentId) (hm : s.m i = some ob) : Rel w0 base nt loc ⟨s.r, upd s.m i (some ⟨ob.T, ob.sz, ob.cont, true⟩)⟩ a w := h.frz0 hi hm

/-- An object of the call's own may be forgotten. -/
theorem Sub.drop (i : Nat) (s : St) (hi : i ≠ lentId) : Sub OT s ⟨forgetR i s.r, upd (forgetM i s.m) i none⟩ := by
  rintro C a w rfl ⟨⟨loc, hr⟩, h2⟩
  refine ⟨⟨_, hr.drop i hi⟩, fun j o ho => ?_⟩
  dsimp only at ho
  by_cases e : j = i
  · subst e; rw [upd_same] at ho; cases ho
  · rw [upd_ne _ _ e] at ho
    unfold forgetM at ho
    simp only [Option.map_eq_some_iff] at ho
    obtain ⟨o', h1, rfl⟩ := ho
    rw [(forget_same _ o').1]
    exact h2 j o' h1
/-- An object may be taken for one that is not written any more. -/
theorem Sub.freeze {i : Nat} {r : Nat → AV} {m : Mem} {ob : AObj} (hi : i ≠ lentId) (hm : m i = some ob) : Sub OT ⟨r, m⟩ ⟨r, upd m i (some ⟨ob.T, ob.sz, ob.cont, true⟩)⟩ := by
  rintro C a w rfl ⟨⟨loc, hr⟩, h2⟩
  refine ⟨⟨_, hr.freeze hi hm⟩, fun j o ho => ?_⟩
  dsimp only at ho
  by_cases e : j = i
  · subst e; rw [upd_same] at ho; cases ho; exact h2 j ob hm
  · rw [upd_ne _ _ e] at ho; exact h2 j o ho

/-- Behind a piece of code: object i is not written any more, and these slots are still wanted. -/
theorem keepF (i : Nat) (ob : AObj) (ts : List Nat) {r : Nat → AV} {m : Mem} {R : St → Prop} (hm : m i = some ob) (h : R ⟨look (sel r ts), upd m i (some ⟨ob.T, ob.sz, ob.cont, true⟩)⟩) (hi : i ≠ lentId := by decide) : ∃ u, Sub OT ⟨r, m⟩ u ∧ R u := ⟨_, (Sub.freeze hi hm).tr (Sub.und (sel_or ts)), h⟩
/-- Behind a piece of code: object i is forgotten. -/
theorem keepD (i : Nat) (ts : List Nat) {r : Nat → AV} {m : Mem} {R : St → Prop} (h : R ⟨look (sel (forgetR i r) ts), upd (forgetM i m) i none⟩) (hi : i ≠ lentId := by decide) : ∃ u, Sub OT ⟨r, m⟩ u ∧ R u := ⟨_, (Sub.drop i ⟨r, m⟩ hi).tr (Sub.und (sel_or ts)), h⟩
/-- Behind a piece of code: slot t, a nil slice, is an empty object i from here on. -/
theorem keepN (t i : Nat) (T sz : Nat) (ts : List Nat) {r : Nat → AV} {m : Mem} {R : St → Prop} (ht : r t = .nils T sz) (hm : m i = none) (hT : OT.contains T = true) (h : R ⟨look (sel (upd r t (.slice i 0 0)) ts), upd m i (some ⟨T, sz, .row [], false⟩)⟩) : ∃ u, Sub OT ⟨r, m⟩ u ∧ R u := ⟨_, (Sub.nil t i ht hm (by simpa using hT)).tr (Sub.und (sel_or ts)), h⟩

end

end Go.Proofs.Ytlnhembcfhfpkaa.M
