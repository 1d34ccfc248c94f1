/- The small machine: a function's contract out of its code. The small machine: states written out; what may be forgotten. The small machine: what each operation does, as equations. -/
import Derived.Test.YtbbidekjbgjooaaK2
section
namespace Go.Proofs.Ytbbidekjbgjooaa.M
open Go.RowKit

/-- A result: its slot; of a variable also its type. -/
def resC (P : Program) : List ResultVar → Option (List (Nat × Option (Bool × Nat)))
  | [] => some []
  | .tmp t :: l => (resC P l).map ((t, none) :: ·)
  | .cell a T :: l => match tyOf P T with
    | some (ag, sz) => if ag || sz == 1 then (resC P l).map ((a, some (ag, sz)) :: ·) else none
    | none => none
def resV (s : St) : Nat × Option (Bool × Nat) → Option AV
  | (t, none) => some (s.r t)
  | (t, some (ag, sz)) => match s.r t with
    | .ptr i 0 0 => match s.m i with
      | some ⟨_, osz, .box v, _⟩ => v.get 0 sz osz ag
      | _ => none
    | _ => none
def resL (s : St) : List (Nat × Option (Bool × Nat)) → Option (List D)
  | [] => some []
  | x :: l => match (match resV s x with | some v => v.toD true s.m 20 | none => none), resL s l with
    | some d, some ds => some (d :: ds)
    | _, _ => none
def resD (s : St) (rs : List (Nat × Option (Bool × Nat))) : Option D := match resL s rs with
  | some [d] => some d
  | some ds => some (.tup ds)
  | none => none

def init (ds : List D) : St := ⟨fun t => match ds[t]? with
  | some d => .p d
  | none => .und, fun _ => none⟩

section
variable {C : Ctx} {s : St} {a : Act} {w : World}

def resRun (tmps : Array Value) : ResultVar → Sem Value
  | .tmp t => pure (tmps.getD t undef)
  | .cell a t => do loadVar t (← asAddr (tmps.getD a undef))

theorem results_eq (fn : Func) (tmps : Array Value) : results fn tmps = (fn.results.mapM (resRun tmps) >>= fun vs => pure (if h : vs.size = 1 then vs[0] else .tuple vs)) := rfl

theorem resL_run {loc : Locs} (h : Rel C.w0 C.base C.nt loc s a w) : ∀ (l : List ResultVar) (rs : List (Nat × Option (Bool × Nat))) (ds : List D), resC C.P l = some rs → resL s rs = some ds →
    ∃ vs : List Value, (l.mapM (resRun a.tmps)).run C.P w = .ok vs w ∧ vs.length = ds.length ∧ ∀ (i : Nat) (d : D), ds[i]? = some d → V w (fun b => b < w.heap.size ∧ ¬ C.base b) (vs.getD i undef) d
  | [], rs, ds, h1, h2 => by
    simp only [resC, Option.some.injEq] at h1
    subst h1
    simp only [resL, Option.some.injEq] at h2
    subst h2
    exact ⟨[], by simp, rfl, fun i d hd => by simp at hd⟩
  | x :: l, rs, ds, h1, h2 => by
    have hx : ∃ y rs', rs = y :: rs' ∧ resC C.P l = some rs' ∧ ∀ u, resV s y = some u → ∃ v, (resRun a.tmps x).run C.P w = .ok v w ∧ RV w (NB C.base s.m loc w) loc v u := by
      cases x with
      | tmp t =>
        simp only [resC, Option.map_eq_some_iff] at h1
        obtain ⟨rs', h1, rfl⟩ := h1
        refine ⟨_, rs', rfl, h1, fun u hu => ?_⟩
        simp only [resV, Option.some.injEq] at hu
        subst hu
        exact ⟨_, by simp [resRun], h.tmps t⟩
      | cell t T =>
        simp only [resC] at h1
        split at h1
        case h_2 => cases h1
        rename_i ag sz hT
        split at h1
        case isFalse => cases h1
        rename_i hs
        simp only [Option.map_eq_some_iff] at h1
        obtain ⟨rs', h1, rfl⟩ := h1
        refine ⟨_, rs', rfl, h1, fun u hu => ?_⟩
        simp only [resV] at hu
        split at hu
        case h_2 => cases hu
        rename_i i hp
        split at hu
        case h_2 => cases hu
        rename_i T' osz v frz hm
        have hrv := h.tmps t
        rw [hp] at hrv
        generalize hq : a.tmps.getD t undef = q at hrv
        cases hrv with
        | ptr L _ _ _ hL hn =>
        obtain ⟨L', hL', hok⟩ := h.objs i _ hm
        rw [hL] at hL'
        cases hL'
        obtain ⟨c, fr, k1, k2, k3, -⟩ := hok.at_ hn
        obtain ⟨m1, m2, m3, m4⟩ := k3
        obtain ⟨x, hx1, hx2⟩ := rv_get (P := C.P) (T' := T) k1 m1 m2 m3 m4 hu (tyOf_ok hT) (fun e => by simpa [e] using hs)
        refine ⟨x, ?_, hx2⟩
        have : (Instr.loadAt T (.pointer (some ⟨L.b, L.o + 0, none⟩))).run C.P w = (loadVar T ⟨L.b, L.o + 0, none⟩).run C.P w := by simp [Instr.loadAt, Instr.sureAddr]
        rw [this] at hx1
        simp only [Nat.zero_mul, Nat.add_zero] at hq hx1
        simp [resRun, hq, asAddr, hx1]
    obtain ⟨y, rs', rfl, hl, hrun⟩ := hx
    simp only [resL] at h2
    split at h2
    case h_2 => cases h2
    rename_i d ds' g1 g2
    simp only [Option.some.injEq] at h2
    subst h2
    split at g1
    case h_2 => cases g1
    rename_i u hu
    obtain ⟨v, hv1, hv2⟩ := hrun u hu
    obtain ⟨vs, q1, q2, q3⟩ := resL_run h l rs' ds' hl g2
    refine ⟨v :: vs, by simp [List.mapM_cons, hv1, q1], by simp [q2], fun i e he => ?_⟩
    match i, he with
    | 0, he =>
      simp at he
      subst he
      exact toD_ok (any := true) (N' := fun b => b < w.heap.size ∧ ¬ C.base b) h (fun b hb => ⟨hb.1, hb.2.1⟩) (fun i o L ho _ hL hn => ⟨h.obj_lt ho hL hn, fun hb => by
        obtain ⟨L', hL', hok⟩ := h.objs i o ho
        rw [hL] at hL'
        cases hL'
        obtain ⟨c, fr, k1, k2, k3, k4, k5⟩ := hok.at_ hn
        cases hf : o.frz with
        | false => have := (k4 hf).1; have := h.low _ hb; omega
        | true => exact (k5 hf).2.1 hb⟩) 20 u v d g1 hv2
    | i + 1, he => simpa using q3 i e (by simpa using he)

/-- **A function's contract.** -/
theorem con_of {P : Program} {A OT : List TypeId} {f : FuncId} {fn : Func} {code : Code} {H : List Hint} {cc : CC} {rs : List (Nat × Option (Bool × Nat))} {ds : List D} {d : D}
    (hf : P.funcs[f]? = some fn) (hb : fn.body = some code) (hm : P.follows .mixedOrders = true) (hc : comp P fn.ntmps OT H code = some cc) (hr : resC P fn.results.toList = some rs) (hA : OT.all (fun T => !A.contains T) = true) (hn : ds.length ≤ fn.ntmps)
    (hcw : cw (Con P A) cc (fun e s => (match e with | .exit _ => False | _ => True) ∧ resD s rs = some d) (init ds)) : Con P A f ds d := by
  intro base w vs h1 h2 h3 h4
  have hbody := cw_sound (C := ⟨P, A, OT, fn.ntmps, w, base⟩) ⟨h2, fun T hT => by
    rw [List.all_eq_true] at hA
    have := hA T hT
    simpa using this⟩ hm H code cc _ (init ds) { tmps := vs ++ Array.replicate (fn.ntmps - vs.size) undef, defers := [] } w hc hcw ⟨⟨fun _ => none, Ext.rf w, rfl, by simp; omega, h1, fun _ _ => rfl, fun t => ?_, fun id o ho => by simp [init] at ho, fun id _ o _ _ _ ho => by simp [init] at ho⟩, fun id o ho => by simp [init] at ho⟩
  · refine calls_of_wp hf hb (wp_mono hbody ?_)
    intro e a' w' hq
    have fin : (∃ t, Is ⟨P, A, OT, fn.ntmps, w, base⟩ t a' w' ∧ resD t rs = some d) → a'.defers = [] ∧ ∃ v, (results fn a'.tmps).run P w' = .ok v w' ∧ ∃ v', Ending.returned v = Ending.returned v' ∧ V w' (fun b => b < w'.heap.size ∧ ¬ base b) v' d ∧ Ext w w' := by
      rintro ⟨t, ht, hres⟩
      obtain ⟨loc, hrel⟩ := ht.1
      refine ⟨hrel.defers, ?_⟩
      have key : ∀ ds', resL t rs = some ds' → ∃ vs : List Value, (fn.results.mapM (resRun a'.tmps)).run P w' = .ok vs.toArray w' ∧ vs.length = ds'.length ∧ ∀ (i : Nat) (d : D), ds'[i]? = some d → V w' (fun b => b < w'.heap.size ∧ ¬ base b) (vs.getD i undef) d := by
        intro ds' hds
        obtain ⟨vs, q1, q2, q3⟩ := resL_run hrel _ _ _ hr hds
        refine ⟨vs, ?_, q2, q3⟩
        rw [Array.mapM_eq_mapM_toList]
        simp only at q1
        simp [q1]
      have hresults : ∀ vs : List Value, (fn.results.mapM (resRun a'.tmps)).run P w' = .ok vs.toArray w' → (results fn a'.tmps).run P w' = .ok (if h : vs.toArray.size = 1 then vs.toArray[0] else .tuple vs.toArray) w' := by
        intro vs hv
        rw [results_eq]
        simp only [Sem.run_bind, hv, Result.andThen]
        rfl
      unfold resD at hres
      split at hres
      · rename_i d' hd'
        simp only [Option.some.injEq] at hres
        subst hres
        obtain ⟨vs, q1, q2, q3⟩ := key _ hd'
        match vs, q2 with
        | [v], _ =>
          refine ⟨v, by rw [hresults _ q1]; simp, v, rfl, ?_, hrel.ext⟩
          have := q3 0 d' rfl
          simpa using this
      · rename_i ds' hne hd'
        simp only [Option.some.injEq] at hres
        subst hres
        obtain ⟨vs, q1, q2, q3⟩ := key _ hd'
        have hne1 : vs.length ≠ 1 := by
          intro h1
          rw [q2] at h1
          match ds', h1 with
          | [d'], _ => exact hne d' rfl
        refine ⟨.tuple vs.toArray, by rw [hresults _ q1, dif_neg (by simpa using hne1)], _, rfl, .tup _ _ (by simpa using q2) (fun i e he => by simpa using q3 i e he), hrel.ext⟩
      · cases hres
    cases e with
    | normal => obtain ⟨t, ht, -, hres⟩ := hq; exact fin ⟨t, ht, hres⟩
    | ret => obtain ⟨t, ht, -, hres⟩ := hq; exact fin ⟨t, ht, hres⟩
    | exit id => obtain ⟨t, ht, hbad, hres⟩ := hq; exact hbad.elim
    | _ => exact hq.elim
  · by_cases ht : t < vs.size
    · have hd : ∃ d, ds[t]? = some d := ⟨ds[t]'(by omega), by simp⟩
      obtain ⟨d', hd⟩ := hd
      have hr' : (init ds).r t = .p d' := by simp [init, hd]
      rw [hr']
      have hg : (vs ++ Array.replicate (fn.ntmps - vs.size) undef).getD t undef = vs.getD t undef := by
        simp only [Array.getD_eq_getD_getElem?]
        rw [Array.getElem?_append_left ht]
      simp only [hg]
      exact .p _ _ ((h4 t d' hd).mono (fun _ _ => rfl) fun b hb => ⟨hb.1, hb.2, by rintro ⟨id, o, L, ho, _⟩; simp [init] at ho⟩)
    · have hr' : (init ds).r t = .und := by
        have : ds[t]? = none := List.getElem?_eq_none (by omega)
        simp [init, this]
      rw [hr']
      exact .und _
/-- Function f, with all that is known of its text. -/
def FnOk (P : Program) (f : FuncId) (OT : List TypeId) (cc : CC) (rs : List (Nat × Option (Bool × Nat))) (nt : Nat) : Prop :=
  ∃ fn H, P.funcs[f]? = some fn ∧ fn.body.isSome = true ∧ P.follows .mixedOrders = true ∧ comp P fn.ntmps OT H (fn.body.getD .skip) = some cc ∧ resC P fn.results.toList = some rs ∧ fn.ntmps = nt

def Ends (d : D) (rs : List (Nat × Option (Bool × Nat))) : AExit → St → Prop
  | .exit _, _ => False
  | _, s => resD s rs = some d

theorem FnOk.con {P : Program} {A OT : List TypeId} {f : FuncId} {cc : CC} {rs : List (Nat × Option (Bool × Nat))} {nt : Nat} {ds : List D} {d : D} (h : FnOk P f OT cc rs nt) (hA : OT.all (fun T => !A.contains T) = true) (hn : ds.length ≤ nt)
    (hcw : cw (Con P A) cc (Ends d rs) (init ds)) : Con P A f ds d := by
  obtain ⟨fn, H, h1, h2, h3, h4, h5, rfl⟩ := h
  obtain ⟨code, hcode⟩ := Option.isSome_iff_exists.1 h2
  rw [hcode] at h4
  have hE : Ends d rs = fun e s => (match e with | .exit _ => False | _ => True) ∧ resD s rs = some d := by
    funext e s
    cases e <;> simp [Ends]
  rw [hE] at hcw
  exact con_of h1 hcode h3 h4 h5 hA hn hcw

end

end Go.Proofs.Ytbbidekjbgjooaa.M
end

section
namespace Go.Proofs.Ytbbidekjbgjooaa.M
open Go.RowKit

/-- Slots, written out. -/
def look : List (Nat × AV) → Nat → AV
  | [], _ => .und
  | (i, v) :: l, t => if t = i then v else look l t
/-- Objects, written out. -/
def lookM : List (Nat × AObj) → Mem
  | [], _ => none
  | (i, v) :: l, t => if t = i then some v else lookM l t
def setR (t : Nat) (v : AV) : List (Nat × AV) → List (Nat × AV)
  | [] => [(t, v)]
  | (i, u) :: l => if i = t then (t, v) :: l else (i, u) :: setR t v l
def setM (t : Nat) (v : AObj) : List (Nat × AObj) → List (Nat × AObj)
  | [] => [(t, v)]
  | (i, u) :: l => if i = t then (t, v) :: l else (i, u) :: setM t v l
def sel (r : Nat → AV) : List Nat → List (Nat × AV)
  | [] => []
  | t :: l => (t, r t) :: sel r l

theorem look_nil (t : Nat) : look [] t = .und := rfl
theorem look_cons (i : Nat) (v : AV) (l : List (Nat × AV)) (t : Nat) : look ((i, v) :: l) t = if t = i then v else look l t := rfl
theorem lookM_nil (t : Nat) : lookM [] t = none := rfl
theorem lookM_cons (i : Nat) (v : AObj) (l : List (Nat × AObj)) (t : Nat) : lookM ((i, v) :: l) t = if t = i then some v else lookM l t := rfl
theorem setR_nil (t : Nat) (v : AV) : setR t v [] = [(t, v)] := rfl
theorem setR_cons (t : Nat) (v : AV) (i : Nat) (u : AV) (l : List (Nat × AV)) : setR t v ((i, u) :: l) = if i = t then (t, v) :: l else (i, u) :: setR t v l := rfl
theorem setM_nil (t : Nat) (v : AObj) : setM t v [] = [(t, v)] := rfl
theorem setM_cons (t : Nat) (v : AObj) (i : Nat) (u : AObj) (l : List (Nat × AObj)) : setM t v ((i, u) :: l) = if i = t then (t, v) :: l else (i, u) :: setM t v l := rfl
theorem sel_nil (r : Nat → AV) : sel r [] = [] := rfl
theorem sel_cons (r : Nat → AV) (t : Nat) (l : List Nat) : sel r (t :: l) = (t, r t) :: sel r l := rfl

theorem upd_look (t : Nat) (v : AV) : ∀ (l : List (Nat × AV)), upd (look l) t v = look (setR t v l)
  | [] => by funext j; simp only [upd, setR_nil, look_cons, look_nil]
  | (i, u) :: l => by
    funext j
    have ih := congrFun (upd_look t v l) j
    simp only [upd] at ih
    simp only [upd, setR_cons, look_cons]
    by_cases hit : i = t
    · subst hit
      rw [if_pos rfl, look_cons]
      split
      · rfl
      · rfl
    · rw [if_neg hit, look_cons, ← ih]
      by_cases hj : j = t
      · subst hj
        rw [if_pos rfl, if_neg (fun e => hit e.symm), if_pos rfl]
      · rw [if_neg hj, if_neg hj]
theorem upd_lookM (t : Nat) (v : AObj) : ∀ (l : List (Nat × AObj)), upd (lookM l) t (some v) = lookM (setM t v l)
  | [] => by funext j; simp only [upd, setM_nil, lookM_cons, lookM_nil]
  | (i, u) :: l => by
    funext j
    have ih := congrFun (upd_lookM t v l) j
    simp only [upd] at ih
    simp only [upd, setM_cons, lookM_cons]
    by_cases hit : i = t
    · subst hit
      rw [if_pos rfl, lookM_cons]
      split
      · rfl
      · rfl
    · rw [if_neg hit, lookM_cons, ← ih]
      by_cases hj : j = t
      · subst hj
        rw [if_pos rfl, if_neg (fun e => hit e.symm), if_pos rfl]
      · rw [if_neg hj, if_neg hj]

theorem sel_or {r : Nat → AV} : ∀ (ts : List Nat) (t : Nat), look (sel r ts) t = .und ∨ look (sel r ts) t = r t
  | [], _ => .inl rfl
  | i :: ts, t => by
    rw [sel_cons, look_cons]
    split
    · rename_i e; subst e; exact .inr rfl
    · exact sel_or ts t

section
variable {s t : St} {r : Nat → AV} {m : Mem}

theorem Sub.und {r' : Nat → AV} (h : ∀ t, r' t = .und ∨ r' t = r t) : Sub ⟨r, m⟩ ⟨r', m⟩ := by
  rintro C a w ⟨⟨loc, hr⟩, h2⟩
  refine ⟨⟨loc, hr.ext, hr.defers, hr.size, hr.low, hr.dom, fun t => ?_, hr.objs, hr.inj⟩, h2⟩
  rcases h t with e | e <;> simp only [e]
  · exact .und _
  · exact hr.tmps t

/-- Behind a piece of code: these slots are still wanted. -/
theorem keep (ts : List Nat) {R : St → Prop} (h : R ⟨look (sel r ts), m⟩) : ∃ u, Sub ⟨r, m⟩ u ∧ R u := ⟨_, Sub.und (sel_or ts), h⟩

theorem init1 (a : D) : init [a] = ⟨look [(0, .p a)], lookM []⟩ := by
  unfold init; congr 1; funext t
  match t with
  | 0 => rfl
  | t + 1 => simp [look_cons, look_nil]
theorem init2 (a b : D) : init [a, b] = ⟨look [(0, .p a), (1, .p b)], lookM []⟩ := by
  unfold init; congr 1; funext t
  match t with
  | 0 | 1 => rfl
  | t + 2 => simp [look_cons, look_nil]
theorem init3 (a b c : D) : init [a, b, c] = ⟨look [(0, .p a), (1, .p b), (2, .p c)], lookM []⟩ := by
  unfold init; congr 1; funext t
  match t with
  | 0 | 1 | 2 => rfl
  | t + 3 => simp [look_cons, look_nil]
theorem init4 (a b c d : D) : init [a, b, c, d] = ⟨look [(0, .p a), (1, .p b), (2, .p c), (3, .p d)], lookM []⟩ := by
  unfold init; congr 1; funext t
  match t with
  | 0 | 1 | 2 | 3 => rfl
  | t + 4 => simp [look_cons, look_nil]
theorem dc_bool (b : Bool) : D.cells (.bool b) = [.bool b] := rfl
theorem do_bool (b : Bool) : D.one (.bool b) = true := rfl
theorem da_bool (b : Bool) : D.isAgg (.bool b) = false := rfl
theorem dc_int (k : IntKind) (n : Int) : D.cells (.int k n) = [.int k n] := rfl
theorem do_int (k : IntKind) (n : Int) : D.one (.int k n) = true := rfl
theorem da_int (k : IntKind) (n : Int) : D.isAgg (.int k n) = false := rfl
theorem dc_str (s : List UInt8) : D.cells (.str s) = [.str s] := rfl
theorem do_str (s : List UInt8) : D.one (.str s) = true := rfl
theorem da_str (s : List UInt8) : D.isAgg (.str s) = false := rfl
theorem dc_list (T : TypeId) (sz : Nat) (l : List D) : D.cells (.list T sz l) = [.list T sz l] := rfl
theorem do_list (T : TypeId) (sz : Nat) (l : List D) : D.one (.list T sz l) = true := rfl
theorem da_list (T : TypeId) (sz : Nat) (l : List D) : D.isAgg (.list T sz l) = false := rfl
theorem dc_nilp  : D.cells .nilp = [.nilp] := rfl
theorem do_nilp  : D.one .nilp = true := rfl
theorem da_nilp  : D.isAgg .nilp = false := rfl
theorem dc_ref (d : D) : D.cells (.ref d) = [.ref d] := rfl
theorem do_ref (d : D) : D.one (.ref d) = true := rfl
theorem da_ref (d : D) : D.isAgg (.ref d) = false := rfl
theorem dc_fn (f : Fn) (x y : List D) : D.cells (.fn f x y) = [.fn f x y] := rfl
theorem do_fn (f : Fn) (x y : List D) : D.one (.fn f x y) = true := rfl
theorem da_fn (f : Fn) (x y : List D) : D.isAgg (.fn f x y) = false := rfl
theorem dc_agg (l : List D) : D.cells (.agg l) = l := rfl
theorem do_agg (l : List D) : D.one (.agg l) = false := rfl
theorem da_agg (l : List D) : D.isAgg (.agg l) = true := rfl
theorem ac_p (d : D) : AV.cells (.p d) = d.cells.map AV.p := rfl
theorem ao_p (d : D) : AV.one (.p d) = d.one := rfl
theorem aa_p (d : D) : AV.isAgg (.p d) = some d.isAgg := rfl
theorem ac_agg (l : List AV) : AV.cells (.agg l) = l := rfl
theorem aa_agg (l : List AV) : AV.isAgg (.agg l) = some true := rfl
theorem ao_agg (l : List AV) : AV.one (.agg l) = false := rfl
theorem ac_slice (i o n : Nat) : AV.cells (.slice i o n) = [.slice i o n] := rfl
theorem ao_slice (i o n : Nat) : AV.one (.slice i o n) = true := rfl
theorem aa_slice (i o n : Nat) : AV.isAgg (.slice i o n) = some false := rfl
theorem ac_ptr (i j o : Nat) : AV.cells (.ptr i j o) = [.ptr i j o] := rfl
theorem ao_ptr (i j o : Nat) : AV.one (.ptr i j o) = true := rfl
theorem aa_ptr (i j o : Nat) : AV.isAgg (.ptr i j o) = some false := rfl
theorem ac_nils (T : TypeId) (sz : Nat) : AV.cells (.nils T sz) = [.nils T sz] := rfl
theorem ao_nils (T : TypeId) (sz : Nat) : AV.one (.nils T sz) = true := rfl
theorem aa_nils (T : TypeId) (sz : Nat) : AV.isAgg (.nils T sz) = some false := rfl
theorem init0 : init [] = ⟨look [], lookM []⟩ := rfl
theorem cops_app (G : FuncId → List D → D → Prop) (K : St → Prop) : ∀ (l l' : List COp) (s : St), cops G (l ++ l') K s = cops G l (cops G l' K) s
  | [], _, _ => rfl
  | c :: l, l', s => by
    have : (fun t => cops G (l ++ l') K t) = cops G l (cops G l' K) := funext fun t => cops_app G K l l' t
    show gstep G c (fun t => cops G (l ++ l') K t) s = gstep G c (cops G l (cops G l' K)) s
    rw [this]

theorem Sub.to (ts : List Nat) {r' : Nat → AV} (h : look (sel r ts) = r') : Sub ⟨r, m⟩ ⟨r', m⟩ := by subst h; exact Sub.und (sel_or ts)

/-- A loop. -/
theorem loop_of {G : FuncId → List D → D → Prop} {a : CC} {Q : AExit → St → Prop} {s : St} {ι : Type} (p : ι → Prop) (I : ι → St) (μ : ι → Nat) (i0 : ι) (h0 : p i0) (hs : Sub s (I i0))
    (round : ∀ i, p i → cw G a (fun e t => match e with
      | .normal => ∃ j, p j ∧ Sub t (I j) ∧ μ j < μ i
      | e => Q e t) (I i)) : cw G (.loop a) Q s :=
  ⟨{i // p i}, fun i => I i.1, fun i => μ i.1, ⟨i0, h0⟩, hs, fun i => by
    have := round i.1 i.2
    have e : (fun (e : AExit) (t : St) => match e with
      | .normal => ∃ j, p j ∧ Sub t (I j) ∧ μ j < μ i.1
      | e => Q e t) = (fun e t => match e with
      | .normal => ∃ j : {i // p i}, Sub t (I j.1) ∧ μ j.1 < μ i.1
      | e => Q e t) := by
      funext e t
      cases e with
      | normal => exact propext ⟨fun ⟨j, h1, h2⟩ => ⟨⟨j, h1⟩, h2⟩, fun ⟨j, h⟩ => ⟨j.1, j.2, h⟩⟩
      | _ => rfl
    rw [e] at this
    exact this⟩

theorem getD_I (l : List Int) (i : Nat) : (l.map (D.int .i64)).getD i default = D.int .i64 (l.getD i 0) := by
  rw [List.getD_eq_getElem?_getD, List.getD_eq_getElem?_getD, List.getElem?_map]
  cases l[i]? <;> rfl
theorem set_I (l : List Int) (i : Nat) (x : Int) : (l.map (D.int .i64)).set i (D.int .i64 x) = (l.set i x).map (D.int .i64) := List.map_set.symm
theorem rep_I (n : Nat) (x : Int) : List.replicate n (D.int .i64 x) = (List.replicate n x).map (D.int .i64) := List.map_replicate.symm
theorem take_I (l : List Int) (n : Nat) : (l.map (D.int .i64)).take n = (l.take n).map (D.int .i64) := List.map_take.symm
theorem drop_I (l : List Int) (n : Nat) : (l.map (D.int .i64)).drop n = (l.drop n).map (D.int .i64) := List.map_drop.symm
theorem app_I (l m : List Int) : l.map (D.int .i64) ++ m.map (D.int .i64) = (l ++ m).map (D.int .i64) := List.map_append.symm
theorem cast0 : ((0 : Nat) : Int) = 0 := rfl
theorem toNat1 (n : Nat) : ((n : Int) + 1).toNat = n + 1 := by omega
theorem cast1 (n : Nat) : ((n + 1 : Nat) : Int) = (n : Int) + 1 := rfl
end

end Go.Proofs.Ytbbidekjbgjooaa.M
end

section
namespace Go.Proofs.Ytbbidekjbgjooaa.M
open Go.RowKit
set_option linter.defProp false

def fin (d : Option Nat) (K : St → Prop) : Option (Bool × AV × St) → Prop
  | some (p, v, t) => p = true ∧ K (t.put d v)
  | none => False
theorem fin_some (d : Option Nat) (K : St → Prop) (p : Bool) (v : AV) (t : St) : fin d K (some (p, v, t)) = (p = true ∧ K (t.put d v)) := rfl
theorem fin_none (d : Option Nat) (K : St → Prop) : fin d K none = False := rfl
theorem st_call (G : FuncId → List D → D → Prop) (d : Option Nat) (f : FuncId) (args : List Opd) (g : Option (Nat × Bool)) (K : St → Prop) (s : St) : step G ⟨d, .call f args, g⟩ K s = (match argsD s args with
    | some ds => ∃ e, G f ds e ∧ K (s.put d (.p e))
    | none => False) := rfl
theorem st_append (G : FuncId → List D → D → Prop) (d : Option Nat) (T sz b : Nat) (x y : Opd) (g : Option (Nat × Bool)) (K : St → Prop) (s : St) : step G ⟨d, .append T sz b x y, g⟩ K s = fin d K (evApp T sz b x y (d.getD 0) s) := rfl
theorem gs_none (G : FuncId → List D → D → Prop) (d : Option Nat) (o : AOp) (K : St → Prop) (s : St) : gstep G ⟨d, o, none⟩ K s = step G ⟨d, o, none⟩ K s := rfl
theorem gs_some (G : FuncId → List D → D → Prop) (d : Option Nat) (o : AOp) (i : Nat) (b : Bool) (K : St → Prop) (s : St) : gstep G ⟨d, o, some (i, b)⟩ K s = (match s.r i with
    | .p (.bool c) => if c = b then step G ⟨d, o, some (i, b)⟩ K s else K (s.put d .und)
    | _ => False) := rfl
theorem opd_t (r : Nat → AV) (n : Nat) : Opd.ev r (.t n) = r n := rfl
theorem opd_k (r : Nat → AV) (v : AV) : Opd.ev r (.k v) = v := rfl
theorem asI_int (k : IntKind) (n : Int) : asI (.p (.int k n)) = some n := rfl
theorem toD_p (any : Bool) (M : Mem) (d : D) : AV.toD any M 20 (.p d) = some d := rfl
theorem toD_nils (any : Bool) (M : Mem) (T : TypeId) (sz : Nat) : AV.toD any M 20 (.nils T sz) = some (.list T sz []) := rfl
theorem toD_slice (any : Bool) (M : Mem) (id off len : Nat) : AV.toD any M 20 (.slice id off len) = (match M id with
    | some o => match o.cont with
      | .row l => if (o.frz || any) && decide (off + len ≤ l.length) then some (.list o.T o.sz ((l.drop off).take len)) else none
      | _ => none
    | none => none) := rfl
theorem argsD_nil (s : St) : argsD s [] = some [] := rfl
theorem argsD_cons (s : St) (x : Opd) (l : List Opd) : argsD s (x :: l) = (match (x.ev s.r).toD false s.m 20, argsD s l with
    | some d, some ds => some (d :: ds)
    | _, _ => none) := rfl
theorem st_mov (G : FuncId → List D → D → Prop) (dd : Option Nat) (x : Opd) (g : Option (Nat × Bool)) (K : St → Prop) (s : St) : step G ⟨dd, .mov x, g⟩ K s = fin dd K (ev (.mov x) (dd.getD 0) s) := rfl
theorem ev_mov (x : Opd) (id : Nat) (s : St) : ev (.mov x) id s = (some (true, x.ev s.r, s)) := rfl
theorem st_nilCheck (G : FuncId → List D → D → Prop) (dd : Option Nat) (x : Opd) (g : Option (Nat × Bool)) (K : St → Prop) (s : St) : step G ⟨dd, .nilCheck x, g⟩ K s = fin dd K (ev (.nilCheck x) (dd.getD 0) s) := rfl
theorem ev_nilCheck (x : Opd) (id : Nat) (s : St) : ev (.nilCheck x) id s = (match x.ev s.r with
    | .ptr i j o => some (true, .ptr i j o, s)
    | .p (.ref d) => some (true, .p (.ref d), s)
    | _ => none) := rfl
theorem st_pick (G : FuncId → List D → D → Prop) (dd : Option Nat) (c : Opd) (a : Opd) (b : Opd) (g : Option (Nat × Bool)) (K : St → Prop) (s : St) : step G ⟨dd, .pick c a b, g⟩ K s = fin dd K (ev (.pick c a b) (dd.getD 0) s) := rfl
theorem ev_pick (c : Opd) (a : Opd) (b : Opd) (id : Nat) (s : St) : ev (.pick c a b) id s = (match c.ev s.r with
    | .p (.bool true) => some (true, a.ev s.r, s)
    | .p (.bool false) => some (true, b.ev s.r, s)
    | _ => none) := rfl
theorem st_alloc (G : FuncId → List D → D → Prop) (dd : Option Nat) (T : Nat) (sz : Nat) (z : AV) (g : Option (Nat × Bool)) (K : St → Prop) (s : St) : step G ⟨dd, .alloc T sz z, g⟩ K s = fin dd K (ev (.alloc T sz z) (dd.getD 0) s) := rfl
theorem ev_alloc (T : Nat) (sz : Nat) (z : AV) (id : Nat) (s : St) : ev (.alloc T sz z) id s = (match s.m id with
    | none => some (true, .ptr id 0 0, ⟨s.r, upd s.m id (some ⟨T, sz, .box z, false⟩)⟩)
    | some _ => none) := rfl
theorem st_box (G : FuncId → List D → D → Prop) (dd : Option Nat) (T : Nat) (sz : Nat) (x : Opd) (g : Option (Nat × Bool)) (K : St → Prop) (s : St) : step G ⟨dd, .box T sz x, g⟩ K s = fin dd K (ev (.box T sz x) (dd.getD 0) s) := rfl
theorem ev_box (T : Nat) (sz : Nat) (x : Opd) (id : Nat) (s : St) : ev (.box T sz x) id s = (match s.m id with
    | none => if (x.ev s.r).cells.length = sz ∧ (x.ev s.r).cells.all AV.one = true then some (true, .ptr id 0 0, ⟨s.r, upd s.m id (some ⟨T, sz, .box (x.ev s.r), false⟩)⟩) else none
    | some _ => none) := rfl
theorem st_build (G : FuncId → List D → D → Prop) (dd : Option Nat) (z : List AV) (parts : List (Nat × Nat × Opd)) (g : Option (Nat × Bool)) (K : St → Prop) (s : St) : step G ⟨dd, .build z parts, g⟩ K s = fin dd K (ev (.build z parts) (dd.getD 0) s) := rfl
theorem ev_build (z : List AV) (parts : List (Nat × Nat × Opd)) (id : Nat) (s : St) : ev (.build z parts) id s = (match fillA z s.r parts with
    | some l => some (true, AV.mk l, s)
    | none => none) := rfl
theorem st_buildSlice (G : FuncId → List D → D → Prop) (dd : Option Nat) (T : Nat) (sz : Nat) (z : D) (n : Nat) (parts : List (Nat × Opd)) (g : Option (Nat × Bool)) (K : St → Prop) (s : St) : step G ⟨dd, .buildSlice T sz z n parts, g⟩ K s = fin dd K (ev (.buildSlice T sz z n parts) (dd.getD 0) s) := rfl
theorem ev_buildSlice (T : Nat) (sz : Nat) (z : D) (n : Nat) (parts : List (Nat × Opd)) (id : Nat) (s : St) : ev (.buildSlice T sz z n parts) id s = (match s.m id with
    | none => match fillR sz (List.replicate n z) s.r s.m parts with
      | some l => some (true, .slice id 0 n, ⟨s.r, upd s.m id (some ⟨T, sz, .row l, false⟩)⟩)
      | none => none
    | some _ => none) := rfl
theorem st_load (G : FuncId → List D → D → Prop) (dd : Option Nat) (ag : Bool) (sz : Nat) (x : Opd) (g : Option (Nat × Bool)) (K : St → Prop) (s : St) : step G ⟨dd, .load ag sz x, g⟩ K s = fin dd K (ev (.load ag sz x) (dd.getD 0) s) := rfl
theorem ev_load (ag : Bool) (sz : Nat) (x : Opd) (id : Nat) (s : St) : ev (.load ag sz x) id s = (match x.ev s.r with
    | .ptr i j off => match s.m i with
      | some ⟨_, osz, .row l, _⟩ => match (AV.p (l.getD j default)).get off sz osz ag with
        | some v => some (decide (j < l.length), v, s)
        | none => none
      | some ⟨_, osz, .box v, _⟩ => if j = 0 then match v.get off sz osz ag with
        | some u => some (true, u, s)
        | none => none else none
      | _ => none
    | .p (.ref d) => if d.isAgg = ag then some (decide (d.cells.length = sz ∧ 0 < sz), .p d, s) else none
    | _ => none) := rfl
theorem st_store (G : FuncId → List D → D → Prop) (dd : Option Nat) (sz : Nat) (x : Opd) (v : Opd) (g : Option (Nat × Bool)) (K : St → Prop) (s : St) : step G ⟨dd, .store sz x v, g⟩ K s = fin dd K (ev (.store sz x v) (dd.getD 0) s) := rfl
theorem ev_store (sz : Nat) (x : Opd) (v : Opd) (id : Nat) (s : St) : ev (.store sz x v) id s = (match x.ev s.r with
    | .ptr i j off => match s.m i with
      | some ⟨T, osz, .row l, false⟩ => match (v.ev s.r).toD false s.m 20 with
        | some d => if d.cells.length = sz ∧ d.cells.all D.one = true then
            (if off = 0 ∧ sz = osz then some (decide (j < l.length), .und, ⟨s.r, upd s.m i (some ⟨T, osz, .row (l.set j d), false⟩)⟩)
             else none) else none
        | none => none
      | some ⟨T, osz, .box u, false⟩ => if (v.ev s.r).cells.length = sz ∧ (v.ev s.r).cells.all AV.one = true ∧ j = 0 then
          (if off = 0 ∧ sz = osz then some (true, .und, ⟨s.r, upd s.m i (some ⟨T, osz, .box (v.ev s.r), false⟩)⟩)
           else if off + sz ≤ osz then some (true, .und, ⟨s.r, upd s.m i (some ⟨T, osz, .box (AV.mk (u.cells.take off ++ (v.ev s.r).cells ++ u.cells.drop (off + sz))), false⟩)⟩) else none) else none
      | some ⟨T, osz, .junk, false⟩ => if (v.ev s.r).cells.length = sz ∧ (v.ev s.r).cells.all AV.one = true ∧ j = 0 then
          (if off = 0 ∧ sz = osz then some (true, .und, ⟨s.r, upd s.m i (some ⟨T, osz, .box (v.ev s.r), false⟩)⟩) else none) else none
      | _ => none
    | _ => none) := rfl
theorem st_bin (G : FuncId → List D → D → Prop) (dd : Option Nat) (bo : Bool) (op : BinOp) (x : Opd) (y : Opd) (g : Option (Nat × Bool)) (K : St → Prop) (s : St) : step G ⟨dd, .bin bo op x y, g⟩ K s = fin dd K (ev (.bin bo op x y) (dd.getD 0) s) := rfl
theorem ev_bin (bo : Bool) (op : BinOp) (x : Opd) (y : Opd) (id : Nat) (s : St) : ev (.bin bo op x y) id s = (match x.ev s.r, y.ev s.r with
    | .p a, .p b => if a.isBool = bo then match binD op a b with
      | some (c, d) => some (c, .p d, s)
      | none => none else none
    | _, _ => none) := rfl
theorem st_eqs (G : FuncId → List D → D → Prop) (dd : Option Nat) (n : Nat) (neg : Bool) (x : Opd) (y : Opd) (g : Option (Nat × Bool)) (K : St → Prop) (s : St) : step G ⟨dd, .eqs n neg x y, g⟩ K s = fin dd K (ev (.eqs n neg x y) (dd.getD 0) s) := rfl
theorem ev_eqs (n : Nat) (neg : Bool) (x : Opd) (y : Opd) (id : Nat) (s : St) : ev (.eqs n neg x y) id s = (match x.ev s.r, y.ev s.r with
    | .p (.agg a), .p (.agg b) => match intsOf a, intsOf b with
      | some (k, l), some (k', m) => if k = k' ∧ k.length = n then some (true, .p (.bool (if neg then !decide (l = m) else decide (l = m))), s) else none
      | _, _ => none
    | _, _ => none) := rfl
theorem st_un (G : FuncId → List D → D → Prop) (dd : Option Nat) (op : UnOp) (x : Opd) (g : Option (Nat × Bool)) (K : St → Prop) (s : St) : step G ⟨dd, .un op x, g⟩ K s = fin dd K (ev (.un op x) (dd.getD 0) s) := rfl
theorem ev_un (op : UnOp) (x : Opd) (id : Nat) (s : St) : ev (.un op x) id s = (match x.ev s.r with
    | .p a => match unD op a with
      | some (c, d) => some (c, .p d, s)
      | none => none
    | _ => none) := rfl
theorem st_conv (G : FuncId → List D → D → Prop) (dd : Option Nat) (k : IntKind) (x : Opd) (g : Option (Nat × Bool)) (K : St → Prop) (s : St) : step G ⟨dd, .conv k x, g⟩ K s = fin dd K (ev (.conv k x) (dd.getD 0) s) := rfl
theorem ev_conv (k : IntKind) (x : Opd) (id : Nat) (s : St) : ev (.conv k x) id s = (match x.ev s.r with
    | .p (.int _ n) => some (inK k n, .p (.int k n), s)
    | _ => none) := rfl
theorem st_makeSlice (G : FuncId → List D → D → Prop) (dd : Option Nat) (T : Nat) (sz : Nat) (bytes : Nat) (z : D) (l : Opd) (c : Opd) (g : Option (Nat × Bool)) (K : St → Prop) (s : St) : step G ⟨dd, .makeSlice T sz bytes z l c, g⟩ K s = fin dd K (ev (.makeSlice T sz bytes z l c) (dd.getD 0) s) := rfl
theorem ev_makeSlice (T : Nat) (sz : Nat) (bytes : Nat) (z : D) (l : Opd) (c : Opd) (id : Nat) (s : St) : ev (.makeSlice T sz bytes z l c) id s = (match s.m id with
    | none => match asI (l.ev s.r), asI (c.ev s.r) with
      | some n, some m => some (decide (0 ≤ n ∧ n = m ∧ bytes * n ≤ 281474976710656 ∧ n ≤ 9223372036854775807), .slice id 0 n.toNat, ⟨s.r, upd s.m id (some ⟨T, sz, .row (List.replicate n.toNat z), false⟩)⟩)
      | _, _ => none
    | some _ => none) := rfl
theorem st_sliceS (G : FuncId → List D → D → Prop) (dd : Option Nat) (x : Opd) (lo : Option Opd) (hi : Option Opd) (g : Option (Nat × Bool)) (K : St → Prop) (s : St) : step G ⟨dd, .sliceS x lo hi, g⟩ K s = fin dd K (ev (.sliceS x lo hi) (dd.getD 0) s) := rfl
theorem ev_sliceS (x : Opd) (lo : Option Opd) (hi : Option Opd) (id : Nat) (s : St) : ev (.sliceS x lo hi) id s = (match x.ev s.r with
    | .p (.str t) => match bounds s.r t.length lo hi none with
      | some (c, l, h) => some (c, .p (.str ((t.drop l).take (h - l))), s)
      | none => none
    | _ => none) := rfl
theorem st_slice (G : FuncId → List D → D → Prop) (dd : Option Nat) (sz : Nat) (x : Opd) (lo : Option Opd) (hi : Option Opd) (mx : Option Opd) (g : Option (Nat × Bool)) (K : St → Prop) (s : St) : step G ⟨dd, .slice sz x lo hi mx, g⟩ K s = fin dd K (ev (.slice sz x lo hi mx) (dd.getD 0) s) := rfl
theorem ev_slice (sz : Nat) (x : Opd) (lo : Option Opd) (hi : Option Opd) (mx : Option Opd) (id : Nat) (s : St) : ev (.slice sz x lo hi mx) id s = (match x.ev s.r with
    | .p (.list T sz' t) => if sz = sz' then match bounds s.r t.length lo hi mx with
      | some (c, l, h) => some (c, .p (.list T sz ((t.drop l).take (h - l))), s)
      | none => none else none
    | .slice i off len => match s.m i with
      | some o => if o.sz = sz then match bounds s.r len lo hi mx with
        | some (c, l, h) => some (c, .slice i (off + l) (h - l), s)
        | none => none else none
      | none => none
    | .nils T sz => match bounds s.r 0 lo hi mx with
      | some (c, _, _) => some (c, .nils T sz, s)
      | none => none
    | _ => none) := rfl
theorem st_fieldAddr (G : FuncId → List D → D → Prop) (dd : Option Nat) (off : Nat) (sz : Nat) (ag : Bool) (x : Opd) (g : Option (Nat × Bool)) (K : St → Prop) (s : St) : step G ⟨dd, .fieldAddr off sz ag x, g⟩ K s = fin dd K (ev (.fieldAddr off sz ag x) (dd.getD 0) s) := rfl
theorem ev_fieldAddr (off : Nat) (sz : Nat) (ag : Bool) (x : Opd) (id : Nat) (s : St) : ev (.fieldAddr off sz ag x) id s = (match x.ev s.r with
    | .ptr i j o => some (true, .ptr i j (o + off), s)
    | .p (.ref d) => match d.part off sz ag with
      | some e => some (true, .p (.ref e), s)
      | none => none
    | _ => none) := rfl
theorem st_field (G : FuncId → List D → D → Prop) (dd : Option Nat) (off : Nat) (sz : Nat) (ag : Bool) (x : Opd) (g : Option (Nat × Bool)) (K : St → Prop) (s : St) : step G ⟨dd, .field off sz ag x, g⟩ K s = fin dd K (ev (.field off sz ag x) (dd.getD 0) s) := rfl
theorem ev_field (off : Nat) (sz : Nat) (ag : Bool) (x : Opd) (id : Nat) (s : St) : ev (.field off sz ag x) id s = (if (x.ev s.r).isAgg = some true then match (x.ev s.r).part off sz ag with
    | some v => some (true, v, s)
    | none => none else none) := rfl
theorem st_indexAddr (G : FuncId → List D → D → Prop) (dd : Option Nat) (sz : Nat) (x : Opd) (i : Opd) (g : Option (Nat × Bool)) (K : St → Prop) (s : St) : step G ⟨dd, .indexAddr sz x i, g⟩ K s = fin dd K (ev (.indexAddr sz x i) (dd.getD 0) s) := rfl
theorem ev_indexAddr (sz : Nat) (x : Opd) (i : Opd) (id : Nat) (s : St) : ev (.indexAddr sz x i) id s = (match x.ev s.r, asI (i.ev s.r) with
    | .p (.list _ sz' t), some n => if sz = sz' then some (decide (0 ≤ n ∧ n < t.length), .p (.ref (t.getD n.toNat default)), s) else none
    | .slice j off len, some n => match s.m j with
      | some o => if o.sz = sz then some (decide (0 ≤ n ∧ n < len), .ptr j (off + n.toNat) 0, s) else none
      | none => none
    | _, _ => none) := rfl
theorem st_index (G : FuncId → List D → D → Prop) (dd : Option Nat) (x : Opd) (i : Opd) (g : Option (Nat × Bool)) (K : St → Prop) (s : St) : step G ⟨dd, .index x i, g⟩ K s = fin dd K (ev (.index x i) (dd.getD 0) s) := rfl
theorem ev_index (x : Opd) (i : Opd) (id : Nat) (s : St) : ev (.index x i) id s = (match x.ev s.r, asI (i.ev s.r) with
    | .p (.str t), some n => some (decide (0 ≤ n ∧ n < t.length), .p (.int .u8 ((t.getD n.toNat 0).toNat : Int)), s)
    | _, _ => none) := rfl
theorem st_extract (G : FuncId → List D → D → Prop) (dd : Option Nat) (x : Opd) (i : Nat) (g : Option (Nat × Bool)) (K : St → Prop) (s : St) : step G ⟨dd, .extract x i, g⟩ K s = fin dd K (ev (.extract x i) (dd.getD 0) s) := rfl
theorem ev_extract (x : Opd) (i : Nat) (id : Nat) (s : St) : ev (.extract x i) id s = (match x.ev s.r with
    | .p (.tup l) => (l[i]?).map fun d => (true, .p d, s)
    | .tup l => (l[i]?).map fun d => (true, d, s)
    | _ => none) := rfl
theorem st_lenS (G : FuncId → List D → D → Prop) (dd : Option Nat) (x : Opd) (g : Option (Nat × Bool)) (K : St → Prop) (s : St) : step G ⟨dd, .lenS x, g⟩ K s = fin dd K (ev (.lenS x) (dd.getD 0) s) := rfl
theorem ev_lenS (x : Opd) (id : Nat) (s : St) : ev (.lenS x) id s = (match x.ev s.r with
    | .p (.str t) => some (true, .p (.int .i64 t.length), s)
    | _ => none) := rfl
theorem st_len (G : FuncId → List D → D → Prop) (dd : Option Nat) (x : Opd) (g : Option (Nat × Bool)) (K : St → Prop) (s : St) : step G ⟨dd, .len x, g⟩ K s = fin dd K (ev (.len x) (dd.getD 0) s) := rfl
theorem ev_len (x : Opd) (id : Nat) (s : St) : ev (.len x) id s = (match x.ev s.r with
    | .p (.list _ _ t) => some (true, .p (.int .i64 t.length), s)
    | .slice _ _ n => some (true, .p (.int .i64 n), s)
    | .nils _ _ => some (true, .p (.int .i64 0), s)
    | _ => none) := rfl
/-- The rules by which the machine is run, in bundles. -/
def cs0 := And.intro @cops_app (And.intro @fin_some (And.intro @fin_none (And.intro @st_call (And.intro @st_append (And.intro @gs_none (And.intro @gs_some (And.intro @opd_t (And.intro @opd_k (And.intro @asI_int (And.intro @toD_p (And.intro @toD_nils (And.intro @toD_slice (And.intro @argsD_nil (And.intro @argsD_cons (And.intro @st_mov (And.intro @ev_mov (And.intro @st_nilCheck (And.intro @ev_nilCheck (And.intro @st_pick (And.intro @ev_pick (And.intro @st_alloc (And.intro @ev_alloc (And.intro @st_box (And.intro @ev_box (And.intro @st_build (And.intro @ev_build (And.intro @st_buildSlice (And.intro @ev_buildSlice (@st_load)))))))))))))))))))))))))))))
def cs1 := And.intro @ev_load (And.intro @st_store (And.intro @ev_store (And.intro @st_bin (And.intro @ev_bin (And.intro @st_eqs (And.intro @ev_eqs (And.intro @st_un (And.intro @ev_un (And.intro @st_conv (And.intro @ev_conv (And.intro @st_makeSlice (And.intro @ev_makeSlice (And.intro @st_sliceS (And.intro @ev_sliceS (And.intro @st_slice (And.intro @ev_slice (And.intro @st_fieldAddr (And.intro @ev_fieldAddr (And.intro @st_field (And.intro @ev_field (And.intro @st_indexAddr (And.intro @ev_indexAddr (And.intro @st_index (And.intro @ev_index (And.intro @st_extract (And.intro @ev_extract (And.intro @st_lenS (And.intro @ev_lenS (@st_len)))))))))))))))))))))))))))))
def cs2 := And.intro @ev_len (And.intro @List.all_nil.{0} (And.intro @true_and (And.intro @upd_look (And.intro @upd_lookM (And.intro @setR_nil (And.intro @setR_cons (And.intro @setM_nil (And.intro @setM_cons (And.intro @sel_nil (And.intro @sel_cons (And.intro @look_cons (And.intro @look_nil (And.intro @lookM_cons (And.intro @lookM_nil (And.intro @Option.getD_some.{0} (And.intro @eq_self.{1} (And.intro @decide_true (And.intro @decide_false (And.intro @Bool.not_true (And.intro @Bool.not_false (And.intro @Bool.false_eq_true (And.intro @Bool.true_eq_false (And.intro @dc_bool (And.intro @do_bool (And.intro @da_bool (And.intro @dc_int (And.intro @do_int (And.intro @da_int (@dc_str)))))))))))))))))))))))))))))
def cs3 := And.intro @do_str (And.intro @da_str (And.intro @dc_list (And.intro @do_list (And.intro @da_list (And.intro @dc_nilp (And.intro @do_nilp (And.intro @da_nilp (And.intro @dc_ref (And.intro @do_ref (And.intro @da_ref (And.intro @dc_fn (And.intro @do_fn (And.intro @da_fn (And.intro @dc_agg (And.intro @do_agg (And.intro @da_agg (And.intro @ac_p (And.intro @ao_p (And.intro @aa_p (And.intro @ac_agg (And.intro @aa_agg (And.intro @ao_agg (And.intro @ac_slice (And.intro @ao_slice (And.intro @aa_slice (And.intro @ac_ptr (And.intro @ao_ptr (And.intro @aa_ptr (@ac_nils)))))))))))))))))))))))))))))
def cs4 := And.intro @ao_nils (And.intro @aa_nils (And.intro @decide_eq_true_eq (And.intro @Bool.and_eq_true (And.intro @and_true (And.intro @List.length_map.{0,0} (And.intro @List.map_cons.{0,0} (And.intro @List.map_nil.{0,0} (And.intro @getD_I (And.intro @set_I (And.intro @rep_I (And.intro @take_I (And.intro @drop_I (And.intro @app_I (And.intro @cast1 (And.intro @Int.add_sub_cancel (And.intro @Int.toNat_natCast (And.intro @List.length_set.{0} (And.intro @List.length_replicate.{0} (And.intro @true_implies (And.intro @false_implies (And.intro @List.length_cons.{0} (And.intro @List.length_nil.{0} (And.intro @Nat.zero_add (And.intro @Nat.lt_add_one (And.intro @ne_eq.{1} (And.intro @not_true_eq_false (And.intro @not_false_eq_true (And.intro @Nat.add_zero (@Nat.sub_zero)))))))))))))))))))))))))))))
def cs5 := And.intro @List.drop_zero.{0} (And.intro @List.take_length.{0} (And.intro @Int.toNat_zero (And.intro @toNat1 (And.intro @cast0 (And.intro @List.all_cons.{0} (And.intro @List.append_nil.{0} (And.intro @List.nil_append.{0} (And.intro @List.cons_append.{0} (And.intro @List.take_zero.{0} (And.intro @List.take_nil.{0} (And.intro @List.take_succ_cons.{0} (And.intro @List.drop_succ_cons.{0} (And.intro @List.drop_nil.{0} (And.intro @Bool.and_self (And.intro @and_self (And.intro @List.getElem?_cons_zero.{0} (And.intro @List.getElem?_cons_succ.{0} (And.intro @Option.map_some.{0,0} (And.intro @Nat.le_refl (And.intro @Option.some.injEq.{0} (And.intro @Bool.and_true (And.intro @Bool.true_and (And.intro @if_true.{1} (And.intro @if_false.{1} (@Option.map_none.{0,0})))))))))))))))))))))))))

end Go.Proofs.Ytbbidekjbgjooaa.M
end
