/- The small machine: a function's contract out of its code. -/
import Derived.Test.YtlnhembcfhfpkaaMU
namespace Go.Proofs.Ytlnhembcfhfpkaa.M
open Go.RowKit

/-- A result: its slot; of a variable also its type. -/
def resC (P : Program) : List ResultVar → Option (List (Nat × Option (Bool × Nat)))
  | [] => some []
  | .tmp t :: l => (resC P l).map ((t, none) :: ·)
  | .cell a T :: l => match tyOf P T with
    | some (ag, sz) => if ag || sz == 1 then (resC P l).map ((a, some (ag, sz)) :: ·) else none
    | none => none
def resV (s : St) : Nat × Option (Bool × Nat) → Option AV
  | (t, none) => some (s.r t)
  | (t, some (ag, sz)) => match s.r t with
    | .ptr i 0 0 => match s.m i with
      | some ⟨_, osz, .box v, _⟩ => v.get 0 sz osz ag
      | _ => none
    | _ => none
def resL (s : St) : List (Nat × Option (Bool × Nat)) → Option (List D)
  | [] => some []
  | x :: l => match (match resV s x with | some v => v.toD true s.m 20 | none => none), resL s l with
    | some d, some ds => some (d :: ds)
    | _, _ => none
def resD (s : St) (rs : List (Nat × Option (Bool × Nat))) : Option D := match resL s rs with
  | some [d] => some d
  | some ds => some (.tup ds)
  | none => none

def init (ds : List D) : St := ⟨fun t => match ds[t]? with
  | some d => .p d
  | none => .und, fun _ => none⟩

section
variable {C : Ctx} {s : St} {a : Act} {w : World}

def resRun (tmps : Array Value) : ResultVar → Sem Value
  | .tmp t => pure (tmps.getD t undef)
  | .cell a t => do loadVar t (← asAddr (tmps.getD a undef))

theorem results_eq (fn : Func) (tmps : Array Value) : results fn tmps = (fn.results.mapM (resRun tmps) >>= fun vs => pure (if h : vs.size = 1 then vs[0] else .tuple vs)) := rfl

theorem resV_run {loc : Locs} (h : Rel C.w0 C.base C.nt loc s a w) (x : ResultVar) (l : List ResultVar) (rs : List (Nat × Option (Bool × Nat))) (h1 : resC C.P (x :: l) = some rs) :
    ∃ y rs', rs = y :: rs' ∧ resC C.P l = some rs' ∧ ∀ (M' : Mem) u, (∀ i o, M' i = some o → s.m i = some o) → resV ⟨s.r, M'⟩ y = some u → ∃ v, (resRun a.tmps x).run C.P w = .ok v w ∧ RV w (NB C.base s.m loc w) loc v u := by
  cases x with
  | tmp t =>
    simp only [resC, Option.map_eq_some_iff] at h1
    obtain ⟨rs', h1, rfl⟩ := h1
    refine ⟨_, rs', rfl, h1, fun M' u hM hu => ?_⟩
    simp only [resV, Option.some.injEq] at hu
    subst hu
    exact ⟨_, by simp [resRun], h.tmps t⟩
  | cell t T =>
    simp only [resC] at h1
    split at h1
    case h_2 => cases h1
    rename_i ag sz hT
    split at h1
    case isFalse => cases h1
    rename_i hs
    simp only [Option.map_eq_some_iff] at h1
    obtain ⟨rs', h1, rfl⟩ := h1
    refine ⟨_, rs', rfl, h1, fun M' u hM hu => ?_⟩
    simp only [resV] at hu
    split at hu
    case h_2 => cases hu
    rename_i i hp
    split at hu
    case h_2 => cases hu
    rename_i T' osz v frz hm
    have hrv := h.tmps t
    rw [hp] at hrv
    generalize hq : a.tmps.getD t undef = q at hrv
    cases hrv with
    | ptr L _ _ _ hL hn =>
    obtain ⟨L', hL', hok⟩ := h.objs i _ (hM _ _ hm)
    rw [hL] at hL'
    cases hL'
    obtain ⟨c, fr, k1, k2, k3, -⟩ := hok.at_ hn
    obtain ⟨m1, m2, m3, m4⟩ := k3
    obtain ⟨x, hx1, hx2⟩ := rv_get (P := C.P) (T' := T) k1 m1 m2 m3 m4 hu (tyOf_ok hT) (fun e => by simpa [e] using hs)
    refine ⟨x, ?_, hx2⟩
    have : (Instr.loadAt T (.pointer (some ⟨L.b, L.o + 0, none⟩))).run C.P w = (loadVar T ⟨L.b, L.o + 0, none⟩).run C.P w := by simp [Instr.loadAt, Instr.sureAddr]
    rw [this] at hx1
    simp only [Nat.zero_mul, Nat.add_zero] at hq hx1
    simp [resRun, hq, asAddr, hx1]
theorem resL_run {loc : Locs} {M' : Mem} (hM : ∀ i o, M' i = some o → s.m i = some o) (h0 : C.base.L0 = none ∨ M' lentId = none) (h : Rel C.w0 C.base C.nt loc s a w) : ∀ (l : List ResultVar) (rs : List (Nat × Option (Bool × Nat))) (ds : List D), resC C.P l = some rs → resL ⟨s.r, M'⟩ rs = some ds →
    ∃ vs : List Value, (l.mapM (resRun a.tmps)).run C.P w = .ok vs w ∧ vs.length = ds.length ∧ ∀ (i : Nat) (d : D), ds[i]? = some d → V w (fun b => b < w.heap.size ∧ ¬ C.base.own b) (vs.getD i undef) d
  | [], rs, ds, h1, h2 => by
    simp only [resC, Option.some.injEq] at h1
    subst h1
    simp only [resL, Option.some.injEq] at h2
    subst h2
    exact ⟨[], by simp, rfl, fun i d hd => by simp at hd⟩
  | x :: l, rs, ds, h1, h2 => by
    obtain ⟨y, rs', rfl, hl, hrun0⟩ := resV_run h x l rs h1
    have hrun := fun u => hrun0 M' u hM
    simp only [resL] at h2
    split at h2
    case h_2 => cases h2
    rename_i d ds' g1 g2
    simp only [Option.some.injEq] at h2
    subst h2
    split at g1
    case h_2 => cases g1
    rename_i u hu
    obtain ⟨v, hv1, hv2⟩ := hrun u hu
    obtain ⟨vs, q1, q2, q3⟩ := resL_run hM h0 h l rs' ds' hl g2
    refine ⟨v :: vs, by simp [List.mapM_cons, hv1, q1], by simp [q2], fun i e he => ?_⟩
    match i, he with
    | 0, he =>
      simp at he
      subst he
      exact toD_okM (any := true) (N' := fun b => b < w.heap.size ∧ ¬ C.base.own b) h hM (fun b hb => ⟨hb.1, hb.2.1⟩) (fun i o L ho' _ hL hn => ⟨h.obj_lt (hM _ _ ho') hL hn, fun hb => by
        have ho := hM _ _ ho'
        obtain ⟨L', hL', hok⟩ := h.objs i o ho
        rw [hL] at hL'
        cases hL'
        obtain ⟨c, fr, k1, k2, k3, k4, k5⟩ := hok.at_ hn
        cases hf : o.frz with
        | false =>
          have hlo := h.low _ hb
          rcases (k4 hf).1 with hge | ⟨L', hL', hbb⟩
          · omega
          · rcases h0 with h0 | h0
            · rw [h0] at hL'; cases hL'
            · obtain ⟨y1, _, y3, o', y4, y5⟩ := h.keepL L' hL'
              have := h.inj i lentId o o' L L' ho y4 hf hL y1 hn y3 hbb.symm
              subst this
              rw [h0] at ho'; cases ho'
        | true => exact (k5 hf).2.1 hb⟩) 20 u v d g1 hv2
    | i + 1, he => simpa using q3 i e (by simpa using he)

/-- **A function's contract.** -/
theorem con_of {P : Program} {A OT : List TypeId} {f : FuncId} {fn : Func} {code : Code} {H : List Hint} {cc : CC} {rs : List (Nat × Option (Bool × Nat))} {ds : List D} {d : D}
    (hf : P.funcs[f]? = some fn) (hb : fn.body = some code) (hm : P.follows .mixedOrders = true) (hc : comp P fn.ntmps OT H code = some cc) (hr : resC P fn.results.toList = some rs) (hA : OT.all (fun T => !A.contains T) = true) (hn : ds.length ≤ fn.ntmps)
    (hcw : cw OT (ConX P A) cc (fun e s => (match e with | .exit _ => False | _ => True) ∧ resD s rs = some d) (init ds)) : Con P A f ds d := by
  intro base w vs h1 h2 h3 h4
  have hbody := cw_sound (C := ⟨P, A, OT, fn.ntmps, w, ⟨base, none⟩⟩) ⟨h2, fun T hT => by
    rw [List.all_eq_true] at hA
    have := hA T hT
    simpa using this⟩ hm H code cc _ (init ds) { tmps := vs ++ Array.replicate (fn.ntmps - vs.size) undef, defers := [] } w hc hcw ⟨⟨fun _ => none, ExtL.rf _ w, rfl, by simp; omega, h1, fun _ _ => rfl, fun t => ?_, fun id o ho => by simp [init] at ho, fun id _ o _ _ _ ho => by simp [init] at ho, KeepL.none_ rfl _ _⟩, fun id o ho => by simp [init] at ho⟩
  · refine calls_of_wp hf hb (wp_mono hbody ?_)
    intro e a' w' hq
    have fin : (∃ t, Is ⟨P, A, OT, fn.ntmps, w, ⟨base, none⟩⟩ t a' w' ∧ resD t rs = some d) → a'.defers = [] ∧ ∃ v, (results fn a'.tmps).run P w' = .ok v w' ∧ ∃ v', Ending.returned v = Ending.returned v' ∧ V w' (fun b => b < w'.heap.size ∧ ¬ base b) v' d ∧ Ext w w' := by
      rintro ⟨t, ht, hres⟩
      obtain ⟨loc, hrel⟩ := ht.1
      refine ⟨hrel.defers, ?_⟩
      have key : ∀ ds', resL t rs = some ds' → ∃ vs : List Value, (fn.results.mapM (resRun a'.tmps)).run P w' = .ok vs.toArray w' ∧ vs.length = ds'.length ∧ ∀ (i : Nat) (d : D), ds'[i]? = some d → V w' (fun b => b < w'.heap.size ∧ ¬ base b) (vs.getD i undef) d := by
        intro ds' hds
        obtain ⟨vs, q1, q2, q3⟩ := resL_run (M' := t.m) (fun _ _ h => h) (.inl rfl) hrel _ _ _ hr hds
        refine ⟨vs, ?_, q2, q3⟩
        rw [Array.mapM_eq_mapM_toList]
        simp only at q1
        simp [q1]
      have hresults : ∀ vs : List Value, (fn.results.mapM (resRun a'.tmps)).run P w' = .ok vs.toArray w' → (results fn a'.tmps).run P w' = .ok (if h : vs.toArray.size = 1 then vs.toArray[0] else .tuple vs.toArray) w' := by
        intro vs hv
        rw [results_eq]
        simp only [Sem.run_bind, hv, Result.andThen]
        rfl
      unfold resD at hres
      split at hres
      · rename_i d' hd'
        simp only [Option.some.injEq] at hres
        subst hres
        obtain ⟨vs, q1, q2, q3⟩ := key _ hd'
        match vs, q2 with
        | [v], _ =>
          refine ⟨v, by rw [hresults _ q1]; simp, v, rfl, ?_, hrel.ext.ext rfl⟩
          have := q3 0 d' rfl
          simpa using this
      · rename_i ds' hne hd'
        simp only [Option.some.injEq] at hres
        subst hres
        obtain ⟨vs, q1, q2, q3⟩ := key _ hd'
        have hne1 : vs.length ≠ 1 := by
          intro h1
          rw [q2] at h1
          match ds', h1 with
          | [d'], _ => exact hne d' rfl
        refine ⟨.tuple vs.toArray, by rw [hresults _ q1, dif_neg (by simpa using hne1)], _, rfl, .tup _ _ (by simpa using q2) (fun i e he => by simpa using q3 i e he), hrel.ext.ext rfl⟩
      · cases hres
    cases e with
    | normal => obtain ⟨t, ht, -, hres⟩ := hq; exact fin ⟨t, ht, hres⟩
    | ret => obtain ⟨t, ht, -, hres⟩ := hq; exact fin ⟨t, ht, hres⟩
    | exit id => obtain ⟨t, ht, hbad, hres⟩ := hq; exact hbad.elim
    | _ => exact hq.elim
  · by_cases ht : t < vs.size
    · have hd : ∃ d, ds[t]? = some d := ⟨ds[t]'(by omega), by simp⟩
      obtain ⟨d', hd⟩ := hd
      have hr' : (init ds).r t = .p d' := by simp [init, hd]
      rw [hr']
      have hg : (vs ++ Array.replicate (fn.ntmps - vs.size) undef).getD t undef = vs.getD t undef := by
        simp only [Array.getD_eq_getD_getElem?]
        rw [Array.getElem?_append_left ht]
      simp only [hg]
      exact .p _ _ ((h4 t d' hd).mono (fun _ _ => rfl) fun b hb => ⟨hb.1, hb.2, by rintro ⟨id, o, L, ho, _⟩; simp [init] at ho⟩)
    · have hr' : (init ds).r t = .und := by
        have : ds[t]? = none := List.getElem?_eq_none (by omega)
        simp [init, this]
      rw [hr']
      exact .und _
/-- Function f, with all that is known of its text. -/
def FnOk (P : Program) (f : FuncId) (OT : List TypeId) (cc : CC) (rs : List (Nat × Option (Bool × Nat))) (nt : Nat) : Prop :=
  ∃ fn H, P.funcs[f]? = some fn ∧ fn.body.isSome = true ∧ P.follows .mixedOrders = true ∧ comp P fn.ntmps OT H (fn.body.getD .skip) = some cc ∧ resC P fn.results.toList = some rs ∧ fn.ntmps = nt

def Ends (d : D) (rs : List (Nat × Option (Bool × Nat))) : AExit → St → Prop
  | .exit _, _ => False
  | _, s => resD s rs = some d

theorem FnOk.con {P : Program} {A OT : List TypeId} {f : FuncId} {cc : CC} {rs : List (Nat × Option (Bool × Nat))} {nt : Nat} {ds : List D} {d : D} (h : FnOk P f OT cc rs nt) (hA : OT.all (fun T => !A.contains T) = true) (hn : ds.length ≤ nt)
    (hcw : cw OT (ConX P A) cc (Ends d rs) (init ds)) : Con P A f ds d := by
  obtain ⟨fn, H, h1, h2, h3, h4, h5, rfl⟩ := h
  obtain ⟨code, hcode⟩ := Option.isSome_iff_exists.1 h2
  rw [hcode] at h4
  have hE : Ends d rs = fun e s => (match e with | .exit _ => False | _ => True) ∧ resD s rs = some d := by
    funext e s
    cases e <;> simp [Ends]
  rw [hE] at hcw
  exact con_of h1 hcode h3 h4 h5 hA hn hcw

end

end Go.Proofs.Ytlnhembcfhfpkaa.M
