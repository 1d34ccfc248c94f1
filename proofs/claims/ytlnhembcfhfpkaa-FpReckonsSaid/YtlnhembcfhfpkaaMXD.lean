/- The small machine: the contract of a function to which a slice is lent, out of its code. -/
import Derived.Test.YtlnhembcfhfpkaaMXC
namespace Go.Proofs.Ytlnhembcfhfpkaa.M
open Go.RowKit

/-- The state at the start: argument k is the object that is lent. -/
def initL (k T sz : Nat) (l : List D) (ds : List D) : St := ⟨fun t => if t = k then .slice lentId 0 l.length else match ds[t]? with
  | some d => .p d
  | none => .und, fun i => if i = lentId then some ⟨T, sz, .row l, false⟩ else none⟩
/-- The state without the object that is lent. -/
def unlent (s : St) : St := ⟨s.r, fun i => if i = lentId then none else s.m i⟩
/-- The result: plain data, or the first m elements of what was lent. -/
inductive ResLt (s : St) (rs : List (Nat × Option (Bool × Nat))) : D → Prop
  | plain {r : D} : resD (unlent s) rs = some r → (∀ m, r ≠ .tup [.int .i64 m]) → ResLt s rs r
  | pre {m : Int} {t : Nat} : rs = [(t, none)] → s.r t = .slice lentId 0 m.toNat → ResLt s rs (.tup [.int .i64 m])
def EndsL (T sz : Nat) (l' : List D) (r : D) (rs : List (Nat × Option (Bool × Nat))) : AExit → St → Prop
  | .exit _, _ => False
  | _, s => s.m lentId = some ⟨T, sz, .row l', false⟩ ∧ ResLt s rs r

theorem lentRes_plain {w : World} {N : Nat → Prop} {b o sz n : Nat} {v : Value} {r : D} (h : ∀ m, r ≠ .tup [.int .i64 m]) (hv : V w N v r) : LentRes w N b o sz n v r := by
  unfold LentRes
  split
  · exact absurd rfl (h _)
  · exact hv

theorem FnOk.conL {P : Program} {A OT : List TypeId} {f : FuncId} {cc : CC} {rs : List (Nat × Option (Bool × Nat))} {nt k : Nat} {ds : List D} {T sz : Nat} {l l' : List D} {r : D} (h : FnOk P f OT cc rs nt) (hA : OT.all (fun T => !A.contains T) = true) (hn : ds.length ≤ nt) (hT : OT.contains T = true) (hk : k < ds.length)
    (hcw : cw OT (ConX P A) cc (EndsL T sz l' r rs) (initL k T sz l ds)) : ConLent P A f k ds T sz l r l' := by
  obtain ⟨fn, H, hf, hbd, hm, hc, hr, rfl⟩ := h
  obtain ⟨code, hb⟩ := Option.isSome_iff_exists.1 hbd
  rw [hb] at hc
  simp only [Option.getD_some] at hc
  intro own w vs b o cap c fr h1 h2 h3 h4 hob hargk hheap hcap hcap2 hroom hfr hcont
  have hblt : b < w.heap.size := lt_of_heap hheap
  have hnb : ∀ x, (x < w.heap.size ∧ ¬ own x) → NB ⟨own, some ⟨b, o, c.size, sz, false⟩⟩ (initL k T sz l ds).m (fun i => if i = lentId then some ⟨b, o, c.size, sz, false⟩ else none) w x := fun x hx => ⟨hx.1, hx.2, by
    rintro ⟨id, ob, L, g1, g2, g3, g4, g5⟩
    dsimp only [initL] at g1 g3
    by_cases e : id = lentId
    · subst e
      rw [if_pos rfl] at g3
      cases g3
      exact hx.2 (g5 ▸ hob)
    · rw [if_neg e] at g1; cases g1⟩
  have hbody := cw_sound (C := ⟨P, A, OT, fn.ntmps, w, ⟨own, some ⟨b, o, c.size, sz, false⟩⟩⟩) ⟨h2, fun T hT => by
    rw [List.all_eq_true] at hA
    have := hA T hT
    simpa using this⟩ hm H code cc _ (initL k T sz l ds) { tmps := vs ++ Array.replicate (fn.ntmps - vs.size) undef, defers := [] } w hc hcw ⟨⟨fun i => if i = lentId then some ⟨b, o, c.size, sz, false⟩ else none, ExtL.rf _ w, rfl, by simp; omega, h1, fun id hid => ?_, fun t => ?_, fun id ob ho => ?_, fun id id' ob ob' L L' g1 g2 _ _ _ _ _ _ => ?_, fun L hL => ?_⟩, fun id ob ho => ?_⟩
  · refine calls_of_wp hf hb (wp_mono hbody ?_)
    intro e a' w' hq
    have fin : (∃ t, Is ⟨P, A, OT, fn.ntmps, w, ⟨own, some ⟨b, o, c.size, sz, false⟩⟩⟩ t a' w' ∧ t.m lentId = some ⟨T, sz, .row l', false⟩ ∧ ResLt t rs r) → a'.defers = [] ∧ ∃ v, (results fn a'.tmps).run P w' = .ok v w' ∧ ∃ v' c', Ending.returned v = Ending.returned v' ∧ ExtL ⟨own, some ⟨b, o, c.size, sz, false⟩⟩ w w' ∧ w'.heap[b]? = some (.cells c' T fr) ∧ c'.size = c.size ∧
      ContOk w' (fun b => b < w'.heap.size ∧ ¬ own b) (fun _ => none) c' o sz (.row l') ∧ LentRes w' (fun b => b < w'.heap.size ∧ ¬ own b) b o sz c.size v' r := by
      rintro ⟨t, ht, hlm, hres⟩
      obtain ⟨loc, hrel⟩ := ht.1
      refine ⟨hrel.defers, ?_⟩
      obtain ⟨L, hL, hok⟩ := hrel.objs lentId _ hlm
      obtain ⟨y1, y2, y3, -⟩ := hrel.keepL _ rfl
      rw [hL] at y1
      cases y1
      obtain ⟨c1, fr1, k1, k2, k3, k4, -⟩ := hok.at_ rfl
      obtain ⟨c2, z1, z2⟩ := hrel.ext.lentB b c T fr hheap
      dsimp only at k1 k2 z2
      rw [z2] at k1
      simp only [Option.some.injEq, Obj.cells.injEq, true_and] at k1
      obtain ⟨rfl, rfl⟩ := k1
      have hcont' : ContOk w' (fun b => b < w'.heap.size ∧ ¬ own b) (fun _ => none) c2 o sz (.row l') := ⟨k3.1, k3.2.1, fun i e j d q1 q2 => ⟨(k3.2.2 i e j d q1 q2).1, (k3.2.2 i e j d q1 q2).2.mono (fun _ _ => rfl) fun b hb => ⟨hb.1, hb.2.1⟩⟩⟩
      have hresults : ∀ vs : List Value, (fn.results.toList.mapM (resRun a'.tmps)).run P w' = .ok vs w' → (results fn a'.tmps).run P w' = .ok (if h : vs.toArray.size = 1 then vs.toArray[0] else .tuple vs.toArray) w' := by
        intro vs hv
        have hv' : (fn.results.mapM (resRun a'.tmps)).run P w' = .ok vs.toArray w' := by
          rw [Array.mapM_eq_mapM_toList]
          simp [hv]
        rw [results_eq]
        simp only [Sem.run_bind, hv', Result.andThen]
        rfl
      cases hres with
      | plain hres hne =>
        have key : ∀ ds', resL (unlent t) rs = some ds' → ∃ vs : List Value, (fn.results.toList.mapM (resRun a'.tmps)).run P w' = .ok vs w' ∧ vs.length = ds'.length ∧ ∀ (i : Nat) (d : D), ds'[i]? = some d → V w' (fun b => b < w'.heap.size ∧ ¬ own b) (vs.getD i undef) d := by
          intro ds' hds
          exact resL_run (M' := (unlent t).m) (fun i x hx => by
            dsimp only [unlent] at hx
            split at hx
            · cases hx
            · exact hx) (.inr (by simp [unlent])) hrel _ _ _ hr hds
        unfold resD at hres
        split at hres
        · rename_i d' hd'
          simp only [Option.some.injEq] at hres
          subst hres
          obtain ⟨vs, q1, q2, q3⟩ := key _ hd'
          match vs, q2 with
          | [v], _ =>
            refine ⟨v, by rw [hresults _ q1]; simp, v, c2, rfl, hrel.ext, z2, z1, hcont', lentRes_plain hne ?_⟩
            have := q3 0 d' rfl
            simpa using this
        · rename_i ds' hne1 hd'
          simp only [Option.some.injEq] at hres
          subst hres
          obtain ⟨vs, q1, q2, q3⟩ := key _ hd'
          have hne2 : vs.length ≠ 1 := by
            intro h1
            rw [q2] at h1
            match ds', h1 with
            | [d'], _ => exact hne1 d' rfl
          exact ⟨.tuple vs.toArray, by rw [hresults _ q1, dif_neg (by simpa using hne2)], _, c2, rfl, hrel.ext, z2, z1, hcont', lentRes_plain hne (.tup _ _ (by simpa using q2) (fun i e he => by simpa using q3 i e he))⟩
        · cases hres
      | pre hrs hst =>
        rename_i m tt
        subst hrs
        cases hfr : fn.results.toList with
        | nil => rw [hfr] at hr; simp [resC] at hr
        | cons x rest =>
          rw [hfr] at hr
          obtain ⟨y, rs', g1, g2, g3⟩ := resV_run hrel x rest _ hr
          obtain ⟨rfl, rfl⟩ := List.cons.inj g1
          obtain ⟨v, q1, q2⟩ := g3 t.m _ (fun _ _ h => h) rfl
          have hrest : rest = [] := by
            cases rest with
            | nil => rfl
            | cons y ys =>
              cases y <;> simp only [resC] at g2
              · simp [Option.map_eq_some_iff] at g2
              · split at g2
                · split at g2
                  · simp [Option.map_eq_some_iff] at g2
                  · cases g2
                · cases g2
          subst hrest
          refine ⟨v, by rw [hresults [v] (by rw [hfr]; simp [List.mapM_cons, q1])]; simp, v, c2, rfl, hrel.ext, z2, z1, hcont', ?_⟩
          rw [hst] at q2
          show (∃ cap, v = .slice (some ⟨b, o, none⟩) m.toNat cap ∧ m.toNat ≤ cap ∧ cap ≤ 9223372036854775807 ∧ o + cap * sz ≤ c.size) ∨ (m.toNat = 0 ∧ ∃ p, v = .slice p 0 0)
          generalize m.toNat = mm at q2 ⊢
          cases q2 with
          | slice L id off len cap' e1 e2 e3 e4 e5 =>
            rw [hL] at e1
            cases e1
            refine .inl ⟨cap', ?_, e3, e4, ?_⟩
            · simp
            · simpa using e5
          | sliceEmp L id off p e1 =>
            exact .inr ⟨rfl, p, rfl⟩
    cases e with
    | normal => obtain ⟨t, ht, hres⟩ := hq; exact fin ⟨t, ht, hres⟩
    | ret => obtain ⟨t, ht, hres⟩ := hq; exact fin ⟨t, ht, hres⟩
    | exit id => obtain ⟨t, ht, hbad⟩ := hq; exact hbad.elim
    | _ => exact hq.elim
  · dsimp only [initL] at hid
    split at hid
    · cases hid
    · rename_i e; rw [if_neg e]
  · by_cases htk : t = k
    · subst htk
      have hr' : (initL t T sz l ds).r t = .slice lentId 0 l.length := by simp [initL]
      rw [hr']
      have hg : (vs ++ Array.replicate (fn.ntmps - vs.size) undef).getD t undef = vs.getD t undef := by
        simp only [Array.getD_eq_getD_getElem?]
        rw [Array.getElem?_append_left (by omega)]
      simp only [hg]
      rw [hargk]
      have := RV.slice (w := w) (N := NB ⟨own, some ⟨b, o, c.size, sz, false⟩⟩ (initL t T sz l ds).m (fun i => if i = lentId then some ⟨b, o, c.size, sz, false⟩ else none) w) (loc := fun i => if i = lentId then some ⟨b, o, c.size, sz, false⟩ else none) ⟨b, o, c.size, sz, false⟩ lentId 0 l.length cap (if_pos rfl) rfl hcap hcap2 (by simpa using hroom)
      simpa using this
    · by_cases ht : t < vs.size
      · have hd : ∃ d, ds[t]? = some d := ⟨ds[t]'(by omega), by simp⟩
        obtain ⟨d', hd⟩ := hd
        have hr' : (initL k T sz l ds).r t = .p d' := by simp [initL, hd, htk]
        rw [hr']
        have hg : (vs ++ Array.replicate (fn.ntmps - vs.size) undef).getD t undef = vs.getD t undef := by
          simp only [Array.getD_eq_getD_getElem?]
          rw [Array.getElem?_append_left ht]
        simp only [hg]
        exact .p _ _ ((h4 t d' htk hd).mono (fun _ _ => rfl) hnb)
      · have hr' : (initL k T sz l ds).r t = .und := by
          have : ds[t]? = none := List.getElem?_eq_none (by omega)
          simp [initL, this, htk]
        rw [hr']
        exact .und _
  · dsimp only [initL] at ho
    split at ho
    case isFalse => cases ho
    rename_i e
    subst e
    cases ho
    refine ⟨⟨b, o, c.size, sz, false⟩, if_pos rfl, rfl, fun hh => (by cases hh), fun _ => ⟨c, fr, hheap, rfl, ⟨hcont.1, hcont.2.1, fun i e j d q1 q2 => ⟨(hcont.2.2 i e j d q1 q2).1, (hcont.2.2 i e j d q1 q2).2.mono (fun _ _ => rfl) hnb⟩⟩, fun _ => ⟨.inr ⟨_, rfl, rfl⟩, hfr⟩, fun hh => (by cases hh)⟩⟩
  · dsimp only [initL] at g1 g2
    split at g1
    case isFalse => cases g1
    split at g2
    case isFalse => cases g2
    rename_i e1 e2
    rw [e1, e2]
  · cases hL
    exact ⟨if_pos rfl, hob, rfl, ⟨T, sz, .row l, false⟩, by simp [initL], rfl⟩
  · dsimp only [initL] at ho
    split at ho
    case isFalse => cases ho
    cases ho
    simpa using hT

/-- The result is a new slice, or nil. -/
inductive ResNew (s : St) (rs : List (Nat × Option (Bool × Nat))) (T sz : Nat) : List D → Prop
  | row {l : List D} {y : Nat × Option (Bool × Nat)} {i : Nat} : rs = [y] → resV s y = some (.slice i 0 l.length) → s.m i = some ⟨T, sz, .row l, false⟩ → ResNew s rs T sz l
  | nil {y : Nat × Option (Bool × Nat)} : rs = [y] → resV s y = some (.nils T sz) → ResNew s rs T sz []
def EndsN (T sz : Nat) (l : List D) (rs : List (Nat × Option (Bool × Nat))) : AExit → St → Prop
  | .exit _, _ => False
  | _, s => ResNew s rs T sz l
theorem resC_one {P : Program} {x : ResultVar} {rest : List ResultVar} {y : Nat × Option (Bool × Nat)} (h : resC P (x :: rest) = some [y]) : rest = [] := by
  cases rest with
  | nil => rfl
  | cons z zs =>
    have h2 : ∀ q, resC P (z :: zs) ≠ some [] ∧ resC P (z :: zs) = q → q ≠ some [] := by rintro q ⟨h1, rfl⟩; exact h1
    have h3 : resC P (z :: zs) ≠ some [] := by
      cases z <;> simp only [resC]
      · cases resC P zs <;> simp
      · split
        · split
          · cases resC P zs <;> simp
          · simp
        · simp
    exfalso
    cases x <;> simp only [resC] at h
    · simp only [Option.map_eq_some_iff, List.cons.injEq] at h
      obtain ⟨q, h4, h5, rfl⟩ := h
      exact h3 h4
    · split at h
      · split at h
        · simp only [Option.map_eq_some_iff, List.cons.injEq] at h
          obtain ⟨q, h4, h5, rfl⟩ := h
          exact h3 h4
        · cases h
      · cases h
theorem FnOk.conN {P : Program} {A OT : List TypeId} {f : FuncId} {cc : CC} {rs : List (Nat × Option (Bool × Nat))} {nt : Nat} {ds : List D} {T sz : Nat} {l : List D} (h : FnOk P f OT cc rs nt) (hA : OT.all (fun T => !A.contains T) = true) (hn : ds.length ≤ nt)
    (hcw : cw OT (ConX P A) cc (EndsN T sz l rs) (init ds)) : ConNew P A f ds T sz l := by
  obtain ⟨fn, H, hf, hbd, hm, hc, hr, rfl⟩ := h
  obtain ⟨code, hb⟩ := Option.isSome_iff_exists.1 hbd
  rw [hb] at hc
  simp only [Option.getD_some] at hc
  intro own w vs h1 h2 h3 h4
  have hbody := cw_sound (C := ⟨P, A, OT, fn.ntmps, w, ⟨own, none⟩⟩) ⟨h2, fun T hT => by
    rw [List.all_eq_true] at hA
    have := hA T hT
    simpa using this⟩ hm H code cc _ (init ds) { tmps := vs ++ Array.replicate (fn.ntmps - vs.size) undef, defers := [] } w hc hcw ⟨⟨fun _ => none, ExtL.rf _ w, rfl, by simp; omega, h1, fun _ _ => rfl, fun t => ?_, fun id o ho => by simp [init] at ho, fun id _ o _ _ _ ho => by simp [init] at ho, KeepL.none_ rfl _ _⟩, fun id o ho => by simp [init] at ho⟩
  · refine calls_of_wp hf hb (wp_mono hbody ?_)
    intro e a' w' hq
    have fin : (∃ t, Is ⟨P, A, OT, fn.ntmps, w, ⟨own, none⟩⟩ t a' w' ∧ ResNew t rs T sz l) → a'.defers = [] ∧ ∃ v, (results fn a'.tmps).run P w' = .ok v w' ∧ ∃ v' L, Ending.returned v = Ending.returned v' ∧ Ext w w' ∧ NewOk w w' own T sz l v' L := by
      rintro ⟨t, ht, hres⟩
      obtain ⟨loc, hrel⟩ := ht.1
      refine ⟨hrel.defers, ?_⟩
      have hresults : ∀ vs : List Value, (fn.results.toList.mapM (resRun a'.tmps)).run P w' = .ok vs w' → (results fn a'.tmps).run P w' = .ok (if h : vs.toArray.size = 1 then vs.toArray[0] else .tuple vs.toArray) w' := by
        intro vs hv
        have hv' : (fn.results.mapM (resRun a'.tmps)).run P w' = .ok vs.toArray w' := by
          rw [Array.mapM_eq_mapM_toList]
          simp [hv]
        rw [results_eq]
        simp only [Sem.run_bind, hv', Result.andThen]
        rfl
      have one : ∀ y u, rs = [y] → resV t y = some u → ∃ v, (results fn a'.tmps).run P w' = .ok v w' ∧ RV w' (NB ⟨own, none⟩ t.m loc w') loc v u := by
        rintro y u rfl hu
        cases hfr : fn.results.toList with
        | nil => rw [hfr] at hr; simp [resC] at hr
        | cons x rest =>
          rw [hfr] at hr
          have hrest := resC_one hr
          obtain ⟨y', rs', g1, g2, g3⟩ := resV_run hrel x rest _ hr
          obtain ⟨rfl, rfl⟩ := List.cons.inj g1
          obtain ⟨v, q1, q2⟩ := g3 t.m u (fun _ _ h => h) hu
          subst hrest
          exact ⟨v, by rw [hresults [v] (by rw [hfr]; simp [List.mapM_cons, q1])]; simp, q2⟩
      cases hres with
      | nil h1 h2 =>
        obtain ⟨v, g1, g2⟩ := one _ _ h1 h2
        cases g2
        exact ⟨_, g1, _, ⟨0, 0, 0, sz, true⟩, rfl, hrel.ext.ext rfl, ⟨rfl, fun _ => rfl, fun hh => (by cases hh), .inl ⟨rfl, _, rfl⟩⟩⟩
      | row h1 h2 h5 =>
        rename_i y i
        obtain ⟨v, g1, g2⟩ := one _ _ h1 h2
        obtain ⟨L, hL, hok⟩ := hrel.objs i _ h5
        refine ⟨v, g1, v, L, rfl, hrel.ext.ext rfl, hok.sz, fun hh => by simpa using hok.nil hh, fun hh => ?_, ?_⟩
        · obtain ⟨c, fr, k1, k2, k3, k4, -⟩ := hok.at_ hh
          have k5 := k4 rfl
          refine ⟨?_, c, fr, k1, k2, ⟨k3.1, k3.2.1, fun p0 e0 j0 d0 q1 q2 => ⟨(k3.2.2 p0 e0 j0 d0 q1 q2).1, (k3.2.2 p0 e0 j0 d0 q1 q2).2.mono (fun _ _ => rfl) fun b hb => ⟨⟨hb.1, hb.2.1⟩, fun e => hb.2.2 ⟨i, _, L, h5, rfl, hL, hh, e.symm⟩⟩⟩⟩, k5.2⟩
          rcases k5.1 with g | ⟨L', hL', -⟩
          · exact g
          · cases hL'
        · generalize hlen : l.length = n at g2 ⊢
          cases g2 with
          | slice L' _ _ _ cap e1 e2 e3 e4 e5 =>
            rw [hL] at e1
            cases e1
            refine .inr ⟨e2, cap, by simp, e3, e4, ?_⟩
            have := hok.sz
            dsimp only at this
            rw [this] at e5
            simpa using e5
          | sliceEmp L' _ _ p e1 => exact .inl ⟨List.eq_nil_of_length_eq_zero hlen, p, rfl⟩
    cases e with
    | normal => obtain ⟨t, ht, hres⟩ := hq; exact fin ⟨t, ht, hres⟩
    | ret => obtain ⟨t, ht, hres⟩ := hq; exact fin ⟨t, ht, hres⟩
    | exit id => obtain ⟨t, ht, hbad⟩ := hq; exact hbad.elim
    | _ => exact hq.elim
  · by_cases ht : t < vs.size
    · have hd : ∃ d, ds[t]? = some d := ⟨ds[t]'(by omega), by simp⟩
      obtain ⟨d', hd⟩ := hd
      have hr' : (init ds).r t = .p d' := by simp [init, hd]
      rw [hr']
      have hg : (vs ++ Array.replicate (fn.ntmps - vs.size) undef).getD t undef = vs.getD t undef := by
        simp only [Array.getD_eq_getD_getElem?]
        rw [Array.getElem?_append_left ht]
      simp only [hg]
      exact .p _ _ ((h4 t d' hd).mono (fun _ _ => rfl) fun b hb => ⟨hb.1, hb.2, by rintro ⟨id, o, L, ho, _⟩; simp [init] at ho⟩)
    · have hr' : (init ds).r t = .und := by
        have : ds[t]? = none := List.getElem?_eq_none (by omega)
        simp [init, this]
      rw [hr']
      exact .und _

end Go.Proofs.Ytlnhembcfhfpkaa.M
