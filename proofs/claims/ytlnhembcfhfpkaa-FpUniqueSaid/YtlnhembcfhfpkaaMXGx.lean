/- The small machine, run: a program that carries out a function's code on closed arguments, and the proof that what it answers is the function's contract. -/
import Derived.Test.YtlnhembcfhfpkaaK4
namespace Go.Proofs.Ytlnhembcfhfpkaa.M
open Go.RowKit
structure IS where
  R : List (Nat × AV)
  M : List (Nat × AObj)
  k : Nat
def IS.st (s : IS) : St := ⟨look s.R, lookM s.M⟩
def putL (R : List (Nat × AV)) : Option Nat → AV → List (Nat × AV)
  | some t, v => (t, v) :: R
  | none, _ => R
theorem put_st (R : List (Nat × AV)) (m : Mem) (t : Option Nat) (v : AV) : St.put ⟨look R, m⟩ t v = ⟨look (putL R t v), m⟩ := by
  cases t with
  | none => rfl
  | some t => rfl
def tgt (op : AOp) (id : Nat) (r : Nat → AV) : Option Nat :=
  match op with
  | .alloc .. | .box .. | .buildSlice .. | .buildSliceF .. | .makeSlice .. | .bytS .. | .copyS .. | .copyF .. => some id
  | .store _ x _ => match x.ev r with
    | .ptr i _ _ => some i
    | _ => none
  | .copyA x _ => match x.ev r with
    | .arr i _ _ => some i
    | _ => none
  | .clearS _ _ x => match x.ev r with
    | .slice i _ _ => some i
    | _ => none
  | _ => none
theorem ev_tgt {op : AOp} {id : Nat} {s t : St} {p : Bool} {v : AV} (h : ev op id s = some (p, v, t)) : match tgt op id s.r with
    | none => t.m = s.m
    | some i => ∃ ob, t.m = upd s.m i (some ob) := by
  cases op <;> simp only [ev, tgt] at h ⊢ <;>
    (repeat' (split at h)) <;> simp only [Option.some.injEq, Prod.mk.injEq, reduceCtorEq, Option.map_eq_some_iff] at h <;>
      first
        | (obtain ⟨-, -, rfl⟩ := h; rfl)
        | (obtain ⟨_, -, -, -, rfl⟩ := h; rfl)
        | (obtain ⟨-, -, rfl⟩ := h; exact ⟨_, rfl⟩)
        | (obtain ⟨-, -, rfl⟩ := h; simp only [*]; exact ⟨_, rfl⟩)
def opRun (op : AOp) (dst : Option Nat) (s : IS) : Option IS :=
  match ev op (dst.getD 0) s.st with
  | some (true, v, t) => match tgt op (dst.getD 0) (look s.R) with
    | none => some ⟨putL s.R dst v, s.M, s.k⟩
    | some i => match t.m i with
      | some ob => some ⟨putL s.R dst v, setM i ob s.M, s.k⟩
      | none => none
  | _ => none
theorem opRun_ok {op : AOp} {dst : Option Nat} {s t : IS} (h : opRun op dst s = some t) : ∃ v u, ev op (dst.getD 0) s.st = some (true, v, u) ∧ t.st = u.put dst v := by
  unfold opRun at h
  split at h
  case h_2 => cases h
  rename_i v u he
  refine ⟨v, u, he, ?_⟩
  have h1 := ev_tgt he
  have h2 := ev_r he
  obtain ⟨ur, um⟩ := u
  simp only at h1 h2 h
  have h3 : ur = look s.R := h2
  subst h3
  split at h
  · rename_i ht
    simp only [Option.some.injEq] at h
    subst h
    simp only [IS.st] at h1 ht
    rw [ht] at h1
    simp only at h1
    subst h1
    rw [put_st]; rfl
  · rename_i i ht
    simp only [IS.st] at h1 ht
    rw [ht] at h1
    obtain ⟨ob, hob⟩ := h1
    subst hob
    rw [upd_same] at h
    simp only [Option.some.injEq] at h
    subst h
    rw [put_st, upd_lookM]; rfl
def frzI (i : Nat) (s : IS) : IS := if i = lentId then s else match lookM s.M i with
  | some o => ⟨s.R, setM i ⟨o.T, o.sz, o.cont, true⟩ s.M, s.k⟩
  | none => s
theorem frzI_ok (i : Nat) (s : IS) : (frzI i s).st = frzS i s.st := by
  unfold frzI frzS
  by_cases e : i = lentId
  · rw [if_pos e, if_pos e]
  · rw [if_neg e, if_neg e]
    simp only [IS.st]
    cases lookM s.M i with
    | none => rfl
    | some o => simp only [upd_lookM]
def appRun (T sz b : Nat) (x y : Opd) (id : Nat) (s : IS) : Option (AV × IS) :=
  match evApp T sz b x y id s.st with
  | some (true, v, t) => match x.ev (look s.R) with
    | .nils _ _ => match t.m id with
      | some ob => some (v, ⟨s.R, setM id ob s.M, s.k⟩)
      | none => none
    | .slice i _ _ => match t.m i with
      | some ob => some (v, ⟨fgR i s.R, setM i ob (fgM i s.M), s.k⟩)
      | none => none
    | _ => none
  | _ => none
theorem appRun_ok {T sz b : Nat} {x y : Opd} {id : Nat} {s t : IS} {v : AV} (h : appRun T sz b x y id s = some (v, t)) : evApp T sz b x y id s.st = some (true, v, t.st) := by
  unfold appRun at h
  split at h
  case h_2 => cases h
  rename_i v' u he
  rw [he]
  unfold evApp at he
  split at he
  case h_1 => cases he
  split at he
  · rename_i hx
    have hx' : x.ev (look s.R) = _ := hx
    split at he
    case h_2 => cases he
    split at he
    case isFalse => cases he
    simp only [Option.some.injEq, Prod.mk.injEq] at he
    obtain ⟨-, rfl, rfl⟩ := he
    rw [hx'] at h
    simp only [upd_same, Option.some.injEq, Prod.mk.injEq] at h
    obtain ⟨rfl, rfl⟩ := h
    simp only [IS.st, upd_lookM]
  · rename_i i n hx
    have hx' : x.ev (look s.R) = _ := hx
    split at he
    case h_2 => cases he
    split at he
    case isFalse => cases he
    simp only [Option.some.injEq, Prod.mk.injEq] at he
    obtain ⟨-, rfl, rfl⟩ := he
    rw [hx'] at h
    simp only [upd_same, Option.some.injEq, Prod.mk.injEq] at h
    obtain ⟨rfl, rfl⟩ := h
    simp only [IS.st, forgetR_look, forgetM_look, upd_lookM]
  · cases he
section
variable (call : FuncId → List D → Option D)
def stepRun (c : COp) (s : IS) : Option IS :=
  match c.op with
  | .call f args => match argsD s.st args with
    | some ds => match call f ds with
      | some d => some ⟨putL s.R c.dst (.p d), s.M, s.k⟩
      | none => none
    | none => none
  | .append T sz b x y => match appRun T sz b x y (c.dst.getD 0) s with
    | some (v, t) => some ⟨putL t.R c.dst v, t.M, t.k⟩
    | none => none
  | .appendF T sz b x y => match appRun T sz b x y (c.dst.getD 0) s with
    | some (v, t) => some ⟨putL (frzI (slId (c.dst.getD 0) v) t).R c.dst v, (frzI (slId (c.dst.getD 0) v) t).M, t.k⟩
    | none => none
  | .callL f k args => match opdAt s.st k args with
    | .slice i 0 n => match lookM s.M i with
      | some ⟨T, sz, .row l, false⟩ => match argsDL s.st (.list T sz l) k args with
        | some ds => match call (f + LB * (k + 1)) ds with
          | some (.tup [r, .list T' sz' l']) => if T' = T ∧ sz' = sz ∧ n = l.length then some ⟨putL s.R c.dst (if l.isEmpty then .p (lentE T sz r) else lentR i r), setM i ⟨T, sz, .row l', false⟩ s.M, s.k⟩ else none
          | _ => none
        | none => none
      | _ => none
    | _ => none
  | .callv fs x args => match (x.ev (look s.R)).toD false (lookM s.M) 20, argsD s.st args with
    | some (.fn (.func f) a b), some ds => if fs.contains f then match call f (a ++ ds ++ b) with
      | some d => some ⟨putL s.R c.dst (.p d), s.M, s.k⟩
      | none => none else none
    | _, _ => none
  | .callN f T args => match argsD s.st args with
    | some ds => match lookM s.M (c.dst.getD 0) with
      | none => match call (f + LB * (8 + 1)) ds with
        | some (.list T' sz l) => if T' = T then some ⟨putL s.R c.dst (.slice (c.dst.getD 0) 0 l.length), setM (c.dst.getD 0) ⟨T, sz, .row l, false⟩ s.M, s.k⟩ else none
        | _ => none
      | some _ => none
    | none => none
  | .isNil neg x => match x.ev (look s.R) with
    | .nils _ _ => some ⟨putL s.R c.dst (.p (.bool (!neg))), s.M, s.k⟩
    | .p (.list _ _ (_ :: _)) => some ⟨putL s.R c.dst (.p (.bool (false != neg))), s.M, s.k⟩
    | _ => none
  | op => opRun op c.dst s
variable {call}
theorem stepRun_ok {G : FuncId → List D → D → Prop} (hcall : ∀ c ds d, call c ds = some d → G c ds d) {c : COp} {s t : IS} {K : St → Prop} (h : stepRun call c s = some t) (hK : K t.st) : step G c K s.st := by
  obtain ⟨dst, op, g⟩ := c
  have plain : ∀ op', op = op' → opRun op' dst s = some t → (∃ v u, ev op' (dst.getD 0) s.st = some (true, v, u) ∧ K (u.put dst v)) := by
    rintro op' rfl ho
    obtain ⟨v, u, h1, h2⟩ := opRun_ok ho
    exact ⟨v, u, h1, by rw [← h2]; exact hK⟩
  have hput : ∀ v, s.st.put dst v = (⟨putL s.R dst v, s.M, s.k⟩ : IS).st := fun v => put_st s.R (lookM s.M) dst v
  unfold step
  unfold stepRun at h
  cases op
  case call f args =>
    simp only at h ⊢
    split at h
    case h_2 => cases h
    rename_i ds hds
    split at h
    case h_2 => cases h
    rename_i d hd
    simp only [Option.some.injEq] at h
    subst h
    rw [hds]
    exact ⟨d, hcall _ _ _ hd, by rw [hput]; exact hK⟩
  case append T sz b x y =>
    simp only at h ⊢
    split at h
    case h_2 => cases h
    rename_i v u hu
    simp only [Option.some.injEq] at h
    subst h
    rw [appRun_ok hu]
    refine ⟨rfl, ?_⟩
    unfold IS.st
    rw [put_st]
    exact hK
  case appendF T sz b x y =>
    simp only at h ⊢
    split at h
    case h_2 => cases h
    rename_i v u hu
    simp only [Option.some.injEq] at h
    subst h
    rw [appRun_ok hu]
    refine ⟨rfl, ?_⟩
    rw [← frzI_ok]
    unfold IS.st
    rw [put_st]
    exact hK
  case callL f k args =>
    simp only at h ⊢
    split at h
    case h_2 => cases h
    rename_i i n hi
    split at h
    case h_2 => cases h
    rename_i T sz l hm
    split at h
    case h_2 => cases h
    rename_i ds hds
    split at h
    case h_2 => cases h
    rename_i r T' sz' l' hd
    split at h
    case isFalse => cases h
    rename_i hc
    obtain ⟨rfl, rfl, rfl⟩ := hc
    simp only [Option.some.injEq] at h
    subst h
    rw [hi]
    simp only
    have hm' : s.st.m i = _ := hm
    rw [hm']
    simp only [hds]
    refine ⟨trivial, r, l', hcall _ _ _ hd, ?_⟩
    have e1 : (upd s.st.m i (some ⟨T', sz', .row l', false⟩)) = lookM (setM i ⟨T', sz', .row l', false⟩ s.M) := upd_lookM _ _ _
    rw [e1]
    have e2 : (if l = [] then AV.p (lentE T' sz' r) else lentR i r) = if l.isEmpty then AV.p (lentE T' sz' r) else lentR i r := by
      cases l <;> simp
    rw [e2]
    have := put_st s.R (lookM (setM i ⟨T', sz', .row l', false⟩ s.M)) dst (if l.isEmpty then AV.p (lentE T' sz' r) else lentR i r)
    unfold IS.st
    simp only
    rw [this]
    exact hK
  case callv fs x args =>
    simp only at h ⊢
    split at h
    case h_2 => cases h
    rename_i f a b ds h1 h2
    split at h
    case isFalse => cases h
    rename_i hf
    split at h
    case h_2 => cases h
    rename_i d hd
    simp only [Option.some.injEq] at h
    subst h
    have h1' : (x.ev s.st.r).toD false s.st.m 20 = _ := h1
    rw [h1', h2]
    exact ⟨hf, d, hcall _ _ _ hd, by rw [hput]; exact hK⟩
  case callN f T args =>
    simp only at h ⊢
    split at h
    case h_2 => cases h
    rename_i ds hds
    split at h
    case h_2 => cases h
    rename_i hm
    split at h
    case h_2 => cases h
    rename_i T' sz l hd
    split at h
    case isFalse => cases h
    rename_i hT
    subst hT
    simp only [Option.some.injEq] at h
    subst h
    rw [hds]
    simp only
    have hm' : s.st.m (dst.getD 0) = none := hm
    rw [hm']
    refine ⟨sz, l, hcall _ _ _ hd, ?_⟩
    have e1 : (upd s.st.m (dst.getD 0) (some ⟨T', sz, .row l, false⟩)) = lookM (setM (dst.getD 0) ⟨T', sz, .row l, false⟩ s.M) := upd_lookM _ _ _
    rw [e1]
    have := put_st s.R (lookM (setM (dst.getD 0) ⟨T', sz, .row l, false⟩ s.M)) dst (.slice (dst.getD 0) 0 l.length)
    unfold IS.st
    simp only
    rw [this]
    exact hK
  case isNil neg x =>
    simp only at h ⊢
    split at h
    · rename_i T sz hx
      simp only [Option.some.injEq] at h
      subst h
      have hx' : x.ev s.st.r = _ := hx
      rw [hx']
      simp only
      rw [hput]
      exact hK
    · rename_i T sz a l hx
      simp only [Option.some.injEq] at h
      subst h
      have hx' : x.ev s.st.r = _ := hx
      rw [hx']
      simp only
      intro b hb
      rw [hb (by simp), hput]
      exact hK
    · cases h
  all_goals
    simp only at h ⊢
    obtain ⟨v, u, h1, h2⟩ := plain _ rfl h
    rw [h1]
    exact ⟨rfl, h2⟩
variable (call)
def gRun (c : COp) (s : IS) : Option IS :=
  match c.guard with
  | none => stepRun call c s
  | some (g, want) => match look s.R g with
    | .p (.bool b) => if b = want then stepRun call c s else some ⟨putL s.R c.dst (.p (.tup [])), s.M, s.k⟩
    | .p (.tup []) => some ⟨putL s.R c.dst (.p (.tup [])), s.M, s.k⟩
    | _ => none
def opsRun : List COp → IS → Option IS
  | [], s => some s
  | c :: l, s => match gRun call c s with
    | some t => opsRun l t
    | none => none
variable {call}
theorem gRun_ok {G : FuncId → List D → D → Prop} (hcall : ∀ c ds d, call c ds = some d → G c ds d) {c : COp} {s t : IS} {K : St → Prop} (h : gRun call c s = some t) (hK : K t.st) : gstep G c K s.st := by
  unfold gstep
  unfold gRun at h
  split at h
  · rename_i hg
    rw [hg]
    exact stepRun_ok hcall h hK
  · rename_i g want hg
    rw [hg]
    simp only
    split at h
    case h_3 => cases h
    case h_2 =>
      rename_i hb
      have hb' : s.st.r g = _ := hb
      rw [hb']
      simp only [Option.some.injEq] at h ⊢
      subst h
      unfold IS.st
      rw [put_st]
      exact hK
    rename_i b hb
    have hb' : s.st.r g = _ := hb
    rw [hb']
    simp only
    split at h
    · rename_i e
      rw [if_pos e]
      exact stepRun_ok hcall h hK
    · rename_i e
      rw [if_neg e]
      simp only [Option.some.injEq] at h
      subst h
      unfold IS.st
      rw [put_st]
      exact hK
theorem opsRun_ok {G : FuncId → List D → D → Prop} (hcall : ∀ c ds d, call c ds = some d → G c ds d) {K : St → Prop} : ∀ (l : List COp) (s t : IS), opsRun call l s = some t → K t.st → cops G l K s.st
  | [], s, t, h, hK => by simp only [opsRun, Option.some.injEq] at h; subst h; exact hK
  | c :: l, s, t, h, hK => by
    simp only [opsRun] at h
    split at h
    case h_2 => cases h
    rename_i u hu
    exact gRun_ok hcall hu (opsRun_ok hcall l u t h hK)
end
inductive NA where
  | keep (ts : List Nat)
  | gc
  | frz (T : Nat)
  | frzv (ts : List Nat)
  | box (id : Nat)
  | ren
def garb (R : List (Nat × AV)) (M : List (Nat × AObj)) : List (Nat × AObj) → List Nat
  | [] => []
  | (i, _) :: l => if i != lentId && closedR [i] R && M.all (fun p => !p.2.men [i]) then i :: garb R M l else garb R M l
def frzAll (T : Nat) : List (Nat × AObj) → List (Nat × AObj) → List (Nat × AObj)
  | [], M => M
  | (i, _) :: l, M => match lookM M i with
    | some ⟨T', sz, .row r, false⟩ => if T' = T ∧ i ≠ lentId then frzAll T l (setM i ⟨T', sz, .row r, true⟩ M) else frzAll T l M
    | _ => frzAll T l M
def frzV (R : List (Nat × AV)) : List Nat → List (Nat × AObj) → List (Nat × AObj)
  | [], M => M
  | t :: l, M => match look R t with
    | .slice i _ _ => match lookM M i with
      | some ⟨T, sz, .row r, false⟩ => if i ≠ lentId then frzV R l (setM i ⟨T, sz, .row r, true⟩ M) else frzV R l M
      | _ => frzV R l M
    | _ => frzV R l M
def naRun : NA → IS → Option IS
  | .keep ts, s => some ⟨sel (look s.R) ts, s.M, s.k⟩
  | .gc, s => if closedR (garb s.R s.M s.M) s.R && closedM (garb s.R s.M s.M) s.M then some ⟨s.R, delL (garb s.R s.M s.M) s.M, s.k⟩ else none
  | .frz T, s => some ⟨s.R, frzAll T s.M s.M, s.k⟩
  | .frzv ts, s => some ⟨s.R, frzV s.R ts s.M, s.k⟩
  | .box id, s => match lookM s.M id with
    | some ⟨T, sz, .row (d :: l), false⟩ => if sz = 1 ∧ id ≠ lentId ∧ (d :: l).all D.one = true ∧ noArrR id s.R = true ∧ noArrM id s.M = true then some ⟨bxR id s.R, bxM id ⟨T, (d :: l).length, .box (.agg ((d :: l).map .p)), false⟩ s.M, s.k⟩ else none
    | _ => some s
  | .ren, s => some ⟨rnR (swp (2000000 + 100000 * s.k)) s.R, rnM (swp (2000000 + 100000 * s.k)) s.M, s.k + 1⟩
theorem frzAll_ok {OT : List TypeId} (T : Nat) (R : List (Nat × AV)) : ∀ (l M : List (Nat × AObj)), Sub OT ⟨look R, lookM M⟩ ⟨look R, lookM (frzAll T l M)⟩
  | [], M => Sub.rf _
  | (i, _) :: l, M => by
    unfold frzAll
    split
    · rename_i T' sz r hm
      split
      · rename_i hc
        refine Sub.tr ?_ (frzAll_ok T R l _)
        rw [← upd_lookM]
        exact Sub.freeze (ob := ⟨T', sz, .row r, false⟩) hc.2 hm
      · exact frzAll_ok T R l M
    · exact frzAll_ok T R l M
theorem frzV_ok {OT : List TypeId} (R : List (Nat × AV)) : ∀ (l : List Nat) (M : List (Nat × AObj)), Sub OT ⟨look R, lookM M⟩ ⟨look R, lookM (frzV R l M)⟩
  | [], M => Sub.rf _
  | t :: l, M => by
    unfold frzV
    split
    · rename_i i o n hi
      split
      · rename_i T sz r hm
        split
        · rename_i hc
          refine Sub.tr ?_ (frzV_ok R l _)
          rw [← upd_lookM]
          exact Sub.freeze (ob := ⟨T, sz, .row r, false⟩) hc hm
        · exact frzV_ok R l M
      · exact frzV_ok R l M
    · exact frzV_ok R l M
theorem naRun_ok {OT : List TypeId} {a : NA} {s t : IS} (h : naRun a s = some t) : Sub OT s.st t.st := by
  cases a <;> simp only [naRun] at h
  case keep ts =>
    simp only [Option.some.injEq] at h
    subst h
    exact Sub.und (sel_or ts)
  case gc =>
    split at h
    case isFalse => cases h
    rename_i hc
    simp only [Bool.and_eq_true] at hc
    simp only [Option.some.injEq] at h
    subst h
    exact Sub.dropL (garb s.R s.M s.M) (fun t => .inr ⟨rfl, look_closed t hc.1⟩) (lookM_del _ _) (fun i o ho => lookM_closed i o hc.2 ho) (closedM_lent hc.2)
  case frz T =>
    simp only [Option.some.injEq] at h
    subst h
    exact frzAll_ok T _ _ _
  case frzv ts =>
    simp only [Option.some.injEq] at h
    subst h
    exact frzV_ok _ _ _
  case box id =>
    split at h
    · rename_i T sz d l hm
      split at h
      case isFalse => cases h
      rename_i hc
      obtain ⟨rfl, h1, h2, h3, h4⟩ := hc
      simp only [Option.some.injEq] at h
      subst h
      exact Sub.bx id h1 hm (by simp) h2 h3 h4
    · simp only [Option.some.injEq] at h
      subst h
      exact Sub.rf _
  case ren =>
    simp only [Option.some.injEq] at h
    subst h
    exact Sub.ren (fun i => swp_swp (by omega) i) (swp_lent (by omega))
def nasRun : List NA → IS → Option IS
  | [], s => some s
  | a :: l, s => match naRun a s with
    | some t => nasRun l t
    | none => none
theorem nasRun_ok {OT : List TypeId} : ∀ {l : List NA} {s t : IS}, nasRun l s = some t → Sub OT s.st t.st
  | [], s, t, h => by simp only [nasRun, Option.some.injEq] at h; subst h; exact Sub.rf _
  | a :: l, s, t, h => by
    simp only [nasRun] at h
    split at h
    case h_2 => cases h
    rename_i u hu
    exact (naRun_ok hu).tr (nasRun_ok h)
def headD : CC → Nat
  | .ops _ (c :: _) => c.dst.getD 0
  | .seq a _ => headD a
  | .block _ a => headD a
  | .loop a => headD a
  | _ => 0
def planAt : List (Nat × List NA) → Nat → List NA
  | [], _ => []
  | (i, l) :: p, h => if h = i then l else planAt p h
def iter (f : IS → Option (AExit × IS)) (g : IS → Option IS) : Nat → IS → Option (AExit × IS)
  | 0, _ => none
  | n + 1, s => match g s with
    | some u => match f u with
      | some (.normal, t) => iter f g n t
      | x => x
    | none => none
section
variable (call : FuncId → List D → Option D) (pl : List (Nat × List NA)) (n : Nat)
def run : CC → IS → Option (AExit × IS)
  | .skip, s => some (.normal, s)
  | .ops ap l, s => if apOk ap (look s.R) then match opsRun call l s with
    | some t => some (.normal, t)
    | none => none else none
  | .seq a b, s => match run a s with
    | some (.normal, t) => match nasRun (planAt pl (headD b)) t with
      | some u => run b u
      | none => none
    | x => x
  | .cond x a b, s => match x.ev (look s.R) with
    | .p (.bool true) => run a s
    | .p (.bool false) => run b s
    | _ => none
  | .block id a, s => match run a s with
    | some (.exit j, t) => if j = id then some (.normal, t) else some (.exit j, t)
    | x => x
  | .loop a, s => iter (fun u => run a u) (nasRun (planAt pl (headD a))) n s
  | .exit id, s => some (.exit id, s)
  | .ret, s => some (.ret, s)
  | .stuck, _ => none
variable {call pl n}
theorem run_ok {OT : List TypeId} {G : FuncId → List D → D → Prop} (hcall : ∀ c ds d, call c ds = some d → G c ds d) : ∀ (cc : CC) (s t : IS) (e : AExit) (Q : AExit → St → Prop), run call pl n cc s = some (e, t) → Q e t.st → cw OT G cc Q s.st
  | .skip, s, t, e, Q, h, hQ => by
    simp only [run, Option.some.injEq, Prod.mk.injEq] at h
    obtain ⟨rfl, rfl⟩ := h
    exact hQ
  | .ops ap l, s, t, e, Q, h, hQ => by
    simp only [run] at h
    split at h
    case isFalse => cases h
    rename_i hap
    split at h
    case h_2 => cases h
    rename_i u hu
    simp only [Option.some.injEq, Prod.mk.injEq] at h
    obtain ⟨rfl, rfl⟩ := h
    exact ⟨hap, opsRun_ok hcall l s u hu hQ⟩
  | .seq a b, s, t, e, Q, h, hQ => by
    simp only [run] at h
    split at h
    · rename_i u hu
      split at h
      case h_2 => cases h
      rename_i x hx
      exact run_ok hcall a s u .normal _ hu ⟨x.st, nasRun_ok hx, run_ok hcall b x t e Q h hQ⟩
    · rename_i hne
      refine run_ok hcall a s t e _ h ?_
      cases e with
      | normal => exact absurd h (hne t)
      | exit id => exact hQ
      | ret => exact hQ
  | .cond x a b, s, t, e, Q, h, hQ => by
    simp only [run] at h
    simp only [cw]
    split at h
    · rename_i hx
      have hx' : x.ev s.st.r = _ := hx
      rw [hx']
      exact ⟨fun _ => run_ok hcall a s t e Q h hQ, fun hh => (by cases hh)⟩
    · rename_i hx
      have hx' : x.ev s.st.r = _ := hx
      rw [hx']
      exact ⟨fun hh => (by cases hh), fun _ => run_ok hcall b s t e Q h hQ⟩
    · cases h
  | .block id a, s, t, e, Q, h, hQ => by
    simp only [run] at h
    split at h
    · rename_i j u hu
      refine run_ok hcall a s u (.exit j) _ hu ?_
      simp only
      split at h
      · rename_i e1
        rw [if_pos e1]
        simp only [Option.some.injEq, Prod.mk.injEq] at h
        obtain ⟨rfl, rfl⟩ := h
        exact hQ
      · rename_i e1
        rw [if_neg e1]
        simp only [Option.some.injEq, Prod.mk.injEq] at h
        obtain ⟨rfl, rfl⟩ := h
        exact hQ
    · rename_i hne
      refine run_ok hcall a s t e _ h ?_
      cases e with
      | normal => exact hQ
      | exit id => exact absurd h (hne id t)
      | ret => exact hQ
  | .loop a, s, t, e, Q, h, hQ => by
    simp only [run] at h
    have key : ∀ m s, iter (fun u => run call pl n a u) (nasRun (planAt pl (headD a))) m s = some (e, t) → cw OT G (.loop a) Q s.st := by
      intro m
      induction m with
      | zero => intro s h; simp [iter] at h
      | succ m ih =>
        intro s h
        simp only [iter] at h
        split at h
        case h_2 => cases h
        rename_i u hu
        refine loop_in (nasRun_ok hu) ?_
        split at h
        · rename_i v hv
          exact run_ok hcall a u v .normal _ hv (ih v h)
        · rename_i hne
          refine run_ok hcall a u t e _ h ?_
          cases e with
          | normal => exact absurd h (hne t)
          | exit id => exact hQ
          | ret => exact hQ
    exact key n s h
  | .exit id, s, t, e, Q, h, hQ => by
    simp only [run, Option.some.injEq, Prod.mk.injEq] at h
    obtain ⟨rfl, rfl⟩ := h
    exact hQ
  | .ret, s, t, e, Q, h, hQ => by
    simp only [run, Option.some.injEq, Prod.mk.injEq] at h
    obtain ⟨rfl, rfl⟩ := h
    exact hQ
  | .stuck, s, t, e, Q, h, hQ => by simp [run] at h
end
structure FnI where
  f : FuncId
  OT : List TypeId
  cc : CC
  rs : List (Nat × Option (Bool × Nat))
  nt : Nat
  pl : List (Nat × List NA)
def FnI.Ok (P : Program) (F : FnI) : Prop := F.f < LB ∧ FnOk P F.f F.OT F.cc F.rs F.nt
def findF : List FnI → FuncId → Option FnI
  | [], _ => none
  | F :: l, f => if F.f = f then some F else findF l f
theorem findF_ok {P : Program} : ∀ {l : List FnI} {f : FuncId} {F : FnI}, (∀ F ∈ l, F.Ok P) → findF l f = some F → F.f = f ∧ F.Ok P
  | [], f, F, _, h => by cases h
  | G :: l, f, F, hl, h => by
    simp only [findF] at h
    split at h
    · cases h; exact ⟨‹_›, hl _ (by simp)⟩
    · exact findF_ok (fun F hF => hl F (by simp [hF])) h
def argsR : Nat → List D → List (Nat × AV)
  | _, [] => []
  | i, d :: l => (i, .p d) :: argsR (i + 1) l
theorem argsR_look : ∀ (l : List D) (i t : Nat), look (argsR i l) t = if t < i then .und else match l[t - i]? with
    | some d => .p d
    | none => .und
  | [], i, t => by simp [argsR, look_nil]
  | d :: l, i, t => by
    rw [argsR, look_cons, argsR_look l (i + 1) t]
    by_cases h : t = i
    · subst h; simp
    · rw [if_neg h]
      by_cases h2 : t < i
      · rw [if_pos h2, if_pos (by omega)]
      · rw [if_neg h2, if_neg (by omega), show t - i = (t - (i + 1)) + 1 by omega, List.getElem?_cons_succ]
def startI (ds : List D) : IS := ⟨argsR 0 ds, [], 0⟩
theorem startI_st (ds : List D) : (startI ds).st = init ds := by
  unfold IS.st startI init
  congr 1
  funext t
  rw [argsR_look]
  rfl
def startL (k T sz : Nat) (l : List D) (ds : List D) : IS := ⟨(k, .slice lentId 0 l.length) :: argsR 0 ds, [(lentId, ⟨T, sz, .row l, false⟩)], 0⟩
theorem startL_st (k T sz : Nat) (l : List D) (ds : List D) : (startL k T sz l ds).st = initL k T sz l ds := by
  unfold IS.st startL initL
  congr 1
  · funext t
    rw [look_cons, argsR_look]
    rfl
def isInt1 : D → Bool
  | .tup [.int .i64 _] => true
  | _ => false
theorem isInt1_ne {d : D} (h : isInt1 d = false) : ∀ m, d ≠ .tup [.int .i64 m] := by
  rintro m rfl
  cases h
theorem isInt1_lentE {d : D} (h : isInt1 d = false) (T : TypeId) (sz : Nat) : lentE T sz d = d := by
  unfold lentE
  split
  · cases h
  · rfl
def plainEnd (rs : List (Nat × Option (Bool × Nat))) : Option (AExit × IS) → Option D
  | some (.exit _, _) => none
  | some (_, s) => resD s.st rs
  | none => none
def newEnd (rs : List (Nat × Option (Bool × Nat))) : Option (AExit × IS) → Option D
  | some (.exit _, _) => none
  | some (_, s) => match rs with
    | [y] => match resV s.st y with
      | some (.slice i 0 n) => match lookM s.M i with
        | some ⟨T, sz, .row l, false⟩ => if n = l.length then some (.list T sz l) else none
        | _ => none
      | some (.nils T sz) => some (.list T sz [])
      | _ => none
    | _ => none
  | none => none
def lentEnd (T sz n : Nat) (rs : List (Nat × Option (Bool × Nat))) : Option (AExit × IS) → Option D
  | some (.exit _, _) => none
  | some (_, s) => match lookM s.M lentId with
    | some ⟨T', sz', .row l', false⟩ => if T' = T ∧ sz' = sz ∧ l'.length = n then
        (match rs with
        | [] => some (.tup [.tup [], .list T sz l'])
        | [(t, none)] => match look s.R t with
          | .slice i 0 m => if i = lentId then some (.tup [.tup [.int .i64 m], .list T sz l']) else none
          | .p d => if isInt1 d then none else some (.tup [d, .list T sz l'])
          | _ => none
        | _ => none) else none
    | _ => none
  | none => none
section
variable (Fs : List FnI) (orc : FuncId → List D → Option D)
def callF : Nat → FuncId → List D → Option D
  | 0, _, _ => none
  | n + 1, c, ds => match orc c ds with
    | some d => some d
    | none => match findF Fs (c % LB) with
      | none => none
      | some F => if ds.length ≤ F.nt then
        (match c / LB with
        | 0 => plainEnd F.rs (run (callF n) F.pl n F.cc (startI ds))
        | 9 => newEnd F.rs (run (callF n) F.pl n F.cc (startI ds))
        | k + 1 => match ds[k]? with
          | some (.list T sz []) => match callF n (c % LB) ds with
            | some d => if isInt1 d then none else some (.tup [d, .list T sz []])
            | none => none
          | some (.list T sz (e :: l)) => if F.OT.contains T then lentEnd T sz (l.length + 1) F.rs (run (callF n) F.pl n F.cc (startL k T sz (e :: l) ds)) else none
          | _ => none) else none
variable {Fs orc}
theorem plainEnd_ok {rs : List (Nat × Option (Bool × Nat))} {x : Option (AExit × IS)} {d : D} (h : plainEnd rs x = some d) : ∃ e s, x = some (e, s) ∧ Ends d rs e s.st := by
  unfold plainEnd at h
  split at h
  · cases h
  · rename_i e s hne
    refine ⟨_, _, rfl, ?_⟩
    cases e with
    | normal => exact h
    | exit id => exact (hne id rfl).elim
    | ret => exact h
  · cases h
theorem newEnd_ok {rs : List (Nat × Option (Bool × Nat))} {x : Option (AExit × IS)} {d : D} (h : newEnd rs x = some d) : ∃ e s T sz l, d = .list T sz l ∧ x = some (e, s) ∧ EndsN T sz l rs e s.st := by
  unfold newEnd at h
  split at h
  · cases h
  · rename_i e s hne
    have key : ∀ T sz l, ResNew s.st rs T sz l → EndsN T sz l rs e s.st := fun T sz l hr => by
      cases e with
      | normal => exact hr
      | exit id => exact (hne id rfl).elim
      | ret => exact hr
    split at h
    case h_2 => cases h
    rename_i y
    split at h
    · rename_i i n hv
      split at h
      case h_2 => cases h
      rename_i T sz l hm
      split at h
      case isFalse => cases h
      rename_i hn
      subst hn
      simp only [Option.some.injEq] at h
      exact ⟨_, _, T, sz, l, h.symm, rfl, key _ _ _ (.row rfl hv hm)⟩
    · rename_i T sz hv
      simp only [Option.some.injEq] at h
      exact ⟨_, _, T, sz, [], h.symm, rfl, key _ _ _ (.nil rfl hv)⟩
    · cases h
  · cases h
theorem lentEnd_ok {T sz n : Nat} {rs : List (Nat × Option (Bool × Nat))} {x : Option (AExit × IS)} {d : D} (h : lentEnd T sz n rs x = some d) : ∃ e s r l', d = .tup [r, .list T sz l'] ∧ l'.length = n ∧ x = some (e, s) ∧ EndsL T sz l' r rs e s.st := by
  unfold lentEnd at h
  split at h
  · cases h
  · rename_i e s hne
    have key : ∀ r l', s.st.m lentId = some ⟨T, sz, .row l', false⟩ ∧ ResLt s.st rs r → EndsL T sz l' r rs e s.st := fun r l' hr => by
      cases e with
      | normal => exact hr
      | exit id => exact (hne id rfl).elim
      | ret => exact hr
    split at h
    case h_2 => cases h
    rename_i T' sz' l' hm
    split at h
    case isFalse => cases h
    rename_i hc
    obtain ⟨rfl, rfl, hn⟩ := hc
    split at h
    · simp only [Option.some.injEq] at h
      exact ⟨_, _, _, l', h.symm, hn, rfl, key _ _ ⟨hm, .unit _⟩⟩
    · rename_i t
      split at h
      · rename_i i m hv
        split at h
        case isFalse => cases h
        rename_i hi
        subst hi
        simp only [Option.some.injEq] at h
        exact ⟨_, _, _, l', h.symm, hn, rfl, key _ _ ⟨hm, .pre rfl (by simpa [IS.st] using hv)⟩⟩
      · rename_i d' hv
        split at h
        · cases h
        · rename_i hd
          simp only [Option.some.injEq] at h
          exact ⟨_, _, _, l', h.symm, hn, rfl, key _ _ ⟨hm, .one hv (isInt1_ne (by simpa using hd))⟩⟩
      · cases h
    · cases h
  · cases h
theorem callF_ok {P : Program} (hFs : ∀ F ∈ Fs, F.Ok P) (horc : ∀ c ds d, orc c ds = some d → ConX P [] c ds d) : ∀ (n : Nat) (c : FuncId) (ds : List D) (d : D), callF Fs orc n c ds = some d → ConX P [] c ds d
  | 0, c, ds, d, h => by simp [callF] at h
  | n + 1, c, ds, d, h => by
    have ih := callF_ok hFs horc n
    simp only [callF] at h
    split at h
    · rename_i d' hd
      simp only [Option.some.injEq] at h
      subst h
      exact horc _ _ _ hd
    split at h
    · cases h
    rename_i F hF
    obtain ⟨hFf, hlt, hok⟩ := findF_ok hFs hF
    split at h
    case isFalse => cases h
    rename_i hlen
    have hdm := Nat.div_add_mod c LB
    rw [← hFf] at hdm
    have hA : F.OT.all (fun T => !([] : List TypeId).contains T) = true := by simp
    split at h
    · rename_i h0
      rw [h0] at hdm
      obtain ⟨e, s, h1, h2⟩ := plainEnd_ok h
      have hc : c = F.f := by rw [Nat.mul_zero, Nat.zero_add] at hdm; exact hdm.symm
      rw [hc]
      refine .plain hlt (hok.con hA hlen ?_)
      rw [← startI_st]
      exact run_ok ih _ _ _ _ _ h1 h2
    · rename_i h0
      rw [h0] at hdm
      obtain ⟨e, s, T, sz, l, rfl, h1, h2⟩ := newEnd_ok h
      have hc : c = F.f + LB * (8 + 1) := by rw [Nat.add_comm]; exact hdm.symm
      rw [hc]
      refine .fresh hlt (hok.conN hA hlen ?_)
      rw [← startI_st]
      exact run_ok ih _ _ _ _ _ h1 h2
    · rename_i k hne h0
      rw [h0] at hdm
      have hc : c = F.f + LB * (k + 1) := by rw [Nat.add_comm]; exact hdm.symm
      split at h
      · rename_i T sz hk
        split at h
        case h_2 => cases h
        rename_i d' hd
        split at h
        · cases h
        rename_i hi
        simp only [Option.some.injEq] at h
        subst h
        have hcon := (ih _ _ _ hd).con (by rw [← hFf]; exact hlt)
        rw [← hFf] at hcon
        rw [hc]
        exact .lent hlt hk rfl (fun _ => by rw [isInt1_lentE (by simpa using hi)]; exact hcon) (fun hh => absurd rfl hh)
      · rename_i T sz e l hk
        split at h
        case isFalse => cases h
        rename_i hT
        obtain ⟨e', s, r, l', rfl, hl', h1, h2⟩ := lentEnd_ok h
        rw [hc]
        refine .lent hlt hk (by simpa using hl') (fun hh => (by cases hh)) (fun _ => hok.conL hA hlen hT (List.getElem?_eq_some_iff.1 hk).1 ?_)
        rw [← startL_st]
        exact run_ok ih _ _ _ _ _ h1 h2
      · cases h
theorem callF_con {P : Program} (hFs : ∀ F ∈ Fs, F.Ok P) (horc : ∀ c ds d, orc c ds = some d → ConX P [] c ds d) {n : Nat} {f : FuncId} {ds : List D} {d : D} (h : callF Fs orc n f ds = some d) (hf : f < LB := by decide) : Con P [] f ds d :=
  (callF_ok hFs horc n f ds d h).con hf
end
end Go.Proofs.Ytlnhembcfhfpkaa.M
