/- The small machine: operations that do not touch one another may change places. The small machine: operations change places. The small machine: a region that draws its order. The small machine: regions, in their own order and in any. The small machine: code, and functions. The small machine: a function's contract out of its code. The small machine: states written out; what may be forgotten. -/
import Derived.Test.YtlnhembcfhfpkaaMOx
section
namespace Go.Proofs.Ytlnhembcfhfpkaa.M
open Go.RowKit
def optL {α : Type} : Option α → List α
  | some x => [x]
  | none => []
def AOp.opds : AOp → List Opd
  | .mov x | .nilCheck x | .box _ _ x | .load _ _ x | .un _ x | .conv _ x | .strB x | .bytS _ x | .fieldAddr _ _ _ x | .field _ _ _ x | .extract x _ | .len x | .lenS x => [x]
  | .pick c a b => [c, a, b]
  | .alloc _ _ _ => []
  | .build _ ps => ps.map (·.2.2)
  | .buildSlice _ _ _ _ ps => ps.map (·.2)
  | .buildSliceF _ _ _ _ ps => ps.map (·.2)
  | .store _ x v | .bin _ _ x v | .eqs _ _ x v | .indexAddr _ x v | .index x v | .indexAddrA _ _ _ x v | .indexA _ _ _ x v | .makeSlice _ _ _ _ x v | .append _ _ _ x v | .appendF _ _ _ x v | .mm _ x v => [x, v]
  | .slice _ x lo hi mx => [x] ++ optL lo ++ optL hi ++ optL mx
  | .sliceA _ x lo hi mx => [x] ++ optL lo ++ optL hi ++ optL mx
  | .copyA x y => [x, y]
  | .clearS _ _ x => [x]
  | .isNil _ x => [x]
  | .sliceS x lo hi => [x] ++ optL lo ++ optL hi
  | .call _ args => args
  | .callL _ _ args => args
  | .callN _ _ args => args
  | .copyS _ _ _ y | .copyF _ _ _ y => [y]
  | .bad => []
  | .callv _ x args => x :: args
  | .fnv _ a b => a ++ b
section
variable {r r' : Nat → AV} {m m' : Mem}
theorem fillA_congr : ∀ (ps : List (Nat × Nat × Opd)) (l : List AV), (∀ x ∈ ps.map (·.2.2), x.ev r = x.ev r') → fillA l r ps = fillA l r' ps
  | [], _, _ => rfl
  | (off, sz, x) :: ps, l, h => by
    have h1 := h x (by simp)
    simp only [fillA, h1]
    split
    · exact fillA_congr ps _ (fun y hy => h y (by simp at hy ⊢; exact .inr hy))
    · rfl
theorem fillR_congr (sz : Nat) : ∀ (ps : List (Nat × Opd)) (l : List D), (∀ x ∈ ps.map (·.2), x.ev r = x.ev r') → fillR sz l r m ps = fillR sz l r' m ps
  | [], _, _ => rfl
  | (i, x) :: ps, l, h => by
    have h1 := h x (by simp)
    simp only [fillR, h1]
    split
    · split
      · exact fillR_congr sz ps _ (fun y hy => h y (by simp at hy ⊢; exact .inr hy))
      · rfl
    · rfl
theorem bounds_congr {len : Nat} {lo hi mx : Option Opd} (h : ∀ x ∈ optL lo ++ optL hi ++ optL mx, x.ev r = x.ev r') : bounds r len lo hi mx = bounds r' len lo hi mx := by
  unfold bounds
  have h1 : ∀ x, lo = some x → x.ev r = x.ev r' := fun x hx => h x (by simp [hx, optL])
  have h2 : ∀ x, hi = some x → x.ev r = x.ev r' := fun x hx => h x (by simp [hx, optL])
  have h3 : ∀ x, mx = some x → x.ev r = x.ev r' := fun x hx => h x (by simp [hx, optL])
  cases lo <;> cases hi <;> cases mx <;> simp_all
theorem opdsD_congr : ∀ (l : List Opd), (∀ x ∈ l, x.ev r = x.ev r') → opdsD r m l = opdsD r' m l
  | [], _ => rfl
  | x :: l, h => by
    simp only [opdsD, h x (by simp), opdsD_congr l (fun y hy => h y (by simp [hy]))]
theorem argsD_congr : ∀ (l : List Opd), (∀ x ∈ l, x.ev r = x.ev r') → argsD ⟨r, m⟩ l = argsD ⟨r', m⟩ l
  | [], _ => rfl
  | x :: l, h => by
    simp only [argsD, h x (by simp), argsD_congr l (fun y hy => h y (by simp [hy]))]
def outM : Option (Bool × AV × St) → Option (Bool × AV × Mem)
  | some (p, v, s) => some (p, v, s.m)
  | none => none
theorem ev_congr (o : AOp) (id : Nat) (h : ∀ x ∈ o.opds, x.ev r = x.ev r') : outM (ev o id ⟨r, m⟩) = outM (ev o id ⟨r', m⟩) := by
  cases o with
  | build z ps => simp only [ev, fillA_congr ps z h]; split <;> rfl
  | buildSlice T sz z n ps => simp only [ev, fillR_congr (m := m) sz ps _ h]; (repeat' split) <;> rfl
  | buildSliceF T sz z n ps => simp only [ev, fillR_congr (m := m) sz ps _ h]; (repeat' split) <;> rfl
  | slice sz x lo hi mx =>
    have hb := fun n => bounds_congr (r := r) (r' := r') (len := n) (lo := lo) (hi := hi) (mx := mx) (fun y hy => h y (by simp only [AOp.opds, List.append_assoc, List.mem_append] at hy ⊢; exact .inr hy))
    have hx := h x (by simp [AOp.opds])
    simp only [ev, hx, hb]
    (repeat' split) <;> rfl
  | sliceA sz x lo hi mx =>
    have hb := fun n => bounds_congr (r := r) (r' := r') (len := n) (lo := lo) (hi := hi) (mx := mx) (fun y hy => h y (by simp only [AOp.opds, List.append_assoc, List.mem_append] at hy ⊢; exact .inr hy))
    have hx := h x (by simp [AOp.opds])
    simp only [ev, hx, hb]
    (repeat' split) <;> rfl
  | sliceS x lo hi =>
    have hb := fun n => bounds_congr (r := r) (r' := r') (len := n) (lo := lo) (hi := hi) (mx := none) (fun y hy => h y (by
      simp only [AOp.opds, List.mem_append] at hy ⊢
      rcases hy with (hy | hy) | hy
      · exact .inl (.inr hy)
      · exact .inr hy
      · cases hy))
    have hx := h x (by simp [AOp.opds])
    simp only [ev, hx, hb]
    (repeat' split) <;> rfl
  | call f args => rfl
  | callL f k args => rfl
  | callN f T args => rfl
  | callv fs x args => rfl
  | fnv f a b =>
    have h1 := opdsD_congr (m := m) a (fun x hx => h x (by simp [AOp.opds, hx]))
    have h2 := opdsD_congr (m := m) b (fun x hx => h x (by simp [AOp.opds, hx]))
    simp only [ev, h1, h2]; (repeat' split) <;> rfl
  | bad => rfl
  | isNil neg x => rfl
  | clearS sz z x => have h1 := h x (by simp [AOp.opds]); simp only [ev, h1]; (repeat' split) <;> rfl
  | copyA x v =>
    have h1 := h x (by simp [AOp.opds]); have h2 := h v (by simp [AOp.opds])
    simp only [ev, h1, h2]; (repeat' split) <;> rfl
  | copyS T sz b y => have h1 := h y (by simp [AOp.opds]); simp only [ev, h1]; (repeat' split) <;> rfl
  | copyF T sz b y => have h1 := h y (by simp [AOp.opds]); simp only [ev, h1]; (repeat' split) <;> rfl
  | indexAddrA n esz ag x v =>
    have h1 := h x (by simp [AOp.opds]); have h2 := h v (by simp [AOp.opds])
    simp only [ev, h1, h2]; (repeat' split) <;> rfl
  | indexA n esz ag x v =>
    have h1 := h x (by simp [AOp.opds]); have h2 := h v (by simp [AOp.opds])
    simp only [ev, h1, h2]; (repeat' split) <;> rfl
  | append T sz b x y => rfl
  | appendF T sz b x y => rfl
  | alloc T sz z => simp only [ev]; split <;> rfl
  | pick c a b =>
    have h1 := h c (by simp [AOp.opds]); have h2 := h a (by simp [AOp.opds]); have h3 := h b (by simp [AOp.opds])
    simp only [ev, h1, h2, h3]; (repeat' split) <;> rfl
  | store sz x v =>
    have h1 := h x (by simp [AOp.opds]); have h2 := h v (by simp [AOp.opds])
    simp only [ev, h1, h2]; (repeat' split) <;> rfl
  | bin bo op x v =>
    have h1 := h x (by simp [AOp.opds]); have h2 := h v (by simp [AOp.opds])
    simp only [ev, h1, h2]; (repeat' split) <;> rfl
  | eqs n neg x v =>
    have h1 := h x (by simp [AOp.opds]); have h2 := h v (by simp [AOp.opds])
    simp only [ev, h1, h2]; (repeat' split) <;> rfl
  | indexAddr sz x v =>
    have h1 := h x (by simp [AOp.opds]); have h2 := h v (by simp [AOp.opds])
    simp only [ev, h1, h2]; (repeat' split) <;> rfl
  | index x v =>
    have h1 := h x (by simp [AOp.opds]); have h2 := h v (by simp [AOp.opds])
    simp only [ev, h1, h2]; (repeat' split) <;> rfl
  | makeSlice T sz b z x v =>
    have h1 := h x (by simp [AOp.opds]); have h2 := h v (by simp [AOp.opds])
    simp only [ev, h1, h2]; (repeat' split) <;> rfl
  | mov x => have h1 := h x (by simp [AOp.opds]); simp only [ev, h1]; rfl
  | nilCheck x => have h1 := h x (by simp [AOp.opds]); simp only [ev, h1]; (repeat' split) <;> rfl
  | box T sz x => have h1 := h x (by simp [AOp.opds]); simp only [ev, h1]; (repeat' split) <;> rfl
  | load ag sz x => have h1 := h x (by simp [AOp.opds]); simp only [ev, h1]; (repeat' split) <;> rfl
  | un op x => have h1 := h x (by simp [AOp.opds]); simp only [ev, h1]; (repeat' split) <;> rfl
  | strB x => have h1 := h x (by simp [AOp.opds]); simp only [ev, h1]; (repeat' split) <;> rfl
  | bytS T x => have h1 := h x (by simp [AOp.opds]); simp only [ev, h1]; (repeat' split) <;> rfl
  | conv k x => have h1 := h x (by simp [AOp.opds]); simp only [ev, h1]; (repeat' split) <;> rfl
  | fieldAddr off sz ag x => have h1 := h x (by simp [AOp.opds]); simp only [ev, h1]; (repeat' split) <;> rfl
  | field off sz ag x => have h1 := h x (by simp [AOp.opds]); simp only [ev, h1]; (repeat' split) <;> rfl
  | extract x i => have h1 := h x (by simp [AOp.opds]); simp only [ev, h1]; (split <;> (try rfl)) <;> (rename_i l _; cases l[i]? <;> rfl)
  | len x => have h1 := h x (by simp [AOp.opds]); simp only [ev, h1]; (repeat' split) <;> rfl
  | mm mx x v =>
    have h1 := h x (by simp [AOp.opds]); have h2 := h v (by simp [AOp.opds])
    simp only [ev, h1, h2]; (repeat' split) <;> rfl
  | lenS x => have h1 := h x (by simp [AOp.opds]); simp only [ev, h1]; (repeat' split) <;> rfl
theorem ev_r {o : AOp} {id : Nat} {s t : St} {p : Bool} {v : AV} (h : ev o id s = some (p, v, t)) : t.r = s.r := by
  cases o <;> simp only [ev] at h <;>
    ((repeat' (split at h)) <;> simp only [Option.some.injEq, Prod.mk.injEq, reduceCtorEq, Option.map_eq_some_iff] at h <;>
      first
        | (obtain ⟨-, -, rfl⟩ := h; rfl)
        | (obtain ⟨_, -, -, -, rfl⟩ := h; rfl))
end
def AOp.kind : AOp → Nat
  | .mov _ | .nilCheck _ | .pick .. | .build .. | .bin .. | .eqs .. | .un .. | .conv .. | .sliceS .. | .fieldAddr .. | .field .. | .index .. | .indexAddrA .. | .indexA .. | .extract .. | .len _ | .lenS _ | .mm .. => 0
  | .load .. | .strB .. | .slice .. | .sliceA .. | .indexAddr .. | .call .. | .callv .. | .fnv .. => 1
  | .alloc .. | .box .. | .makeSlice .. | .bytS .. => 2
  | .buildSlice .. | .buildSliceF .. | .copyS .. | .copyF .. | .callN .. => 3
  | .store .. => 4
  | _ => 5
def Out (G : FuncId → List D → D → Prop) (c : COp) (r : Nat → AV) (m : Mem) (v : AV) (m' : Mem) : Prop :=
  match c.op with
  | .call f args => ∃ ds d, argsD ⟨r, m⟩ args = some ds ∧ G f ds d ∧ v = .p d ∧ m' = m
  | .callv fs x args => ∃ f a b ds d, (x.ev r).toD false m 20 = some (.fn (.func f) a b) ∧ argsD ⟨r, m⟩ args = some ds ∧ fs.contains f = true ∧ G f (a ++ ds ++ b) d ∧ v = .p d ∧ m' = m
  | .callN f T args => ∃ ds sz l, argsD ⟨r, m⟩ args = some ds ∧ m (c.dst.getD 0) = none ∧ G (f + LB * (8 + 1)) ds (.list T sz l) ∧ v = .slice (c.dst.getD 0) 0 l.length ∧ m' = upd m (c.dst.getD 0) (some ⟨T, sz, .row l, false⟩)
  | op => outM (ev op (c.dst.getD 0) ⟨r, m⟩) = some (true, v, m')
def GOut (G : FuncId → List D → D → Prop) (c : COp) (r : Nat → AV) (m : Mem) (v : AV) (m' : Mem) : Prop :=
  match c.guard with
  | none => Out G c r m v m'
  | some (g, want) => (∃ b, r g = .p (.bool b) ∧ ((b = want ∧ Out G c r m v m') ∨ (b ≠ want ∧ v = .p (.tup []) ∧ m' = m))) ∨ (r g = .p (.tup []) ∧ v = .p (.tup []) ∧ m' = m)
def putr (r : Nat → AV) : Option Nat → AV → Nat → AV
  | some t, v => upd r t v
  | none, _ => r
section
variable {G : FuncId → List D → D → Prop} {c c1 c2 : COp} {K K' : St → Prop} {s : St} {r r' : Nat → AV} {m m' : Mem} {v : AV}
theorem put_eq (r : Nat → AV) (m : Mem) (t : Option Nat) (v : AV) : St.put ⟨r, m⟩ t v = ⟨putr r t v, m⟩ := by cases t <;> rfl
theorem step_out (hkind : c.op.kind ≠ 5) : step G c K ⟨r, m⟩ ↔ ∃ v m', Out G c r m v m' ∧ K ⟨putr r c.dst v, m'⟩ := by
  have other : (∀ f args, c.op ≠ .call f args) → (∀ fs x args, c.op ≠ .callv fs x args) → (∀ f T args, c.op ≠ .callN f T args) → (step G c K ⟨r, m⟩ ↔ ∃ v m', outM (ev c.op (c.dst.getD 0) ⟨r, m⟩) = some (true, v, m') ∧ K ⟨putr r c.dst v, m'⟩) := by
    intro hn hn2 hn3
    have hs : step G c K ⟨r, m⟩ = (match ev c.op (c.dst.getD 0) ⟨r, m⟩ with
      | some (p, v, t) => p = true ∧ K (t.put c.dst v)
      | none => False) := by
      unfold step
      cases hc : c.op <;> first | (exact absurd hc (hn _ _)) | (exact absurd hc (hn2 _ _ _)) | (exact absurd hc (hn3 _ _ _)) | rfl | (exact absurd (by rw [hc]; rfl) hkind)
    rw [hs]
    cases he : ev c.op (c.dst.getD 0) ⟨r, m⟩ with
    | none => simp [outM]
    | some x =>
      obtain ⟨p, v, t⟩ := x
      have hr := ev_r he
      obtain ⟨tr, tm⟩ := t
      simp only at hr
      subst hr
      simp only [outM, Option.some.injEq, Prod.mk.injEq, put_eq]
      constructor
      · rintro ⟨rfl, hk⟩; exact ⟨v, tm, ⟨rfl, rfl, rfl⟩, hk⟩
      · rintro ⟨v', m', ⟨rfl, rfl, rfl⟩, hk⟩; exact ⟨rfl, hk⟩
  by_cases hcall : ∃ f args, c.op = .call f args
  · obtain ⟨f, args, hop⟩ := hcall
    unfold step Out
    rw [hop]
    simp only
    constructor
    · intro h
      split at h
      · rename_i ds hds
        obtain ⟨d, hg, hk⟩ := h
        rw [put_eq] at hk
        exact ⟨_, m, ⟨ds, d, hds, hg, rfl, rfl⟩, hk⟩
      · exact h.elim
    · rintro ⟨v, m', ⟨ds, d, hds, hg, rfl, rfl⟩, hk⟩
      rw [hds]
      exact ⟨d, hg, by rw [put_eq]; exact hk⟩
  by_cases hcv : ∃ fs x args, c.op = .callv fs x args
  · obtain ⟨fs, x, args, hop⟩ := hcv
    unfold step Out
    rw [hop]
    simp only
    constructor
    · intro h
      split at h
      case h_2 => exact h.elim
      rename_i f a b ds hfv hds
      obtain ⟨h1, d, hg, hk⟩ := h
      rw [put_eq] at hk
      exact ⟨_, m, ⟨f, a, b, ds, d, hfv, hds, h1, hg, rfl, rfl⟩, hk⟩
    · rintro ⟨v, m', ⟨f, a, b, ds, d, hfv, hds, h1, hg, rfl, rfl⟩, hk⟩
      rw [hfv, hds]
      exact ⟨h1, d, hg, by rw [put_eq]; exact hk⟩
  by_cases hcn : ∃ f T args, c.op = .callN f T args
  · obtain ⟨f, T, args, hop⟩ := hcn
    unfold step Out
    rw [hop]
    simp only
    constructor
    · intro h
      split at h
      case h_2 => exact h.elim
      rename_i ds hds
      split at h
      case h_2 => exact h.elim
      rename_i hid
      obtain ⟨sz, l, hg, hk⟩ := h
      rw [put_eq] at hk
      exact ⟨_, _, ⟨ds, sz, l, hds, hid, hg, rfl, rfl⟩, hk⟩
    · rintro ⟨v, m', ⟨ds, sz, l, hds, hid, hg, rfl, rfl⟩, hk⟩
      rw [hds]
      simp only [hid]
      exact ⟨sz, l, hg, by rw [put_eq]; exact hk⟩
  · have hn : ∀ f args, c.op ≠ .call f args := fun f args h => hcall ⟨f, args, h⟩
    have hn2 : ∀ fs x args, c.op ≠ .callv fs x args := fun fs x args h => hcv ⟨fs, x, args, h⟩
    have hn3 : ∀ f T args, c.op ≠ .callN f T args := fun f T args h => hcn ⟨f, T, args, h⟩
    rw [other hn hn2 hn3]
    have ho : ∀ v m', Out G c r m v m' = (outM (ev c.op (c.dst.getD 0) ⟨r, m⟩) = some (true, v, m')) := by
      intro v m'
      unfold Out
      cases hc : c.op <;> first | (exact absurd hc (hn _ _)) | (exact absurd hc (hn2 _ _ _)) | (exact absurd hc (hn3 _ _ _)) | rfl
    simp only [ho]
theorem gstep_out (hkind : c.op.kind ≠ 5) : gstep G c K ⟨r, m⟩ ↔ ∃ v m', GOut G c r m v m' ∧ K ⟨putr r c.dst v, m'⟩ := by
  unfold gstep GOut
  cases hg : c.guard with
  | none => exact step_out hkind
  | some x =>
    obtain ⟨g, want⟩ := x
    simp only
    constructor
    · intro h
      split at h
      · rename_i b hb
        split at h
        · rename_i hbw
          obtain ⟨v, m', h1, h2⟩ := (step_out hkind).1 h
          exact ⟨v, m', .inl ⟨b, hb, .inl ⟨hbw, h1⟩⟩, h2⟩
        · rename_i hbw
          rw [put_eq] at h
          exact ⟨.p (.tup []), m, .inl ⟨b, hb, .inr ⟨hbw, rfl, rfl⟩⟩, h⟩
      · rename_i hb
        rw [put_eq] at h
        exact ⟨.p (.tup []), m, .inr ⟨hb, rfl, rfl⟩, h⟩
      · exact h.elim
    · rintro ⟨v, m', ⟨b, hb, h1⟩ | ⟨hb, rfl, rfl⟩, h2⟩
      · rw [hb]
        simp only
        rcases h1 with ⟨hbw, h1⟩ | ⟨hbw, rfl, rfl⟩
        · rw [if_pos hbw]; exact (step_out hkind).2 ⟨v, m', h1, h2⟩
        · rw [if_neg hbw, put_eq]; exact h2
      · rw [hb]
        simp only
        rw [put_eq]; exact h2
theorem step_mono (h : step G c K s) (hk : ∀ t, K t → K' t) : step G c K' s := by
  unfold step at *
  split at h
  · split at h
    · obtain ⟨d, h1, h2⟩ := h; exact ⟨d, h1, hk _ h2⟩
    · exact h.elim
  · split at h
    · exact ⟨h.1, hk _ h.2⟩
    · exact h.elim
  · split at h
    · exact ⟨h.1, hk _ h.2⟩
    · exact h.elim
  · split at h
    case h_2 => exact h.elim
    split at h
    case h_2 => exact h.elim
    split at h
    case h_2 => exact h.elim
    obtain ⟨h1, r, l', h2, h3⟩ := h
    exact ⟨h1, r, l', h2, hk _ h3⟩
  · split at h
    case h_2 => exact h.elim
    obtain ⟨h1, d, h2, h3⟩ := h
    exact ⟨h1, d, h2, hk _ h3⟩
  · split at h
    case h_2 => exact h.elim
    split at h
    case h_2 => exact h.elim
    obtain ⟨sz, l, h2, h3⟩ := h
    exact ⟨sz, l, h2, hk _ h3⟩
  · split at h
    · exact hk _ h
    · exact fun b hb => hk _ (h b hb)
    · exact h.elim
  · split at h
    · exact ⟨h.1, hk _ h.2⟩
    · exact h.elim
theorem gstep_mono (h : gstep G c K s) (hk : ∀ t, K t → K' t) : gstep G c K' s := by
  unfold gstep at *
  split at h
  · exact step_mono h hk
  · split at h
    · split at h
      · rename_i hb
        rw [if_pos hb]
        exact step_mono h hk
      · rename_i hb
        rw [if_neg hb]
        exact hk _ h
    · exact hk _ h
    · exact h.elim
theorem cops_mono : ∀ (l : List COp) (s : St), cops G l K s → (∀ t, K t → K' t) → cops G l K' s
  | [], _, h, hk => hk _ h
  | _ :: l, _, h, hk => gstep_mono h fun t ht => cops_mono l t ht hk
def readsL : List Opd → List Nat
  | [] => []
  | .t n :: l => n :: readsL l
  | .k _ :: l => readsL l
def COp.reads (c : COp) : List Nat := readsL c.op.opds ++ (match c.guard with | some (g, _) => [g] | none => [])
theorem readsL_ev : ∀ (l : List Opd), (∀ n ∈ readsL l, r n = r' n) → ∀ x ∈ l, x.ev r = x.ev r'
  | .t n :: l, h, x, hx => by
    rcases List.mem_cons.1 hx with rfl | hx
    · exact h n (by simp [readsL])
    · exact readsL_ev l (fun k hk => h k (by simp [readsL, hk])) x hx
  | .k v :: l, h, x, hx => by
    rcases List.mem_cons.1 hx with rfl | hx
    · rfl
    · exact readsL_ev l (fun k hk => h k (by simpa [readsL] using hk)) x hx
theorem Out.congr (h : ∀ n ∈ readsL c.op.opds, r n = r' n) (ho : Out G c r m v m') : Out G c r' m v m' := by
  have hx := readsL_ev (r := r) (r' := r') c.op.opds h
  unfold Out at *
  have hev := ev_congr (m := m) c.op (c.dst.getD 0) hx
  cases hc : c.op <;> simp only [hc] at ho hev hx ⊢ <;> first | (rw [← hev]; exact ho) | skip
  · obtain ⟨ds, d, h1, h2, h3, h4⟩ := ho
    exact ⟨ds, d, by have hq := argsD_congr (m := m) (r := r) (r' := r') _ hx; simp only [AOp.opds] at hq; rw [← hq]; exact h1, h2, h3, h4⟩
  · obtain ⟨f, a, b, ds, d, h0, h1, h2, h3, h4, h5⟩ := ho
    simp only [AOp.opds, List.mem_cons] at hx
    exact ⟨f, a, b, ds, d, by rw [← hx _ (.inl rfl)]; exact h0, by rw [← argsD_congr (m := m) (r := r) (r' := r') _ (fun y hy => hx y (.inr hy))]; exact h1, h2, h3, h4, h5⟩
  · obtain ⟨ds, sz, l, h1, h2, h3, h4, h5⟩ := ho
    exact ⟨ds, sz, l, by have hq := argsD_congr (m := m) (r := r) (r' := r') _ hx; simp only [AOp.opds] at hq; rw [← hq]; exact h1, h2, h3, h4, h5⟩
theorem GOut.congr (h : ∀ n ∈ c.reads, r n = r' n) (ho : GOut G c r m v m') : GOut G c r' m v m' := by
  have hx : ∀ n ∈ readsL c.op.opds, r n = r' n := fun n hn => h n (by simp [COp.reads, hn])
  unfold GOut at *
  cases hg : c.guard with
  | none => rw [hg] at ho; exact ho.congr hx
  | some x =>
    obtain ⟨g, want⟩ := x
    rw [hg] at ho
    simp only at ho ⊢
    have e : r g = r' g := h g (by simp [COp.reads, hg])
    rcases ho with ⟨b, hb, h1⟩ | ⟨hb, h1⟩
    · exact .inl ⟨b, by rw [← e]; exact hb, h1.imp (fun h1 => ⟨h1.1, h1.2.congr hx⟩) id⟩
    · exact .inr ⟨by rw [← e]; exact hb, h1⟩
end
end Go.Proofs.Ytlnhembcfhfpkaa.M
end

section
namespace Go.Proofs.Ytlnhembcfhfpkaa.M
open Go.RowKit
section
variable {G : FuncId → List D → D → Prop} {c c1 c2 : COp} {K K' : St → Prop} {s : St} {r r' : Nat → AV} {m m' : Mem} {v : AV}
theorem outM_some {x : Option (Bool × AV × St)} {p : Bool} {v : AV} {m : Mem} (h : outM x = some (p, v, m)) : ∃ t, x = some (p, v, t) ∧ t.m = m := by
  cases x with
  | none => simp [outM] at h
  | some x => obtain ⟨p', v', t⟩ := x; simp only [outM, Option.some.injEq, Prod.mk.injEq] at h; obtain ⟨rfl, rfl, rfl⟩ := h; exact ⟨t, rfl, rfl⟩
theorem ev_pure {o : AOp} {id : Nat} (hk : o.kind = 0) (m m2 : Mem) : outM (ev o id ⟨r, m⟩) = (outM (ev o id ⟨r, m2⟩)).map (fun x => (x.1, x.2.1, m)) := by
  cases o <;> simp only [AOp.kind, reduceCtorEq] at hk <;> try omega
  case extract x i => simp only [ev]; (split <;> (try rfl)) <;> (rename_i l _; cases l[i]? <;> rfl)
  all_goals (simp only [ev]; (repeat' split) <;> rfl)
theorem Out.pure (hk : c.op.kind = 0) (h : Out G c r m v m') : m' = m ∧ ∀ m2, Out G c r m2 v m2 := by
  have hn : ∀ f args, c.op ≠ .call f args := by intro f args e; rw [e] at hk; simp [AOp.kind] at hk
  have hn2 : ∀ fs x args, c.op ≠ .callv fs x args := by intro fs x args e; rw [e] at hk; simp [AOp.kind] at hk
  have hn3 : ∀ f T args, c.op ≠ .callN f T args := by intro f T args e; rw [e] at hk; simp [AOp.kind] at hk
  have ho : ∀ m v m', Out G c r m v m' = (outM (ev c.op (c.dst.getD 0) ⟨r, m⟩) = some (true, v, m')) := by
    intro m v m'
    unfold Out
    cases hc : c.op <;> first | (exact absurd hc (hn _ _)) | (exact absurd hc (hn2 _ _ _)) | (exact absurd hc (hn3 _ _ _)) | rfl
  rw [ho] at h
  have key : ∀ m2, outM (ev c.op (c.dst.getD 0) ⟨r, m2⟩) = some (true, v, m2) := by
    intro m2
    rw [ev_pure hk m2 m, h]
    rfl
  have := key m
  rw [h] at this
  simp only [Option.some.injEq, Prod.mk.injEq, true_and] at this
  exact ⟨this, fun m2 => by rw [ho]; exact key m2⟩
theorem toD_more {any : Bool} {M M' : Mem} (h : ∀ i o, M i = some o → M' i = some o) : ∀ (n : Nat), (∀ (x : AV) (d : D), x.toD any M n = some d → x.toD any M' n = some d) ∧ (∀ (l : List AV) (ds : List D), toDL any M n l = some ds → toDL any M' n l = some ds) := by
  intro n
  induction n with
  | zero => exact ⟨fun x d hd => by simp [AV.toD] at hd, fun l ds hd => by simp [toDL] at hd⟩
  | succ n ih =>
    refine ⟨fun x d hd => ?_, fun l ds hd => ?_⟩
    · cases x with
      | und => simp [AV.toD] at hd
      | p e => simpa [AV.toD] using hd
      | nils T sz => simpa [AV.toD] using hd
      | agg l =>
        simp only [AV.toD, Option.map_eq_some_iff] at hd ⊢
        obtain ⟨ds, h1, h2⟩ := hd
        exact ⟨ds, ih.2 l ds h1, h2⟩
      | tup l =>
        simp only [AV.toD, Option.map_eq_some_iff] at hd ⊢
        obtain ⟨ds, h1, h2⟩ := hd
        exact ⟨ds, ih.2 l ds h1, h2⟩
      | slice i off len =>
        simp only [AV.toD] at hd ⊢
        split at hd
        case h_2 => cases hd
        rename_i o ho
        rw [h i o ho]
        exact hd
      | arr i off len =>
        simp only [AV.toD] at hd ⊢
        split at hd
        case h_2 => cases hd
        rename_i o ho
        rw [h i o ho]
        exact hd
      | ptr i j off =>
        simp only [AV.toD] at hd ⊢
        split at hd
        case isFalse => cases hd
        rename_i hij
        rw [if_pos hij]
        split at hd
        case h_2 => cases hd
        rename_i o ho
        rw [h i o ho]
        simp only
        split at hd
        case h_2 => cases hd
        rename_i u hu
        (try rw [hu])
        (try simp only)
        split at hd
        case isFalse => cases hd
        rename_i hf
        rw [if_pos hf]
        simp only [Option.map_eq_some_iff] at hd ⊢
        obtain ⟨e, h1, h2⟩ := hd
        exact ⟨e, ih.1 u e h1, h2⟩
    · cases l with
      | nil => simpa [toDL] using hd
      | cons x l =>
        simp only [toDL] at hd ⊢
        split at hd
        case h_2 => cases hd
        rename_i d ds' h1 h2
        rw [ih.1 x d h1, ih.2 l ds' h2]
        exact hd
theorem argsD_more {M M' : Mem} (h : ∀ i o, M i = some o → M' i = some o) : ∀ (l : List Opd) (ds : List D), argsD ⟨r, M⟩ l = some ds → argsD ⟨r, M'⟩ l = some ds
  | [], ds, hd => by simpa [argsD] using hd
  | x :: l, ds, hd => by
    simp only [argsD] at hd ⊢
    split at hd
    case h_2 => cases hd
    rename_i d ds' h1 h2
    rw [(toD_more h 20).1 _ _ h1, argsD_more h l ds' h2]
    exact hd
theorem opdsD_more {M M' : Mem} (h : ∀ i o, M i = some o → M' i = some o) : ∀ (l : List Opd) (ds : List D), opdsD r M l = some ds → opdsD r M' l = some ds
  | [], ds, hd => by simpa [opdsD] using hd
  | x :: l, ds, hd => by
    simp only [opdsD] at hd ⊢
    split at hd
    case h_2 => cases hd
    rename_i d ds' h1 h2
    rw [(toD_more h 20).1 _ _ h1, opdsD_more h l ds' h2]
    exact hd
theorem elemsOf_more {sz : Nat} {m m2 : Mem} {v : AV} {ys : List D} (hm : ∀ i o, m i = some o → m2 i = some o) (h : elemsOf sz m v = some ys) : elemsOf sz m2 v = some ys := by
  unfold elemsOf at h ⊢
  split at h
  · split at h
    case h_2 => cases h
    rename_i h1
    simp only [hm _ _ h1]
    exact h
  · exact h
  · exact h
  · cases h
theorem Out.read (hk : c.op.kind = 1) (h : Out G c r m v m') : m' = m ∧ ∀ m2, (∀ i o, m i = some o → m2 i = some o) → Out G c r m2 v m2 := by
  unfold Out at *
  cases hc : c.op <;> simp only [hc, AOp.kind, reduceCtorEq] at hk h ⊢ <;> try omega
  case call f args =>
    obtain ⟨ds, d, h1, h2, h3, rfl⟩ := h
    exact ⟨rfl, fun m2 hm => ⟨ds, d, argsD_more hm _ _ h1, h2, h3, (by first | rfl | trivial)⟩⟩
  case callv fs x args =>
    obtain ⟨f, a, b, ds, d, h0, h1, h2, h3, h4, rfl⟩ := h
    exact ⟨rfl, fun m2 hm => ⟨f, a, b, ds, d, (toD_more hm 20).1 _ _ h0, argsD_more hm _ _ h1, h2, h3, h4, (by first | rfl | trivial)⟩⟩
  case strB x =>
    obtain ⟨t, h1, rfl⟩ := outM_some h
    simp only [ev] at h1 ⊢
    split at h1
    case h_2 => cases h1
    rename_i ys hys
    split at h1
    case h_2 => cases h1
    rename_i b hb
    simp only [Option.some.injEq, Prod.mk.injEq, true_and] at h1
    obtain ⟨rfl, rfl⟩ := h1
    exact ⟨rfl, fun m2 hm2 => by rw [elemsOf_more hm2 hys]; simp only [hb]; rfl⟩
  case fnv fn x y =>
    obtain ⟨t, h1, rfl⟩ := outM_some h
    simp only [ev] at h1 ⊢
    split at h1
    case h_2 => cases h1
    rename_i l k hl hk'
    simp only [Option.some.injEq, Prod.mk.injEq, true_and] at h1
    obtain ⟨rfl, rfl⟩ := h1
    exact ⟨rfl, fun m2 hm2 => by rw [opdsD_more hm2 _ _ hl, opdsD_more hm2 _ _ hk']; rfl⟩
  case load ag sz x =>
    obtain ⟨t, h1, rfl⟩ := outM_some h
    simp only [ev] at h1 ⊢
    split at h1
    · rename_i i j off hx
      (try rw [hx])
      (try simp only)
      split at h1
      · rename_i T osz l frz hm
        split at h1
        case h_2 => cases h1
        rename_i u hu
        simp only [Option.some.injEq, Prod.mk.injEq] at h1
        obtain ⟨h2, rfl, rfl⟩ := h1
        refine ⟨rfl, fun m2 hm2 => ?_⟩
        rw [hm2 _ _ hm]
        simp only [hu, h2]
        rfl
      · rename_i T osz u frz hm
        split at h1
        case isFalse => cases h1
        rename_i hj
        split at h1
        case h_2 => cases h1
        rename_i z hz
        simp only [Option.some.injEq, Prod.mk.injEq, true_and] at h1
        obtain ⟨rfl, rfl⟩ := h1
        refine ⟨rfl, fun m2 hm2 => ?_⟩
        rw [hm2 _ _ hm]
        simp only [hz, hj, if_true]
        rfl
      · cases h1
    · rename_i e hx
      (try rw [hx])
      (try simp only)
      split at h1
      case isFalse => cases h1
      rename_i hag
      simp only [Option.some.injEq, Prod.mk.injEq] at h1
      obtain ⟨h2, rfl, rfl⟩ := h1
      refine ⟨rfl, fun m2 hm2 => ?_⟩
      rw [if_pos hag, h2]
      rfl
    · cases h1
  case slice sz x lo hi mx =>
    obtain ⟨t, h1, rfl⟩ := outM_some h
    simp only [ev] at h1 ⊢
    split at h1
    · rename_i T sz' l hx
      (try rw [hx])
      (try simp only)
      split at h1
      case isFalse => cases h1
      rename_i hs
      split at h1
      case h_2 => cases h1
      rename_i cc a b hb
      simp only [Option.some.injEq, Prod.mk.injEq] at h1
      obtain ⟨h2, rfl, rfl⟩ := h1
      exact ⟨rfl, fun m2 hm2 => by (try simp only [hs, if_true]); (try simp only [hb]); (try simp only [h2]); rfl⟩
    · rename_i i off len hx
      (try rw [hx])
      (try simp only)
      split at h1
      case h_2 => cases h1
      rename_i ob hob
      split at h1
      case isFalse => cases h1
      rename_i hs
      split at h1
      case h_2 => cases h1
      rename_i cc a b hb
      simp only [Option.some.injEq, Prod.mk.injEq] at h1
      obtain ⟨h2, rfl, rfl⟩ := h1
      exact ⟨rfl, fun m2 hm2 => by rw [hm2 _ _ hob]; (try simp only [hs, if_true]); (try simp only [hb]); (try simp only [h2]); rfl⟩
    · rename_i T sz' hx
      (try rw [hx])
      (try simp only)
      split at h1
      case h_2 => cases h1
      rename_i cc a b hb
      simp only [Option.some.injEq, Prod.mk.injEq] at h1
      obtain ⟨h2, rfl, rfl⟩ := h1
      exact ⟨rfl, fun m2 hm2 => by (try simp only [hb]); (try simp only [h2]); rfl⟩
    · rename_i i off len hx
      (try rw [hx])
      (try simp only)
      split at h1
      case isFalse => cases h1
      rename_i hs
      split at h1
      case h_2 => cases h1
      rename_i cc a b hb
      simp only [Option.some.injEq, Prod.mk.injEq] at h1
      obtain ⟨h2, rfl, rfl⟩ := h1
      exact ⟨rfl, fun m2 hm2 => by (try simp only [hs, if_true]); (try simp only [hb]); (try simp only [h2]); rfl⟩
    · cases h1
  case sliceA n x lo hi mx =>
    obtain ⟨t, h1, rfl⟩ := outM_some h
    simp only [ev] at h1 ⊢
    split at h1
    case h_2 => cases h1
    rename_i i off hx
    (try rw [hx])
    (try simp only)
    split at h1
    case h_2 => cases h1
    rename_i T osz u frz hob
    split at h1
    case isFalse => cases h1
    rename_i hs
    split at h1
    case h_2 => cases h1
    rename_i cc a b hb
    simp only [Option.some.injEq, Prod.mk.injEq] at h1
    obtain ⟨h2, rfl, rfl⟩ := h1
    exact ⟨rfl, fun m2 hm2 => by rw [hm2 _ _ hob]; simp only [if_pos hs]; (try simp only [hb]); (try simp only [h2]); rfl⟩
  case indexAddr sz x i =>
    obtain ⟨t, h1, rfl⟩ := outM_some h
    simp only [ev] at h1 ⊢
    split at h1
    · rename_i T sz' l n hx hi
      (try rw [hx, hi])
      (try simp only)
      split at h1
      case isFalse => cases h1
      rename_i hs
      simp only [Option.some.injEq, Prod.mk.injEq] at h1
      obtain ⟨h2, rfl, rfl⟩ := h1
      exact ⟨rfl, fun m2 hm2 => by (try simp only [hs, if_true]); (try simp only [h2]); rfl⟩
    · rename_i j off len n hx hi
      (try rw [hx, hi])
      (try simp only)
      split at h1
      case h_2 => cases h1
      rename_i ob hob
      split at h1
      case isFalse => cases h1
      rename_i hs
      simp only [Option.some.injEq, Prod.mk.injEq] at h1
      obtain ⟨h2, rfl, rfl⟩ := h1
      exact ⟨rfl, fun m2 hm2 => by rw [hm2 _ _ hob]; (try simp only [hs, if_true]); (try simp only [h2]); rfl⟩
    · rename_i j off len n hx hi
      (try rw [hx, hi])
      (try simp only)
      split at h1
      case isFalse => cases h1
      rename_i hs
      simp only [Option.some.injEq, Prod.mk.injEq] at h1
      obtain ⟨h2, rfl, rfl⟩ := h1
      exact ⟨rfl, fun m2 hm2 => by (try simp only [hs, if_true]); (try simp only [h2]); rfl⟩
    · cases h1
theorem Out.made (hk : c.op.kind = 2) (h : Out G c r m v m') : m (c.dst.getD 0) = none ∧ ∃ ob, m' = upd m (c.dst.getD 0) (some ob) ∧ ∀ m2 : Mem, m2 (c.dst.getD 0) = none → Out G c r m2 v (upd m2 (c.dst.getD 0) (some ob)) := by
  unfold Out at *
  cases hc : c.op <;> simp only [hc, AOp.kind, reduceCtorEq] at hk h ⊢ <;> try omega
  case alloc T sz z =>
    obtain ⟨t, h1, rfl⟩ := outM_some h
    simp only [ev] at h1 ⊢
    split at h1
    case h_2 => cases h1
    rename_i hid
    simp only [Option.some.injEq, Prod.mk.injEq, true_and] at h1
    obtain ⟨rfl, rfl⟩ := h1
    exact ⟨hid, _, rfl, fun m2 hm2 => by rw [hm2]; rfl⟩
  case box T sz x =>
    obtain ⟨t, h1, rfl⟩ := outM_some h
    simp only [ev] at h1 ⊢
    split at h1
    case h_2 => cases h1
    rename_i hid
    split at h1
    case isFalse => cases h1
    rename_i hcc
    simp only [Option.some.injEq, Prod.mk.injEq, true_and] at h1
    obtain ⟨rfl, rfl⟩ := h1
    exact ⟨hid, _, rfl, fun m2 hm2 => by rw [hm2]; simp only; rw [if_pos hcc]; rfl⟩
  case bytS T x =>
    obtain ⟨t, h1, rfl⟩ := outM_some h
    simp only [ev] at h1 ⊢
    split at h1
    case h_2 => cases h1
    rename_i hid
    split at h1
    case h_2 => cases h1
    rename_i q hq
    simp only [Option.some.injEq, Prod.mk.injEq] at h1
    obtain ⟨h2, rfl, rfl⟩ := h1
    exact ⟨hid, _, rfl, fun m2 hm2 => by rw [hm2]; (try simp only [h2]); rfl⟩
  case makeSlice T sz b z l cc =>
    obtain ⟨t, h1, rfl⟩ := outM_some h
    simp only [ev] at h1 ⊢
    split at h1
    case h_2 => cases h1
    rename_i hid
    split at h1
    case h_2 => cases h1
    rename_i n k hn hk
    simp only [Option.some.injEq, Prod.mk.injEq] at h1
    obtain ⟨h2, rfl, rfl⟩ := h1
    exact ⟨hid, _, rfl, fun m2 hm2 => by rw [hm2]; (try simp only [h2]); rfl⟩
theorem Out.built (hk : c.op.kind = 3) (h : Out G c r m v m') : m (c.dst.getD 0) = none ∧ ∃ ob, m' = upd m (c.dst.getD 0) (some ob) := by
  unfold Out at *
  cases hc : c.op <;> simp only [hc, AOp.kind, reduceCtorEq] at hk h ⊢ <;> try omega
  case buildSlice T sz z n ps =>
    obtain ⟨t, h1, rfl⟩ := outM_some h
    simp only [ev] at h1
    split at h1
    case h_2 => cases h1
    rename_i hid
    split at h1
    case h_2 => cases h1
    simp only [Option.some.injEq, Prod.mk.injEq, true_and] at h1
    obtain ⟨rfl, rfl⟩ := h1
    exact ⟨hid, _, rfl⟩
  case buildSliceF T sz z n ps =>
    obtain ⟨t, h1, rfl⟩ := outM_some h
    simp only [ev] at h1
    split at h1
    case isTrue => cases h1
    split at h1
    case h_2 => cases h1
    rename_i hid
    split at h1
    case h_2 => cases h1
    simp only [Option.some.injEq, Prod.mk.injEq, true_and] at h1
    obtain ⟨rfl, rfl⟩ := h1
    exact ⟨hid, _, rfl⟩
  case copyS T sz b y =>
    obtain ⟨t, h1, rfl⟩ := outM_some h
    simp only [ev] at h1
    split at h1
    case h_2 => cases h1
    rename_i ys hid hys
    simp only [Option.some.injEq, Prod.mk.injEq] at h1
    obtain ⟨-, rfl, rfl⟩ := h1
    exact ⟨hid, _, rfl⟩
  case copyF T sz b y =>
    obtain ⟨t, h1, rfl⟩ := outM_some h
    simp only [ev] at h1
    split at h1
    case isTrue => cases h1
    split at h1
    case h_2 => cases h1
    rename_i ys hid hys
    simp only [Option.some.injEq, Prod.mk.injEq] at h1
    obtain ⟨-, rfl, rfl⟩ := h1
    exact ⟨hid, _, rfl⟩
  case callN f T args =>
    obtain ⟨ds, sz, l, h1, h2, h3, rfl, rfl⟩ := h
    exact ⟨h2, _, rfl⟩
def apartV : AV → AV → Bool
  | .ptr i _ _, .ptr j _ _ => i != j
  | .p (.ref _), .ptr _ _ _ => true
  | .ptr _ _ _, .und => true
  | .p (.ref _), .und => true
  | _, _ => false
theorem Out.load_store {ag : Bool} {sz sz2 : Nat} {x y z : Opd} {v2 : AV} {m2 : Mem} (h1 : c1.op = .load ag sz x) (h2 : c2.op = .store sz2 y z) (ha : apartV (x.ev r) (y.ev r) = true) (ho1 : Out G c1 r m v m') (ho2 : Out G c2 r m v2 m2) : Out G c1 r m2 v m2 := by
  have hm2 : ∃ (j : Nat) (o : Nat × Nat) (o' : Option AObj), y.ev r = .ptr j o.1 o.2 ∧ m2 = upd m j o' := by
    unfold Out at ho2
    rw [h2] at ho2
    simp only at ho2
    obtain ⟨t, g1, rfl⟩ := outM_some ho2
    simp only [ev] at g1
    split at g1
    case h_2 => cases g1
    rename_i i j off hy
    split at g1
    · split at g1
      case h_2 => cases g1
      split at g1
      case isFalse => cases g1
      split at g1 <;> simp only [Option.some.injEq, Prod.mk.injEq, reduceCtorEq] at g1
      obtain ⟨-, -, rfl⟩ := g1
      exact ⟨i, (j, off), _, hy, rfl⟩
    · split at g1
      case isFalse => cases g1
      split at g1
      · simp only [Option.some.injEq, Prod.mk.injEq] at g1
        obtain ⟨-, -, rfl⟩ := g1
        exact ⟨i, (j, off), _, hy, rfl⟩
      · split at g1 <;> simp only [Option.some.injEq, Prod.mk.injEq, reduceCtorEq] at g1
        obtain ⟨-, -, rfl⟩ := g1
        exact ⟨i, (j, off), _, hy, rfl⟩
    · split at g1
      case isFalse => cases g1
      split at g1 <;> simp only [Option.some.injEq, Prod.mk.injEq, reduceCtorEq] at g1
      obtain ⟨-, -, rfl⟩ := g1
      exact ⟨i, (j, off), _, hy, rfl⟩
    · cases g1
  obtain ⟨j, o, o', hy, rfl⟩ := hm2
  unfold Out at ho1 ⊢
  rw [h1] at ho1 ⊢
  simp only at ho1 ⊢
  obtain ⟨t, g1, rfl⟩ := outM_some ho1
  simp only [ev] at g1 ⊢
  cases hx : x.ev r with
  | ptr i k off =>
    rw [hx, hy] at ha
    simp only [apartV, bne_iff_ne, ne_eq] at ha
    rw [hx] at g1
    simp only at g1 ⊢
    rw [upd_ne _ _ ha]
    split at g1
    · rename_i T osz l frz hm
      split at g1
      case h_2 => cases g1
      rename_i u hu
      simp only [Option.some.injEq, Prod.mk.injEq] at g1
      obtain ⟨h3, rfl, rfl⟩ := g1
      (try simp only [hu])
      (try simp only [h3])
      rfl
    · rename_i T osz u frz hm
      split at g1
      case isFalse => cases g1
      rename_i hj
      split at g1
      case h_2 => cases g1
      rename_i q hq
      simp only [Option.some.injEq, Prod.mk.injEq, true_and] at g1
      obtain ⟨rfl, rfl⟩ := g1
      (try simp only [hj, if_true])
      (try simp only [hq])
      rfl
    · cases g1
  | p d =>
    rw [hx] at g1
    cases d with
    | ref e =>
      simp only at g1 ⊢
      split at g1
      case isFalse => cases g1
      rename_i hag
      simp only [Option.some.injEq, Prod.mk.injEq] at g1
      obtain ⟨h3, rfl, rfl⟩ := g1
      (try simp only [hag, if_true])
      (try simp only [h3])
      rfl
    | _ => simp at g1
  | _ => rw [hx] at g1; simp at g1
end
end Go.Proofs.Ytlnhembcfhfpkaa.M
end

section
namespace Go.Proofs.Ytlnhembcfhfpkaa.M
open Go.RowKit
def swapOk (ap : List (Nat × Nat)) (c1 c2 : COp) : Bool :=
  (match c1.dst with | some t => !c2.reads.contains t && c2.dst != some t | none => true) &&
  (match c2.dst with | some t => !c1.reads.contains t | none => true) &&
  ((c1.op.kind ≤ 1 && c2.op.kind ≤ 3) || ((c1.op.kind == 2 || c1.op.kind == 3) && c2.op.kind == 0) || (c1.op.kind == 2 && (c2.op.kind == 2 && (c1.dst.isSome && c2.dst.isSome))) || (c1.op.kind == 0 && c2.op.kind == 4) || (c1.op.kind == 4 && c2.op.kind == 0) ||
    (match c1.op, c2.op with
     | .load _ _ (.t x), .store _ (.t y) _ => ap.contains (x, y)
     | _, _ => false))
def COp.alc (c : COp) : Bool := c.guard.isNone && match c.op with
  | .alloc .. => true
  | .box .. => true
  | _ => false
def apFree (ap : List (Nat × Nat)) (c : COp) : Bool := ap.isEmpty || (c.op.kind != 5) && match c.dst with
  | some t => ap.all fun p => p.1 != t && (p.2 != t || c.alc)
  | none => true
def apOk (ap : List (Nat × Nat)) (r : Nat → AV) : Bool := ap.all fun p => apartV (r p.1) (r p.2)
section
variable {G : FuncId → List D → D → Prop} {c c1 c2 : COp} {K K' : St → Prop} {s : St} {r r' : Nat → AV} {m m' : Mem} {v : AV} {ap : List (Nat × Nat)}
theorem GOut.cases_ (h : GOut G c r m v m') : Out G c r m v m' ∧ (∀ m2 v2 m2', Out G c r m2 v2 m2' → GOut G c r m2 v2 m2') ∨ (v = .p (.tup []) ∧ m' = m ∧ ∀ m2, GOut G c r m2 (.p (.tup [])) m2) := by
  unfold GOut at h ⊢
  cases hg : c.guard with
  | none => rw [hg] at h; exact .inl ⟨h, fun _ _ _ h => h⟩
  | some x =>
    obtain ⟨g, want⟩ := x
    rw [hg] at h
    simp only at h ⊢
    rcases h with ⟨b, hb, h1 | h1⟩ | ⟨hb, h1, h2⟩
    · exact .inl ⟨h1.2, fun m2 v2 m2' ho => .inl ⟨b, hb, .inl ⟨h1.1, ho⟩⟩⟩
    · exact .inr ⟨h1.2.1, h1.2.2, fun m2 => .inl ⟨b, hb, .inr (by simp [h1.1])⟩⟩
    · exact .inr ⟨h1, h2, fun m2 => .inr ⟨hb, by simp⟩⟩
theorem Out.le1 (hk : c.op.kind ≤ 1) (h : Out G c r m v m') : m' = m ∧ ∀ m2, (∀ i o, m i = some o → m2 i = some o) → Out G c r m2 v m2 := by
  rcases (by omega : c.op.kind = 0 ∨ c.op.kind = 1) with h0 | h1
  · exact ⟨(h.pure h0).1, fun m2 _ => (h.pure h0).2 m2⟩
  · exact h.read h1
theorem upd_more {m : Mem} {i : Nat} {o : AObj} (h : m i = none) : ∀ j q, m j = some q → upd m i (some o) j = some q := by
  intro j q hq
  rw [upd_ne]; exact hq
  rintro rfl; rw [h] at hq; cases hq
theorem memSwap {m1 m2 : Mem} {v1 v2 : AV} (hs : swapOk ap c1 c2 = true) (ha : apOk ap r = true) (h1 : GOut G c1 r m v1 m1) (h2 : GOut G c2 r m1 v2 m2) : ∃ m', GOut G c2 r m v2 m' ∧ GOut G c1 r m' v1 m2 := by
  rcases h1.cases_ with ⟨o1, g1⟩ | ⟨rfl, rfl, g1⟩
  case inr => exact ⟨m2, h2, g1 m2⟩
  rcases h2.cases_ with ⟨o2, g2⟩ | ⟨rfl, rfl, g2⟩
  case inr => exact ⟨m, g2 m, h1⟩
  simp only [swapOk, Bool.and_eq_true, Bool.or_eq_true, decide_eq_true_eq, beq_iff_eq] at hs
  obtain ⟨⟨hd1, hd2⟩, ((((hk | hk) | hk) | hk) | hk) | hk⟩ := hs
  · -- nothing is changed by the first
    obtain ⟨rfl, q1⟩ := o1.le1 hk.1
    rcases (by omega : c2.op.kind ≤ 1 ∨ c2.op.kind = 2 ∨ c2.op.kind = 3) with hk2 | hk2 | hk2
    · obtain ⟨rfl, q2⟩ := o2.le1 hk2
      exact ⟨_, h2, h1⟩
    · obtain ⟨e, ob, rfl, -⟩ := o2.made hk2
      exact ⟨_, h2, g1 _ _ _ (q1 _ (upd_more e))⟩
    · obtain ⟨e, ob, rfl⟩ := o2.built hk2
      exact ⟨_, h2, g1 _ _ _ (q1 _ (upd_more e))⟩
  · obtain ⟨rfl, q2⟩ := o2.pure hk.2
    exact ⟨m, g2 _ _ _ (q2 m), h1⟩
  · obtain ⟨hk1, hk2, s1, s2⟩ := hk
    obtain ⟨e2, ob2, rfl, q2⟩ := o2.made hk2
    have hne : c1.dst.getD 0 ≠ c2.dst.getD 0 := by
      obtain ⟨t1, h1'⟩ := Option.isSome_iff_exists.1 s1
      obtain ⟨t2, h2'⟩ := Option.isSome_iff_exists.1 s2
      rw [h1'] at hd1
      rw [h1', h2']
      rintro e
      simp only [Option.getD_some] at e
      subst e
      simp [h2'] at hd1
    obtain ⟨e1, ob1, rfl, q1⟩ := o1.made hk1
    rw [upd_ne _ _ hne.symm] at e2
    refine ⟨_, g2 _ _ _ (q2 m e2), ?_⟩
    rw [upd_comm _ _ _ hne]
    exact g1 _ _ _ (q1 _ (by rw [upd_ne _ _ hne]; exact e1))
  · obtain ⟨rfl, q1⟩ := o1.pure hk.1
    exact ⟨m2, h2, g1 _ _ _ (q1 m2)⟩
  · obtain ⟨rfl, q2⟩ := o2.pure hk.2
    exact ⟨m, g2 _ _ _ (q2 m), h1⟩
  · split at hk
    · rename_i ag sz x sz2 y z e1 e2
      have hap : apartV (r x) (r y) = true := by
        simp only [apOk, List.all_eq_true] at ha
        exact ha (x, y) (by simpa using hk)
      obtain ⟨rfl, -⟩ := o1.le1 (by rw [e1]; simp [AOp.kind])
      exact ⟨m2, h2, g1 _ _ _ (Out.load_store e1 e2 hap o1 o2)⟩
    · cases hk
theorem putr_at {t : Option Nat} {n : Nat} (h : ∀ k, t = some k → k ≠ n) (r : Nat → AV) (v : AV) : putr r t v n = r n := by
  cases t with
  | none => rfl
  | some k => exact upd_ne _ _ (h k rfl).symm
theorem swapOk_kind (hs : swapOk ap c1 c2 = true) : c1.op.kind ≠ 5 ∧ c2.op.kind ≠ 5 := by
  simp only [swapOk, Bool.and_eq_true, Bool.or_eq_true, decide_eq_true_eq, beq_iff_eq] at hs
  obtain ⟨-, ((((hk | hk) | hk) | hk) | hk) | hk⟩ := hs
  · exact ⟨by omega, by omega⟩
  · exact ⟨by omega, by omega⟩
  · exact ⟨by omega, by omega⟩
  · exact ⟨by omega, by omega⟩
  · exact ⟨by omega, by omega⟩
  · split at hk
    · rename_i e1 e2
      rw [e1, e2]
      exact ⟨by simp [AOp.kind], by simp [AOp.kind]⟩
    · cases hk
theorem gstep_swap (hs : swapOk ap c1 c2 = true) (ha : apOk ap s.r = true) (h : gstep G c1 (gstep G c2 K) s) : gstep G c2 (gstep G c1 K) s := by
  obtain ⟨r, m⟩ := s
  have k1 := (swapOk_kind hs).1
  have k2 := (swapOk_kind hs).2
  obtain ⟨v1, m1, h1, h2⟩ := (gstep_out k1).1 h
  obtain ⟨v2, m2, h3, h4⟩ := (gstep_out k2).1 h2
  have hs' := hs
  simp only [swapOk, Bool.and_eq_true] at hs'
  obtain ⟨⟨hd1, hd2⟩, -⟩ := hs'
  have e1 : ∀ n ∈ c2.reads, putr r c1.dst v1 n = r n := fun n hn => putr_at (fun k hk e => by
    subst e; rw [hk] at hd1; simp at hd1; exact hd1.1 hn) r v1
  have e2 : ∀ n ∈ c1.reads, r n = putr r c2.dst v2 n := fun n hn => (putr_at (fun k hk e => by
    subst e; rw [hk] at hd2; simp at hd2; exact hd2 hn) r v2).symm
  obtain ⟨m', g1, g2⟩ := memSwap hs ha h1 (h3.congr e1)
  refine (gstep_out k2).2 ⟨v2, m', g1, (gstep_out k1).2 ⟨v1, m2, g2.congr e2, ?_⟩⟩
  have : putr (putr r c2.dst v2) c1.dst v1 = putr (putr r c1.dst v1) c2.dst v2 := by
    cases hc1 : c1.dst with
    | none => rfl
    | some t1 =>
      cases hc2 : c2.dst with
      | none => rfl
      | some t2 =>
        rw [hc1] at hd1
        exact upd_comm _ _ _ (fun e => by subst e; simp [hc2] at hd1)
  rw [this]
  exact h4
def ApI (al : Nat → Prop) (ap : List (Nat × Nat)) (r : Nat → AV) : Prop := apOk ap r = true ∧ ∀ p ∈ ap, al p.2 → ∀ j o, r p.1 ≠ .ptr p.2 j o
theorem alc_out (ha : c.alc = true) (h : GOut G c r m v m') : v = .ptr (c.dst.getD 0) 0 0 := by
  simp only [COp.alc, Bool.and_eq_true, Option.isNone_iff_eq_none] at ha
  obtain ⟨h1, h2⟩ := ha
  unfold GOut at h
  rw [h1] at h
  unfold Out at h
  cases hc : c.op <;> rw [hc] at h h2 <;> first | (simp at h2; done) | skip
  case alloc T sz z =>
    obtain ⟨t, h3, -⟩ := outM_some h
    simp only [ev] at h3
    split at h3
    · simp only [Option.some.injEq, Prod.mk.injEq, true_and] at h3; exact h3.1.symm
    · cases h3
  case box T sz x =>
    obtain ⟨t, h3, -⟩ := outM_some h
    simp only [ev] at h3
    split at h3
    · split at h3
      · simp only [Option.some.injEq, Prod.mk.injEq, true_and] at h3; exact h3.1.symm
      · cases h3
    · cases h3
theorem apartV_und {a b : AV} (h : apartV a b = true) : (∃ i j o, a = .ptr i j o) ∨ ∃ d, a = .p (.ref d) := by
  unfold apartV at h
  split at h
  · exact .inl ⟨_, _, _, rfl⟩
  · exact .inr ⟨_, rfl⟩
  · exact .inl ⟨_, _, _, rfl⟩
  · exact .inr ⟨_, rfl⟩
  · cases h
theorem apI_put {al : Nat → Prop} (hf : apFree ap c = true) (hal : c.alc = true → ∀ t, c.dst = some t → al t) (ha : ApI al ap r) (v : AV) (hv : c.alc = true → v = .ptr (c.dst.getD 0) 0 0) : ApI al ap (putr r c.dst v) := by
  obtain ⟨ha, hi⟩ := ha
  simp only [apOk, List.all_eq_true] at ha
  have hx : ∀ p ∈ ap, putr r c.dst v p.1 = r p.1 := fun p hp => putr_at (fun k hk e => by
    subst e
    have hne : ap.isEmpty = false := by cases ap with
      | nil => cases hp
      | cons => rfl
    simp only [apFree, hne, hk, Bool.false_or, Bool.and_eq_true, List.all_eq_true] at hf
    have := (hf.2 p hp).1
    simp at this) r v
  refine ⟨?_, fun p hp hal' j o => by rw [hx p hp]; exact hi p hp hal' j o⟩
  simp only [apOk, List.all_eq_true]
  intro p hp
  rw [hx p hp]
  have hne : ap.isEmpty = false := by cases ap with
    | nil => cases hp
    | cons => rfl
  by_cases hd : c.dst = some p.2
  · have hf' := hf
    simp only [apFree, hne, hd, Bool.false_or, Bool.and_eq_true, List.all_eq_true] at hf'
    have h2 := (hf'.2 p hp).2
    simp only [bne_self_eq_false, Bool.false_or] at h2
    have hv' := hv h2
    rw [hd] at hv' ⊢
    simp only [Option.getD_some] at hv'
    rw [hv']
    show apartV (r p.1) (upd r p.2 _ p.2) = true
    rw [upd_same]
    rcases apartV_und (ha p hp) with ⟨i, j, o, e⟩ | ⟨d, e⟩
    · have := hi p hp (hal h2 _ hd)
      rw [e] at this ⊢
      simp only [apartV, bne_iff_ne, ne_eq]
      rintro rfl
      exact this j o rfl
    · rw [e]; rfl
  · rw [putr_at (fun k hk e => hd (by rw [hk, e])) r v]
    exact ha p hp
theorem gstep_keep {al : Nat → Prop} (hf : apFree ap c = true) (hal : c.alc = true → ∀ t, c.dst = some t → al t) (ha : ApI al ap s.r) (h : gstep G c K s) : gstep G c (fun t => ApI al ap t.r ∧ K t) s := by
  obtain ⟨r, m⟩ := s
  cases hap : ap with
  | nil => exact gstep_mono h fun t ht => ⟨⟨rfl, by simp⟩, ht⟩
  | cons p q =>
    have k : c.op.kind ≠ 5 := by
      simp only [apFree, hap, List.isEmpty_cons, Bool.false_or, Bool.and_eq_true, bne_iff_ne, ne_eq] at hf
      exact hf.1
    obtain ⟨v, m', h1, h2⟩ := (gstep_out k).1 h
    exact (gstep_out k).2 ⟨v, m', h1, hap ▸ apI_put hf hal ha v (fun hc => alc_out hc h1), h2⟩
theorem cops_pull {al : Nat → Prop} : ∀ (l1 l2 : List COp) (s : St), (∀ c' ∈ l1, swapOk ap c' c = true ∧ apFree ap c' = true ∧ (c'.alc = true → ∀ t, c'.dst = some t → al t)) → ApI al ap s.r → cops G (l1 ++ c :: l2) K s → gstep G c (cops G (l1 ++ l2) K) s
  | [], _, _, _, _, h => h
  | c' :: l1, l2, s, hl, ha, h => by
    have hc' := hl c' (by simp)
    have h1 : gstep G c' (cops G (l1 ++ c :: l2) K) s := h
    have h2 : gstep G c' (gstep G c (cops G (l1 ++ l2) K)) s := gstep_mono (gstep_keep hc'.2.1 hc'.2.2 ha h1) fun t ht => cops_pull l1 l2 t (fun q hq => hl q (by simp [hq])) ht.1 ht.2
    exact gstep_swap hc'.1 ha.1 h2
theorem upd_dom {i j : Nat} {o : AObj} (hi : m i ≠ none) : upd m j (some o) i ≠ none := by
  unfold upd; split <;> simp_all
theorem Out.dom (hk : c.op.kind ≠ 5) (h : Out G c r m v m') {i : Nat} (hi : m i ≠ none) : m' i ≠ none := by
  rcases (by omega : c.op.kind ≤ 1 ∨ c.op.kind = 2 ∨ c.op.kind = 3 ∨ c.op.kind = 4 ∨ 5 < c.op.kind) with h0 | h0 | h0 | h0 | h0
  · rw [(h.le1 h0).1]; exact hi
  · obtain ⟨-, ob, rfl, -⟩ := h.made h0
    exact upd_dom hi
  · obtain ⟨-, ob, rfl⟩ := h.built h0
    exact upd_dom hi
  · unfold Out at h
    cases hc : c.op <;> rw [hc] at h h0 <;> first | (simp [AOp.kind] at h0; done) | skip
    case store sz x z =>
      obtain ⟨t, g1, rfl⟩ := outM_some h
      simp only [ev] at g1
      (repeat' split at g1) <;> first | (cases g1; done) | (simp only [Option.some.injEq, Prod.mk.injEq] at g1; obtain ⟨-, -, rfl⟩ := g1; exact upd_dom hi)
  · exfalso; revert h0; cases c.op <;> simp [AOp.kind]
theorem cops_fresh : ∀ (l : List COp) (s : St), (∀ c ∈ l, c.op.kind ≠ 5) → cops G l K s → ∀ c ∈ l, c.alc = true → ∀ t, c.dst = some t → s.m t = none
  | [], _, _, _, c, hc, _, _, _ => by cases hc
  | c' :: l, ⟨r, m⟩, hk, h, c, hc, ha, t, ht => by
    have k := hk c' (by simp)
    have h1 : gstep G c' (cops G l K) ⟨r, m⟩ := h
    obtain ⟨v, m', h2, h3⟩ := (gstep_out k).1 h1
    have hdom : ∀ i, m i ≠ none → m' i ≠ none := fun i hi => by
      rcases h2.cases_ with ⟨o, -⟩ | ⟨-, rfl, -⟩
      · exact o.dom k hi
      · exact hi
    rcases List.mem_cons.1 hc with rfl | hc
    · refine Classical.byContradiction fun hn => ?_
      have hg : c.guard = none := by
        simp only [COp.alc, Bool.and_eq_true, Option.isNone_iff_eq_none] at ha
        exact ha.1
      have o : Out G c r m v m' := by unfold GOut at h2; rwa [hg] at h2
      have k2 : c.op.kind = 2 := by
        simp only [COp.alc, Bool.and_eq_true] at ha
        have := ha.2
        cases hc : c.op <;> rw [hc] at this <;> first | rfl | (simp at this; done)
      have := (o.made k2).1
      rw [ht] at this
      exact hn this
    · refine Classical.byContradiction fun hn => ?_
      exact absurd (cops_fresh l _ (fun q hq => hk q (by simp [hq])) h3 c hc ha t ht) (hdom t hn)
end
end Go.Proofs.Ytlnhembcfhfpkaa.M
end

section
namespace Go.Proofs.Ytlnhembcfhfpkaa.M
open Go.RowKit
def noEdge (ops : Array Oper) (x y : Nat) : Bool := match ops[x]? with
  | some o => o.after.all fun e => !Region.binds .any e || e.on != y
  | none => true
def beforeB (am : List Nat) (x y : Nat) : Bool := (am.getD y 0).testBit x
def pairsOk (ops : Array Oper) (am : List Nat) (ap : List (Nat × Nat)) : List (Nat × COp) → Bool
  | [] => true
  | x :: l => noEdge ops x.1 x.1 && l.all (fun y => noEdge ops x.1 y.1 && x.1 != y.1 && (beforeB am x.1 y.1 || swapOk ap x.2 y.2)) && pairsOk ops am ap l
def ancOk (ops : Array Oper) (am : List Nat) (n : Nat) : Bool := (List.range n).all fun i => match ops[i]? with
  | some o => o.after.all (fun e => !Region.binds .any e || decide (e.on < n)) && (List.range n).all fun j => !beforeB am j i || o.after.any fun e => Region.binds .any e && (e.on == j || beforeB am j e.on)
  | none => true
def regOk (ops : Array Oper) (am : List Nat) (ap : List (Nat × Nat)) (l : List (Nat × COp)) : Bool :=
  l.length == ops.size && (List.range ops.size).all (fun i => (l.map (·.1)).contains i) && l.all (fun x => decide (x.1 < ops.size) && apFree ap x.2) && ancOk ops am ops.size && pairsOk ops am ap l
section
variable {C : Ctx} {s : St} {a : Act} {w : World} {ops : Array Oper} {Q : Exit → Act → World → Prop} {K : St → Prop} {am : List Nat} {ap : List (Nat × Nat)}
def Rp (ops : Array Oper) (am : List Nat) (ap : List (Nat × Nat)) (x y : Nat × COp) : Prop := noEdge ops x.1 y.1 = true ∧ x.1 ≠ y.1 ∧ (beforeB am x.1 y.1 = true ∨ swapOk ap x.2 y.2 = true)
theorem pairs_spec : ∀ {l : List (Nat × COp)}, pairsOk ops am ap l = true → l.Pairwise (Rp ops am ap) ∧ ∀ x ∈ l, noEdge ops x.1 x.1 = true
  | [], _ => ⟨.nil, by simp⟩
  | x :: l, h => by
    simp only [pairsOk, Bool.and_eq_true, List.all_eq_true, Bool.or_eq_true, bne_iff_ne, ne_eq] at h
    obtain ⟨⟨h1, h2⟩, h3⟩ := h
    obtain ⟨g1, g2⟩ := pairs_spec h3
    refine ⟨.cons (fun y hy => ⟨(h2 y hy).1.1, (h2 y hy).1.2, (h2 y hy).2⟩) g1, fun y hy => ?_⟩
    rcases List.mem_cons.1 hy with rfl | hy
    · exact h1
    · exact g2 y hy
theorem noEdge_spec {x y : Nat} {o : Oper} (ho : ops[x]? = some o) (h : noEdge ops x y = true) : ∀ e ∈ o.after, Region.binds .any e = true → e.on ≠ y := by
  intro e he hb heq
  simp only [noEdge, ho, Array.all_eq_true_iff_forall_mem, Bool.or_eq_true, Bool.not_eq_true', bne_iff_ne, ne_eq] at h
  rcases h e he with h | h
  · rw [hb] at h; cases h
  · exact h heq
theorem anyRegion {al : Nat → Prop} (hC : C.Ok) (hanc : ancOk ops am ops.size = true) (hQ : ∀ t a' w', Is C t a' w' → K t → Q .normal a' w') :
    ∀ (n : Nat) (l : List (Nat × COp)) (listed : Array Bool) (s : St) (a : Act) (w : World), l.length = n → listed.size = ops.size →
      (∀ i, i < ops.size → (listed.getD i true = false ↔ i ∈ l.map (·.1))) → l.Pairwise (Rp ops am ap) → (∀ x ∈ l, noEdge ops x.1 x.1 = true ∧ x.1 < ops.size ∧ (apFree ap x.2 = true ∧ (x.2.alc = true → ∀ t, x.2.dst = some t → al t)) ∧ ∃ o, ops[x.1]? = some o ∧ cop C.P C.nt C.OT ops o = some x.2) →
      (∀ j, j < ops.size → listed.getD j true = true → ∀ k, k < ops.size → beforeB am k j = true → listed.getD k true = true) →
      Is C s a w → ApI al ap s.r → cops (ConX C.P C.A) (l.map (·.2)) K s → wpAny C.P .any ops Q n listed a w := by
  intro n
  induction n with
  | zero =>
    intro l listed s a w hl hsz hlist _ _ _ his _ hK
    have hnil : l = [] := List.eq_nil_of_length_eq_zero hl
    subst hnil
    refine ⟨?_, hQ s a w his hK⟩
    rw [List.eq_nil_iff_forall_not_mem]
    intro i hi
    obtain ⟨h1, o, ho, _⟩ := mem_ready.1 hi
    have := (hlist i (Array.getElem?_eq_some_iff.1 ho).1).1 h1
    simp at this
  | succ n ih =>
    intro l listed s a w hl hsz hlist hp hall hcl his hap hK
    refine ⟨fun h0 => ?_, fun i hi => ?_⟩
    · exfalso
      match l, hl, hlist, hp, hall with
      | x :: l', _, hlist, hp, hall =>
        obtain ⟨g1, g2, g3, o, ho, -⟩ := hall x (by simp)
        have hmem : x.1 ∈ Region.ready .any ops listed := by
          rw [mem_ready]
          refine ⟨(hlist x.1 g2).2 (by simp), o, ho, fun e he hb => ?_⟩
          have hon : e.on < ops.size := by
            simp only [ancOk, List.all_eq_true, List.mem_range] at hanc
            have := hanc x.1 g2
            rw [ho] at this
            simp only [Bool.and_eq_true, Array.all_eq_true_iff_forall_mem, Bool.or_eq_true, Bool.not_eq_true', decide_eq_true_eq] at this
            rcases this.1 e he with h | h
            · rw [hb] at h; cases h
            · exact h
          have hnot : ¬ (listed.getD e.on true = false) := by
            intro hf
            have := (hlist e.on hon).1 hf
            simp only [List.map_cons, List.mem_cons, List.mem_map] at this
            rcases this with h | ⟨y, hy, h⟩
            · exact noEdge_spec ho g1 e he hb h
            · exact noEdge_spec ho ((List.pairwise_cons.1 hp).1 y hy).1 e he hb h.symm
          have hlt : e.on < listed.size := by omega
          simp [hlt] at hnot ⊢
          exact hnot
        rw [h0] at hmem
        cases hmem
    · obtain ⟨h1, o, ho, hpre⟩ := mem_ready.1 hi
      have hin : i < ops.size := (Array.getElem?_eq_some_iff.1 ho).1
      have hmem := (hlist i hin).1 h1
      obtain ⟨x, hx, rfl⟩ := List.mem_map.1 hmem
      obtain ⟨l1, l2, rfl⟩ := List.append_of_mem hx
      obtain ⟨g1, g2, g3, o', ho', hcop⟩ := hall x hx
      rw [ho] at ho'
      cases ho'
      have hbef : ∀ k, k < ops.size → beforeB am k x.1 = true → listed.getD k true = true := by
        intro k hk hb
        simp only [ancOk, List.all_eq_true, List.mem_range] at hanc
        have := hanc x.1 hin
        rw [ho] at this
        simp only [Bool.and_eq_true, List.all_eq_true, List.mem_range, Bool.or_eq_true, Bool.not_eq_true'] at this
        rcases this.2 k hk with h | h
        · rw [hb] at h; cases h
        · obtain ⟨e, he, hh⟩ := Array.any_eq_true'.1 h
          simp only [Bool.and_eq_true, Bool.or_eq_true, beq_iff_eq] at hh
          have hl' := hpre e he hh.1
          have hon : e.on < ops.size := by
            rw [← hsz]
            rcases Nat.lt_or_ge e.on listed.size with h' | h'
            · exact h'
            · simp [Array.getElem?_eq_none h'] at hl'
          have hlt : e.on < listed.size := by omega
          have hl'' : listed.getD e.on true = true := by simp [hlt] at hl' ⊢; exact hl'
          rcases hh.2 with rfl | hh2
          · exact hl''
          · exact hcl e.on hon hl'' k hk hh2
      have hsw : ∀ c' ∈ l1.map (·.2), swapOk ap c' x.2 = true ∧ apFree ap c' = true ∧ (c'.alc = true → ∀ t, c'.dst = some t → al t) := by
        intro c' hc'
        obtain ⟨y, hy, rfl⟩ := List.mem_map.1 hc'
        obtain ⟨q1, q2, q3, -⟩ := hall y (by simp [hy])
        have hR := (List.pairwise_append.1 hp).2.2 y hy x (by simp)
        refine ⟨hR.2.2.resolve_left fun hb => ?_, q3⟩
        have := hbef y.1 q2 hb
        have hf := (hlist y.1 q2).2 (by simp; exact .inl ⟨_, hy⟩)
        rw [hf] at this
        cases this
      have hK' : cops (ConX C.P C.A) (l1.map (·.2) ++ x.2 :: l2.map (·.2)) K s := by simpa using hK
      have hg := gstep_keep g3.1 g3.2 hap (cops_pull (l1.map (·.2)) (l2.map (·.2)) s hsw hap hK')
      refine wp_cop hC ho hcop his (fun t a' w' ht hk => ?_) hg
      have hsub : (l1 ++ l2).Sublist (l1 ++ x :: l2) := List.Sublist.append (List.Sublist.refl _) (List.sublist_cons_self _ _)
      have hxn : x.1 ∉ (l1 ++ l2).map (·.1) := by
        intro hm
        obtain ⟨y, hy, he⟩ := List.mem_map.1 hm
        rcases List.mem_append.1 hy with hy | hy
        · exact ((List.pairwise_append.1 hp).2.2 y hy x (by simp)).2.1 he
        · exact ((List.pairwise_cons.1 (List.pairwise_append.1 hp).2.1).1 y hy).2.1 he.symm
      refine ih (l1 ++ l2) _ t a' w' (by simp at hl ⊢; omega) (by simpa using hsz) (fun k hk' => ?_) (hp.sublist hsub) (fun y hy => hall y (hsub.subset hy)) (fun j hj hlj k hk' hb => ?_) ht hk.1 (by simpa using hk.2)
      · by_cases hkx : x.1 = k
        · subst hkx
          have hlt : x.1 < listed.size := by omega
          simp only [Array.getD_eq_getD_getElem?, Array.getElem?_setIfInBounds_self, hlt, if_true, Option.getD_some]
          exact ⟨fun h => (by cases h), fun h => absurd h hxn⟩
        · rw [getD_set_ne true hkx, hlist k hk']
          constructor
          · intro hm
            obtain ⟨y, hy, rfl⟩ := List.mem_map.1 hm
            simp only [List.mem_append, List.mem_cons] at hy
            rcases hy with hy | rfl | hy
            · exact List.mem_map.2 ⟨y, by simp [hy], rfl⟩
            · exact absurd rfl hkx
            · exact List.mem_map.2 ⟨y, by simp [hy], rfl⟩
          · intro hm
            obtain ⟨y, hy, rfl⟩ := List.mem_map.1 hm
            exact List.mem_map.2 ⟨y, hsub.subset hy, rfl⟩
      · have hset : ∀ q, listed.getD q true = true → (listed.setIfInBounds x.1 true).getD q true = true := by
          intro q hq
          by_cases hqx : x.1 = q
          · subst hqx
            have hlt : x.1 < listed.size := by omega
            simp [hlt]
          · rw [getD_set_ne true hqx]; exact hq
        by_cases hjx : x.1 = j
        · subst hjx
          exact hset k (hbef k hk' hb)
        · rw [getD_set_ne true hjx] at hlj
          exact hset k (hcl j hj hlj k hk' hb)
end
end Go.Proofs.Ytlnhembcfhfpkaa.M
end

section
namespace Go.Proofs.Ytlnhembcfhfpkaa.M
open Go.RowKit
inductive CC where
  | skip
  | ops (ap : List (Nat × Nat)) (l : List COp)
  | seq (a b : CC)
  | cond (x : Opd) (a b : CC)
  | block (id : Nat) (a : CC)
  | loop (a : CC)
  | exit (id : Nat)
  | ret
  | stuck
inductive AExit where
  | normal
  | exit (id : Nat)
  | ret
def Sub (OT : List TypeId) (s t : St) : Prop := ∀ (C : Ctx) (a : Act) (w : World), C.OT = OT → Is C s a w → Is C t a w
theorem Sub.rf {OT : List TypeId} (s : St) : Sub OT s s := fun _ _ _ _ h => h
theorem Sub.tr {OT : List TypeId} {s t u : St} (h : Sub OT s t) (k : Sub OT t u) : Sub OT s u := fun C a w e hs => k C a w e (h C a w e hs)
def cw (OT : List TypeId) (G : FuncId → List D → D → Prop) : CC → (AExit → St → Prop) → St → Prop
  | .skip, Q, s => Q .normal s
  | .ops ap l, Q, s => apOk ap s.r = true ∧ cops G l (Q .normal) s
  | .seq a b, Q, s => cw OT G a (fun e t => match e with
    | .normal => ∃ u, Sub OT t u ∧ cw OT G b Q u
    | e => Q e t) s
  | .cond x a b, Q, s => match x.ev s.r with
    | .p (.bool c) => (c = true → cw OT G a Q s) ∧ (c = false → cw OT G b Q s)
    | _ => False
  | .block id a, Q, s => cw OT G a (fun e t => match e with
    | .exit j => if j = id then Q .normal t else Q (.exit j) t
    | e => Q e t) s
  | .loop a, Q, s => ∀ R : St → Prop, (∀ t, cw OT G a (fun e t => match e with
    | .normal => ∃ u, Sub OT t u ∧ R u
    | e => Q e t) t → R t) → ∃ u, Sub OT s u ∧ R u
  | .exit id, Q, s => Q (.exit id) s
  | .ret, Q, s => Q .ret s
  | .stuck, _, _ => False
structure Hint where
  id : Nat
  ord : List Nat
  am : List Nat
  ap : List (Nat × Nat)
def copsAt (P : Program) (nt : Nat) (OT : List TypeId) (ops : Array Oper) : List Nat → Option (List (Nat × COp))
  | [] => some []
  | i :: l => match ops[i]? with
    | some o => match cop P nt OT ops o, copsAt P nt OT ops l with
      | some c, some m => some ((i, c) :: m)
      | _, _ => none
    | none => none
def comp (P : Program) (nt : Nat) (OT : List TypeId) (H : List Hint) : Code → Option CC
  | .skip => some .skip
  | .region id ops draw => if draw then
      match H.find? (·.id == id) with
      | some h => match copsAt P nt OT ops h.ord with
        | some l => if regOk ops h.am h.ap l then some (.ops h.ap (l.map (·.2))) else some .stuck
        | none => some .stuck
      | none => some .stuck
    else match copsAt P nt OT ops (List.range ops.size) with
      | some l => some (.ops [] (l.map (·.2)))
      | none => some .stuck
  | .seq a b => match comp P nt OT H a, comp P nt OT H b with
    | some x, some y => some (.seq x y)
    | _, _ => none
  | .cond c a b => match comp P nt OT H a, comp P nt OT H b with
    | some x, some y => some (.cond (opd P none c) x y)
    | _, _ => none
  | .block id a => (comp P nt OT H a).map (.block id)
  | .loop a => (comp P nt OT H a).map .loop
  | .exit id => some (.exit id)
  | .ret => some .ret
  | _ => some .stuck
section
variable {C : Ctx} {s : St} {a : Act} {w : World}
def Qm (C : Ctx) (Q : AExit → St → Prop) : Exit → Act → World → Prop
  | .normal, a, w => ∃ t, Is C t a w ∧ Q .normal t
  | .exit id, a, w => ∃ t, Is C t a w ∧ Q (.exit id) t
  | .ret, a, w => ∃ t, Is C t a w ∧ Q .ret t
  | _, _, _ => False
theorem copsAt_spec {P : Program} {nt : Nat} {OT : List TypeId} {ops : Array Oper} : ∀ {l : List Nat} {m : List (Nat × COp)}, copsAt P nt OT ops l = some m → m.map (·.1) = l ∧ ∀ x ∈ m, ∃ o, ops[x.1]? = some o ∧ cop P nt OT ops o = some x.2
  | [], m, h => by simp only [copsAt, Option.some.injEq] at h; subst h; exact ⟨rfl, by simp⟩
  | i :: l, m, h => by
    simp only [copsAt] at h
    split at h
    case h_2 => cases h
    rename_i o ho
    split at h
    case h_2 => cases h
    rename_i c m' h1 h2
    simp only [Option.some.injEq] at h
    subst h
    obtain ⟨g1, g2⟩ := copsAt_spec h2
    refine ⟨by simp [g1], fun x hx => ?_⟩
    rcases List.mem_cons.1 hx with rfl | hx
    · exact ⟨o, ho, h1⟩
    · exact g2 x hx
theorem seqOps {ops : Array Oper} {Q : Exit → Act → World → Prop} {K : St → Prop} (hC : C.Ok) (hQ : ∀ t a' w', Is C t a' w' → K t → Q .normal a' w') : ∀ (m : List (Nat × COp)) (s : St) (a : Act) (w : World),
    (∀ x ∈ m, ∃ o, ops[x.1]? = some o ∧ cop C.P C.nt C.OT ops o = some x.2) → Is C s a w → cops (ConX C.P C.A) (m.map (·.2)) K s → wpOps C.P ops Q (m.map (·.1)) a w
  | [], s, a, w, _, his, hK => hQ s a w his hK
  | x :: m, s, a, w, hm, his, hK => by
    obtain ⟨o, ho, hc⟩ := hm x (by simp)
    rw [List.map_cons, wpOps_cons]
    exact wp_cop hC ho hc his (fun t a' w' ht hk => seqOps hC hQ m t a' w' (fun y hy => hm y (by simp [hy])) ht hk) hK
theorem Is.later (h : Is C s a w) {w' : World} (he : Ext w w') : Is C s a w' := ⟨h.1.elim fun loc hr => ⟨loc, hr.later he⟩, h.2⟩
theorem cw_sound (hC : C.Ok) (hm : C.P.follows .mixedOrders = true) (H : List Hint) : ∀ (c : Code) (cc : CC) (Q : AExit → St → Prop) (s : St) (a : Act) (w : World), comp C.P C.nt C.OT H c = some cc → cw C.OT (ConX C.P C.A) cc Q s → Is C s a w → c.wp C.P (Qm C Q) a w := by
  intro c
  induction c with
  | skip => intro cc Q s a w h1 h2 h3; simp only [comp, Option.some.injEq] at h1; subst h1; exact wp_skip ⟨s, h3, h2⟩
  | region id ops draw =>
    intro cc Q s a w h1 h2 h3
    simp only [comp] at h1
    cases draw with
    | true =>
      simp only [if_true] at h1
      split at h1
      case h_2 => cases h1; exact h2.elim
      rename_i h _
      split at h1
      case h_2 => cases h1; exact h2.elim
      rename_i l hl
      split at h1
      case isFalse => cases h1; exact h2.elim
      rename_i hok
      simp only [Option.some.injEq] at h1
      subst h1
      obtain ⟨hap, hcw⟩ := h2
      simp only [regOk, Bool.and_eq_true, beq_iff_eq, List.all_eq_true, decide_eq_true_eq] at hok
      obtain ⟨⟨⟨⟨hlen, hevery⟩, hall⟩, hanc⟩, hpairs⟩ := hok
      obtain ⟨g1, g2⟩ := copsAt_spec hl
      obtain ⟨p1, p2⟩ := pairs_spec hpairs
      refine wp_region_any hm ?_
      have hw : Is C s a { w with drawn := w.drawn + 1 } := h3.later (Below.drew (Below.refl _ _))
      have hfull : ∀ i, i < ops.size → i ∈ l.map (·.1) := by
        intro i hi
        have := hevery i (List.mem_range.2 hi)
        simpa using this
      have hfree : ApI (fun t => ∃ c ∈ l.map (·.2), c.alc = true ∧ c.dst = some t) h.ap s.r := by
        refine ⟨hap, fun p hp ⟨c, hc, hca, hct⟩ j o he => ?_⟩
        have hk5 : ∀ c ∈ l.map (·.2), c.op.kind ≠ 5 := fun c hc => by
          obtain ⟨x, hx, rfl⟩ := List.mem_map.1 hc
          have hne : h.ap.isEmpty = false := by cases hq : h.ap with
            | nil => rw [hq] at hp; cases hp
            | cons => rfl
          have := (hall x hx).2
          simp only [apFree, hne, Bool.false_or, Bool.and_eq_true, bne_iff_ne, ne_eq] at this
          exact this.1
        have hm := cops_fresh _ s hk5 hcw c hc hca _ hct
        obtain ⟨⟨loc, hR⟩, -⟩ := h3
        have h5 := hR.tmps p.1
        rw [he] at h5
        generalize a.tmps.getD p.1 undef = vv at h5
        cases h5 with
        | ptr L id i off h1 h2 => rw [hR.dom _ hm] at h1; cases h1
      have := anyRegion (Q := Qm C Q) (K := Q .normal) (ap := h.ap) hC hanc (fun t a' w' ht hk => ⟨t, ht, hk⟩) l.length l (Array.replicate ops.size false) s a _ rfl (by simp) (fun i hi => by
          simp only [Array.getD_eq_getD_getElem?, Array.getElem?_replicate, hi, if_true, Option.getD_some, true_iff]
          exact hfull i hi) p1 (fun x hx => ⟨p2 x hx, (hall x hx).1, ⟨(hall x hx).2, fun ha t ht => ⟨x.2, List.mem_map.2 ⟨x, hx, rfl⟩, ha, ht⟩⟩, g2 x hx⟩) (fun j hj hlj => by simp [hj] at hlj) hw hfree hcw
      rwa [hlen] at this
    | false =>
      simp only [Bool.false_eq_true, if_false] at h1
      split at h1
      case h_2 => cases h1; exact h2.elim
      rename_i l hl
      simp only [Option.some.injEq] at h1
      subst h1
      obtain ⟨hap, hcw⟩ := h2
      obtain ⟨g1, g2⟩ := copsAt_spec hl
      refine wp_region ?_
      rw [← g1]
      exact seqOps hC (fun t a' w' ht hk => ⟨t, ht, hk⟩) l s a w g2 h3 hcw
  | seq x y ihx ihy =>
    intro cc Q s a w h1 h2 h3
    simp only [comp] at h1
    split at h1
    case h_2 => cases h1
    rename_i cx cy hx hy
    simp only [Option.some.injEq] at h1
    subst h1
    refine wp_seq (wp_mono (ihx cx _ s a w hx h2 h3) ?_)
    intro e a' w' hq
    cases e with
    | normal =>
      obtain ⟨t, ht, u, hsub, hu⟩ := hq
      exact ihy cy Q u a' w' hy hu (hsub C a' w' rfl ht)
    | exit id => exact hq
    | ret => exact hq
    | _ => exact hq.elim
  | cond o x y ihx ihy =>
    intro cc Q s a w h1 h2 h3
    simp only [comp] at h1
    split at h1
    case h_2 => cases h1
    rename_i cx cy hx hy
    simp only [Option.some.injEq] at h1
    subst h1
    simp only [cw] at h2
    split at h2
    case h_2 => exact h2.elim
    rename_i b hb
    obtain ⟨loc, hr⟩ := h3.1
    have hv := hr.opd (P := C.P) none o
    rw [hb] at hv
    have hv := hv.inv
    generalize hov : a.eval o = v at hv
    cases hv
    cases b with
    | true => exact wp_cond_true hov (ihx cx Q s a w hx (h2.1 rfl) h3)
    | false => exact wp_cond_false hov (ihy cy Q s a w hy (h2.2 rfl) h3)
  | block id x ih =>
    intro cc Q s a w h1 h2 h3
    simp only [comp, Option.map_eq_some_iff] at h1
    obtain ⟨cx, hx, rfl⟩ := h1
    refine wp_block (wp_mono (ih cx _ s a w hx h2 h3) ?_)
    intro e a' w' hq
    cases e with
    | normal => exact hq
    | exit j =>
      obtain ⟨t, ht, hq⟩ := hq
      simp only [Exit.inBlock]
      by_cases hj : j = id
      · rw [if_pos hj]; simp only [hj, if_true] at hq; exact ⟨t, ht, hq⟩
      · rw [if_neg hj]; simp only [hj, if_false] at hq; exact ⟨t, ht, hq⟩
    | ret => exact hq
    | _ => exact hq.elim
  | loop x ih =>
    intro cc Q s a w h1 h2 h3
    simp only [comp, Option.map_eq_some_iff] at h1
    obtain ⟨cx, hx, rfl⟩ := h1
    intro b k cs
    have key := h2 (fun t => ∀ (a : Act) (w : World), Is C t a w → ∃ e a' w', Qm C Q e a' w' ∧ Arrives C.P (lone (b.at a (.code x :: .inLoop x :: k)) cs w) b k cs e a' w') (fun t ht a w hI => by
      obtain ⟨e, a₁, w₁, hq, harr⟩ := ih cx _ t a w hx ht hI b (.inLoop x :: k) cs
      cases e with
      | normal =>
        obtain ⟨t', ht', u, hsub, hu⟩ := hq
        obtain ⟨e₂, a₂, w₂, hq₂, harr₂⟩ := hu a₁ w₁ (hsub C a₁ w₁ rfl ht')
        exact ⟨e₂, a₂, w₂, hq₂, .of_steps (Steps.trans harr (.one step_inLoop)) harr₂⟩
      | exit id => exact ⟨.exit id, a₁, w₁, hq, .pass (x := .inLoop x) rfl (fun _ _ => .inl (by simp)) harr⟩
      | ret => exact ⟨.ret, a₁, w₁, hq, .pass (x := .inLoop x) rfl (fun _ _ => .inl (by simp)) harr⟩
      | _ => exact hq.elim)
    obtain ⟨u, hsub, hu⟩ := key
    obtain ⟨e, a', w', hq, harr⟩ := hu a w (hsub C a w rfl h3)
    exact ⟨e, a', w', hq, .of_steps (.one step_loop) harr⟩
  | exit id => intro cc Q s a w h1 h2 h3; simp only [comp, Option.some.injEq] at h1; subst h1; exact wp_exit ⟨s, h3, h2⟩
  | ret => intro cc Q s a w h1 h2 h3; simp only [comp, Option.some.injEq] at h1; subst h1; exact wp_ret ⟨s, h3, h2⟩
  | _ =>
    intro cc Q s a w h1 h2
    simp only [comp, Option.some.injEq] at h1
    subst h1
    exact h2.elim
end
end Go.Proofs.Ytlnhembcfhfpkaa.M
end

section
namespace Go.Proofs.Ytlnhembcfhfpkaa.M
open Go.RowKit
def resC (P : Program) : List ResultVar → Option (List (Nat × Option (Bool × Nat)))
  | [] => some []
  | .tmp t :: l => (resC P l).map ((t, none) :: ·)
  | .cell a T :: l => match tyOf P T with
    | some (ag, sz) => if ag || sz == 1 then (resC P l).map ((a, some (ag, sz)) :: ·) else none
    | none => none
def resV (s : St) : Nat × Option (Bool × Nat) → Option AV
  | (t, none) => some (s.r t)
  | (t, some (ag, sz)) => match s.r t with
    | .ptr i 0 0 => match s.m i with
      | some ⟨_, osz, .box v, _⟩ => v.get 0 sz osz ag
      | _ => none
    | _ => none
def resL (s : St) : List (Nat × Option (Bool × Nat)) → Option (List D)
  | [] => some []
  | x :: l => match (match resV s x with | some v => v.toD true s.m 20 | none => none), resL s l with
    | some d, some ds => some (d :: ds)
    | _, _ => none
def resD (s : St) (rs : List (Nat × Option (Bool × Nat))) : Option D := match resL s rs with
  | some [d] => some d
  | some ds => some (.tup ds)
  | none => none
def init (ds : List D) : St := ⟨fun t => match ds[t]? with
  | some d => .p d
  | none => .und, fun _ => none⟩
section
variable {C : Ctx} {s : St} {a : Act} {w : World}
def resRun (tmps : Array Value) : ResultVar → Sem Value
  | .tmp t => pure (tmps.getD t undef)
  | .cell a t => do loadVar t (← asAddr (tmps.getD a undef))
theorem results_eq (fn : Func) (tmps : Array Value) : results fn tmps = (fn.results.mapM (resRun tmps) >>= fun vs => pure (if h : vs.size = 1 then vs[0] else .tuple vs)) := rfl
theorem resV_run {loc : Locs} (h : Rel C.w0 C.base C.nt loc s a w) (x : ResultVar) (l : List ResultVar) (rs : List (Nat × Option (Bool × Nat))) (h1 : resC C.P (x :: l) = some rs) :
    ∃ y rs', rs = y :: rs' ∧ resC C.P l = some rs' ∧ ∀ (M' : Mem) u, (∀ i o, M' i = some o → s.m i = some o) → resV ⟨s.r, M'⟩ y = some u → ∃ v, (resRun a.tmps x).run C.P w = .ok v w ∧ RV w (NB C.base s.m loc w) loc v u := by
  cases x with
  | tmp t =>
    simp only [resC, Option.map_eq_some_iff] at h1
    obtain ⟨rs', h1, rfl⟩ := h1
    refine ⟨_, rs', rfl, h1, fun M' u hM hu => ?_⟩
    simp only [resV, Option.some.injEq] at hu
    subst hu
    exact ⟨_, by simp [resRun], h.tmps t⟩
  | cell t T =>
    simp only [resC] at h1
    split at h1
    case h_2 => cases h1
    rename_i ag sz hT
    split at h1
    case isFalse => cases h1
    rename_i hs
    simp only [Option.map_eq_some_iff] at h1
    obtain ⟨rs', h1, rfl⟩ := h1
    refine ⟨_, rs', rfl, h1, fun M' u hM hu => ?_⟩
    simp only [resV] at hu
    split at hu
    case h_2 => cases hu
    rename_i i hp
    split at hu
    case h_2 => cases hu
    rename_i T' osz v frz hm
    have hrv := h.tmps t
    rw [hp] at hrv
    generalize hq : a.tmps.getD t undef = q at hrv
    cases hrv with
    | ptr L _ _ _ hL hn =>
    obtain ⟨L', hL', hok⟩ := h.objs i _ (hM _ _ hm)
    rw [hL] at hL'
    cases hL'
    obtain ⟨c, fr, k1, k2, k3, -⟩ := hok.at_ hn
    obtain ⟨m1, m2, m3, m4⟩ := k3
    obtain ⟨x, hx1, hx2⟩ := rv_get (P := C.P) (T' := T) k1 m1 m2 m3 m4 hu (tyOf_ok hT) (fun e => by simpa [e] using hs)
    refine ⟨x, ?_, hx2⟩
    have : (Instr.loadAt T (.pointer (some ⟨L.b, L.o + 0, none⟩))).run C.P w = (loadVar T ⟨L.b, L.o + 0, none⟩).run C.P w := by simp [Instr.loadAt, Instr.sureAddr]
    rw [this] at hx1
    simp only [Nat.zero_mul, Nat.add_zero] at hq hx1
    simp [resRun, hq, asAddr, hx1]
theorem resL_run {loc : Locs} {M' : Mem} (hM : ∀ i o, M' i = some o → s.m i = some o) (h0 : C.base.L0 = none ∨ M' lentId = none) (h : Rel C.w0 C.base C.nt loc s a w) : ∀ (l : List ResultVar) (rs : List (Nat × Option (Bool × Nat))) (ds : List D), resC C.P l = some rs → resL ⟨s.r, M'⟩ rs = some ds →
    ∃ vs : List Value, (l.mapM (resRun a.tmps)).run C.P w = .ok vs w ∧ vs.length = ds.length ∧ ∀ (i : Nat) (d : D), ds[i]? = some d → V w (fun b => b < w.heap.size ∧ ¬ C.base.own b) (vs.getD i undef) d
  | [], rs, ds, h1, h2 => by
    simp only [resC, Option.some.injEq] at h1
    subst h1
    simp only [resL, Option.some.injEq] at h2
    subst h2
    exact ⟨[], by simp, rfl, fun i d hd => by simp at hd⟩
  | x :: l, rs, ds, h1, h2 => by
    obtain ⟨y, rs', rfl, hl, hrun0⟩ := resV_run h x l rs h1
    have hrun := fun u => hrun0 M' u hM
    simp only [resL] at h2
    split at h2
    case h_2 => cases h2
    rename_i d ds' g1 g2
    simp only [Option.some.injEq] at h2
    subst h2
    split at g1
    case h_2 => cases g1
    rename_i u hu
    obtain ⟨v, hv1, hv2⟩ := hrun u hu
    obtain ⟨vs, q1, q2, q3⟩ := resL_run hM h0 h l rs' ds' hl g2
    refine ⟨v :: vs, by simp [List.mapM_cons, hv1, q1], by simp [q2], fun i e he => ?_⟩
    match i, he with
    | 0, he =>
      simp at he
      subst he
      exact toD_okM (any := true) (N' := fun b => b < w.heap.size ∧ ¬ C.base.own b) h hM (fun b hb => ⟨hb.1, hb.2.1⟩) (fun i o L ho' _ hL hn => ⟨h.obj_lt (hM _ _ ho') hL hn, fun hb => by
        have ho := hM _ _ ho'
        obtain ⟨L', hL', hok⟩ := h.objs i o ho
        rw [hL] at hL'
        cases hL'
        obtain ⟨c, fr, k1, k2, k3, k4, k5⟩ := hok.at_ hn
        cases hf : o.frz with
        | false =>
          have hlo := h.low _ hb
          rcases (k4 hf).1 with hge | ⟨L', hL', hbb⟩
          · omega
          · rcases h0 with h0 | h0
            · rw [h0] at hL'; cases hL'
            · obtain ⟨y1, _, y3, o', y4, y5⟩ := h.keepL L' hL'
              have := h.inj i lentId o o' L L' ho y4 hf hL y1 hn y3 hbb.symm
              subst this
              rw [h0] at ho'; cases ho'
        | true => exact (k5 hf).2.1 hb⟩) 20 u v d g1 hv2
    | i + 1, he => simpa using q3 i e (by simpa using he)
theorem con_of {P : Program} {A OT : List TypeId} {f : FuncId} {fn : Func} {code : Code} {H : List Hint} {cc : CC} {rs : List (Nat × Option (Bool × Nat))} {ds : List D} {d : D}
    (hf : P.funcs[f]? = some fn) (hb : fn.body = some code) (hm : P.follows .mixedOrders = true) (hc : comp P fn.ntmps OT H code = some cc) (hr : resC P fn.results.toList = some rs) (hA : OT.all (fun T => !A.contains T) = true) (hn : ds.length ≤ fn.ntmps)
    (hcw : cw OT (ConX P A) cc (fun e s => (match e with | .exit _ => False | _ => True) ∧ resD s rs = some d) (init ds)) : Con P A f ds d := by
  intro base w vs h1 h2 h3 h4
  have hbody := cw_sound (C := ⟨P, A, OT, fn.ntmps, w, ⟨base, none⟩⟩) ⟨h2, fun T hT => by
    rw [List.all_eq_true] at hA
    have := hA T hT
    simpa using this⟩ hm H code cc _ (init ds) { tmps := vs ++ Array.replicate (fn.ntmps - vs.size) undef, defers := [] } w hc hcw ⟨⟨fun _ => none, ExtL.rf _ w, rfl, by simp; omega, h1, fun _ _ => rfl, fun t => ?_, fun id o ho => by simp [init] at ho, fun id _ o _ _ _ ho => by simp [init] at ho, KeepL.none_ rfl _ _⟩, fun id o ho => by simp [init] at ho⟩
  · refine calls_of_wp hf hb (wp_mono hbody ?_)
    intro e a' w' hq
    have fin : (∃ t, Is ⟨P, A, OT, fn.ntmps, w, ⟨base, none⟩⟩ t a' w' ∧ resD t rs = some d) → a'.defers = [] ∧ ∃ v, (results fn a'.tmps).run P w' = .ok v w' ∧ ∃ v', Ending.returned v = Ending.returned v' ∧ V w' (fun b => b < w'.heap.size ∧ ¬ base b) v' d ∧ Ext w w' := by
      rintro ⟨t, ht, hres⟩
      obtain ⟨loc, hrel⟩ := ht.1
      refine ⟨hrel.defers, ?_⟩
      have key : ∀ ds', resL t rs = some ds' → ∃ vs : List Value, (fn.results.mapM (resRun a'.tmps)).run P w' = .ok vs.toArray w' ∧ vs.length = ds'.length ∧ ∀ (i : Nat) (d : D), ds'[i]? = some d → V w' (fun b => b < w'.heap.size ∧ ¬ base b) (vs.getD i undef) d := by
        intro ds' hds
        obtain ⟨vs, q1, q2, q3⟩ := resL_run (M' := t.m) (fun _ _ h => h) (.inl rfl) hrel _ _ _ hr hds
        refine ⟨vs, ?_, q2, q3⟩
        rw [Array.mapM_eq_mapM_toList]
        simp only at q1
        simp [q1]
      have hresults : ∀ vs : List Value, (fn.results.mapM (resRun a'.tmps)).run P w' = .ok vs.toArray w' → (results fn a'.tmps).run P w' = .ok (if h : vs.toArray.size = 1 then vs.toArray[0] else .tuple vs.toArray) w' := by
        intro vs hv
        rw [results_eq]
        simp only [Sem.run_bind, hv, Result.andThen]
        rfl
      unfold resD at hres
      split at hres
      · rename_i d' hd'
        simp only [Option.some.injEq] at hres
        subst hres
        obtain ⟨vs, q1, q2, q3⟩ := key _ hd'
        match vs, q2 with
        | [v], _ =>
          refine ⟨v, by rw [hresults _ q1]; simp, v, rfl, ?_, hrel.ext.ext rfl⟩
          have := q3 0 d' rfl
          simpa using this
      · rename_i ds' hne hd'
        simp only [Option.some.injEq] at hres
        subst hres
        obtain ⟨vs, q1, q2, q3⟩ := key _ hd'
        have hne1 : vs.length ≠ 1 := by
          intro h1
          rw [q2] at h1
          match ds', h1 with
          | [d'], _ => exact hne d' rfl
        refine ⟨.tuple vs.toArray, by rw [hresults _ q1, dif_neg (by simpa using hne1)], _, rfl, .tup _ _ (by simpa using q2) (fun i e he => by simpa using q3 i e he), hrel.ext.ext rfl⟩
      · cases hres
    cases e with
    | normal => obtain ⟨t, ht, -, hres⟩ := hq; exact fin ⟨t, ht, hres⟩
    | ret => obtain ⟨t, ht, -, hres⟩ := hq; exact fin ⟨t, ht, hres⟩
    | exit id => obtain ⟨t, ht, hbad, hres⟩ := hq; exact hbad.elim
    | _ => exact hq.elim
  · by_cases ht : t < vs.size
    · have hd : ∃ d, ds[t]? = some d := ⟨ds[t]'(by omega), by simp⟩
      obtain ⟨d', hd⟩ := hd
      have hr' : (init ds).r t = .p d' := by simp [init, hd]
      rw [hr']
      have hg : (vs ++ Array.replicate (fn.ntmps - vs.size) undef).getD t undef = vs.getD t undef := by
        simp only [Array.getD_eq_getD_getElem?]
        rw [Array.getElem?_append_left ht]
      simp only [hg]
      exact .p _ _ ((h4 t d' hd).mono (fun _ _ => rfl) fun b hb => ⟨hb.1, hb.2, by rintro ⟨id, o, L, ho, _⟩; simp [init] at ho⟩)
    · have hr' : (init ds).r t = .und := by
        have : ds[t]? = none := List.getElem?_eq_none (by omega)
        simp [init, this]
      rw [hr']
      exact .und _
def FnOk (P : Program) (f : FuncId) (OT : List TypeId) (cc : CC) (rs : List (Nat × Option (Bool × Nat))) (nt : Nat) : Prop :=
  ∃ fn H, P.funcs[f]? = some fn ∧ fn.body.isSome = true ∧ P.follows .mixedOrders = true ∧ comp P fn.ntmps OT H (fn.body.getD .skip) = some cc ∧ resC P fn.results.toList = some rs ∧ fn.ntmps = nt
def Ends (d : D) (rs : List (Nat × Option (Bool × Nat))) : AExit → St → Prop
  | .exit _, _ => False
  | _, s => resD s rs = some d
theorem FnOk.con {P : Program} {A OT : List TypeId} {f : FuncId} {cc : CC} {rs : List (Nat × Option (Bool × Nat))} {nt : Nat} {ds : List D} {d : D} (h : FnOk P f OT cc rs nt) (hA : OT.all (fun T => !A.contains T) = true) (hn : ds.length ≤ nt)
    (hcw : cw OT (ConX P A) cc (Ends d rs) (init ds)) : Con P A f ds d := by
  obtain ⟨fn, H, h1, h2, h3, h4, h5, rfl⟩ := h
  obtain ⟨code, hcode⟩ := Option.isSome_iff_exists.1 h2
  rw [hcode] at h4
  have hE : Ends d rs = fun e s => (match e with | .exit _ => False | _ => True) ∧ resD s rs = some d := by
    funext e s
    cases e <;> simp [Ends]
  rw [hE] at hcw
  exact con_of h1 hcode h3 h4 h5 hA hn hcw
end
end Go.Proofs.Ytlnhembcfhfpkaa.M
end

section
namespace Go.Proofs.Ytlnhembcfhfpkaa.M
open Go.RowKit
def look : List (Nat × AV) → Nat → AV
  | [], _ => .und
  | (i, v) :: l, t => if t = i then v else look l t
def lookM : List (Nat × AObj) → Mem
  | [], _ => none
  | (i, v) :: l, t => if t = i then some v else lookM l t
def setR (t : Nat) (v : AV) : List (Nat × AV) → List (Nat × AV)
  | [] => [(t, v)]
  | (i, u) :: l => if i = t then (t, v) :: l else (i, u) :: setR t v l
def setM (t : Nat) (v : AObj) : List (Nat × AObj) → List (Nat × AObj)
  | [] => [(t, v)]
  | (i, u) :: l => if i = t then (t, v) :: l else (i, u) :: setM t v l
def sel (r : Nat → AV) : List Nat → List (Nat × AV)
  | [] => []
  | t :: l => (t, r t) :: sel r l
theorem look_nil (t : Nat) : look [] t = .und := rfl
theorem look_cons (i : Nat) (v : AV) (l : List (Nat × AV)) (t : Nat) : look ((i, v) :: l) t = if t = i then v else look l t := rfl
theorem lookM_nil (t : Nat) : lookM [] t = none := rfl
theorem lookM_cons (i : Nat) (v : AObj) (l : List (Nat × AObj)) (t : Nat) : lookM ((i, v) :: l) t = if t = i then some v else lookM l t := rfl
theorem setR_nil (t : Nat) (v : AV) : setR t v [] = [(t, v)] := rfl
theorem setR_cons (t : Nat) (v : AV) (i : Nat) (u : AV) (l : List (Nat × AV)) : setR t v ((i, u) :: l) = if i = t then (t, v) :: l else (i, u) :: setR t v l := rfl
theorem setM_nil (t : Nat) (v : AObj) : setM t v [] = [(t, v)] := rfl
theorem setM_cons (t : Nat) (v : AObj) (i : Nat) (u : AObj) (l : List (Nat × AObj)) : setM t v ((i, u) :: l) = if i = t then (t, v) :: l else (i, u) :: setM t v l := rfl
theorem sel_nil (r : Nat → AV) : sel r [] = [] := rfl
theorem sel_cons (r : Nat → AV) (t : Nat) (l : List Nat) : sel r (t :: l) = (t, r t) :: sel r l := rfl
theorem upd_look (t : Nat) (v : AV) : ∀ (l : List (Nat × AV)), upd (look l) t v = look (setR t v l)
  | [] => by funext j; simp only [upd, setR_nil, look_cons, look_nil]
  | (i, u) :: l => by
    funext j
    have ih := congrFun (upd_look t v l) j
    simp only [upd] at ih
    simp only [upd, setR_cons, look_cons]
    by_cases hit : i = t
    · subst hit
      rw [if_pos rfl, look_cons]
      split
      · rfl
      · rfl
    · rw [if_neg hit, look_cons, ← ih]
      by_cases hj : j = t
      · subst hj
        rw [if_pos rfl, if_neg (fun e => hit e.symm), if_pos rfl]
      · rw [if_neg hj, if_neg hj]
theorem upd_lookM (t : Nat) (v : AObj) : ∀ (l : List (Nat × AObj)), upd (lookM l) t (some v) = lookM (setM t v l)
  | [] => by funext j; simp only [upd, setM_nil, lookM_cons, lookM_nil]
  | (i, u) :: l => by
    funext j
    have ih := congrFun (upd_lookM t v l) j
    simp only [upd] at ih
    simp only [upd, setM_cons, lookM_cons]
    by_cases hit : i = t
    · subst hit
      rw [if_pos rfl, lookM_cons]
      split
      · rfl
      · rfl
    · rw [if_neg hit, lookM_cons, ← ih]
      by_cases hj : j = t
      · subst hj
        rw [if_pos rfl, if_neg (fun e => hit e.symm), if_pos rfl]
      · rw [if_neg hj, if_neg hj]
theorem sel_or {r : Nat → AV} : ∀ (ts : List Nat) (t : Nat), look (sel r ts) t = .und ∨ look (sel r ts) t = r t
  | [], _ => .inl rfl
  | i :: ts, t => by
    rw [sel_cons, look_cons]
    split
    · rename_i e; subst e; exact .inr rfl
    · exact sel_or ts t
section
variable {s t : St} {r : Nat → AV} {m : Mem} {OT : List TypeId}
theorem Sub.und {r' : Nat → AV} (h : ∀ t, r' t = .und ∨ r' t = r t) : Sub OT ⟨r, m⟩ ⟨r', m⟩ := by
  rintro C a w - ⟨⟨loc, hr⟩, h2⟩
  refine ⟨⟨loc, hr.ext, hr.defers, hr.size, hr.low, hr.dom, fun t => ?_, hr.objs, hr.inj, hr.keepL⟩, h2⟩
  rcases h t with e | e <;> simp only [e]
  · exact .und _
  · exact hr.tmps t
theorem Sub.nil {T sz : Nat} (i id : Nat) (hi : r i = .nils T sz) (hm : m id = none) (hT : T ∈ OT) : Sub OT ⟨r, m⟩ ⟨upd r i (.slice id 0 0), upd m id (some ⟨T, sz, .row [], false⟩)⟩ := by
  rintro C a w rfl ⟨⟨loc, hr⟩, h2⟩
  have h' := hr.allocNil hm T sz
  refine ⟨⟨_, h'.ext, h'.defers, h'.size, h'.low, h'.dom, fun t => ?_, h'.objs, h'.inj, h'.keepL⟩, fun j o ho => ?_⟩
  · by_cases e : t = i
    · subst e
      have hv : RV w (NB C.base m loc w) loc (a.tmps.getD t undef) (r t) := hr.tmps t
      rw [hi] at hv
      simp only [upd_same]
      generalize a.tmps.getD t undef = v at hv
      cases hv with
      | nils => exact .sliceEmp _ id 0 none (upd_same _ _ _)
    · simp only [upd_ne _ _ e]
      exact h'.tmps t
  · by_cases e : j = id
    · subst e
      simp only [upd_same, Option.some.injEq] at ho
      subst ho
      exact hT
    · simp only [upd_ne _ _ e] at ho
      exact h2 j o ho
theorem keep (ts : List Nat) {R : St → Prop} (h : R ⟨look (sel r ts), m⟩) : ∃ u, Sub OT ⟨r, m⟩ u ∧ R u := ⟨_, Sub.und (sel_or ts), h⟩
theorem init1 (a : D) : init [a] = ⟨look [(0, .p a)], lookM []⟩ := by
  unfold init; congr 1; funext t
  match t with
  | 0 => rfl
  | t + 1 => simp [look_cons, look_nil]
theorem init2 (a b : D) : init [a, b] = ⟨look [(0, .p a), (1, .p b)], lookM []⟩ := by
  unfold init; congr 1; funext t
  match t with
  | 0 | 1 => rfl
  | t + 2 => simp [look_cons, look_nil]
theorem init3 (a b c : D) : init [a, b, c] = ⟨look [(0, .p a), (1, .p b), (2, .p c)], lookM []⟩ := by
  unfold init; congr 1; funext t
  match t with
  | 0 | 1 | 2 => rfl
  | t + 3 => simp [look_cons, look_nil]
theorem init4 (a b c d : D) : init [a, b, c, d] = ⟨look [(0, .p a), (1, .p b), (2, .p c), (3, .p d)], lookM []⟩ := by
  unfold init; congr 1; funext t
  match t with
  | 0 | 1 | 2 | 3 => rfl
  | t + 4 => simp [look_cons, look_nil]
theorem dc_bool (b : Bool) : D.cells (.bool b) = [.bool b] := rfl
theorem do_bool (b : Bool) : D.one (.bool b) = true := rfl
theorem da_bool (b : Bool) : D.isAgg (.bool b) = false := rfl
theorem dc_int (k : IntKind) (n : Int) : D.cells (.int k n) = [.int k n] := rfl
theorem do_int (k : IntKind) (n : Int) : D.one (.int k n) = true := rfl
theorem da_int (k : IntKind) (n : Int) : D.isAgg (.int k n) = false := rfl
theorem dc_str (s : List UInt8) : D.cells (.str s) = [.str s] := rfl
theorem do_str (s : List UInt8) : D.one (.str s) = true := rfl
theorem da_str (s : List UInt8) : D.isAgg (.str s) = false := rfl
theorem dc_list (T : TypeId) (sz : Nat) (l : List D) : D.cells (.list T sz l) = [.list T sz l] := rfl
theorem do_list (T : TypeId) (sz : Nat) (l : List D) : D.one (.list T sz l) = true := rfl
theorem da_list (T : TypeId) (sz : Nat) (l : List D) : D.isAgg (.list T sz l) = false := rfl
theorem dc_nilp  : D.cells .nilp = [.nilp] := rfl
theorem do_nilp  : D.one .nilp = true := rfl
theorem da_nilp  : D.isAgg .nilp = false := rfl
theorem dc_ref (d : D) : D.cells (.ref d) = [.ref d] := rfl
theorem do_ref (d : D) : D.one (.ref d) = true := rfl
theorem da_ref (d : D) : D.isAgg (.ref d) = false := rfl
theorem dc_fn (f : Fn) (x y : List D) : D.cells (.fn f x y) = [.fn f x y] := rfl
theorem do_fn (f : Fn) (x y : List D) : D.one (.fn f x y) = true := rfl
theorem da_fn (f : Fn) (x y : List D) : D.isAgg (.fn f x y) = false := rfl
theorem dc_agg (l : List D) : D.cells (.agg l) = l := rfl
theorem do_agg (l : List D) : D.one (.agg l) = false := rfl
theorem da_agg (l : List D) : D.isAgg (.agg l) = true := rfl
theorem ac_p (d : D) : AV.cells (.p d) = d.cells.map AV.p := rfl
theorem ao_p (d : D) : AV.one (.p d) = d.one := rfl
theorem aa_p (d : D) : AV.isAgg (.p d) = some d.isAgg := rfl
theorem ac_agg (l : List AV) : AV.cells (.agg l) = l := rfl
theorem aa_agg (l : List AV) : AV.isAgg (.agg l) = some true := rfl
theorem ao_agg (l : List AV) : AV.one (.agg l) = false := rfl
theorem ac_slice (i o n : Nat) : AV.cells (.slice i o n) = [.slice i o n] := rfl
theorem ao_slice (i o n : Nat) : AV.one (.slice i o n) = true := rfl
theorem aa_slice (i o n : Nat) : AV.isAgg (.slice i o n) = some false := rfl
theorem ac_ptr (i j o : Nat) : AV.cells (.ptr i j o) = [.ptr i j o] := rfl
theorem ao_ptr (i j o : Nat) : AV.one (.ptr i j o) = true := rfl
theorem aa_ptr (i j o : Nat) : AV.isAgg (.ptr i j o) = some false := rfl
theorem ac_nils (T : TypeId) (sz : Nat) : AV.cells (.nils T sz) = [.nils T sz] := rfl
theorem ao_nils (T : TypeId) (sz : Nat) : AV.one (.nils T sz) = true := rfl
theorem aa_nils (T : TypeId) (sz : Nat) : AV.isAgg (.nils T sz) = some false := rfl
theorem cops_app (G : FuncId → List D → D → Prop) (K : St → Prop) : ∀ (l l' : List COp) (s : St), cops G (l ++ l') K s = cops G l (cops G l' K) s
  | [], _, _ => rfl
  | c :: l, l', s => by
    have : (fun t => cops G (l ++ l') K t) = cops G l (cops G l' K) := funext fun t => cops_app G K l l' t
    show gstep G c (fun t => cops G (l ++ l') K t) s = gstep G c (cops G l (cops G l' K)) s
    rw [this]
theorem Sub.to (ts : List Nat) {r' : Nat → AV} (h : look (sel r ts) = r') : Sub OT ⟨r, m⟩ ⟨r', m⟩ := by subst h; exact Sub.und (sel_or ts)
theorem cw_mono {OT : List TypeId} {G : FuncId → List D → D → Prop} : ∀ {cc : CC} {Q Q' : AExit → St → Prop} {s : St}, (∀ e t, Q e t → Q' e t) → cw OT G cc Q s → cw OT G cc Q' s
  | .skip, _, _, _, h, k => h _ _ k
  | .ops _ l, _, _, _, h, k => ⟨k.1, cops_mono l _ k.2 fun _ ht => h _ _ ht⟩
  | .seq a b, Q, Q', s, h, k => by
    refine cw_mono (cc := a) (fun e t ht => ?_) k
    cases e with
    | normal => obtain ⟨u, h1, h2⟩ := ht; exact ⟨u, h1, cw_mono h h2⟩
    | exit id => exact h _ _ ht
    | ret => exact h _ _ ht
  | .cond x a b, Q, Q', s, h, k => by
    simp only [cw] at k ⊢
    split at k
    · exact ⟨fun e => cw_mono h (k.1 e), fun e => cw_mono h (k.2 e)⟩
    · exact k.elim
  | .block id a, Q, Q', s, h, k => by
    refine cw_mono (cc := a) (fun e t ht => ?_) k
    cases e with
    | normal => exact h _ _ ht
    | exit j =>
      simp only at ht ⊢
      split
      · rw [if_pos ‹_›] at ht; exact h _ _ ht
      · rw [if_neg ‹_›] at ht; exact h _ _ ht
    | ret => exact h _ _ ht
  | .loop a, Q, Q', s, h, k => fun R hR => k R fun t ht => hR t (cw_mono (fun e u hu => by
    cases e with
    | normal => exact hu
    | exit id => exact h _ _ hu
    | ret => exact h _ _ hu) ht)
  | .exit id, _, _, _, h, k => h _ _ k
  | .ret, _, _, _, h, k => h _ _ k
  | .stuck, _, _, _, _, k => k.elim
theorem loop_of {G : FuncId → List D → D → Prop} {a : CC} {Q : AExit → St → Prop} {s : St} {ι : Type} (p : ι → Prop) (I : ι → St) (μ : ι → Nat) (i0 : ι) (h0 : p i0) (hs : Sub OT s (I i0))
    (round : ∀ i, p i → cw OT G a (fun e t => match e with
      | .normal => ∃ j, p j ∧ Sub OT t (I j) ∧ μ j < μ i
      | e => Q e t) (I i)) : cw OT G (.loop a) Q s := fun R hR => by
  have key : ∀ n i, μ i = n → p i → R (I i) := by
    intro n
    induction n using Nat.strongRecOn with
    | _ n ih =>
      intro i hn hp
      refine hR _ (cw_mono ?_ (round i hp))
      intro e t h
      cases e with
      | normal =>
        obtain ⟨j, h1, h2, h3⟩ := h
        exact ⟨_, h2, ih _ (hn ▸ h3) j rfl h1⟩
      | exit id => exact h
      | ret => exact h
  exact ⟨_, hs, key _ i0 rfl h0⟩
theorem loop_in {G : FuncId → List D → D → Prop} {a : CC} {Q : AExit → St → Prop} {s u : St} (hs : Sub OT s u) (round : cw OT G a (fun e t => match e with
      | .normal => cw OT G (.loop a) Q t
      | e => Q e t) u) : cw OT G (.loop a) Q s := fun R hR => ⟨u, hs, hR _ (cw_mono (fun e t h => by
  cases e with
  | normal => exact h R hR
  | exit id => exact h
  | ret => exact h) round)⟩
theorem getD_I (l : List Int) (i : Nat) : (l.map (D.int .i64)).getD i default = D.int .i64 (l.getD i 0) := by
  rw [List.getD_eq_getElem?_getD, List.getD_eq_getElem?_getD, List.getElem?_map]
  cases l[i]? <;> rfl
theorem set_I (l : List Int) (i : Nat) (x : Int) : (l.map (D.int .i64)).set i (D.int .i64 x) = (l.set i x).map (D.int .i64) := List.map_set.symm
theorem rep_I (n : Nat) (x : Int) : List.replicate n (D.int .i64 x) = (List.replicate n x).map (D.int .i64) := List.map_replicate.symm
theorem take_I (l : List Int) (n : Nat) : (l.map (D.int .i64)).take n = (l.take n).map (D.int .i64) := List.map_take.symm
theorem drop_I (l : List Int) (n : Nat) : (l.map (D.int .i64)).drop n = (l.drop n).map (D.int .i64) := List.map_drop.symm
theorem app_I (l m : List Int) : l.map (D.int .i64) ++ m.map (D.int .i64) = (l ++ m).map (D.int .i64) := List.map_append.symm
theorem cast0 : ((0 : Nat) : Int) = 0 := rfl
theorem toNat1 (n : Nat) : ((n : Int) + 1).toNat = n + 1 := by omega
theorem cast1 (n : Nat) : ((n + 1 : Nat) : Int) = (n : Int) + 1 := rfl
end
end Go.Proofs.Ytlnhembcfhfpkaa.M
end
