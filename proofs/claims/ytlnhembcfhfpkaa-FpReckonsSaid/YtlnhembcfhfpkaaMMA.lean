/- The small machine: arrays that are written out or compared. -/
import Derived.Test.YtlnhembcfhfpkaaMM
import Derived.ChangeKeysEq
namespace Go.Proofs.Ytlnhembcfhfpkaa.M
open Go.RowKit

section
variable {P : Program} {w0 : World} {base : Bs} {nt : Nat} {loc : Locs} {s t : St} {a : Act} {w : World} {o : Oper} {id : Nat} {d : AV}

theorem sim_buildA {T e : TypeId} {n : Nat} {parts : Array (Nat × Operand)} {l : List D} {sz : Nat} {ie : TypeInfo} (h : Rel w0 base nt loc s a w) (ho : o.op = .build T parts) (hz : ZOk P T l true sz) (hu : P.underlying T = some (.array n e)) (hi : P.info? e = some ie)
    (he : ev (.build (l.map .p) (parts.toList.map fun p : Nat × Operand => (p.1 * ie.size, ie.size, opd P (some e) p.2))) id s = some (true, d, t)) : Good P w0 base nt o a w t d := by
  simp only [ev] at he
  split at he
  case h_2 => cases he
  rename_i m hm
  simp only [Option.some.injEq, Prod.mk.injEq, true_and] at he
  obtain ⟨rfl, rfl⟩ := he
  obtain ⟨i, z, g1, g2, g3, g4, g5, g6⟩ := hz
  obtain ⟨k1, k2⟩ := chkL_ok g4
  have hzc : RVs w (NB base s.m loc w) loc z.cells (l.map .p) := by
    refine ⟨by simpa using k1, fun e he => ?_, fun j e hj => ?_⟩
    · simp only [List.mem_map] at he
      obtain ⟨q, hq, rfl⟩ := he
      obtain ⟨j, hj⟩ := List.getElem?_of_mem hq
      exact (k2 j q hj).1
    · simp only [List.getElem?_map, Option.map_eq_some_iff] at hj
      obtain ⟨q, hq, rfl⟩ := hj
      have := (k2 j q hq).2 w (NB base s.m loc w)
      exact .p _ _ (by simpa using this)
  obtain ⟨cs', q1, q2⟩ := fill_ok h (fun i => some (i * ie.size, ie.size)) parts.toList _ z.cells _ m (by simp) (fun k i x off sz X h1 h2 => by
    simp only [List.getElem?_map, h1, Option.map_some, Option.some.injEq, Prod.mk.injEq] at h2
    obtain ⟨rfl, rfl, rfl⟩ := h2
    exact ⟨rfl, h.opd (some e) x⟩) hzc hm
  have hb : P.built T (parts.map fun (i, x) => (i, a.eval x)).toList = some cs' := by
    unfold Program.built
    simp only [g1, hu, g2, hi]
    rw [Array.toList_map]
    exact q1
  refine good_same h (v := .agg cs') ?_ (rv_mk q2.1 q2.2.1 q2.2.2)
  simp only [execOp, ho]
  exact run_v (run_build w T _ cs' hb)

theorem run_eqItems_ints {e : TypeId} {q : IntKind} (hu : P.underlying e = some (.int q)) (dd : Nat) (xs ys : Array Value) : ∀ (k o : Nat) (ks : List IntKind) (l m : List Int), l.length = k → m.length = k → ks.length = k →
    (∀ i q n, ks[i]? = some q → l[i]? = some n → xs[o + i]? = some (.int q n)) → (∀ i q n, ks[i]? = some q → m[i]? = some n → ys[o + i]? = some (.int q n)) →
    (Op.eqItems (dd + 1) e 1 xs ys (List.range' o k)).run P w = .ok (decide (l = m)) w
  | 0, o, [], [], [], _, _, _, _, _ => by simp [Op.eqItems]
  | k + 1, o, kk :: ks, x :: l, y :: m, h1, h2, h3, hx, hy => by
    have ih := run_eqItems_ints hu dd xs ys k (o + 1) ks l m (by simpa using h1) (by simpa using h2) (by simpa using h3)
      (fun i q n hi hj => by have := hx (i + 1) q n (by simpa using hi) (by simpa using hj); rwa [show o + (i + 1) = o + 1 + i by omega] at this)
      (fun i q n hi hj => by have := hy (i + 1) q n (by simpa using hi) (by simpa using hj); rwa [show o + (i + 1) = o + 1 + i by omega] at this)
    have hag : (isAgg e).run P w = .ok false w := by unfold isAgg; simp only [Sem.run_bind, run_underlying hu, Result.andThen]; rfl
    have px : (part e xs (o * 1)).run P w = .ok (.int kk x) w := by
      have := hx 0 kk x rfl rfl
      simp only [Nat.add_zero] at this
      simp [part, hag, this]
    have py : (part e ys (o * 1)).run P w = .ok (.int kk y) w := by
      have := hy 0 kk y rfl rfl
      simp only [Nat.add_zero] at this
      simp [part, hag, this]
    have pe := run_equalIn_int (P := P) w dd e kk q x y hu
    rw [List.range'_succ]
    simp only [Op.eqItems, Sem.run_bind, px, py, pe, Result.andThen_ok]
    by_cases hxy : x = y
    · subst hxy
      simp [ih]
    · simp [hxy]
  | 0, _, _ :: _, _, _, _, _, h, _, _ => by simp at h
  | 0, _, [], _ :: _, _, h, _, _, _, _ => by simp at h
  | 0, _, [], [], _ :: _, _, h, _, _, _ => by simp at h
  | _ + 1, _, [], _, _, _, _, h, _, _ => by simp at h
  | _ + 1, _, _ :: _, [], _, h, _, _, _, _ => by simp at h
  | _ + 1, _, _ :: _, _ :: _, [], _, h, _, _, _ => by simp at h

theorem sim_eqA {T e Y : TypeId} {n : Nat} {op : BinOp} {neg : Bool} {x y : Operand} (h : Rel w0 base nt loc s a w) (ho : o.op = .binOp op T x y Y) (hop : op = if neg then .neq else .eql) (hu : P.underlying T = some (.array n e)) (hT : intArr P T e = true) {U W : Option TypeId}
    (he : ev (.eqs n neg (opd P U x) (opd P W y)) id s = some (true, d, t)) : Good P w0 base nt o a w t d := by
  have hx := h.opd (P := P) U x
  have hy := h.opd (P := P) W y
  simp only [ev] at he
  split at he
  case h_2 => cases he
  rename_i la lb hk hk'
  split at he
  case h_2 => cases he
  rename_i k l k' m h1 h2
  split at he
  case isFalse => cases he
  rename_i hc
  obtain ⟨rfl, hlen⟩ := hc
  simp only [Option.some.injEq, Prod.mk.injEq, true_and] at he
  obtain ⟨rfl, rfl⟩ := he
  rw [hk] at hx
  rw [hk'] at hy
  have hx := hx.inv
  have hy := hy.inv
  generalize hxv : a.eval x = v at hx
  generalize hyv : a.eval y = u at hy
  cases hx with
  | agg xs _ x1 x2 x3 =>
  cases hy with
  | agg ys _ y1 y2 y3 =>
  simp only [intArr, Bool.and_eq_true, Bool.not_eq_true', beq_iff_eq] at hT
  obtain ⟨⟨⟨g3, g4⟩, g5⟩, g6⟩ := hT
  obtain ⟨ie, hie⟩ := Option.isSome_iff_exists.1 g5
  obtain ⟨q, hq⟩ : ∃ q, P.underlying e = some (.int q) := by
    split at g6
    · exact ⟨_, ‹_›⟩
    · cases g6
  obtain ⟨i1, i2, i3⟩ := intsOf_spec (w := w) (N := NB base s.m loc w) (cs := xs) 0 h1 (fun i d hi => by rw [Nat.zero_add]; exact x3 i d hi)
  obtain ⟨j1, j2, j3⟩ := intsOf_spec (w := w) (N := NB base s.m loc w) (cs := ys) 0 h2 (fun i d hi => by rw [Nat.zero_add]; exact y3 i d hi)
  have hrun := run_eqItems_ints (P := P) (w := w) hq 9998 xs ys n 0 k l m (by omega) (by omega) (by omega)
    (fun i k n hi hj => by have := i3 i k n hi hj; have hlt := (List.getElem?_eq_some_iff.1 hi).1; have hs : i < xs.size := (by omega); rw [← this]; simp [hs])
    (fun i k n hi hj => by have := j3 i k n hi hj; have hlt := (List.getElem?_eq_some_iff.1 hi).1; have hs : i < ys.size := (by omega); rw [← this]; simp [hs])
  have heq := run_equalIn_array (P := P) (w := w) 9999 (t := T) xs ys hu hie
  rw [g4, List.range_eq_range', hrun] at heq
  have hg := run_eqGuard_agg (P := P) w op T x y xs ys g3
  refine good_same h (v := .bool (if neg = true then !decide (l = m) else decide (l = m))) ?_ (.p _ _ (.bool _))
  simp only [execOp, ho, hxv, hyv]
  refine run_v ?_
  simp only [Sem.run_bind, hg, Result.andThen]
  subst hop
  cases neg with
  | true =>
    simp only [if_true]
    rw [run_neq_struct, show (10000 : Nat) = 9999 + 1 from rfl, heq]
    rfl
  | false =>
    simp only [Bool.false_eq_true, if_false]
    rw [run_eql_struct, show (10000 : Nat) = 9999 + 1 from rfl, heq]
    rfl

theorem sim_sliceA {T E : TypeId} {n0 : Nat} {ag : Bool} {x : Operand} {lo hi mx : Option Operand} (h : Rel w0 base nt loc s a w) (ho : o.op = .slice T x lo hi mx) (hu : P.underlying T = some (.array n0 E)) (hT : TyOk P E ag 1) (hm : mx.isSome = true → hi.isSome = true) {U : Option TypeId}
    (he : ev (.sliceA n0 (opd P U x) (lo.map (opd P none)) (hi.map (opd P none)) (mx.map (opd P none))) id s = some (true, d, t)) : Good P w0 base nt o a w t d := by
  have hx := h.opd (P := P) U x
  have run : ∀ b p l n m, a.eval x = .pointer (some ⟨b, p, none⟩) → (Instr.sliceBounds false n0 n0 (lo.map a.eval) (hi.map a.eval) (mx.map a.eval)).run P w = .ok (l, n, m) w →
      (execOp a.eval o).run P w = .ok (.value (.slice (some (if m = l then ⟨b, p, none⟩ else ⟨b, p + l, none⟩)) (n - l) (m - l))) w := by
    intro b p l n m hv hr
    simp [execOp, ho, hv, Instr.sliceAt, run_underlying hu, Instr.sureAddr, hr, run_sizeOf hT, add_mid]
  simp only [ev] at he
  split at he
  case h_2 => cases he
  rename_i i off hk
  split at he
  case h_2 => cases he
  rename_i T' osz v frz hob
  split at he
  case isFalse => cases he
  rename_i hfit
  split at he
  case h_2 => cases he
  rename_i c l n hb
  simp only [Option.some.injEq, Prod.mk.injEq] at he
  obtain ⟨hc, rfl, rfl⟩ := he
  rw [hk] at hx
  generalize hxv : a.eval x = xv at hx
  cases hx with
  | ptr L _ _ _ hL hn =>
  obtain ⟨m, hr, h1, h2, h3', h4'⟩ := run_bounds (P := P) false h (Nat.le_refl n0) hm hc hb
  obtain ⟨L', hL', hok⟩ := h.objs i _ hob
  rw [hL] at hL'
  cases hL'
  obtain ⟨cc, fr, k1, k2, k3, -⟩ := hok.at_ hn
  obtain ⟨m1, -⟩ := k3
  refine good_same h (run _ _ _ _ _ hxv hr) ?_
  by_cases hml : m = l
  · rw [show n - l = 0 by omega, show m - l = 0 by omega]
    exact .arrEmp L _ _ _ hL
  · rw [if_neg hml]
    simp only at m1
    rw [show L.o + (0 * L.sz + off) + l = L.o + (off + l) by omega]
    exact .arr L _ _ _ _ hL hn (by omega) (by omega) (by omega)

end

end Go.Proofs.Ytlnhembcfhfpkaa.M
