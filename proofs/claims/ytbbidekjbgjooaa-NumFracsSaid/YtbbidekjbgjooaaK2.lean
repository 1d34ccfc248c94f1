/- The small machine: the model does what the small machine says: arithmetic, lengths, slices. The small machine: the model does what the small machine says: slice expressions, new objects, stores. The small machine: what is handed on as plain data; stores; structs and slices that are written out. The small machine: the model does what the small machine says: stores, structs and slices that are written out. The small machine: structs and slices that are written out; append. The small machine: any operation but a call. The small machine: append. The small machine: calls by contract; a list of operations in its own order. The small machine: operations that do not touch one another may change places. The small machine: operations change places. The small machine: a region that draws its order. The small machine: regions, in their own order and in any. The small machine: code, and functions. -/
import Derived.Test.YtbbidekjbgjooaaK1
import Derived.Laws.MakeOwn
import Derived.Laws.Tables
import Derived.Laws.StructEq
import Derived.Deep.AppendSrc
import Derived.Deep.Upon
section
namespace Go.Proofs.Ytbbidekjbgjooaa.M
open Go.RowKit

theorem wrap_in {k : IntKind} {n : Int} (h : inK k n = true) : k.wrap n = n := by
  cases k <;> simp only [inK, decide_eq_true_eq] at h <;> simp only [IntKind.wrap, IntKind.signed, IntKind.bits, Bool.true_and, Bool.false_and, ge_iff_le, decide_eq_true_eq, Bool.false_eq_true, if_false] <;> first | (split <;> omega) | omega

theorem bytes_eq (x y : ByteArray) : (x.toList == y.toList) = decide (x.data.toList = y.data.toList) := by
  rw [ByteArray.toList_eq, ByteArray.toList_eq, Bool.eq_iff_iff]
  simp only [beq_iff_eq, decide_eq_true_eq]

section
variable {P : Program} {w0 : World} {base : Nat → Prop} {nt : Nat} {loc : Locs} {s t : St} {a : Act} {w : World} {o : Oper} {id : Nat} {d : AV}

theorem run_equal_bool {T : TypeId} (hT : P.underlying T = some .bool) (p q : Bool) : (Op.equal T (.bool p) (.bool q)).run P w = .ok (p == q) w := by
  have hd : Op.maxDepth = 9999 + 1 := rfl
  unfold Op.equal
  rw [hd, Op.equalIn]
  simp only [Sem.run_bind, run_underlying hT, Result.andThen]
  rfl
theorem run_bin_eql {T : TypeId} (hT : P.underlying T = some .bool) (p q : Bool) : (binOp .eql T (.bool p) (.bool q)).run P w = .ok (.bool (p == q)) w := by
  unfold binOp
  simp [run_equal_bool hT]
theorem run_bin_neq {T : TypeId} (hT : P.underlying T = some .bool) (p q : Bool) : (binOp .neq T (.bool p) (.bool q)).run P w = .ok (.bool (!(p == q))) w := by
  unfold binOp
  simp [run_equal_bool hT]

theorem sim_un {T : TypeId} {op : UnOp} {x : Operand} (h : Rel w0 base nt loc s a w) (ho : o.op = .unOp op T x) {U : Option TypeId}
    (he : ev (.un op (opd P U x)) id s = some (true, d, t)) : Good P w0 base nt o a w t d := by
  have hx := h.opd (P := P) U x
  simp only [ev] at he
  split at he
  · rename_i e hk
    split at he
    · rename_i c q hq
      simp only [Option.some.injEq, Prod.mk.injEq] at he
      obtain ⟨rfl, rfl, rfl⟩ := he
      rw [hk] at hx
      have hx := hx.inv
      generalize hxv : a.eval x = v at hx
      cases hx with
      | int k n =>
        cases op with
        | neg =>
          simp only [unD, Option.some.injEq, Prod.mk.injEq] at hq
          obtain ⟨h1, rfl⟩ := hq
          refine good_same h (v := .int k (-n)) ?_ (.p _ _ (.int _ _))
          have := wrap_in h1
          simp [execOp, ho, hxv, Op.unary, Op.intArith, this]
        | _ => simp [unD] at hq
      | bool b =>
        cases op with
        | not =>
          simp only [unD, Option.some.injEq, Prod.mk.injEq, true_and] at hq
          subst hq
          refine good_same h (v := .bool (!b)) ?_ (.p _ _ (.bool _))
          simp [execOp, ho, hxv, Op.unary]
        | _ => simp [unD] at hq
      | _ => simp [unD] at hq
    · cases he
  · cases he

theorem sim_conv {S T : TypeId} {k : IntKind} {ds : TypeDesc} {x : Operand} (h : Rel w0 base nt loc s a w) (ho : o.op = .convert S T x) (hS : P.underlying S = some ds) (hT : P.underlying T = some (.int k)) {U : Option TypeId}
    (he : ev (.conv k (opd P U x)) id s = some (true, d, t)) : Good P w0 base nt o a w t d := by
  have hx := h.opd (P := P) U x
  simp only [ev] at he
  split at he
  · rename_i k' n hk
    simp only [Option.some.injEq, Prod.mk.injEq] at he
    obtain ⟨h1, rfl, rfl⟩ := he
    rw [hk] at hx
    have hx := hx.inv
    generalize hxv : a.eval x = v at hx
    cases hx
    refine good_same h (v := .int k n) ?_ (.p _ _ (.int _ _))
    have := wrap_in h1
    simp [execOp, ho, hxv, convert, run_underlying hS, run_underlying hT, Conv.intToInt, this]
  · cases he

theorem sim_bin {T : TypeId} {op : BinOp} {x y : Operand} {Y : TypeId} (h : Rel w0 base nt loc s a w) (ho : o.op = .binOp op T x y Y) {bo : Bool} (hb : bo = true → P.underlying T = some .bool) {U W : Option TypeId}
    (he : ev (.bin bo op (opd P U x) (opd P W y)) id s = some (true, d, t)) : Good P w0 base nt o a w t d := by
  have hx := h.opd (P := P) U x
  have hy := h.opd (P := P) W y
  simp only [ev] at he
  split at he
  case h_2 => cases he
  rename_i e f hk hk'
  split at he
  case isFalse => cases he
  rename_i hbo
  split at he
  case h_2 => cases he
  rename_i c q hq
  simp only [Option.some.injEq, Prod.mk.injEq] at he
  obtain ⟨rfl, rfl, rfl⟩ := he
  rw [hk] at hx
  rw [hk'] at hy
  have hx := hx.inv
  have hy := hy.inv
  generalize hxv : a.eval x = v at hx
  generalize hyv : a.eval y = u at hy
  have fin : ∀ z, V w (NB base s.m loc w) z q → (eqGuard op T x y v u >>= fun _ => binOp op T v u).run P w = .ok z w → Good P w0 base nt o a w s (.p q) := by
    intro z hz hr
    refine good_same h (v := z) ?_ (.p _ _ hz)
    simp only [execOp, ho, hxv, hyv]
    exact run_v hr
  cases hx with
  | int k m =>
    cases hy with
    | int k' n =>
      have hg : (eqGuard op T x y (.int k m) (.int k' n)).run P w = .ok () w := by
        unfold eqGuard
        cases op <;> simp
      by_cases hkk : k = k'
      · subst hkk
        cases op <;> simp only [binD, if_true, Option.some.injEq, Prod.mk.injEq, Bool.and_eq_true, decide_eq_true_eq, reduceCtorEq] at hq <;> obtain ⟨h1, rfl⟩ := hq
        case add => exact fin _ (.int _ _) (by simp [hg, binOp, Op.intArith, wrap_in h1])
        case sub => exact fin _ (.int _ _) (by simp [hg, binOp, Op.intArith, wrap_in h1])
        case mul => exact fin _ (.int _ _) (by simp [hg, binOp, Op.intArith, wrap_in h1])
        case quo => exact fin _ (.int _ _) (by simp [hg, binOp, Op.intDiv, wrap_in h1.2, h1.1])
        case rem => exact fin _ (.int _ _) (by simp [hg, binOp, Op.intDiv, h1])
        case shl => exact fin _ (.int _ _) (by simp [hg, binOp, shift_shl k _ m n h1.1.1 (by omega), wrap_in h1.2])
        case shr => exact fin _ (.int _ _) (by simp [hg, binOp, shift_shr k _ m n h1.1 (by omega)])
        case eql => exact fin _ (.bool _) (by simp [hg, binOp, Op.intCmp]; rfl)
        case neq => exact fin _ (.bool _) (by simp [hg, binOp, Op.intCmp]; rfl)
        case lss => exact fin _ (.bool _) (by simp [hg, binOp, Op.intCmp])
        case leq => exact fin _ (.bool _) (by simp [hg, binOp, Op.intCmp])
        case gtr => exact fin _ (.bool _) (by simp [hg, binOp, Op.intCmp])
        case geq => exact fin _ (.bool _) (by simp [hg, binOp, Op.intCmp])
      · cases op <;> simp only [binD, hkk, if_false, Option.some.injEq, Prod.mk.injEq, Bool.and_eq_true, decide_eq_true_eq, reduceCtorEq] at hq <;> obtain ⟨h1, rfl⟩ := hq
        case shl => exact fin _ (.int _ _) (by simp [hg, binOp, shift_shl k _ m n h1.1.1 (by omega), wrap_in h1.2])
        case shr => exact fin _ (.int _ _) (by simp [hg, binOp, shift_shr k _ m n h1.1 (by omega)])
    | _ => simp [binD] at hq
  | str m =>
    cases hy with
    | str n =>
      have hg : (eqGuard op T x y (.string m) (.string n)).run P w = .ok () w := by
        unfold eqGuard
        cases op <;> simp
      cases op <;> simp only [binD, Option.some.injEq, Prod.mk.injEq, decide_eq_true_eq, reduceCtorEq] at hq <;> obtain ⟨h1, rfl⟩ := hq
      case add =>
        have e : (m.data.toList ++ n.data.toList) = (m ++ n).data.toList := by simp
        exact fin (.string (m ++ n)) (by rw [e]; exact .str _) (by
          have hle : ¬ ((9223372036854775807 : Int) < (m.size : Int) + n.size) := by
            have h2 : m.data.size = m.size := rfl
            have h3 : n.data.size = n.size := rfl
            simp at h1; omega
          simp [hg, binOp, Op.stringOp, hle])
      case eql => exact fin _ (.bool _) (by simp [hg, binOp, Op.stringOp, bytes_eq])
      case neq => exact fin _ (.bool _) (by simp [hg, binOp, Op.stringOp, bytes_eq])
    | _ => simp [binD] at hq
  | bool m =>
    have hT := hb hbo.symm
    cases hy with
    | bool n =>
      have hg : (eqGuard op T x y (.bool m) (.bool n)).run P w = .ok () w := by
        unfold eqGuard
        cases op <;> simp
      cases op <;> simp only [binD, Option.some.injEq, Prod.mk.injEq, true_and, reduceCtorEq] at hq <;> subst hq
      case eql => exact fin _ (.bool _) (by simp only [Sem.run_bind, hg, Result.andThen, run_bin_eql hT])
      case neq => exact fin _ (.bool _) (by simp only [Sem.run_bind, hg, Result.andThen, run_bin_neq hT])
    | _ => simp [binD] at hq
  | _ => simp [binD] at hq

theorem run_len {T : TypeId} {x : Operand} {c : Call} (ho : o.op = .call c) (hc : c.callee = .builtin .len) (ha : c.args.toList = [x]) (hT : c.argTypes.toList = [T]) {v : Value} {n : Nat} (hv : a.eval x = v)
    (hr : (Builtin.len_ #[T] o.type #[v]).run P w = .ok (.int .i64 n) w) : (execOp a.eval o).run P w = .ok (.value (.int .i64 n)) w := by
  have ha' : c.args = #[x] := by rw [← Array.toList_inj]; exact ha
  have hT' : c.argTypes = #[T] := by rw [← Array.toList_inj]; exact hT
  subst hv
  simp [execOp, ho, resolve, hc, ha', hT', invoke, builtin, hr]

theorem sim_lenS {T : TypeId} {x : Operand} {c : Call} (h : Rel w0 base nt loc s a w) (ho : o.op = .call c) (hc : c.callee = .builtin .len) (ha : c.args.toList = [x]) (hT : c.argTypes.toList = [T])
    (hu : P.underlying T = some .string) {U : Option TypeId}
    (he : ev (.lenS (opd P U x)) id s = some (true, d, t)) : Good P w0 base nt o a w t d := by
  have hx := h.opd (P := P) U x
  simp only [ev] at he
  split at he
  · rename_i l hk
    simp only [Option.some.injEq, Prod.mk.injEq, true_and] at he
    obtain ⟨rfl, rfl⟩ := he
    rw [hk] at hx
    have hx := hx.inv
    generalize hxv : a.eval x = v at hx
    cases hx with
    | str q =>
    refine good_same h (run_len ho hc ha hT hxv ?_) (.p _ _ (.int _ _))
    have : q.data.size = q.size := rfl
    simp [Builtin.len_, run_underlying hu, goInt, this]
  · cases he

theorem sim_len {T e : TypeId} {x : Operand} {c : Call} (h : Rel w0 base nt loc s a w) (ho : o.op = .call c) (hc : c.callee = .builtin .len) (ha : c.args.toList = [x]) (hT : c.argTypes.toList = [T])
    (hu : P.underlying T = some (.slice e)) {U : Option TypeId}
    (he : ev (.len (opd P U x)) id s = some (true, d, t)) : Good P w0 base nt o a w t d := by
  have hx := h.opd (P := P) U x
  have fin : ∀ p (n : Nat) cap, a.eval x = .slice p n cap → Good P w0 base nt o a w s (.p (.int .i64 n)) := fun p n cap hv =>
    good_same h (run_len ho hc ha hT hv (by simp [Builtin.len_, run_underlying hu, goInt])) (.p _ _ (.int _ _))
  simp only [ev] at he
  split at he
  · rename_i T' sz l hk
    simp only [Option.some.injEq, Prod.mk.injEq, true_and] at he
    obtain ⟨rfl, rfl⟩ := he
    rw [hk] at hx
    have hx := hx.inv
    generalize hxv : a.eval x = v at hx
    cases hx with
    | empty p cap => exact fin p 0 cap hxv
    | list b p cap => exact fin _ _ _ hxv
  · rename_i i off n hk
    simp only [Option.some.injEq, Prod.mk.injEq, true_and] at he
    obtain ⟨rfl, rfl⟩ := he
    rw [hk] at hx
    generalize hxv : a.eval x = v at hx
    cases hx with
    | slice => exact fin _ _ _ hxv
    | sliceEmp => exact fin _ 0 _ hxv
  · rename_i T' sz hk
    simp only [Option.some.injEq, Prod.mk.injEq, true_and] at he
    obtain ⟨rfl, rfl⟩ := he
    rw [hk] at hx
    generalize hxv : a.eval x = v at hx
    cases hx
    exact fin _ 0 _ hxv
  · cases he

/-- The bounds of a slice expression, in the model. -/
theorem run_bounds {lo hi mx : Option Operand} {len cap l n : Nat} (b : Bool) (h : Rel w0 base nt loc s a w) (hlc : len ≤ cap) (hm : mx.isSome = true → hi.isSome = true) {c : Bool} (hc : c = true)
    (hb : bounds s.r len (lo.map (opd P none)) (hi.map (opd P none)) (mx.map (opd P none)) = some (c, l, n)) :
    ∃ m, (Instr.sliceBounds b len cap (lo.map a.eval) (hi.map a.eval) (mx.map a.eval)).run P w = .ok (l, n, m) w ∧ l ≤ n ∧ n ≤ len ∧ n ≤ m ∧ m ≤ cap := by
  subst hc
  unfold bounds at hb
  split at hb
  case h_2 => cases hb
  rename_i L N hL hN
  have eLo : ∀ y, lo = some y → ∃ k, a.eval y = .int k L := by rintro y rfl; exact asI_eval h hL
  have eHi : ∀ y, hi = some y → ∃ k, a.eval y = .int k N := by rintro y rfl; exact asI_eval h hN
  have nLo : lo = none → L = 0 := by rintro rfl; simpa using hL.symm
  have nHi : hi = none → N = len := by rintro rfl; simpa using hN.symm
  have sb : ∀ k (i : Int) (y : Nat) code, 0 ≤ i → i ≤ y → (Instr.sliceBound (.int k i) y code).run P w = .ok i.toNat w := by
    intro k i y code h0 h1
    simp [Instr.sliceBound, asIntOf, h0, h1]
  cases mx with
  | none =>
    simp only [Option.map_none, Option.some.injEq, Prod.mk.injEq, decide_eq_true_eq] at hb
    obtain ⟨⟨h0, h1, h2⟩, rfl, rfl⟩ := hb
    refine ⟨cap, ?_, by omega, by omega, by omega, by omega⟩
    unfold Instr.sliceBounds
    cases hi with
    | none =>
      have hNl := nHi rfl
      subst hNl
      cases lo with
      | none => have hL0 := nLo rfl; subst hL0; simp
      | some y =>
        obtain ⟨k, hk⟩ := eLo y rfl
        have hs := sb k L len (if (none : Option Value).isSome = true then BoundsCode.slice3C else BoundsCode.sliceB) h0 h1
        simp only [Option.isSome_none, Bool.false_eq_true, if_false] at hs
        simp [hk, hs]
    | some z =>
      obtain ⟨k', hk'⟩ := eHi z rfl
      have hs' := sb k' N cap (if b = true then BoundsCode.sliceAcap else BoundsCode.sliceAlen) (by omega) (by omega)
      cases lo with
      | none => have hL0 := nLo rfl; subst hL0; simp [hk', hs']
      | some y =>
        obtain ⟨k, hk⟩ := eLo y rfl
        have hs := sb k L N.toNat BoundsCode.sliceB h0 (by omega)
        simp [hk, hk', hs, hs']
  | some q =>
    simp only [Option.map_some] at hb
    split at hb
    case h_2 => cases hb
    rename_i M hM
    simp only [Option.some.injEq, Prod.mk.injEq, decide_eq_true_eq] at hb
    obtain ⟨⟨h0, h1, h2, h3⟩, rfl, rfl⟩ := hb
    obtain ⟨k'', hk''⟩ := asI_eval h hM
    refine ⟨M.toNat, ?_, by omega, by omega, by omega, by omega⟩
    unfold Instr.sliceBounds
    have hs'' := sb k'' M cap (if b = true then BoundsCode.slice3Acap else BoundsCode.slice3Alen) (by omega) (by omega)
    cases hi with
    | none => simp at hm
    | some z =>
      obtain ⟨k', hk'⟩ := eHi z rfl
      have hs' := sb k' N M.toNat BoundsCode.slice3B (by omega) (by omega)
      cases lo with
      | none => have hL0 := nLo rfl; subst hL0; simp [hk', hs', hk'', hs'']
      | some y =>
        obtain ⟨k, hk⟩ := eLo y rfl
        have hs := sb k L N.toNat BoundsCode.slice3C h0 (by omega)
        simp [hk, hk', hs, hs', hk'', hs'']

end

end Go.Proofs.Ytbbidekjbgjooaa.M
end

section
namespace Go.Proofs.Ytbbidekjbgjooaa.M
open Go.RowKit

section
variable {P : Program} {w0 : World} {base : Nat → Prop} {nt : Nat} {loc : Locs} {s t : St} {a : Act} {w : World} {o : Oper} {id : Nat} {d : AV}

theorem sim_sliceS {T : TypeId} {x : Operand} {lo hi : Option Operand} (h : Rel w0 base nt loc s a w) (ho : o.op = .slice T x lo hi none) (hu : P.underlying T = some .string) {U : Option TypeId}
    (he : ev (.sliceS (opd P U x) (lo.map (opd P none)) (hi.map (opd P none))) id s = some (true, d, t)) : Good P w0 base nt o a w t d := by
  have hx := h.opd (P := P) U x
  simp only [ev] at he
  split at he
  case h_2 => cases he
  rename_i q hk
  split at he
  case h_2 => cases he
  rename_i c l n hb
  simp only [Option.some.injEq, Prod.mk.injEq] at he
  obtain ⟨hc, rfl, rfl⟩ := he
  rw [hk] at hx
  have hx := hx.inv
  generalize hxv : a.eval x = v at hx
  cases hx with
  | str q =>
  have hsz : q.data.toList.length = q.size := by simp
  rw [hsz] at hb
  obtain ⟨m, hr, h1, h2, h3, h4⟩ := run_bounds (P := P) (mx := none) false h (Nat.le_refl _) (by simp) hc hb
  simp only [Option.map_none] at hr
  have e : ((q.data.toList.drop l).take (n - l)) = (q.extract l n).data.toList := by
    simp [ByteArray.data_extract]
  rw [e]
  refine good_same h (v := .string (q.extract l n)) ?_ (.p _ _ (.str _))
  simp [execOp, ho, hxv, Instr.sliceAt, run_underlying hu, Instr.slice, hr]

theorem sim_slice {T E : TypeId} {ag : Bool} {sz : Nat} {x : Operand} {lo hi mx : Option Operand} (h : Rel w0 base nt loc s a w) (ho : o.op = .slice T x lo hi mx) (hu : P.underlying T = some (.slice E)) (hT : TyOk P E ag sz) (hm : mx.isSome = true → hi.isSome = true) {U : Option TypeId}
    (he : ev (.slice sz (opd P U x) (lo.map (opd P none)) (hi.map (opd P none)) (mx.map (opd P none))) id s = some (true, d, t)) : Good P w0 base nt o a w t d := by
  have hx := h.opd (P := P) U x
  have run : ∀ p len cap l n m, a.eval x = .slice p len cap → (Instr.sliceBounds true len cap (lo.map a.eval) (hi.map a.eval) (mx.map a.eval)).run P w = .ok (l, n, m) w →
      (execOp a.eval o).run P w = .ok (.value (.slice (if m = l then p else p.map (·.add (l * sz))) (n - l) (m - l))) w := by
    intro p len cap l n m hv hr
    simp [execOp, ho, hv, Instr.sliceAt, run_underlying hu, Instr.slice, hr, run_sizeOf hT]
  simp only [ev] at he
  split at he
  · rename_i T' sz' q hk
    split at he
    case isFalse => cases he
    rename_i hsz
    subst hsz
    split at he
    case h_2 => cases he
    rename_i c l n hb
    simp only [Option.some.injEq, Prod.mk.injEq] at he
    obtain ⟨hc, rfl, rfl⟩ := he
    rw [hk] at hx
    have hx := hx.inv
    generalize hxv : a.eval x = v at hx
    cases hx with
    | empty p cap _ _ hcap =>
      obtain ⟨m, hr, h1, h2, h3, h4⟩ := run_bounds (P := P) true h (Nat.zero_le cap) hm hc hb
      refine good_same h (run _ _ _ _ _ _ hxv hr) (.p _ _ ?_)
      have : n - l = 0 := by omega
      simp only [List.drop_nil, List.take_nil, this]
      exact .empty _ _ _ _ (by omega)
    | list b p cap _ _ _ c' fr g1 g2 g3 g4 g5 g6 g7 =>
      obtain ⟨m, hr, h1, h2, h3, h4⟩ := run_bounds (P := P) true h g3 hm hc hb
      refine good_same h (run _ _ _ _ _ _ hxv hr) (.p _ _ ?_)
      have hlen : ((q.drop l).take (n - l)).length = n - l := by simp; omega
      by_cases hml : m = l
      · have h0 : n - l = 0 := by omega
        simp only [h0, List.take_zero]
        exact .empty _ _ _ _ (by omega)
      · rw [if_neg hml]
        simp only [Option.map_some, add_mid]
        have idx : ∀ i e, ((q.drop l).take (n - l))[i]? = some e → q[l + i]? = some e := by
          intro i e hi
          have hlt : i < n - l := by have := (List.getElem?_eq_some_iff.1 hi).1; omega
          rw [List.getElem?_take_of_lt hlt, List.getElem?_drop] at hi
          exact hi
        have := V.list (w := w) (N := NB base s.m loc w) b (p + l * sz) (m - l) T' sz ((q.drop l).take (n - l)) c' fr g1 g2 (by omega) (by omega) (fun e he => g5 e (List.mem_of_mem_drop (List.mem_of_mem_take he)))
          (fun i e j d hi hj => by have := g6 (l + i) e j d (idx i e hi) hj; rw [Nat.add_mul] at this; omega)
          (fun i e j d hi hj => by have := g7 (l + i) e j d (idx i e hi) hj; rw [show p + ((l + i) * sz + j) = p + l * sz + (i * sz + j) by rw [Nat.add_mul]; omega] at this; exact this)
        rw [hlen] at this
        exact this
  · rename_i i off len hk
    split at he
    case h_2 => cases he
    rename_i ob hob
    split at he
    case isFalse => cases he
    rename_i hsz
    subst hsz
    split at he
    case h_2 => cases he
    rename_i c l n hb
    simp only [Option.some.injEq, Prod.mk.injEq] at he
    obtain ⟨hc, rfl, rfl⟩ := he
    rw [hk] at hx
    generalize hxv : a.eval x = v at hx
    cases hx with
    | sliceEmp L _ _ p hL =>
      obtain ⟨m, hr, h1, h2, h3, h4⟩ := run_bounds (P := P) true h (Nat.le_refl 0) hm hc hb
      refine good_same h (run _ _ _ _ _ _ hxv hr) ?_
      rw [show n - l = 0 by omega, show m - l = 0 by omega]
      exact .sliceEmp L _ _ _ hL
    | slice L _ _ _ cap hL hn h3 h4 h5 =>
      obtain ⟨m, hr, h1, h2, h3', h4'⟩ := run_bounds (P := P) true h h3 hm hc hb
      obtain ⟨L', hL', hok⟩ := h.objs i ob hob
      rw [hL] at hL'
      cases hL'
      refine good_same h (run _ _ _ _ _ _ hxv hr) ?_
      by_cases hml : m = l
      · rw [show n - l = 0 by omega, show m - l = 0 by omega]
        exact .sliceEmp L _ _ _ hL
      · rw [if_neg hml]
        simp only [Option.map_some, add_mid]
        have hs := hok.sz
        rw [show L.o + off * L.sz + l * ob.sz = L.o + (off + l) * L.sz by rw [hs, Nat.add_mul]; omega]
        have hmul : l * L.sz + (m - l) * L.sz ≤ cap * L.sz := by
          rw [← Nat.add_mul]; exact Nat.mul_le_mul_right _ (by omega)
        exact .slice L _ _ _ _ hL hn (by omega) (by omega) (by rw [Nat.add_mul]; omega)
  · rename_i T' sz' hk
    split at he
    case h_2 => cases he
    rename_i c l n hb
    simp only [Option.some.injEq, Prod.mk.injEq] at he
    obtain ⟨hc, rfl, rfl⟩ := he
    rw [hk] at hx
    generalize hxv : a.eval x = v at hx
    cases hx
    obtain ⟨m, hr, h1, h2, h3, h4⟩ := run_bounds (P := P) true h (Nat.le_refl 0) hm hc hb
    refine good_same h (run _ _ _ _ _ _ hxv hr) ?_
    obtain rfl : l = 0 := by omega
    obtain rfl : n = 0 := by omega
    obtain rfl : m = 0 := by omega
    exact .nils _ _
  · cases he

theorem zero_run {T : TypeId} {l : List D} {ag : Bool} {sz : Nat} (hz : ZOk P T l ag sz) : ∃ z : Value, (zeroValue T).run P w = .ok z w ∧ z.cells.size = sz ∧ l.length = sz ∧ (∀ i d, l[i]? = some d → d.one = true ∧ ∀ (w : World) (N : Nat → Prop), V w N (z.cells.getD i undef) d) ∧ (z.cells.size = 1 → z.cells.getD 0 undef = z.cells.getD 0 undef) := by
  obtain ⟨i, z, h1, h2, h3, h4, h5, h6⟩ := hz
  obtain ⟨g1, g2⟩ := chkL_ok h4
  refine ⟨z, by simp [zeroValue, typeInfo, h1, h2], by simpa [h5] using g1, h5, fun j d hj => ?_, fun _ => rfl⟩
  obtain ⟨k1, k2⟩ := g2 j d hj
  refine ⟨k1, fun w N => ?_⟩
  have := k2 w N
  simpa using this

theorem chk_nil {v : Value} {T : TypeId} {sz : Nat} (h : chkD v (.list T sz []) = true) : v = .slice none 0 0 := by
  unfold chkD at h
  split at h <;> simp_all

/-- The zero value of a variable, as it is known. -/
theorem zeroA_cells {T : TypeId} {l : List D} {ag : Bool} {sz : Nat} (hz : ZOk P T l ag sz) (h1 : ∀ e ∈ (zeroA l ag).cells, e.one = true) {z : Value} (hr : (zeroValue T).run P w = .ok z w) (N : Nat → Prop) :
    ∀ i e, (zeroA l ag).cells[i]? = some e → RV w N loc (z.cells.getD i undef) e := by
  obtain ⟨i, z', g1, g2, g3, g4, g5, g6⟩ := hz
  have hzz : z' = z := by
    have : (zeroValue T).run P w = .ok z' w := by simp [zeroValue, typeInfo, g1, g2]
    rw [this] at hr
    injection hr
  subst hzz
  obtain ⟨k1, k2⟩ := chkL_ok g4
  have hV : ∀ j d, l[j]? = some d → V w N (z'.cells.getD j undef) d := fun j d hj => by
    have := (k2 j d hj).2 w N
    simpa using this
  intro j e hj
  unfold zeroA at hj h1
  split at hj
  · simp only [AV.cells, D.cells, List.getElem?_map, Option.map_eq_some_iff] at hj
    obtain ⟨d, hd, rfl⟩ := hj
    exact .p _ _ (hV j d hd)
  · rename_i hag
    rw [if_neg hag] at h1
    split at hj
    · rename_i T' sz'
      match j, hj with
      | 0, hj =>
        simp [AV.cells] at hj
        subst hj
        have : z'.cells.toList.length = 1 := k1
        generalize hzl : z'.cells.toList = zl at g4 this
        match zl, this with
        | [v], _ =>
          have hv : z'.cells.getD 0 undef = v := by
            have : z'.cells = #[v] := by rw [← Array.toList_inj]; exact hzl
            simp [this]
          rw [hv]
          simp only [chkL, Bool.and_true] at g4
          rw [chk_nil g4]
          exact .nils _ _
      | j + 1, hj => simp [AV.cells] at hj
    · rename_i d hne
      simp only [AV.cells, List.getElem?_map, Option.map_eq_some_iff] at hj h1
      obtain ⟨q, hq, rfl⟩ := hj
      have ho := h1 (.p q) (List.mem_map.2 ⟨q, List.mem_of_getElem? hq, rfl⟩)
      have hd1 : d.one = true := (k2 0 d rfl).1
      have hc : d.cells = [d] := by cases d <;> first | rfl | simp [D.one] at hd1
      rw [hc] at hq
      match j, hq with
      | 0, hq => simp at hq; subst hq; exact .p _ _ (hV 0 d rfl)
      | j + 1, hq => simp at hq
    · match j, hj with
      | 0, hj => simp [AV.cells] at hj; subst hj; exact .und _
      | j + 1, hj => simp [AV.cells] at hj

theorem sim_alloc {T : TypeId} {l : List D} {ag : Bool} {sz : Nat} (h : Rel w0 base nt loc s a w) (ho : o.op = .alloc T) (hz : ZOk P T l ag sz)
    (he : ev (.alloc T sz (zeroA l ag)) id s = some (true, d, t)) (hc : (zeroA l ag).cells.length = sz) (h1 : ∀ e ∈ (zeroA l ag).cells, e.one = true) : Good P w0 base nt o a w t d := by
  simp only [ev] at he
  split at he
  case h_2 => cases he
  rename_i hid
  simp only [Option.some.injEq, Prod.mk.injEq, true_and] at he
  obtain ⟨rfl, rfl⟩ := he
  obtain ⟨z, hr, hsz, -⟩ := zero_run (w := w) hz
  have hcells := zeroA_cells (loc := loc) hz h1 hr (NB base s.m loc w)
  obtain ⟨loc', hl, hrel⟩ := h.alloc (T := T) (c := z.cells) (k := .box (zeroA l ag)) (sz := sz) hid ⟨by omega, hc, h1, fun j e hj => by rw [Nat.zero_add]; exact hcells j e hj⟩
  refine ⟨.pointer (some ⟨w.heap.size, 0, none⟩), w.alloc (.cells z.cells T), loc', .inl ?_, hrel, ?_⟩
  · simp [execOp, ho, Instr.alloc, hr, newVar, newRow]
  · have := RV.ptr (w := w.alloc (.cells z.cells T)) (N := NB base (upd s.m id (some ⟨T, sz, .box (zeroA l ag), false⟩)) loc' (w.alloc (.cells z.cells T))) _ id 0 0 hl rfl
    simpa using this

theorem sim_box {T : TypeId} {sz : Nat} {x : Operand} (h : Rel w0 base nt loc s a w) (ho : o.op = .box T x) {U : Option TypeId}
    (he : ev (.box T sz (opd P U x)) id s = some (true, d, t)) : Good P w0 base nt o a w t d := by
  have hx := h.opd (P := P) U x
  simp only [ev] at he
  split at he
  case h_2 => cases he
  rename_i hid
  split at he
  case isFalse => cases he
  rename_i hcond
  obtain ⟨hc, h1⟩ := hcond
  rw [List.all_eq_true] at h1
  simp only [Option.some.injEq, Prod.mk.injEq, true_and] at he
  obtain ⟨rfl, rfl⟩ := he
  obtain ⟨g1, g2⟩ := hx.cells h1
  obtain ⟨loc', hl, hrel⟩ := h.alloc (T := T) (c := (a.eval x).cells) (k := .box ((opd P U x).ev s.r)) (sz := sz) hid ⟨by omega, hc, h1, fun j e hj => by rw [Nat.zero_add]; exact g2 j e hj⟩
  refine ⟨.pointer (some ⟨w.heap.size, 0, none⟩), w.alloc (.cells (a.eval x).cells T), loc', .inl ?_, hrel, ?_⟩
  · simp [execOp, ho, Instr.box, newVar, newRow]
  · have := RV.ptr (w := w.alloc (.cells (a.eval x).cells T)) (N := NB base (upd s.m id (some ⟨T, sz, .box ((opd P U x).ev s.r), false⟩)) loc' (w.alloc (.cells (a.eval x).cells T))) _ id 0 0 hl rfl
    simpa using this

theorem sim_makeSlice {T E : TypeId} {l : List D} {ag : Bool} {sz bytes : Nat} {x y : Operand} (h : Rel w0 base nt loc s a w) (ho : o.op = .makeSlice T x y) (hu : P.underlying T = some (.slice E)) (hz : ZOk P E l ag sz) {i : TypeInfo} (hi : P.info? E = some i) (hb : i.bytes = bytes) {U W : Option TypeId}
    (he : ev (.makeSlice E sz bytes (if ag then .agg l else l.headD default) (opd P U x) (opd P W y)) id s = some (true, d, t)) : Good P w0 base nt o a w t d := by
  simp only [ev] at he
  split at he
  case h_2 => cases he
  rename_i hid
  split at he
  case h_2 => cases he
  rename_i n m hn hm
  simp only [Option.some.injEq, Prod.mk.injEq, decide_eq_true_eq] at he
  obtain ⟨⟨h0, rfl, h2, h3⟩, rfl, rfl⟩ := he
  obtain ⟨k1, hx⟩ := asI_eval h hn
  obtain ⟨k2, hy⟩ := asI_eval h hm
  obtain ⟨q, rfl⟩ := Int.eq_ofNat_of_zero_le h0
  obtain ⟨z, hr, hsz, hl, hcell, -⟩ := zero_run (w := w) hz
  have hcl : (if ag then D.agg l else l.headD default).cells = l := by
    cases ag with
    | true => rfl
    | false =>
      have : sz = 1 := by obtain ⟨_, _, _, _, _, _, _, h6⟩ := hz; exact h6 rfl
      match l, hl with
      | [e], _ =>
        have := (hcell 0 e rfl).1
        cases e <;> first | rfl | simp [D.one] at this
      | [], hl => simp at hl; omega
      | _ :: _ :: _, hl => simp at hl; omega
  have hTy : TyOk P E ag sz := by obtain ⟨_, _, _, _, h3, _⟩ := hz; exact h3
  obtain ⟨loc', hl', hrel⟩ := h.alloc (T := E) (c := (madeCells z.cells (q * sz))) (k := .row (List.replicate q (if ag then D.agg l else l.headD default))) (sz := sz) hid (by
    refine ⟨by simp [madeCells], fun e he => ?_, fun i e j d hi hj => ?_⟩
    · rw [List.eq_of_mem_replicate he, hcl, hl]
    · have hiq : i < q := by have := (List.getElem?_eq_some_iff.1 hi).1; simpa using this
      have he := List.eq_of_mem_replicate (List.mem_of_getElem? hi)
      rw [he, hcl] at hj
      have hjl : j < sz := by have := (List.getElem?_eq_some_iff.1 hj).1; omega
      obtain ⟨g1, g2⟩ := hcell j d hj
      refine ⟨g1, ?_⟩
      have hlt : i * sz + j < q * sz := by
        have := Nat.mul_le_mul_right sz (show i + 1 ≤ q by omega)
        rw [Nat.add_mul] at this; omega
      have hmod : (i * sz + j) % sz = j := by rw [Nat.add_comm, Nat.add_mul_mod_self_right]; exact Nat.mod_eq_of_lt hjl
      have := g2 w (NB base s.m loc w)
      simp only [Nat.zero_add, Array.getD_eq_getD_getElem?] at this ⊢
      simp [madeCells, hlt, hsz, hmod]
      simpa [hsz, hjl] using this)
  refine ⟨.slice (some ⟨w.heap.size, 0, none⟩) q q, w.alloc (.cells (madeCells z.cells (q * sz)) E), loc', .inl ?_, hrel, ?_⟩
  · obtain ⟨i', z', g1, g2, g3, _⟩ := hz
    rw [hi] at g1
    cases g1
    have hzz : z' = z := by
      have : (zeroValue E).run P w = .ok z' w := by simp [zeroValue, typeInfo, hi, g2]
      rw [this] at hr
      injection hr
    subst hzz
    have his : i.size = sz := by obtain ⟨_, i2, _, _, h3, h4⟩ := hTy; rw [hi] at h3; cases h3; exact h4
    have := run_make (P := P) w T E i z' hu hi g2 k1 k2 (q : Int) (q : Int) (by omega) (by omega) (by rw [hb]; omega) (by omega)
    rw [Int.toNat_natCast, his] at this
    simp [execOp, ho, hx, hy, this]
  · have := RV.slice (w := w.alloc (.cells (madeCells z.cells (q * sz)) E)) (N := NB base (upd s.m id (some ⟨E, sz, .row (List.replicate q (if ag then D.agg l else l.headD default)), false⟩)) loc' (w.alloc (.cells (madeCells z.cells (q * sz)) E))) _ id 0 q q hl' rfl (Nat.le_refl _) (by omega) (by simp [madeCells])
    simpa using this

end

end Go.Proofs.Ytbbidekjbgjooaa.M
end

section
namespace Go.Proofs.Ytbbidekjbgjooaa.M
open Go.RowKit

section
variable {P : Program} {w0 : World} {base : Nat → Prop} {nt : Nat} {loc : Locs} {s t : St} {a : Act} {w : World} {o : Oper} {id : Nat} {d : AV}

theorem toDL_spec {any : Bool} {M : Mem} : ∀ {n : Nat} {l : List AV} {ds : List D}, toDL any M n l = some ds → l.length = ds.length ∧ ∀ (i : Nat) (e : D), ds[i]? = some e → ∃ (x : AV) (m : Nat), m < n ∧ l[i]? = some x ∧ x.toD any M m = some e
  | 0, l, ds, h => by simp [toDL] at h
  | n + 1, [], ds, h => by
    simp only [toDL, Option.some.injEq] at h
    subst h
    exact ⟨rfl, fun i d h => by simp at h⟩
  | n + 1, v :: l, ds, h => by
    simp only [toDL] at h
    split at h
    · rename_i d ds' h1 h2
      simp only [Option.some.injEq] at h
      subst h
      obtain ⟨g1, g2⟩ := toDL_spec h2
      refine ⟨by simp [g1], fun i d' hi => ?_⟩
      match i, hi with
      | 0, hi => simp at hi; subst hi; exact ⟨v, n, by omega, rfl, h1⟩
      | i + 1, hi =>
        obtain ⟨x, m, k1, k2, k3⟩ := g2 i d' (by simpa using hi)
        exact ⟨x, m, by omega, by simpa using k2, k3⟩
    · cases h

theorem toD_one {any : Bool} {M : Mem} {n : Nat} {x : AV} {d : D} (h : x.toD any M n = some d) (h1 : x.one = true) : d.one = true := by
  cases n with
  | zero => simp [AV.toD] at h
  | succ n =>
    cases x with
    | p e => simp [AV.toD] at h; subst h; exact h1
    | nils T sz => simp [AV.toD] at h; subst h; rfl
    | slice i off len =>
      simp only [AV.toD] at h
      split at h
      · split at h
        · split at h
          · simp only [Option.some.injEq] at h; subst h; rfl
          · cases h
        · cases h
      · cases h
    | ptr i j off =>
      simp only [AV.toD] at h
      split at h
      · split at h
        · split at h
          · split at h
            · simp only [Option.map_eq_some_iff] at h; obtain ⟨e, -, rfl⟩ := h; rfl
            · cases h
          · cases h
        · cases h
      · cases h
    | _ => simp [AV.one] at h1

/-- The cells of what is handed on. -/
theorem toD_cells {any : Bool} {M : Mem} {n : Nat} {x : AV} {d : D} (h : x.toD any M n = some d) (h1 : ∀ e ∈ x.cells, e.one = true) :
    d.cells.length = x.cells.length ∧ ∀ (j : Nat) (e : D), d.cells[j]? = some e → e.one = true ∧ ∃ (y : AV) (m : Nat), m ≤ n ∧ x.cells[j]? = some y ∧ y.toD any M m = some e := by
  cases n with
  | zero => simp [AV.toD] at h
  | succ n =>
    have single : x.one = true → x.cells = [x] → d.cells.length = x.cells.length ∧ ∀ (j : Nat) (e : D), d.cells[j]? = some e → e.one = true ∧ ∃ (y : AV) (m : Nat), m ≤ n + 1 ∧ x.cells[j]? = some y ∧ y.toD any M m = some e := by
      intro ho hc
      have hd := toD_one h ho
      have hdc : d.cells = [d] := by cases d <;> first | rfl | simp [D.one] at hd
      rw [hc, hdc]
      refine ⟨rfl, fun j e hj => ?_⟩
      match j, hj with
      | 0, hj => simp at hj; subst hj; exact ⟨hd, x, n + 1, Nat.le_refl _, rfl, h⟩
      | j + 1, hj => simp at hj
    cases x with
    | p e =>
      simp [AV.toD] at h
      subst h
      refine ⟨by simp [AV.cells], fun j q hq => ?_⟩
      have hm : (AV.p e).cells[j]? = some (.p q) := by simp [AV.cells, hq]
      exact ⟨h1 (.p q) (List.mem_of_getElem? hm), .p q, n + 1, Nat.le_refl _, hm, by simp [AV.toD]⟩
    | agg l =>
      simp only [AV.toD, Option.map_eq_some_iff] at h
      obtain ⟨ds, hds, rfl⟩ := h
      obtain ⟨g1, g2⟩ := toDL_spec hds
      refine ⟨g1.symm, fun j e hj => ?_⟩
      obtain ⟨y, m, k1, k2, k3⟩ := g2 j e hj
      exact ⟨toD_one k3 (h1 y (List.mem_of_getElem? k2)), y, m, by omega, k2, k3⟩
    | nils T sz => exact single rfl rfl
    | slice i off len => exact single rfl rfl
    | ptr i j off => exact single rfl rfl
    | und => simp [AV.cells, AV.one] at h1
    | tup l => simp [AV.cells, AV.one] at h1

theorem toD_ok {any : Bool} {N' : Nat → Prop} (h : Rel w0 base nt loc s a w) (hN : ∀ b, NB base s.m loc w b → N' b)
    (hO : ∀ id o L, s.m id = some o → (o.frz || any) = true → loc id = some L → L.nil = false → N' L.b) :
    ∀ (n : Nat) (x : AV) (v : Value) (d : D), x.toD any s.m n = some d → RV w (NB base s.m loc w) loc v x → V w N' v d := by
  intro n
  induction n using Nat.strongRecOn with
  | _ n ih =>
  intro x v d hd hv
  cases n with
  | zero => simp [AV.toD] at hd
  | succ n =>
  cases hv with
  | und => simp [AV.toD] at hd
  | p _ e hV =>
    simp [AV.toD] at hd
    subst hd
    exact hV.mono (fun _ _ => rfl) hN
  | nils T sz =>
    simp [AV.toD] at hd
    subst hd
    exact .empty _ _ _ _ (by omega)
  | agg cs l h1 h2 h3 =>
    simp only [AV.toD, Option.map_eq_some_iff] at hd
    obtain ⟨ds, hds, rfl⟩ := hd
    obtain ⟨g1, g2⟩ := toDL_spec hds
    refine .agg _ _ (h1.trans g1) (fun e he => ?_) (fun i e hi => ?_)
    · obtain ⟨i, hi⟩ := List.getElem?_of_mem he
      obtain ⟨y, m, k1, k2, k3⟩ := g2 i e hi
      exact toD_one k3 (h2 y (List.mem_of_getElem? k2))
    · obtain ⟨y, m, k1, k2, k3⟩ := g2 i e hi
      exact ih m (by omega) y _ e k3 (h3 i y k2)
  | tup cs l h1 h3 =>
    simp only [AV.toD, Option.map_eq_some_iff] at hd
    obtain ⟨ds, hds, rfl⟩ := hd
    obtain ⟨g1, g2⟩ := toDL_spec hds
    refine .tup _ _ (h1.trans g1) (fun i e hi => ?_)
    obtain ⟨y, m, k1, k2, k3⟩ := g2 i e hi
    exact ih m (by omega) y _ e k3 (h3 i y k2)
  | slice L i off len cap hL hn h3 h4 h5 =>
    simp only [AV.toD] at hd
    split at hd
    case h_2 => cases hd
    rename_i ob hob
    split at hd
    case h_2 => cases hd
    rename_i l hcont
    split at hd
    case isFalse => cases hd
    rename_i hc
    simp only [Bool.and_eq_true, decide_eq_true_eq] at hc
    simp only [Option.some.injEq] at hd
    subst hd
    obtain ⟨L', hL', hok⟩ := h.objs i ob hob
    rw [hL] at hL'
    cases hL'
    obtain ⟨c, fr, k1, k2, k3, k4, k5⟩ := hok.at_ hn
    rw [hcont] at k3
    obtain ⟨m1, m2, m3⟩ := k3
    have hsz := hok.sz
    have hlen : ((l.drop off).take len).length = len := by simp; omega
    have idx : ∀ j e, ((l.drop off).take len)[j]? = some e → l[off + j]? = some e := by
      intro j e hj
      have hlt : j < len := by have := (List.getElem?_eq_some_iff.1 hj).1; omega
      rw [List.getElem?_take_of_lt hlt, List.getElem?_drop] at hj
      exact hj
    have := V.list (w := w) (N := N') L.b (L.o + off * L.sz) cap ob.T ob.sz ((l.drop off).take len) c fr k1 (hO i ob L hob hc.1 hL hn) (by omega) h4
      (fun e he => by
        have hm := List.mem_of_mem_drop (List.mem_of_mem_take he)
        refine ⟨m2 e hm, fun q hq => ?_⟩
        obtain ⟨p, hp⟩ := List.getElem?_of_mem hm
        obtain ⟨r, hr⟩ := List.getElem?_of_mem hq
        exact (m3 p e r q hp hr).1)
      (fun p e r q hp hr => by
        have hle := idx p e hp
        have hlt := (List.getElem?_eq_some_iff.1 hle).1
        have hrl : r < ob.sz := by have := (List.getElem?_eq_some_iff.1 hr).1; have := m2 e (List.mem_of_getElem? hle); omega
        have hmul := Nat.mul_le_mul_right ob.sz (show off + p + 1 ≤ l.length by omega)
        rw [Nat.add_mul, Nat.add_mul] at hmul
        rw [hsz]; omega)
      (fun p e r q hp hr => by
        have := (m3 _ e r q (idx p e hp) hr).2
        rw [show L.o + ((off + p) * ob.sz + r) = L.o + off * L.sz + (p * ob.sz + r) by rw [hsz, Nat.add_mul]; omega] at this
        exact this.mono (fun _ _ => rfl) hN)
    rw [hlen] at this
    exact this
  | sliceEmp L i off p hL =>
    simp only [AV.toD] at hd
    split at hd
    case h_2 => cases hd
    rename_i ob hob
    split at hd
    case h_2 => cases hd
    rename_i l hcont
    split at hd
    case isFalse => cases hd
    simp only [List.take_zero, Option.some.injEq] at hd
    subst hd
    exact .empty _ _ _ _ (by omega)
  | ptr L i j off hL hn =>
    simp only [AV.toD] at hd
    split at hd
    case isFalse => cases hd
    rename_i hij
    obtain ⟨rfl, rfl⟩ := hij
    split at hd
    case h_2 => cases hd
    rename_i ob hob
    split at hd
    case h_2 => cases hd
    rename_i u hcont
    split at hd
    case isFalse => cases hd
    rename_i hc
    simp only [Option.map_eq_some_iff] at hd
    obtain ⟨e, he, rfl⟩ := hd
    obtain ⟨L', hL', hok⟩ := h.objs i ob hob
    rw [hL] at hL'
    cases hL'
    obtain ⟨c, fr, k1, k2, k3, k4, k5⟩ := hok.at_ hn
    rw [hcont] at k3
    obtain ⟨m1, m2, m3, m4⟩ := k3
    obtain ⟨g1, g2⟩ := toD_cells he m3
    rw [show L.o + (0 * L.sz + 0) = L.o by omega]
    refine .ref L.b L.o ob.T e c fr k1 (hO i ob L hob hc hL hn) (fun q hq => ?_) (fun p q hp => ?_) (fun p q hp => ?_)
    · obtain ⟨p, hp⟩ := List.getElem?_of_mem hq
      exact (g2 p q hp).1
    · have := (List.getElem?_eq_some_iff.1 hp).1; omega
    · obtain ⟨_, y, m, r1, r2, r3⟩ := g2 p q hp
      exact ih m (by omega) y _ q r3 (m4 p y r2)

end

end Go.Proofs.Ytbbidekjbgjooaa.M
end

section
namespace Go.Proofs.Ytbbidekjbgjooaa.M
open Go.RowKit

section
variable {P : Program} {w0 : World} {base : Nat → Prop} {nt : Nat} {loc : Locs} {s t : St} {a : Act} {w : World} {o : Oper} {id : Nat} {d : AV}

theorem toD_pure (h : Rel w0 base nt loc s a w) {n : Nat} {x : AV} {v : Value} {d : D} (hd : x.toD false s.m n = some d) (hv : RV w (NB base s.m loc w) loc v x) : V w (NB base s.m loc w) v d := by
  refine toD_ok h (fun _ h => h) (fun id o L ho hf hL hn => ?_) n x v d hd hv
  obtain ⟨L', hL', hok⟩ := h.objs id o ho
  rw [hL] at hL'
  cases hL'
  obtain ⟨c, fr, k1, k2, k3, k4, k5⟩ := hok.at_ hn
  exact k5 (by simpa using hf)

theorem cells_not_tup {d : D} (h : d.cells.all D.one = true) : ∀ l, d ≠ .tup l := by
  rintro l rfl
  simp [D.cells, D.one] at h

/-- The cells of a struct that is put together. -/
theorem mk_cells {l : List AV} (h1 : ∀ e ∈ l, e.one = true) : (AV.mk l).cells.length = l.length ∧ (∀ e ∈ (AV.mk l).cells, e.one = true) ∧
    ∀ (w : World) (N : Nat → Prop) (loc : Locs) (v : Value) (r : Nat) (z : AV), (AV.mk l).cells[r]? = some z → (∀ e, l[r]? = some e → RV w N loc v e) → RV w N loc v z := by
  unfold AV.mk
  split
  · rename_i ds hds
    obtain ⟨g1, g2⟩ := pureL_spec hds
    refine ⟨by simp [AV.cells, D.cells, g1], fun e he => ?_, fun w N loc v r z hz hr => ?_⟩
    · simp only [AV.cells, D.cells, List.mem_map] at he
      obtain ⟨q, hq, rfl⟩ := he
      obtain ⟨i, hi⟩ := List.getElem?_of_mem hq
      obtain ⟨x, hx, hp⟩ := g2 i q hi
      have := h1 x (List.mem_of_getElem? hx)
      cases x <;> simp [AV.one] at this <;> simp [AV.pure] at hp
      · subst hp; exact this
      · subst hp; rfl
    · simp only [AV.cells, D.cells, List.getElem?_map, Option.map_eq_some_iff] at hz
      obtain ⟨q, hq, rfl⟩ := hz
      obtain ⟨x, hx, hp⟩ := g2 r q hq
      exact .p _ _ ((hr x hx).pure hp)
  · exact ⟨rfl, h1, fun w N loc v r z hz hr => hr z hz⟩

theorem sim_store {T : TypeId} {ag : Bool} {sz : Nat} {x v : Operand} (h : Rel w0 base nt loc s a w) (ho : o.op = .store T x v) (hT : TyOk P T ag sz) {U W : Option TypeId}
    (he : ev (.store sz (opd P U x) (opd P W v)) id s = some (true, d, t)) : Good P w0 base nt o a w t d := by
  have hx := h.opd (P := P) U x
  have hv := h.opd (P := P) W v
  simp only [ev] at he
  split at he
  case h_2 => cases he
  rename_i i j off hk
  rw [hk] at hx
  generalize hxv : a.eval x = xv at hx
  cases hx with
  | ptr L _ _ _ hL hn =>
  -- what is stored, and how the object reads then
  have goal : ∀ (ob : AObj) (k : Cont), s.m i = some ob → ob.frz = false → (a.eval v).cells.size = sz → (∀ u ∈ (a.eval v).cells.toList, u.oneCell' = true) →
      (∀ c, c.size = L.n → ContOk w (NB base s.m loc w) loc c L.o ob.sz ob.cont → L.o + (j * L.sz + off) + sz ≤ c.size) →
      (∀ (w' : World) (c : Array Value), w.heap.size ≤ w'.heap.size → (∀ b, NB base s.m loc w b → w'.heap[b]? = w.heap[b]?) → ContOk w' (NB base s.m loc w') loc c L.o ob.sz ob.cont → c.size = L.n → ContOk w' (NB base s.m loc w') loc (setC c (L.o + (j * L.sz + off)) (a.eval v).cells.toList) L.o ob.sz k) →
      Good P w0 base nt o a w ⟨s.r, upd s.m i (some ⟨ob.T, ob.sz, k, false⟩)⟩ .und := by
    intro ob k hob hf hsz h1 hfit hk'
    have hrel := h.write hob hf hL hn hk'
    refine ⟨undef, _, loc, .inr ⟨?_, rfl⟩, hrel, .und _⟩
    obtain ⟨L', hL', hok⟩ := h.objs i ob hob
    rw [hL] at hL'
    cases hL'
    obtain ⟨c, fr, k1, k2, k3, k4, k5⟩ := hok.at_ hn
    have hr := run_storeAt (P := P) (v := a.eval v) hT k1 (hfit c k2 k3) hsz (fun y hy => (k4 hf).2 y (by omega)) h1
    simp [execOp, ho, hxv, hr]
  split at he
  · rename_i T' osz l hm
    split at he
    case h_2 => cases he
    rename_i e hd
    split at he
    case isFalse => cases he
    rename_i hc
    obtain ⟨hc1, hc2⟩ := hc
    split at he
    case isFalse => cases he
    rename_i hoff
    obtain ⟨rfl, rfl⟩ := hoff
    simp only [Option.some.injEq, Prod.mk.injEq, decide_eq_true_eq] at he
    obtain ⟨hj, rfl, rfl⟩ := he
    have hV := toD_pure h hd hv
    obtain ⟨g1, g2⟩ := hV.cells (cells_not_tup hc2)
    obtain ⟨L', hL', hok⟩ := h.objs i _ hm
    rw [hL] at hL'
    cases hL'
    have hLs : L.sz = sz := hok.sz
    have hmul : j * sz + sz ≤ l.length * sz := by
      have := Nat.mul_le_mul_right sz (show j + 1 ≤ l.length by omega)
      rw [Nat.add_mul] at this; omega
    have hvs : (a.eval v).cells.toList.length = sz := by simp; omega
    refine goal _ (.row (l.set j e)) hm rfl (by omega) (fun u hu => ?_) (fun c hcs hcc => ?_) (fun w' c hws hw' hcc hcs => ?_)
    · obtain ⟨p, hp⟩ := List.getElem?_of_mem hu
      have hlt := (List.getElem?_eq_some_iff.1 hp).1
      have hq : e.cells[p]? = some (e.cells[p]'(by simp at hlt; omega)) := by simp
      have := g2 p _ hq
      have hu' : (a.eval v).cells.getD p undef = u := by simpa using congrArg (·.getD undef) hp
      rw [hu'] at this
      exact this.2.one this.1
    · have := hcc.1
      rw [hLs]; simp only at this; omega
    · obtain ⟨m1, m2, m3⟩ := hcc
      simp only at m1 m2 m3
      refine ⟨by simpa using m1, fun q hq => ?_, fun p q r z hp hr => ?_⟩
      · rcases List.mem_or_eq_of_mem_set hq with hq | rfl
        · exact m2 q hq
        · exact hc1
      · rw [hLs]
        by_cases hpj : p = j
        · subst hpj
          have hqe : q = e := by
            rw [List.getElem?_set_self (by omega)] at hp
            simpa using hp.symm
          subst hqe
          have hrl : r < sz := by have := (List.getElem?_eq_some_iff.1 hr).1; omega
          have hin := setC_in (a.eval v).cells.toList (L.o + (p * sz + 0)) c r (by rw [hvs]; omega) (by rw [hvs]; exact hrl)
          rw [show L.o + (p * sz + r) = L.o + (p * sz + 0) + r by omega, hin]
          obtain ⟨q1, q2⟩ := g2 r z hr
          have hz : (a.eval v).cells.toList.getD r undef = (a.eval v).cells.getD r undef := by simp
          rw [hz]
          exact ⟨q1, q2.mono hw' (fun b hb => ⟨Nat.lt_of_lt_of_le hb.1 hws, hb.2⟩)⟩
        · have hp' : l[p]? = some q := by rwa [List.getElem?_set_ne (by omega)] at hp
          obtain ⟨q1, q2⟩ := m3 p q r z hp' hr
          have hrl : r < sz := by have := (List.getElem?_eq_some_iff.1 hr).1; have := m2 q (List.mem_of_getElem? hp'); omega
          dsimp only
          rw [setC_out]
          · exact ⟨q1, q2⟩
          · rw [hvs]
            rcases Nat.lt_or_gt_of_ne hpj with hlt | hgt
            · left
              have := Nat.mul_le_mul_right sz (show p + 1 ≤ j by omega)
              rw [Nat.add_mul] at this; omega
            · right
              have := Nat.mul_le_mul_right sz (show j + 1 ≤ p by omega)
              rw [Nat.add_mul] at this; omega
  · rename_i T' osz u hm
    split at he
    case isFalse => cases he
    rename_i hc
    obtain ⟨hc1, hc2, rfl⟩ := hc
    rw [List.all_eq_true] at hc2
    obtain ⟨g1, g2⟩ := hv.cells hc2
    obtain ⟨L', hL', hok⟩ := h.objs i _ hm
    rw [hL] at hL'
    cases hL'
    have hLs : L.sz = osz := hok.sz
    have hvs : (a.eval v).cells.toList.length = sz := by simp; omega
    have hone : ∀ q ∈ (a.eval v).cells.toList, q.oneCell' = true := by
      intro q hq
      obtain ⟨p, hp⟩ := List.getElem?_of_mem hq
      have hlt := (List.getElem?_eq_some_iff.1 hp).1
      have hy : ((opd P W v).ev s.r).cells[p]? = some (((opd P W v).ev s.r).cells[p]'(by simp at hlt; omega)) := by simp
      have := g2 p _ hy
      have hu' : (a.eval v).cells.getD p undef = q := by simpa using congrArg (·.getD undef) hp
      rw [hu'] at this
      exact this.one (hc2 _ (List.mem_of_getElem? hy))
    have hin : ∀ (w' : World) (c : Array Value), w.heap.size ≤ w'.heap.size → (∀ b, NB base s.m loc w b → w'.heap[b]? = w.heap[b]?) → L.o + off + sz ≤ c.size → ∀ r z, ((opd P W v).ev s.r).cells[r]? = some z → RV w' (NB base s.m loc w') loc ((setC c (L.o + (0 * L.sz + off)) (a.eval v).cells.toList).getD (L.o + (off + r)) undef) z := by
      intro w' c hws hw' hfit r z hr
      have hrl : r < sz := by have := (List.getElem?_eq_some_iff.1 hr).1; omega
      have hin := setC_in (a.eval v).cells.toList (L.o + (0 * L.sz + off)) c r (by rw [hvs]; omega) (by rw [hvs]; exact hrl)
      rw [show L.o + (off + r) = L.o + (0 * L.sz + off) + r by omega, hin]
      have hz : (a.eval v).cells.toList.getD r undef = (a.eval v).cells.getD r undef := by simp
      rw [hz]
      exact (g2 r z hr).mono hw' (fun b hb => ⟨Nat.lt_of_lt_of_le hb.1 hws, hb.2⟩) (fun _ _ x => x)
    split at he
    · rename_i hoff
      obtain ⟨rfl, rfl⟩ := hoff
      simp only [Option.some.injEq, Prod.mk.injEq, true_and] at he
      obtain ⟨rfl, rfl⟩ := he
      refine goal _ (.box ((opd P W v).ev s.r)) hm rfl (by omega) hone (fun c hcs hcc => ?_) (fun w' c hws hw' hcc hcs => ?_)
      · have := hcc.1; simp only at this; omega
      · obtain ⟨m1, m2, m3, m4⟩ := hcc
        simp only at m1
        refine ⟨by simpa using m1, hc1, hc2, fun r z hr => ?_⟩
        have := hin w' c hws hw' (by omega) r z hr
        rwa [Nat.zero_add] at this
    · split at he
      case isFalse => cases he
      rename_i hle
      simp only [Option.some.injEq, Prod.mk.injEq, true_and] at he
      obtain ⟨rfl, rfl⟩ := he
      refine goal _ (.box (AV.mk (u.cells.take off ++ ((opd P W v).ev s.r).cells ++ u.cells.drop (off + sz)))) hm rfl (by omega) hone (fun c hcs hcc => ?_) (fun w' c hws hw' hcc hcs => ?_)
      · have := hcc.1; simp only at this; omega
      · obtain ⟨m1, m2, m3, m4⟩ := hcc
        simp only at m1 m2 m3 m4
        have hall : ∀ e ∈ u.cells.take off ++ ((opd P W v).ev s.r).cells ++ u.cells.drop (off + sz), e.one = true := by
          intro e he
          rcases List.mem_append.1 he with he | he
          · rcases List.mem_append.1 he with he | he
            · exact m3 e (List.mem_of_mem_take he)
            · exact hc2 e he
          · exact m3 e (List.mem_of_mem_drop he)
        have hlen : (u.cells.take off ++ ((opd P W v).ev s.r).cells ++ u.cells.drop (off + sz)).length = osz := by simp; omega
        obtain ⟨k1, k2, k3⟩ := mk_cells hall
        refine ⟨by simpa using m1, by rw [k1]; exact hlen, k2, fun r z hr => ?_⟩
        refine k3 w' _ loc _ r z hr fun e he => ?_
        by_cases h1 : r < off
        · rw [List.append_assoc, List.getElem?_append_left (by simp; omega), List.getElem?_take_of_lt h1] at he
          rw [setC_out _ _ _ _ (.inl (by omega))]
          exact m4 r e he
        · by_cases h2 : r < off + sz
          · have := hin w' c hws hw' (by omega) (r - off) e (by
              rw [List.append_assoc, List.getElem?_append_right (by simp; omega), List.getElem?_append_left (by simp; omega)] at he
              simpa [show min off u.cells.length = off by omega] using he)
            rwa [show L.o + (off + (r - off)) = L.o + r by omega] at this
          · rw [List.getElem?_append_right (by simp; omega)] at he
            simp only [List.length_append, List.length_take, List.getElem?_drop] at he
            rw [show off + sz + (r - (min off u.cells.length + ((opd P W v).ev s.r).cells.length)) = r by omega] at he
            rw [setC_out _ _ _ _ (.inr (by rw [hvs]; omega))]
            exact m4 r e he
  · rename_i T' osz hm
    split at he
    case isFalse => cases he
    rename_i hc
    obtain ⟨hc1, hc2, rfl⟩ := hc
    rw [List.all_eq_true] at hc2
    obtain ⟨g1, g2⟩ := hv.cells hc2
    obtain ⟨L', hL', hok⟩ := h.objs i _ hm
    rw [hL] at hL'
    cases hL'
    have hLs : L.sz = osz := hok.sz
    have hvs : (a.eval v).cells.toList.length = sz := by simp; omega
    have hone : ∀ q ∈ (a.eval v).cells.toList, q.oneCell' = true := by
      intro q hq
      obtain ⟨p, hp⟩ := List.getElem?_of_mem hq
      have hlt := (List.getElem?_eq_some_iff.1 hp).1
      have hy : ((opd P W v).ev s.r).cells[p]? = some (((opd P W v).ev s.r).cells[p]'(by simp at hlt; omega)) := by simp
      have := g2 p _ hy
      have hu' : (a.eval v).cells.getD p undef = q := by simpa using congrArg (·.getD undef) hp
      rw [hu'] at this
      exact this.one (hc2 _ (List.mem_of_getElem? hy))
    have hin : ∀ (w' : World) (c : Array Value), w.heap.size ≤ w'.heap.size → (∀ b, NB base s.m loc w b → w'.heap[b]? = w.heap[b]?) → L.o + off + sz ≤ c.size → ∀ r z, ((opd P W v).ev s.r).cells[r]? = some z → RV w' (NB base s.m loc w') loc ((setC c (L.o + (0 * L.sz + off)) (a.eval v).cells.toList).getD (L.o + (off + r)) undef) z := by
      intro w' c hws hw' hfit r z hr
      have hrl : r < sz := by have := (List.getElem?_eq_some_iff.1 hr).1; omega
      have hin := setC_in (a.eval v).cells.toList (L.o + (0 * L.sz + off)) c r (by rw [hvs]; omega) (by rw [hvs]; exact hrl)
      rw [show L.o + (off + r) = L.o + (0 * L.sz + off) + r by omega, hin]
      have hz : (a.eval v).cells.toList.getD r undef = (a.eval v).cells.getD r undef := by simp
      rw [hz]
      exact (g2 r z hr).mono hw' (fun b hb => ⟨Nat.lt_of_lt_of_le hb.1 hws, hb.2⟩) (fun _ _ x => x)
    split at he
    · rename_i hoff
      obtain ⟨rfl, rfl⟩ := hoff
      simp only [Option.some.injEq, Prod.mk.injEq, true_and] at he
      obtain ⟨rfl, rfl⟩ := he
      refine goal _ (.box ((opd P W v).ev s.r)) hm rfl (by omega) hone (fun c hcs hcc => ?_) (fun w' c hws hw' hcc hcs => ?_)
      · have := hcc; simp only [ContOk] at this; omega
      · have m1 := hcc
        simp only [ContOk] at m1
        refine ⟨by simpa using m1, hc1, hc2, fun r z hr => ?_⟩
        have := hin w' c hws hw' (by omega) r z hr
        rwa [Nat.zero_add] at this
    · cases he
  · cases he

end

end Go.Proofs.Ytbbidekjbgjooaa.M
end

section
namespace Go.Proofs.Ytbbidekjbgjooaa.M
open Go.RowKit

section
variable {P : Program} {w0 : World} {base : Nat → Prop} {nt : Nat} {loc : Locs} {s t : St} {a : Act} {w : World} {o : Oper} {id : Nat} {d : AV}

/-- Some cells put in place of others. -/
def putC (cs : Array Value) (off : Nat) (v : Array Value) : Array Value := v.zipIdx.foldl (fun cs (c, j) => cs.setIfInBounds (off + j) c) cs
theorem putC_list : ∀ (v : List Value) (k off : Nat) (cs : Array Value), (v.zipIdx k).foldl (fun cs (p : Value × Nat) => cs.setIfInBounds (off + p.2) p.1) cs = setC cs (off + k) v
  | [], _, _, _ => rfl
  | x :: v, k, off, cs => by
    rw [List.zipIdx_cons, List.foldl_cons, putC_list v (k + 1) off, setC]
    rfl
theorem putC_eq (cs : Array Value) (off : Nat) (v : Array Value) : putC cs off v = setC cs off v.toList := by
  unfold putC
  rw [← Array.foldl_toList, Array.toList_zipIdx]
  exact putC_list v.toList 0 off cs

/-- Cells that read as what is known of them. -/
def RVs (w : World) (N : Nat → Prop) (loc : Locs) (cs : Array Value) (l : List AV) : Prop := cs.size = l.length ∧ (∀ e ∈ l, e.one = true) ∧ ∀ i e, l[i]? = some e → RV w N loc (cs.getD i undef) e

theorem RVs.put {N : Nat → Prop} {cs : Array Value} {l : List AV} {v : Value} {x : AV} {off : Nat} (h : RVs w N loc cs l) (hv : RV w N loc v x) (h1 : ∀ e ∈ x.cells, e.one = true) (hle : off + x.cells.length ≤ l.length) :
    RVs w N loc (putC cs off v.cells) (l.take off ++ x.cells ++ l.drop (off + x.cells.length)) ∧ v.cells.size = x.cells.length := by
  obtain ⟨g1, g2⟩ := hv.cells h1
  obtain ⟨k1, k2, k3⟩ := h
  have hvs : v.cells.toList.length = x.cells.length := by simp; omega
  refine ⟨⟨?_, ?_, ?_⟩, g1⟩
  · rw [putC_eq, size_setC]; simp; omega
  · intro e he
    rcases List.mem_append.1 he with he | he
    · rcases List.mem_append.1 he with he | he
      · exact k2 e (List.mem_of_mem_take he)
      · exact h1 e he
    · exact k2 e (List.mem_of_mem_drop he)
  · intro r e he
    rw [putC_eq]
    by_cases q1 : r < off
    · rw [List.append_assoc, List.getElem?_append_left (by simp; omega), List.getElem?_take_of_lt q1] at he
      rw [setC_out _ _ _ _ (.inl q1)]
      exact k3 r e he
    · by_cases q2 : r < off + x.cells.length
      · rw [List.append_assoc, List.getElem?_append_right (by simp; omega), List.getElem?_append_left (by simp; omega)] at he
        have hin := setC_in v.cells.toList off cs (r - off) (by omega) (by omega)
        rw [show off + (r - off) = r by omega] at hin
        rw [hin]
        have hz : v.cells.toList.getD (r - off) undef = v.cells.getD (r - off) undef := by simp
        rw [hz]
        exact g2 (r - off) e (by simpa [show min off l.length = off by omega] using he)
      · rw [List.getElem?_append_right (by simp; omega)] at he
        simp only [List.length_append, List.length_take, List.getElem?_drop] at he
        rw [show off + x.cells.length + (r - (min off l.length + x.cells.length)) = r by omega] at he
        rw [setC_out _ _ _ _ (.inr (by omega))]
        exact k3 r e he

theorem fill_ok (h : Rel w0 base nt loc s a w) (place : Nat → Option (Nat × Nat)) : ∀ (parts : List (Nat × Operand)) (ps : List (Nat × Nat × Opd)) (cs : Array Value) (l m : List AV),
    parts.length = ps.length → (∀ (k i : Nat) (x : Operand) (off sz : Nat) (X : Opd), parts[k]? = some (i, x) → ps[k]? = some (off, sz, X) → place i = some (off, sz) ∧ RV w (NB base s.m loc w) loc (a.eval x) (X.ev s.r)) →
    RVs w (NB base s.m loc w) loc cs l → fillA l s.r ps = some m → ∃ cs', Instr.fill place cs (parts.map fun p => (p.1, a.eval p.2)) = some cs' ∧ RVs w (NB base s.m loc w) loc cs' m
  | [], [], cs, l, m, _, _, hr, hf => by
    simp only [fillA, Option.some.injEq] at hf
    subst hf
    exact ⟨cs, rfl, hr⟩
  | (i, x) :: parts, (off, sz, X) :: ps, cs, l, m, hl, hp, hr, hf => by
    simp only [fillA] at hf
    split at hf
    case isFalse => cases hf
    rename_i hc
    obtain ⟨c1, c2, c3⟩ := hc
    rw [List.all_eq_true] at c3
    obtain ⟨p1, p2⟩ := hp 0 i x off sz X rfl rfl
    subst c1
    obtain ⟨q1, q2⟩ := hr.put p2 c3 c2
    obtain ⟨cs', g1, g2⟩ := fill_ok h place parts ps _ _ m (by simpa using hl) (fun k i x off sz X h1 h2 => hp (k + 1) i x off sz X (by simpa using h1) (by simpa using h2)) q1 hf
    refine ⟨cs', ?_, g2⟩
    have hcs := hr.1
    simp only [List.map_cons, Instr.fill, p1]
    rw [if_neg (by simp only [Bool.or_eq_true, decide_eq_true_eq, not_or, ne_eq, Decidable.not_not, Nat.not_lt, gt_iff_lt]; omega)]
    exact g1
  | [], _ :: _, _, _, _, hl, _, _, _ => by simp at hl
  | _ :: _, [], _, _, _, hl, _, _, _ => by simp at hl

theorem sim_build {T : TypeId} {parts : Array (Nat × Operand)} {l : List D} {sz : Nat} {fs : Array Field} {places : List (Nat × Nat)} {ps : List (Nat × Nat × Opd)} (h : Rel w0 base nt loc s a w) (ho : o.op = .build T parts) (hz : ZOk P T l true sz) (hu : P.underlying T = some (.struct fs))
    (hpl : fs.toList.mapM (fun f => (P.info? f.type).map fun i => (f.offset, i.size)) = some places)
    (hps : parts.toList.mapM (fun p : Nat × Operand => match places[p.1]?, fs[p.1]? with
          | some (off, sz), some f => some (off, sz, opd P (some f.type) p.2)
          | _, _ => none) = some ps)
    (he : ev (.build (l.map .p) ps) id s = some (true, d, t)) : Good P w0 base nt o a w t d := by
  simp only [ev] at he
  split at he
  case h_2 => cases he
  rename_i m hm
  simp only [Option.some.injEq, Prod.mk.injEq, true_and] at he
  obtain ⟨rfl, rfl⟩ := he
  obtain ⟨i, z, g1, g2, g3, g4, g5, g6⟩ := hz
  obtain ⟨k1, k2⟩ := chkL_ok g4
  have hzc : RVs w (NB base s.m loc w) loc z.cells (l.map .p) := by
    refine ⟨by simpa using k1, fun e he => ?_, fun j e hj => ?_⟩
    · simp only [List.mem_map] at he
      obtain ⟨q, hq, rfl⟩ := he
      obtain ⟨j, hj⟩ := List.getElem?_of_mem hq
      exact (k2 j q hj).1
    · simp only [List.getElem?_map, Option.map_eq_some_iff] at hj
      obtain ⟨q, hq, rfl⟩ := hj
      have := (k2 j q hq).2 w (NB base s.m loc w)
      exact .p _ _ (by simpa using this)
  have hpar : ∀ (l1 : List (Nat × Operand)) (l2 : List (Nat × Nat × Opd)), l1.mapM (fun p : Nat × Operand => match places[p.1]?, fs[p.1]? with
          | some (off, sz), some f => some (off, sz, opd P (some f.type) p.2)
          | _, _ => none) = some l2 → l1.length = l2.length ∧ ∀ (k i : Nat) (x : Operand) (off sz : Nat) (X : Opd), l1[k]? = some (i, x) → l2[k]? = some (off, sz, X) → places[i]? = some (off, sz) ∧ ∃ T, X = opd P T x := by
    intro l1
    induction l1 with
    | nil => intro l2 hh; simp at hh; subst hh; exact ⟨rfl, fun k i x off sz X h1 => by simp at h1⟩
    | cons p l1 ih =>
      intro l2 hh
      simp only [List.mapM_cons, Option.bind_eq_bind, Option.bind_eq_some_iff, Option.pure_def, Option.some.injEq] at hh
      obtain ⟨y, hy, l2', hl2, rfl⟩ := hh
      obtain ⟨r1, r2⟩ := ih l2' hl2
      refine ⟨by simp [r1], fun k i x off sz X h1 h2 => ?_⟩
      match k, h1, h2 with
      | 0, h1, h2 =>
        simp only [List.getElem?_cons_zero, Option.some.injEq] at h1 h2
        subst h1; subst h2
        split at hy
        · rename_i off' sz' f e1 e2
          simp only [Option.some.injEq, Prod.mk.injEq] at hy
          obtain ⟨rfl, rfl, rfl⟩ := hy
          exact ⟨e1, _, rfl⟩
        · cases hy
      | k + 1, h1, h2 => exact r2 k i x off sz X (by simpa using h1) (by simpa using h2)
  obtain ⟨r1, r2⟩ := hpar _ _ hps
  obtain ⟨cs', q1, q2⟩ := fill_ok h (places.toArray[·]?) parts.toList ps z.cells _ m r1 (fun k i x off sz X h1 h2 => by
    obtain ⟨u1, T', rfl⟩ := r2 k i x off sz X h1 h2
    exact ⟨by simpa using u1, h.opd T' x⟩) hzc hm
  have hb : P.built T (parts.map fun (i, x) => (i, a.eval x)).toList = some cs' := by
    unfold Program.built
    simp only [g1, hu, g2, hpl]
    rw [Array.toList_map]
    exact q1
  refine good_same h (v := .agg cs') ?_ (rv_mk q2.1 q2.2.1 q2.2.2)
  simp only [execOp, ho]
  exact run_v (run_build w T _ cs' hb)

theorem row_put {N : Nat → Prop} {c : Array Value} {sz : Nat} {l : List D} {i : Nat} {v : Value} {e : D} (h : ContOk w N loc c 0 sz (.row l)) (hi : i < l.length) (hv : V w N v e) (h1 : e.cells.length = sz) (h2 : e.cells.all D.one = true) :
    ContOk w N loc (putC c (i * sz) v.cells) 0 sz (.row (l.set i e)) ∧ v.cells.size = sz := by
  obtain ⟨g1, g2⟩ := hv.cells (cells_not_tup h2)
  obtain ⟨m1, m2, m3⟩ := h
  have hvs : v.cells.toList.length = sz := by simp; omega
  have hmul : i * sz + sz ≤ l.length * sz := by
    have := Nat.mul_le_mul_right sz (show i + 1 ≤ l.length by omega)
    rw [Nat.add_mul] at this; omega
  refine ⟨⟨by rw [putC_eq, size_setC]; simpa using m1, fun q hq => ?_, fun p q r z hp hr => ?_⟩, by omega⟩
  · rcases List.mem_or_eq_of_mem_set hq with hq | rfl
    · exact m2 q hq
    · exact h1
  · rw [putC_eq]
    by_cases hpj : p = i
    · subst hpj
      have hqe : q = e := by
        rw [List.getElem?_set_self (by omega)] at hp
        simpa using hp.symm
      subst hqe
      have hrl : r < sz := by have := (List.getElem?_eq_some_iff.1 hr).1; omega
      have hin := setC_in v.cells.toList (p * sz) c r (by rw [hvs]; omega) (by rw [hvs]; exact hrl)
      rw [Nat.zero_add, hin]
      obtain ⟨q1, q2⟩ := g2 r z hr
      have hz : v.cells.toList.getD r undef = v.cells.getD r undef := by simp
      rw [hz]
      exact ⟨q1, q2⟩
    · have hp' : l[p]? = some q := by rwa [List.getElem?_set_ne (by omega)] at hp
      obtain ⟨q1, q2⟩ := m3 p q r z hp' hr
      have hrl : r < sz := by have := (List.getElem?_eq_some_iff.1 hr).1; have := m2 q (List.mem_of_getElem? hp'); omega
      rw [setC_out]
      · exact ⟨q1, q2⟩
      · rw [hvs]
        rcases Nat.lt_or_gt_of_ne hpj with hlt | hgt
        · left
          have := Nat.mul_le_mul_right sz (show p + 1 ≤ i by omega)
          rw [Nat.add_mul] at this; omega
        · right
          have := Nat.mul_le_mul_right sz (show i + 1 ≤ p by omega)
          rw [Nat.add_mul] at this; omega

theorem size_fill {place : Nat → Option (Nat × Nat)} : ∀ (parts : List (Nat × Value)) (cs cs' : Array Value), Instr.fill place cs parts = some cs' → cs'.size = cs.size := by
  intro parts
  induction parts with
  | nil => intro cs cs' h; simp [Instr.fill] at h; rw [h]
  | cons p parts ih =>
    intro cs cs' h
    obtain ⟨i, v⟩ := p
    simp only [Instr.fill] at h
    split at h
    · cases h
    · split at h
      · cases h
      · have := ih _ _ h
        rw [this]
        exact (congrArg Array.size (putC_eq cs _ v.cells)).trans (size_setC _ _ _)

theorem fillR_ok (h : Rel w0 base nt loc s a w) (sz : Nat) : ∀ (parts : List (Nat × Operand)) (T : Option TypeId) (c : Array Value) (l m : List D), ContOk w (NB base s.m loc w) loc c 0 sz (.row l) → c.size = l.length * sz →
    fillR sz l s.r s.m (parts.map fun p => (p.1, opd P T p.2)) = some m → ∃ cs', Instr.fill (fun i => some (i * sz, sz)) c (parts.map fun p => (p.1, a.eval p.2)) = some cs' ∧ ContOk w (NB base s.m loc w) loc cs' 0 sz (.row m) ∧ m.length = l.length
  | [], T, c, l, m, hr, _, hf => by
    simp only [List.map_nil, fillR, Option.some.injEq] at hf
    subst hf
    exact ⟨c, rfl, hr, rfl⟩
  | (i, x) :: parts, T, c, l, m, hr, hs, hf => by
    simp only [List.map_cons, fillR] at hf
    split at hf
    case h_2 => cases hf
    rename_i e hd
    split at hf
    case isFalse => cases hf
    rename_i hc
    obtain ⟨c1, c2, c3⟩ := hc
    have hV := toD_pure h hd (h.opd (P := P) T x)
    obtain ⟨q1, q2⟩ := row_put hr c3 hV c1 c2
    obtain ⟨cs', g1, g2, g3⟩ := fillR_ok h sz parts T _ _ m q1 (by rw [putC_eq, size_setC]; simpa using hs) hf
    refine ⟨cs', ?_, g2, by simpa using g3⟩
    have hmul : i * sz + sz ≤ l.length * sz := by
      have := Nat.mul_le_mul_right sz (show i + 1 ≤ l.length by omega)
      rw [Nat.add_mul] at this; omega
    simp only [List.map_cons, Instr.fill]
    rw [if_neg (by simp only [Bool.or_eq_true, decide_eq_true_eq, not_or, ne_eq, Decidable.not_not, Nat.not_lt, gt_iff_lt]; omega)]
    exact g1

/-- The cells of new elements that are all zero. -/
theorem zero_row {E : TypeId} {l : List D} {ag : Bool} {sz : Nat} (hz : ZOk P E l ag sz) {z : Value} (hr : (zeroValue E).run P w = .ok z w) (N : Nat → Prop) (q : Nat) :
    ContOk w N loc (madeCells z.cells (q * sz)) 0 sz (.row (List.replicate q (if ag then D.agg l else l.headD default))) := by
  obtain ⟨z', hr', hsz, hl, hcell, -⟩ := zero_run (w := w) hz
  rw [hr] at hr'
  have hzz : z = z' := by injection hr'
  subst hzz
  have hcl : (if ag then D.agg l else l.headD default).cells = l := by
    cases ag with
    | true => rfl
    | false =>
      have : sz = 1 := by obtain ⟨_, _, _, _, _, _, _, h6⟩ := hz; exact h6 rfl
      match l, hl with
      | [e], _ =>
        have := (hcell 0 e rfl).1
        cases e <;> first | rfl | simp [D.one] at this
      | [], hl => simp at hl; omega
      | _ :: _ :: _, hl => simp at hl; omega
  refine ⟨by simp [madeCells], fun e he => ?_, fun i e j d hi hj => ?_⟩
  · rw [List.eq_of_mem_replicate he, hcl, hl]
  · have hiq : i < q := by have := (List.getElem?_eq_some_iff.1 hi).1; simpa using this
    have he := List.eq_of_mem_replicate (List.mem_of_getElem? hi)
    rw [he, hcl] at hj
    have hjl : j < sz := by have := (List.getElem?_eq_some_iff.1 hj).1; omega
    obtain ⟨g1, g2⟩ := hcell j d hj
    refine ⟨g1, ?_⟩
    have hlt : i * sz + j < q * sz := by
      have := Nat.mul_le_mul_right sz (show i + 1 ≤ q by omega)
      rw [Nat.add_mul] at this; omega
    have hmod : (i * sz + j) % sz = j := by rw [Nat.add_comm, Nat.add_mul_mod_self_right]; exact Nat.mod_eq_of_lt hjl
    have := g2 w N
    simp only [Nat.zero_add, Array.getD_eq_getD_getElem?] at this ⊢
    simp [madeCells, hlt, hsz, hmod]
    simpa [hsz, hjl] using this

theorem sim_buildSlice {T E : TypeId} {n : Nat} {parts : Array (Nat × Operand)} {l : List D} {ag : Bool} {sz : Nat} (h : Rel w0 base nt loc s a w) (ho : o.op = .buildSlice T n parts) (hu : P.underlying T = some (.slice E)) (hz : ZOk P E l ag sz) (hn : n * sz ≤ 16777216) (hn2 : n ≤ 9223372036854775807) {U : Option TypeId}
    (he : ev (.buildSlice E sz (if ag then .agg l else l.headD default) n (parts.toList.map fun (i, x) => (i, opd P U x))) id s = some (true, d, t)) : Good P w0 base nt o a w t d := by
  simp only [ev] at he
  split at he
  case h_2 => cases he
  rename_i hid
  split at he
  case h_2 => cases he
  rename_i m hm
  simp only [Option.some.injEq, Prod.mk.injEq, true_and] at he
  obtain ⟨rfl, rfl⟩ := he
  obtain ⟨z, hr, hsz, hl, hcell, -⟩ := zero_run (w := w) hz
  have hTy : TyOk P E ag sz := by obtain ⟨_, _, _, _, h3, _⟩ := hz; exact h3
  have hrow := zero_row (loc := loc) hz hr (NB base s.m loc w) n
  obtain ⟨cs', g1, g2, g3⟩ := fillR_ok h sz parts.toList U _ _ m hrow (by simp [madeCells]) hm
  simp only [List.length_replicate] at g3
  have hcs : cs'.size = n * sz := by rw [size_fill _ _ _ g1]; simp [madeCells]
  obtain ⟨loc', hl', hrel⟩ := h.alloc (T := E) (c := cs') (k := .row m) (sz := sz) hid g2
  refine ⟨.slice (some ⟨w.heap.size, 0, none⟩) n n, w.alloc (.cells cs' E), loc', .inl ?_, hrel, ?_⟩
  · have hg : Instr.fill (fun i => some (i * sz, sz)) (madeCells z.cells (n * sz)) (parts.map fun x => (x.1, a.eval x.2)).toList = some cs' := by
      rw [Array.toList_map, ← g1]
    unfold madeCells at hg
    simp only [execOp, ho]
    refine run_v ?_
    by_cases h0 : n * sz = 0
    · have e0 : ∀ f : Nat → Value, Array.map f (Array.range 0) = #[] := fun f => by simp
      simp only [h0, e0, Array.toList_map] at hg
      simp [Instr.buildSlice, run_underlying hu, run_sizeOf hTy, h0, e0, hg, newRow]
    · simp only [Array.toList_map] at hg
      have hb' : ¬ (16777216 < n * sz) := by omega
      simp [Instr.buildSlice, run_underlying hu, run_sizeOf hTy, h0, hr, newRow, hb', hg]
  · have := RV.slice (w := w.alloc (.cells cs' E)) (N := NB base (upd s.m id (some ⟨E, sz, .row m, false⟩)) loc' (w.alloc (.cells cs' E))) _ id 0 n n hl' rfl (Nat.le_refl _) hn2 (by simp [hcs])
    simpa using this

theorem intsOf_spec {N : Nat → Prop} : ∀ {l : List D} {ks : List IntKind} {ns : List Int} {cs : Array Value} (o : Nat), intsOf l = some (ks, ns) → (∀ i d, l[i]? = some d → V w N (cs.getD (o + i) undef) d) → ks.length = l.length ∧ ns.length = l.length ∧ ∀ i k n, ks[i]? = some k → ns[i]? = some n → cs.getD (o + i) undef = .int k n
  | [], ks, ns, cs, o, h, hv => by
    simp only [intsOf, Option.some.injEq, Prod.mk.injEq] at h
    obtain ⟨rfl, rfl⟩ := h
    exact ⟨rfl, rfl, fun i k n h => by simp at h⟩
  | d :: l, ks, ns, cs, o, h, hv => by
    cases d with
    | int k n =>
      simp only [intsOf, Option.map_eq_some_iff, Prod.mk.injEq] at h
      obtain ⟨⟨ks', ns'⟩, h1, rfl, rfl⟩ := h
      obtain ⟨g1, g2, g3⟩ := intsOf_spec (cs := cs) (o + 1) h1 (fun i d hi => by have := hv (i + 1) d (by simpa using hi); rwa [show o + (i + 1) = o + 1 + i by omega] at this)
      refine ⟨by simp [g1], by simp [g2], fun i k' n' hk hn => ?_⟩
      match i, hk, hn with
      | 0, hk, hn =>
        simp at hk hn
        subst hk; subst hn
        have := hv 0 (.int k n) rfl
        generalize cs.getD (o + 0) undef = v at this ⊢
        cases this; rfl
      | i + 1, hk, hn => rw [show o + (i + 1) = o + 1 + i by omega]; exact g3 i k' n' (by simpa using hk) (by simpa using hn)
    | _ => simp [intsOf] at h

theorem run_eqInts (dd : Nat) (xs ys : Array Value) : ∀ (fs : List Field) (o : Nat) (ks : List IntKind) (l m : List Int), fs.length = ks.length → l.length = ks.length → m.length = ks.length →
    (∀ i f, fs[i]? = some f → f.offset = o + i ∧ f.name ≠ "_" ∧ (∃ k, P.underlying f.type = some (.int k))) → (∀ i k n, ks[i]? = some k → l[i]? = some n → xs[o + i]? = some (.int k n)) → (∀ i k n, ks[i]? = some k → m[i]? = some n → ys[o + i]? = some (.int k n)) →
    (Op.eqFields (dd + 1) xs ys fs).run P w = .ok (decide (l = m)) w
  | [], o, [], [], [], _, _, _, _, _, _ => by simp [Op.eqFields]
  | f :: fs, o, k :: ks, x :: l, y :: m, h1, h2, h3, hf, hx, hy => by
    obtain ⟨f1, f2, k', f3⟩ := hf 0 f rfl
    have ih := run_eqInts dd xs ys fs (o + 1) ks l m (by simpa using h1) (by simpa using h2) (by simpa using h3)
      (fun i f hi => by have := hf (i + 1) f (by simpa using hi); rwa [show o + (i + 1) = o + 1 + i by omega] at this)
      (fun i k n hi hj => by have := hx (i + 1) k n (by simpa using hi) (by simpa using hj); rwa [show o + (i + 1) = o + 1 + i by omega] at this)
      (fun i k n hi hj => by have := hy (i + 1) k n (by simpa using hi) (by simpa using hj); rwa [show o + (i + 1) = o + 1 + i by omega] at this)
    have hag : (isAgg f.type).run P w = .ok false w := by unfold isAgg; simp only [Sem.run_bind, run_underlying f3, Result.andThen]; rfl
    have px : (part f.type xs f.offset).run P w = .ok (.int k x) w := by
      have := hx 0 k x rfl rfl
      rw [← f1] at this
      simp [part, hag, this]
    have py : (part f.type ys f.offset).run P w = .ok (.int k y) w := by
      have := hy 0 k y rfl rfl
      rw [← f1] at this
      simp [part, hag, this]
    have pe := run_equalIn_int (P := P) w dd f.type k k' x y f3
    simp only [Op.eqFields, f2, ne_eq, not_false_eq_true, if_true, Sem.run_bind, px, py, pe, Result.andThen_ok]
    by_cases hxy : x = y
    · subst hxy
      simp [ih]
    · simp [hxy]
  | [], _, _ :: _, _, _, h, _, _, _, _, _ => by simp at h
  | _ :: _, _, [], _, _, h, _, _, _, _, _ => by simp at h
  | _, _, [], _ :: _, _, _, h, _, _, _, _ => by simp at h
  | _, _, [], _, _ :: _, _, _, h, _, _, _ => by simp at h
  | _, _, _ :: _, [], _, _, h, _, _, _, _ => by simp at h
  | _, _, _ :: _, _, [], _, _, h, _, _, _ => by simp at h

theorem intStruct_spec {T : TypeId} (h : intStruct P T = true) : ∃ fs, P.underlying T = some (.struct fs) ∧ P.stoodInHeld T = false ∧ P.eqGuardType P.depth T = false ∧ ∀ i f, fs.toList[i]? = some f → f.offset = 0 + i ∧ f.name ≠ "_" ∧ ∃ k, P.underlying f.type = some (.int k) := by
  unfold intStruct at h
  split at h
  · rename_i fs hu
    simp only [Bool.and_eq_true, Bool.not_eq_true', List.all_eq_true] at h
    refine ⟨fs, hu, h.1.1, h.1.2, fun i f hi => ?_⟩
    have := h.2 (f, i) (by rw [List.mem_zipIdx_iff_getElem?]; exact hi)
    simp only [beq_iff_eq, bne_iff_ne, ne_eq] at this
    refine ⟨by omega, this.1.2, ?_⟩
    have h2 := this.2
    split at h2
    · rename_i k hk; exact ⟨k, hk⟩
    · cases h2
  · cases h

theorem sim_eqs {T Y : TypeId} {op : BinOp} {neg : Bool} {x y : Operand} {fs : Array Field} (h : Rel w0 base nt loc s a w) (ho : o.op = .binOp op T x y Y) (hop : op = if neg then .neq else .eql) (hT : intStruct P T = true) (hu : P.underlying T = some (.struct fs)) {U W : Option TypeId}
    (he : ev (.eqs fs.size neg (opd P U x) (opd P W y)) id s = some (true, d, t)) : Good P w0 base nt o a w t d := by
  have hx := h.opd (P := P) U x
  have hy := h.opd (P := P) W y
  simp only [ev] at he
  split at he
  case h_2 => cases he
  rename_i la lb hk hk'
  split at he
  case h_2 => cases he
  rename_i k l k' m h1 h2
  split at he
  case isFalse => cases he
  rename_i hc
  obtain ⟨rfl, hlen⟩ := hc
  simp only [Option.some.injEq, Prod.mk.injEq, true_and] at he
  obtain ⟨rfl, rfl⟩ := he
  rw [hk] at hx
  rw [hk'] at hy
  have hx := hx.inv
  have hy := hy.inv
  generalize hxv : a.eval x = v at hx
  generalize hyv : a.eval y = u at hy
  cases hx with
  | agg xs _ x1 x2 x3 =>
  cases hy with
  | agg ys _ y1 y2 y3 =>
  obtain ⟨fs', g1, g2, g3, g4⟩ := intStruct_spec hT
  rw [hu] at g1
  cases g1
  have hfo : P.fieldsOf T = fs := by simp [Program.fieldsOf, hu]
  obtain ⟨i1, i2, i3⟩ := intsOf_spec (w := w) (N := NB base s.m loc w) (cs := xs) 0 h1 (fun i d hi => by rw [Nat.zero_add]; exact x3 i d hi)
  obtain ⟨j1, j2, j3⟩ := intsOf_spec (w := w) (N := NB base s.m loc w) (cs := ys) 0 h2 (fun i d hi => by rw [Nat.zero_add]; exact y3 i d hi)
  have hrun := run_eqInts (P := P) (w := w) 9998 xs ys fs.toList 0 k l m (by simp; omega) (by omega) (by omega) g4
    (fun i k n hi hj => by have := i3 i k n hi hj; have hlt := (List.getElem?_eq_some_iff.1 hi).1; have hs : i < xs.size := (by omega); rw [← this]; simp [hs])
    (fun i k n hi hj => by have := j3 i k n hi hj; have hlt := (List.getElem?_eq_some_iff.1 hi).1; have hs : i < ys.size := (by omega); rw [← this]; simp [hs])
  have heq := run_equalIn_struct (P := P) w 9999 T xs ys (by rw [hfo]; exact hu) g2
  rw [hfo, hrun] at heq
  have hg := run_eqGuard_agg (P := P) w op T x y xs ys g3
  refine good_same h (v := .bool (if neg = true then !decide (l = m) else decide (l = m))) ?_ (.p _ _ (.bool _))
  simp only [execOp, ho, hxv, hyv]
  refine run_v ?_
  simp only [Sem.run_bind, hg, Result.andThen]
  subst hop
  cases neg with
  | true =>
    simp only [if_true]
    rw [run_neq_struct, show (10000 : Nat) = 9999 + 1 from rfl, heq]
    rfl
  | false =>
    simp only [Bool.false_eq_true, if_false]
    rw [run_eql_struct, show (10000 : Nat) = 9999 + 1 from rfl, heq]
    rfl

end

end Go.Proofs.Ytbbidekjbgjooaa.M
end

section
namespace Go.Proofs.Ytbbidekjbgjooaa.M
open Go.RowKit

section
variable {P : Program} {w0 : World} {base : Nat → Prop} {nt : Nat} {loc : Locs} {s t : St} {a : Act} {w : World} {o : Oper} {id : Nat} {d : AV}

theorem ev_call {f : FuncId} {args : List Opd} {x : Option (Bool × AV × St)} (h : ev (.call f args) id s = x) : x = none := by
  subst h; rfl

theorem sim (h : Rel w0 base nt loc s a w) {ao : AOp} (hc : aop P o = some ao) (he : ev ao id s = some (true, d, t)) : Good P w0 base nt o a w t d := by
  cases hop : o.op <;> simp only [aop, hop] at hc
  case move x => cases hc; exact sim_mov h (.inl hop) he
  case assign x => cases hc; exact sim_mov h (.inr hop) he
  case nilCheck x => cases hc; exact sim_nilCheck h hop he
  case pick c x y => cases hc; exact sim_pick h hop he
  case alloc T =>
    split at hc
    · rename_i l ag sz hz
      split at hc
      · rename_i hok
        cases hc
        simp only [avOk, Bool.and_eq_true, beq_iff_eq, List.all_eq_true] at hok
        exact sim_alloc h hop (zeroOf_ok hz) he hok.1 hok.2
      · cases hc
    · cases hc
  case box T x =>
    split at hc
    · cases hc; exact sim_box h hop he
    · cases hc
  case build T parts =>
    split at hc
    case h_2 => cases hc
    rename_i l sz fs hz hu
    split at hc
    case h_2 => cases hc
    rename_i places hpl
    split at hc
    case h_2 => cases hc
    rename_i ps hps
    cases hc
    exact sim_build h hop (zeroOf_ok hz) hu hpl hps he
  case buildSlice T n parts =>
    split at hc
    case h_2 => cases hc
    rename_i e hu
    split at hc
    case h_2 => cases hc
    rename_i l ag sz hz
    split at hc
    case isFalse => cases hc
    rename_i hn
    cases hc
    exact sim_buildSlice h hop hu (zeroOf_ok hz) hn.1 hn.2 he
  case load T x =>
    split at hc
    case h_2 => cases hc
    rename_i ag sz hT
    split at hc
    case isFalse => cases hc
    rename_i hs
    cases hc
    exact sim_load h hop (tyOf_ok hT) (fun e => by simpa [e] using hs) he
  case store T x v =>
    split at hc
    case h_2 => cases hc
    rename_i ag sz hT
    cases hc
    exact sim_store h hop (tyOf_ok hT) he
  case binOp op T x y Y =>
    split at hc
    · cases hc; exact sim_bin h hop (by simp) he
    · cases hc; exact sim_bin h hop (by simp) he
    · rename_i hu; cases hc; exact sim_bin h hop (fun _ => hu) he
    · rename_i fs hu
      split at hc
      case isFalse => cases hc
      rename_i hi
      split at hc
      · cases hc; exact sim_eqs h hop (by simp) hi hu he
      · cases hc; exact sim_eqs h hop (by simp) hi hu he
      · cases hc
    · cases hc
  case unOp op T x => cases hc; exact sim_un h hop he
  case convert S T x =>
    split at hc
    · rename_i hS hT; cases hc; exact sim_conv h hop hS hT he
    · cases hc
  case makeSlice T l c =>
    split at hc
    case h_2 => cases hc
    rename_i e hu
    split at hc
    case h_2 => cases hc
    rename_i z ag sz i hz hi
    cases hc
    exact sim_makeSlice h hop hu (zeroOf_ok hz) hi rfl he
  case slice T x lo hi mx =>
    split at hc
    · rename_i hu
      split at hc
      · cases hc
      · rename_i hm
        cases hc
        have hm' : mx = none := by cases mx <;> simp at hm; rfl
        subst hm'
        exact sim_sliceS h hop hu he
    · rename_i e hu
      split at hc
      case h_2 => cases hc
      rename_i ag sz hT
      split at hc
      · cases hc
      · rename_i hm
        cases hc
        exact sim_slice h hop hu (tyOf_ok hT) (fun hh => by cases hi <;> simp_all) he
    · cases hc
  case fieldAddr S x f =>
    split at hc
    case h_2 => cases hc
    rename_i fs hu
    split at hc
    case h_2 => cases hc
    rename_i g hf
    split at hc
    case h_2 => cases hc
    rename_i ag sz hT
    split at hc
    · cases hc
    · rename_i hz
      cases hc
      exact sim_fieldAddr h hop hu hf (tyOf_ok hT) (by simpa using hz) he
  case field S x f =>
    split at hc
    case h_2 => cases hc
    rename_i fs hu
    split at hc
    case h_2 => cases hc
    rename_i g hf
    split at hc
    case h_2 => cases hc
    rename_i ag sz hT
    cases hc
    exact sim_field h hop hu hf (tyOf_ok hT) he
  case indexAddr T x i =>
    split at hc
    case h_2 => cases hc
    rename_i e hu
    split at hc
    case h_2 => cases hc
    rename_i ag sz hT
    cases hc
    exact sim_indexAddr h hop hu (tyOf_ok hT) he
  case index T x i =>
    split at hc
    · rename_i hu; cases hc; exact sim_index h hop hu he
    · cases hc
  case extract x i => cases hc; exact sim_extract h hop he
  case call c =>
    split at hc
    · cases hc; cases ev_call he
    · rename_i hcal
      split at hc
      · rename_i x T hx hT
        split at hc
        · rename_i hu; cases hc; exact sim_lenS h hop hcal hx hT hu he
        · rename_i e hu; cases hc; exact sim_len h hop hcal hx hT hu he
        · cases hc
      · cases hc
    · split at hc
      · split at hc
        · split at hc
          · split at hc
            · cases hc; cases he
            · cases hc
          · cases hc
        · cases hc
      · cases hc
    · cases hc
  all_goals cases hc

end

end Go.Proofs.Ytbbidekjbgjooaa.M
end

section
namespace Go.Proofs.Ytbbidekjbgjooaa.M
open Go.RowKit

section
variable {P : Program} {w0 : World} {base : Nat → Prop} {nt : Nat} {loc loc' : Locs} {s t : St} {a : Act} {w w' : World} {o : Oper} {id : Nat} {d : AV} {N N' : Nat → Prop}

theorem forgetL_spec {i : Nat} : ∀ {l l' : List AV}, forgetL i l = some l' → l.length = l'.length ∧ ∀ (k : Nat) (e : AV), l'[k]? = some e → ∃ x, l[k]? = some x ∧ x.forget i = e ∧ e ≠ .und
  | [], l', h => by simp only [forgetL, Option.some.injEq] at h; subst h; exact ⟨rfl, fun k e h => by simp at h⟩
  | v :: l, l', h => by
    simp only [forgetL] at h
    split at h
    · cases h
    · rename_i m h2 hne
      simp only [Option.some.injEq] at h
      subst h
      obtain ⟨g1, g2⟩ := forgetL_spec h2
      refine ⟨by simp [g1], fun k e hk => ?_⟩
      match k, hk with
      | 0, hk => simp at hk; subst hk; exact ⟨v, rfl, rfl, fun e => hne e⟩
      | k + 1, hk => simpa using g2 k e (by simpa using hk)
    · cases h

theorem forget_one {i : Nat} {x : AV} (h : x.one = true) : (x.forget i).one = true ∨ x.forget i = .und := by
  cases x with
  | slice j off len => simp only [AV.forget]; split; exact .inr rfl; exact .inl rfl
  | ptr j k off => simp only [AV.forget]; split; exact .inr rfl; exact .inl rfl
  | p d => exact .inl h
  | nils T sz => exact .inl rfl
  | _ => simp [AV.one] at h

theorem RV.forget {i : Nat} {v : Value} {x : AV} (h : RV w N loc v x) (hs : ∀ b, N b → w'.heap[b]? = w.heap[b]?) (hn : ∀ b, N b → N' b) (hl : ∀ j L, j ≠ i → loc j = some L → loc' j = some L) : RV w' N' loc' v (x.forget i) := by
  induction h with
  | und v => exact .und v
  | p v d h => exact .p v d (h.mono hs hn)
  | agg cs l h1 h2 _ ih =>
    simp only [AV.forget]
    split
    · rename_i l' hl'
      obtain ⟨g1, g2⟩ := forgetL_spec hl'
      refine .agg cs l' (h1.trans g1) (fun e he => ?_) (fun k e hk => ?_)
      · obtain ⟨k, hk⟩ := List.getElem?_of_mem he
        obtain ⟨y, hy, rfl, hne⟩ := g2 k e hk
        exact (forget_one (h2 y (List.mem_of_getElem? hy))).resolve_right hne
      · obtain ⟨y, hy, rfl, hne⟩ := g2 k e hk
        exact ih k y hy
    · exact .und _
  | tup cs l h1 _ ih =>
    simp only [AV.forget]
    split
    · rename_i l' hl'
      obtain ⟨g1, g2⟩ := forgetL_spec hl'
      refine .tup cs l' (h1.trans g1) (fun k e hk => ?_)
      obtain ⟨y, hy, rfl, hne⟩ := g2 k e hk
      exact ih k y hy
    · exact .und _
  | nils T sz => exact .nils T sz
  | slice L id off len cap h1 h2 h3 h4 h5 =>
    simp only [AV.forget]
    split
    · exact .und _
    · rename_i hne; exact .slice L id off len cap (hl _ _ hne h1) h2 h3 h4 h5
  | sliceEmp L id off p h1 =>
    simp only [AV.forget]
    split
    · exact .und _
    · rename_i hne; exact .sliceEmp L id off p (hl _ _ hne h1)
  | ptr L id j off h1 h2 =>
    simp only [AV.forget]
    split
    · exact .und _
    · rename_i hne; exact .ptr L id j off (hl _ _ hne h1) h2

/-- The cells of what is forgotten in part. -/
theorem forget_cells {i : Nat} {x : AV} (h1 : ∀ e ∈ x.cells, e.one = true) (hu : x.forget i ≠ .und) : (x.forget i).cells.length = x.cells.length ∧ (∀ e ∈ (x.forget i).cells, e.one = true) ∧ ∀ (k : Nat) (e : AV), (x.forget i).cells[k]? = some e → ∃ y, x.cells[k]? = some y ∧ y.forget i = e := by
  cases x with
  | agg l =>
    simp only [AV.forget] at hu ⊢
    split
    · rename_i l' hl'
      obtain ⟨g1, g2⟩ := forgetL_spec hl'
      refine ⟨g1.symm, fun e he => ?_, fun k e hk => ?_⟩
      · obtain ⟨k, hk⟩ := List.getElem?_of_mem he
        obtain ⟨y, hy, rfl, hne⟩ := g2 k e hk
        exact (forget_one (h1 y (List.mem_of_getElem? hy))).resolve_right hne
      · obtain ⟨y, hy, rfl, hne⟩ := g2 k e hk
        exact ⟨y, hy, rfl⟩
    · rename_i hl'; rw [hl'] at hu; exact absurd rfl hu
  | p d =>
    refine ⟨rfl, h1, fun k e hk => ⟨e, hk, ?_⟩⟩
    simp only [AV.forget, AV.cells, List.getElem?_map, Option.map_eq_some_iff] at hk
    obtain ⟨q, _, rfl⟩ := hk
    rfl
  | und => simp [AV.cells, AV.one] at h1
  | tup l => simp [AV.cells, AV.one] at h1
  | nils T sz => exact ⟨rfl, h1, fun k e hk => ⟨e, hk, by match k, hk with | 0, hk => (simp [AV.forget, AV.cells] at hk; subst hk; rfl) | k + 1, hk => simp [AV.forget, AV.cells] at hk⟩⟩
  | slice j off len =>
    simp only [AV.forget] at hu ⊢
    split
    · rename_i e; rw [if_pos e] at hu; exact absurd rfl hu
    · rename_i hne
      exact ⟨rfl, h1, fun k e hk => ⟨e, hk, by match k, hk with | 0, hk => (simp [AV.cells] at hk; subst hk; simp [AV.forget, hne]) | k + 1, hk => simp [AV.cells] at hk⟩⟩
  | ptr j q off =>
    simp only [AV.forget] at hu ⊢
    split
    · rename_i e; rw [if_pos e] at hu; exact absurd rfl hu
    · rename_i hne
      exact ⟨rfl, h1, fun k e hk => ⟨e, hk, by match k, hk with | 0, hk => (simp [AV.cells] at hk; subst hk; simp [AV.forget, hne]) | k + 1, hk => simp [AV.cells] at hk⟩⟩

theorem ContOk.forget {i : Nat} {c : Array Value} {ob : AObj} {o sz : Nat} (h : ContOk w N loc c o sz ob.cont) (hs : ∀ b, N b → w'.heap[b]? = w.heap[b]?) (hn : ∀ b, N b → N' b) (hl : ∀ j L, j ≠ i → loc j = some L → loc' j = some L) :
    ContOk w' N' loc' c o sz (ob.forget i).cont := by
  unfold AObj.forget
  split
  · rename_i v hv
    rw [hv] at h
    obtain ⟨m1, m2, m3, m4⟩ := h
    split
    · exact m1
    · rename_i hne
      obtain ⟨g1, g2, g3⟩ := forget_cells m3 (i := i) (fun e => hne e)
      refine ⟨m1, g1.trans m2, g2, fun k e hk => ?_⟩
      obtain ⟨y, hy, rfl⟩ := g3 k e hk
      exact (m4 k y hy).forget hs hn hl
  · rename_i hne
    cases hc : ob.cont with
    | box v => exact absurd hc (hne v)
    | row l => rw [hc] at h; exact ⟨h.1, h.2.1, fun i e j d h1 h2 => ⟨(h.2.2 i e j d h1 h2).1, (h.2.2 i e j d h1 h2).2.mono hs hn⟩⟩
    | junk => rw [hc] at h; exact h
theorem forget_same (i : Nat) (ob : AObj) : (ob.forget i).T = ob.T ∧ (ob.forget i).sz = ob.sz ∧ (ob.forget i).frz = ob.frz ∧ (ob.cont = .row [] → (ob.forget i).cont = .row []) := by
  unfold AObj.forget
  split
  · rename_i v hv
    split <;> exact ⟨rfl, rfl, rfl, fun h => by rw [hv] at h; cases h⟩
  · exact ⟨rfl, rfl, rfl, fun h => h⟩

/-- What is appended. -/
theorem elems_src {sz : Nat} {T E : TypeId} {y : Operand} {ys : List D} {U : Option TypeId} (h : Rel w0 base nt loc s a w) (hu : P.underlying T = some (.slice E)) (he : elemsOf sz s.m ((opd P U y).ev s.r) = some ys) :
    ∃ news, Src P sz T (a.eval y) ys.length news w ∧ (∀ e ∈ ys, e.cells.length = sz) ∧ ∀ (p : Nat) (e : D) (j : Nat) (q : D), ys[p]? = some e → e.cells[j]? = some q → q.one = true ∧ V w (NB base s.m loc w) (news.getD (p * sz + j) undef) q := by
  have hy := h.opd (P := P) U y
  generalize (opd P U y).ev s.r = Y at hy he
  generalize hyv : a.eval y = v at hy
  have none_ : ∀ p cap, Src P sz T (.slice p 0 cap) 0 [] w := by
    intro p cap
    cases p with
    | none => exact Src.ofNil w hu cap
    | some ad => exact Src.ofSlice w hu ad 0 cap [] (by simp) (fun j u hj => by simp at hj) (fun u hu => by simp at hu)
  have block : ∀ (b o0 n cap : Nat) (c : Array Value) (T' : TypeId) (fr : Nat × Nat), w.heap[b]? = some (.cells c T' fr) → ys.length = n → o0 + n * sz ≤ c.size → (∀ e ∈ ys, e.cells.length = sz) →
      (∀ p e j q, ys[p]? = some e → e.cells[j]? = some q → q.one = true ∧ V w (NB base s.m loc w) (c.getD (o0 + (p * sz + j)) undef) q) → ∃ news, Src P sz T (.slice (some ⟨b, o0, none⟩) n cap) ys.length news w ∧ (∀ e ∈ ys, e.cells.length = sz) ∧ ∀ (p : Nat) (e : D) (j : Nat) (q : D), ys[p]? = some e → e.cells[j]? = some q → q.one = true ∧ V w (NB base s.m loc w) (news.getD (p * sz + j) undef) q := by
    intro b o0 n cap c T' fr hb hn hfit hsz hV
    have hlt : ∀ p e j q, ys[p]? = some e → e.cells[j]? = some q → p * sz + j < n * sz := by
      intro p e j q hp hj
      have h1 := (List.getElem?_eq_some_iff.1 hp).1
      have h2 := (List.getElem?_eq_some_iff.1 hj).1
      have h3 := hsz e (List.mem_of_getElem? hp)
      have := Nat.mul_le_mul_right sz (show p + 1 ≤ n by omega)
      rw [Nat.add_mul] at this; omega
    refine ⟨(rd c o0 (n * sz)).toList, ?_, hsz, fun p e j q hp hj => ⟨(hV p e j q hp hj).1, ?_⟩⟩
    · rw [hn]
      refine Src.ofSlice w hu _ n cap _ (by simp) (fun k u hk => ?_) (fun u hm => ?_)
      · have hk' : k < n * sz := by have := (List.getElem?_eq_some_iff.1 hk).1; simpa using this
        rw [add_mid, cell_at hb (by omega)]
        have := rd_get c o0 (n * sz) k hk'
        rw [← this]
        simpa using congrArg (·.getD undef) hk
      · obtain ⟨k, hk⟩ := List.getElem?_of_mem hm
        have hk' : k < n * sz := by have := (List.getElem?_eq_some_iff.1 hk).1; simpa using this
        have hszp : 0 < sz := by rcases Nat.eq_zero_or_pos sz with h0 | h0; (subst h0; simp at hk'); exact h0
        have hdiv := Nat.div_add_mod k sz
        have hp : k / sz < n := Nat.div_lt_of_lt_mul (by rw [Nat.mul_comm]; exact hk')
        have hj : k % sz < sz := Nat.mod_lt _ hszp
        have hpy : ys[k / sz]? = some (ys[k / sz]'(by omega)) := by simp
        have hlen := hsz _ (List.mem_of_getElem? hpy)
        have hqy : (ys[k / sz]'(by omega)).cells[k % sz]? = some ((ys[k / sz]'(by omega)).cells[k % sz]'(by omega)) := by simp
        obtain ⟨g1, g2⟩ := hV _ _ _ _ hpy hqy
        have hu' : c.getD (o0 + (k / sz * sz + k % sz)) undef = u := by
          rw [show k / sz * sz + k % sz = k by rw [Nat.mul_comm]; exact hdiv, ← rd_get c o0 (n * sz) k hk']
          simpa using congrArg (·.getD undef) hk
        rw [hu'] at g2
        exact g2.one g1
    · have := rd_get c o0 (n * sz) (p * sz + j) (hlt p e j q hp hj)
      have h2 : (rd c o0 (n * sz)).toList.getD (p * sz + j) undef = (rd c o0 (n * sz)).getD (p * sz + j) undef := by simp
      rw [h2, this]
      exact (hV p e j q hp hj).2
  cases hy with
  | p _ e hV =>
    cases e <;> simp only [elemsOf] at he <;> try cases he
    rename_i T' sz' l
    split at he
    case isFalse => cases he
    rename_i hs
    subst hs
    simp only [Option.some.injEq] at he
    subst he
    cases hV with
    | empty p cap => exact ⟨[], none_ p cap, by simp, fun p e j q hp => by simp at hp⟩
    | list b o0 cap _ _ _ c fr g1 g2 g3 g4 g5 g6 g7 =>
      rcases Nat.eq_zero_or_pos (l.length * sz') with h0 | h0
      · refine ⟨[], Src.ofSlice w hu _ l.length cap [] (by simp [h0]) (fun j u hj => by simp at hj) (fun u hu => by simp at hu), fun e he => (g5 e he).1, fun p e j q hp hj => ?_⟩
        have h1 := (List.getElem?_eq_some_iff.1 hp).1
        have h2 := (List.getElem?_eq_some_iff.1 hj).1
        have h3 := (g5 e (List.mem_of_getElem? hp)).1
        have := Nat.mul_pos (show 0 < l.length by omega) (show 0 < sz' by omega)
        omega
      · have hl0 : 0 < l.length := by rcases Nat.eq_zero_or_pos l.length with h | h; (rw [h] at h0; simp at h0); exact h
        have hs0 : 0 < sz' := by rcases Nat.eq_zero_or_pos sz' with h | h; (rw [h] at h0; simp at h0); exact h
        have hp : l[l.length - 1]? = some (l[l.length - 1]'(by omega)) := by simp
        have hlen := (g5 _ (List.mem_of_getElem? hp)).1
        have hj : (l[l.length - 1]'(by omega)).cells[sz' - 1]? = some ((l[l.length - 1]'(by omega)).cells[sz' - 1]'(by omega)) := by simp
        have hfit := g6 _ _ _ _ hp hj
        have hmul : (l.length - 1) * sz' + sz' = l.length * sz' := by rw [← Nat.succ_mul]; congr 1; omega
        exact block b o0 l.length cap c T' fr g1 rfl (by omega) (fun e he => (g5 e he).1) (fun p e j q hp hj => ⟨(g5 e (List.mem_of_getElem? hp)).2 q (List.mem_of_getElem? hj), g7 p e j q hp hj⟩)
  | nils T' sz' =>
    simp only [elemsOf] at he
    split at he
    case isFalse => cases he
    simp only [Option.some.injEq] at he
    subst he
    exact ⟨[], none_ none 0, by simp, fun p e j q hp => by simp at hp⟩
  | slice L i off len cap hL hn h3 h4 h5 =>
    simp only [elemsOf] at he
    split at he
    case h_2 => cases he
    rename_i T' sz' l frz hm
    split at he
    case isFalse => cases he
    rename_i hc
    obtain ⟨rfl, hle⟩ := hc
    simp only [Option.some.injEq] at he
    subst he
    obtain ⟨L', hL', hok⟩ := h.objs i _ hm
    rw [hL] at hL'
    cases hL'
    obtain ⟨c, fr, k1, k2, k3, -⟩ := hok.at_ hn
    obtain ⟨m1, m2, m3⟩ := k3
    have hsz := hok.sz
    simp only at hsz m1 m2 m3
    have hlen : ((l.drop off).take len).length = len := by simp; omega
    have idx : ∀ j e, ((l.drop off).take len)[j]? = some e → l[off + j]? = some e := by
      intro j e hj
      have hlt : j < len := by have := (List.getElem?_eq_some_iff.1 hj).1; omega
      rw [List.getElem?_take_of_lt hlt, List.getElem?_drop] at hj
      exact hj
    have hmul := Nat.mul_le_mul_right sz' hle
    rw [Nat.add_mul] at hmul
    exact block L.b (L.o + off * L.sz) len cap c _ fr k1 hlen (by rw [hsz]; omega) (fun e he => m2 e (List.mem_of_mem_drop (List.mem_of_mem_take he))) (fun p e j q hp hj => by
      have := m3 _ e j q (idx p e hp) hj
      rw [show L.o + ((off + p) * sz' + j) = L.o + off * L.sz + (p * sz' + j) by rw [hsz, Nat.add_mul]; omega] at this
      exact this)
  | sliceEmp L i off p hL =>
    simp only [elemsOf] at he
    split at he
    case h_2 => cases he
    rename_i T' sz' l frz hm
    split at he
    case isFalse => cases he
    simp only [List.take_zero, Option.some.injEq] at he
    subst he
    exact ⟨[], none_ p 0, by simp, fun p e j q hp => by simp at hp⟩
  | _ => simp [elemsOf] at he

theorem Rel.relocate {i : Nat} {T sz : Nat} {l m : List D} {L' : Loc} (h : Rel w0 base nt loc s a w) (hm : s.m i = some ⟨T, sz, .row l, false⟩) (hsz : w.heap.size ≤ w'.heap.size) (hw : Ext w0 w')
    (hb : ∀ b, b < w.heap.size → (∀ Lo, loc i = some Lo → Lo.nil = false → b ≠ Lo.b) → w'.heap[b]? = w.heap[b]?)
    (hL' : L'.sz = sz) (hnil : L'.nil = true → m = []) (hplace : L'.nil = false → w.heap.size ≤ L'.b ∨ ∃ Lo, loc i = some Lo ∧ Lo.nil = false ∧ L'.b = Lo.b) (hlow : L'.nil = false → w0.heap.size ≤ L'.b)
    (hk : L'.nil = false → ∃ c fr, w'.heap[L'.b]? = some (.cells c T fr) ∧ c.size = L'.n ∧ (∀ x, x < L'.n → (decide (fr.1 ≤ x) && decide (x < fr.2)) = false) ∧ ContOk w' (fun b => NB base s.m loc w b) loc c L'.o sz (.row m)) :
    Rel w0 base nt (upd loc i (some L')) ⟨forgetR i s.r, upd (forgetM i s.m) i (some ⟨T, sz, .row m, false⟩)⟩ a w' := by
  obtain ⟨Lo, hLo, hoko⟩ := h.objs i _ hm
  have hl : ∀ j L, j ≠ i → loc j = some L → upd loc i (some L') j = some L := fun j L hj hL => by rw [upd_ne _ _ hj]; exact hL
  have hother : ∀ j ob, j ≠ i → upd (forgetM i s.m) i (some ⟨T, sz, .row m, false⟩) j = some ob → ∃ ob0, s.m j = some ob0 ∧ ob = ob0.forget i := by
    intro j ob hj hob
    rw [upd_ne _ _ hj] at hob
    unfold forgetM at hob
    simp only [Option.map_eq_some_iff] at hob
    obtain ⟨ob0, h1, h2⟩ := hob
    exact ⟨ob0, h1, h2.symm⟩
  have hNs : ∀ b, NB base s.m loc w b → w'.heap[b]? = w.heap[b]? := fun b hbN => hb b hbN.1 (fun Lo' h1 h2 e => hbN.2.2 ⟨i, _, Lo', hm, rfl, h1, h2, e.symm⟩)
  have hN : ∀ b, NB base s.m loc w b → NB base (upd (forgetM i s.m) i (some ⟨T, sz, .row m, false⟩)) (upd loc i (some L')) w' b := by
    rintro b hbN
    refine ⟨Nat.lt_of_lt_of_le hbN.1 hsz, hbN.2.1, ?_⟩
    rintro ⟨j, ob, Lj, h1, h2, h3, h4, h5⟩
    by_cases hj : j = i
    · subst hj
      rw [upd_same] at h3
      cases h3
      rcases hplace h4 with hp | ⟨Lo', hp1, hp2, hp3⟩
      · have := hbN.1; omega
      · exact hbN.2.2 ⟨j, _, Lo', hm, rfl, hp1, hp2, by omega⟩
    · obtain ⟨ob0, g1, rfl⟩ := hother j ob hj h1
      rw [upd_ne _ _ hj] at h3
      exact hbN.2.2 ⟨j, ob0, Lj, g1, by rw [← (forget_same i ob0).2.2.1]; exact h2, h3, h4, h5⟩
  refine ⟨hw, h.defers, h.size, h.low, ?_, fun t => (h.tmps t).forget hNs hN hl, ?_, ?_⟩
  · intro j hj
    dsimp only at hj
    by_cases e : j = i
    · subst e; rw [upd_same] at hj; cases hj
    · rw [upd_ne _ _ e] at hj ⊢
      unfold forgetM at hj
      simp only [Option.map_eq_none_iff] at hj
      exact h.dom j hj
  · intro j ob hob
    dsimp only at hob
    by_cases e : j = i
    · subst e
      rw [upd_same] at hob
      cases hob
      refine ⟨L', upd_same _ _ _, hL', fun hn => by rw [hnil hn], fun hn => ?_⟩
      obtain ⟨c, fr, k1, k2, k3, k4⟩ := hk hn
      refine ⟨c, fr, k1, k2, ?_, fun _ => ⟨hlow hn, k3⟩, fun hf => by cases hf⟩
      exact ⟨k4.1, k4.2.1, fun i e j d h1 h2 => ⟨(k4.2.2 i e j d h1 h2).1, (k4.2.2 i e j d h1 h2).2.mono (fun _ _ => rfl) hN⟩⟩
    · obtain ⟨ob0, g1, rfl⟩ := hother j ob e hob
      obtain ⟨Lj, hLj, hokj⟩ := h.objs j ob0 g1
      obtain ⟨f1, f2, f3, f4⟩ := forget_same i ob0
      refine ⟨Lj, hl j Lj e hLj, hokj.sz.trans f2.symm, fun hn => f4 (hokj.nil hn), fun hn => ?_⟩
      obtain ⟨c, fr, k1, k2, k3, k4, k5⟩ := hokj.at_ hn
      have hlt := h.obj_lt g1 hLj hn
      have hne : ∀ Lo', loc i = some Lo' → Lo'.nil = false → Lj.b ≠ Lo'.b := by
        intro Lo' q1 q2 q3
        exact e (h.inj i j _ ob0 Lo' Lj hm g1 rfl q1 hLj q2 hn q3.symm).symm
      refine ⟨c, fr, by rw [f1]; exact (hb _ hlt hne).trans k1, k2, by rw [f2]; exact k3.forget hNs hN hl, fun hf => k4 (f3 ▸ hf), fun hf => hN _ (k5 (f3 ▸ hf))⟩
  · intro j j' ob ob' Lj Lj' hob hob' hf hLj hLj' hn hn' hbb
    dsimp only at hob hob'
    have fresh : ∀ q obq Lq, q ≠ i → s.m q = some obq → loc q = some Lq → Lq.nil = false → L'.nil = false → L'.b ≠ Lq.b := by
      intro q obq Lq hq h1 h2 h3 h4 h5
      rcases hplace h4 with hp | ⟨Lo', hp1, hp2, hp3⟩
      · have := h.obj_lt h1 h2 h3; omega
      · exact hq (h.inj i q _ obq Lo' Lq hm h1 rfl hp1 h2 hp2 h3 (by omega)).symm
    by_cases e : j = i
    · subst e
      rw [upd_same] at hLj
      cases hLj
      by_cases e' : j' = j
      · exact e'.symm
      · obtain ⟨ob0, g1, rfl⟩ := hother j' ob' e' hob'
        rw [upd_ne _ _ e'] at hLj'
        exact absurd hbb (fresh j' ob0 Lj' e' g1 hLj' hn' hn)
    · obtain ⟨ob0, g1, rfl⟩ := hother j ob e hob
      rw [upd_ne _ _ e] at hLj
      by_cases e' : j' = i
      · subst e'
        rw [upd_same] at hLj'
        cases hLj'
        exact absurd hbb.symm (fresh j ob0 Lj e g1 hLj hn hn')
      · obtain ⟨ob0', g1', rfl⟩ := hother j' ob' e' hob'
        rw [upd_ne _ _ e'] at hLj'
        exact h.inj j j' ob0 ob0' Lj Lj' g1 g1' (by rw [← (forget_same i ob0).2.2.1]; exact hf) hLj hLj' hn hn' hbb

/-- A row behind a row. -/
theorem row_app {c : Array Value} {o0 sz : Nat} {l ys : List D} (h1 : o0 + (l.length + ys.length) * sz ≤ c.size) (h2 : ∀ e ∈ l, e.cells.length = sz) (h3 : ∀ e ∈ ys, e.cells.length = sz)
    (h4 : ∀ i e j d, l[i]? = some e → e.cells[j]? = some d → d.one = true ∧ V w N (c.getD (o0 + (i * sz + j)) undef) d)
    (h5 : ∀ i e j d, ys[i]? = some e → e.cells[j]? = some d → d.one = true ∧ V w N (c.getD (o0 + ((l.length + i) * sz + j)) undef) d) : ContOk w N loc c o0 sz (.row (l ++ ys)) := by
  refine ⟨by simpa using h1, fun e he => ?_, fun i e j d hi hj => ?_⟩
  · rcases List.mem_append.1 he with he | he
    · exact h2 e he
    · exact h3 e he
  · by_cases hlt : i < l.length
    · rw [List.getElem?_append_left hlt] at hi
      exact h4 i e j d hi hj
    · rw [List.getElem?_append_right (by omega)] at hi
      have := h5 _ e j d hi hj
      rwa [show l.length + (i - l.length) = i by omega] at this

theorem Rel.allocNil (h : Rel w0 base nt loc s a w) {id : Nat} (hid : s.m id = none) (T sz : Nat) : Rel w0 base nt (upd loc id (some ⟨0, 0, 0, sz, true⟩)) ⟨s.r, upd s.m id (some ⟨T, sz, .row [], false⟩)⟩ a w := by
  have hloc := h.dom id hid
  have hl : ∀ i L, loc i = some L → upd loc id (some ⟨0, 0, 0, sz, true⟩) i = some L := fun i L hi => by
    rw [upd_ne]; exact hi
    rintro rfl; rw [hloc] at hi; cases hi
  have hn : ∀ b, NB base s.m loc w b → NB base (upd s.m id (some ⟨T, sz, .row [], false⟩)) (upd loc id (some ⟨0, 0, 0, sz, true⟩)) w b := by
    rintro b ⟨h1, h2, h3⟩
    refine ⟨h1, h2, ?_⟩
    rintro ⟨i, o, L, ho, hf, hL, hnil, hb⟩
    by_cases hi : i = id
    · subst hi; rw [upd_same] at hL; cases hL; cases hnil
    · rw [upd_ne _ _ hi] at ho hL; exact h3 ⟨i, o, L, ho, hf, hL, hnil, hb⟩
  refine ⟨h.ext, h.defers, h.size, h.low, ?_, fun t => (h.tmps t).mono (fun _ _ => rfl) hn hl, ?_, ?_⟩
  · intro i hi
    dsimp only at hi
    by_cases e : i = id
    · subst e; rw [upd_same] at hi; cases hi
    · rw [upd_ne _ _ e] at hi ⊢; exact h.dom i hi
  · intro i o ho
    dsimp only at ho
    by_cases e : i = id
    · subst e
      rw [upd_same] at ho
      cases ho
      exact ⟨_, upd_same _ _ _, rfl, fun _ => rfl, fun hh => by cases hh⟩
    · rw [upd_ne _ _ e] at ho
      obtain ⟨L, hL, hok⟩ := h.objs i o ho
      refine ⟨L, hl i L hL, hok.sz, hok.nil, fun hnil => ?_⟩
      obtain ⟨c', fr, h1, h2, h3, h4, h5⟩ := hok.at_ hnil
      exact ⟨c', fr, h1, h2, h3.mono (fun _ _ => rfl) hn hl, h4, fun hf => hn _ (h5 hf)⟩
  · intro i i' o o' L L' ho ho' hf hL hL' hnil hnil' hb
    dsimp only at ho ho'
    by_cases e : i = id
    · subst e; rw [upd_same] at hL; cases hL; cases hnil
    · by_cases e' : i' = id
      · subst e'; rw [upd_same] at hL'; cases hL'; cases hnil'
      · rw [upd_ne _ _ e] at ho hL
        rw [upd_ne _ _ e'] at ho' hL'
        exact h.inj i i' o o' L L' ho ho' hf hL hL' hnil hnil' hb

theorem append_grow {T E ty : TypeId} {ti : TypeInfo} {z : Value} {sz bytes n cap m : Nat} {pb : Option Addr} {x : Value} {olds news : List Value} (hu : P.underlying T = some (.slice E)) (hi : P.info? E = some ti) (hz : ti.zero = some z) (hsize : ti.size = sz) (hzs : z.cells.size = sz) (hb : ti.bytes = bytes)
    (hold : (Builtin.firstCells sz n (.slice pb n cap)).run P w.drew = .ok olds.toArray w.drew) (hol : olds.length = n * sz) (hs : Src P sz T x m news w) (hg : cap < n + m) (hby : (n + m) * bytes ≤ 140737488355328) (h63 : n + m ≤ 9223372036854775807) :
    ∃ (cap' : Nat) (c' : Array Value), (Builtin.append_ #[T, T] ty #[.slice pb n cap, x]).run P w = .ok (.slice (some ⟨w.heap.size, 0, none⟩) (n + m) cap') (w.drew.alloc (.cells c' E)) ∧ c'.size = cap' * sz ∧ n + m ≤ cap' ∧ cap' ≤ 9223372036854775807 ∧
      ∀ k, k < (n + m) * sz → c'.getD k undef = (olds ++ news).getD k undef := by
  subst hsize
  have hr := run_append_grow_src (P := P) w T T ty E ti z hu hi hz pb n cap olds hold x m news hs hg (by omega) (by rw [hb]; exact growslice_fits hg hby)
  have hge := grownCap_ge w (n + m) cap E
  have hle : grownCap w (n + m) cap E ≤ maxLen := grownCap_le_maxLen w (n + m) cap E (by unfold maxLen; omega)
  unfold maxLen at hle
  have hlen : (olds ++ news).length = (n + m) * ti.size := by rw [List.length_append, hol, hs.newsLen, Nat.add_mul]
  refine ⟨_, _, hr, ?_, hge, by omega, fun k hk => ?_⟩
  · rw [Array.size_append, size_zeroCells, hzs, List.size_toArray, hlen, ← Nat.add_mul]
    congr 1; omega
  · simp only [Array.getD_eq_getD_getElem?]
    rw [Array.getElem?_append_left (by rw [List.size_toArray, hlen]; exact hk)]
    simp

theorem sim_append {T E : TypeId} {c : Call} {x y : Operand} {lz : List D} {ag : Bool} {sz bytes : Nat} {ti : TypeInfo} {U W : Option TypeId} (h : Rel w0 base nt loc s a w) (ho : o.op = .call c) (hc : c.callee = .builtin .append) (ha : c.args.toList = [x, y]) (hT : c.argTypes.toList = [T, T])
    (hu : P.underlying T = some (.slice E)) (hz : ZOk P E lz ag sz) (hi : P.info? E = some ti) (hb : ti.bytes = bytes) (he : evApp E sz bytes (opd P U x) (opd P W y) id s = some (true, d, t)) : Good P w0 base nt o a w t d := by
  have ha' : c.args = #[x, y] := by rw [← Array.toList_inj]; exact ha
  have hT' : c.argTypes = #[T, T] := by rw [← Array.toList_inj]; exact hT
  have hx := h.opd (P := P) U x
  unfold evApp at he
  split at he
  case h_1 => cases he
  rename_i ys hys
  obtain ⟨news, hsrc, hes, hev⟩ := elems_src h hu hys
  obtain ⟨ti', z, hi', hzz, hTy, hchk, hlz, hone⟩ := hz
  rw [hi] at hi'
  cases hi'
  have hsize : ti.size = sz := by obtain ⟨_, i2, _, _, h3, h4⟩ := hTy; rw [hi] at h3; cases h3; exact h4
  have hzs : z.cells.size = sz := by obtain ⟨k1, _⟩ := chkL_ok hchk; simp at k1; omega
  have run : ∀ v w', (Builtin.append_ #[T, T] o.type #[a.eval x, a.eval y]).run P w = .ok v w' → (execOp a.eval o).run P w = .ok (.value v) w' := by
    intro v w' hr
    simp [execOp, ho, resolve, hc, ha', hT', invoke, builtin, hr]
  have hdrew : Ext w w.drew := Below.drew (Below.refl _ _)
  have hnl := hsrc.newsLen
  have hlt : ∀ (l : List D), (∀ e ∈ l, e.cells.length = sz) → ∀ p (e : D) (j : Nat) (q : D), l[p]? = some e → e.cells[j]? = some q → p * sz + j < l.length * sz := by
    intro l hl p e j q hp hj
    have h1 := (List.getElem?_eq_some_iff.1 hp).1
    have h2 := (List.getElem?_eq_some_iff.1 hj).1
    have h3 := hl e (List.mem_of_getElem? hp)
    have := Nat.mul_le_mul_right sz (show p + 1 ≤ l.length by omega)
    rw [Nat.add_mul] at this; omega
  split at he
  · -- onto nil
    rename_i T' sz' hk
    split at he
    case h_2 => cases he
    rename_i hid
    split at he
    case isFalse => cases he
    rename_i hss
    subst hss
    simp only [Option.some.injEq, Prod.mk.injEq, decide_eq_true_eq] at he
    obtain ⟨⟨hby, h63⟩, rfl, rfl⟩ := he
    rw [hk] at hx
    generalize hxv : a.eval x = v at hx
    cases hx
    rcases Nat.eq_zero_or_pos ys.length with h0 | h0
    · have hys0 : ys = [] := List.eq_nil_of_length_eq_zero h0
      subst hys0
      have hn0 : news = [] := List.eq_nil_of_length_eq_zero (by simpa using hnl)
      subst hn0
      have hr := run_append_nothing (P := P) w T T o.type E ti hu hi none 0 0 (Nat.le_refl 0) (a.eval y) (by rw [hsize]; exact hsrc)
      exact ⟨_, w, _, .inl (run _ _ (by rw [hxv]; exact hr)), h.allocNil hid E sz', .sliceEmp _ id 0 none (upd_same _ _ _)⟩
    · obtain ⟨cap', c', hr, hcs, hcap, h63', hget⟩ := append_grow (P := P) (ty := o.type) (olds := []) hu hi hzz hsize hzs hb (run_firstCells_none w.drew sz' 0 0 0) (by simp) hsrc (show 0 < 0 + ys.length by omega) (by simpa using hby) (by simpa using h63)
      simp only [Nat.zero_add, List.nil_append] at hr hcap hget
      have hmul := Nat.mul_le_mul_right sz' hcap
      obtain ⟨loc', hl', hrel⟩ := (h.later hdrew).alloc (T := E) (c := c') (k := .row ys) (sz := sz') hid (by
        refine ⟨by omega, hes, fun p e j q hp hj => ⟨(hev p e j q hp hj).1, ?_⟩⟩
        rw [Nat.zero_add, hget _ (hlt ys hes p e j q hp hj)]
        exact (hev p e j q hp hj).2.mono (fun _ _ => rfl) (fun b hb => ⟨hb.1, hb.2⟩))
      refine ⟨_, _, loc', .inl (run _ _ (by rw [hxv]; exact hr)), hrel, ?_⟩
      have := RV.slice (w := w.drew.alloc (.cells c' E)) (N := NB base (upd s.m id (some ⟨E, sz', .row ys, false⟩)) loc' (w.drew.alloc (.cells c' E))) _ id 0 ys.length cap' hl' rfl hcap h63' (by simp [hcs])
      simpa using this
  · -- onto an object of the call's own
    rename_i i n hk
    split at he
    case h_2 => cases he
    rename_i T' sz' l hm
    split at he
    case isFalse => cases he
    rename_i hcc
    obtain ⟨rfl, rfl, rfl⟩ := hcc
    simp only [Option.some.injEq, Prod.mk.injEq, decide_eq_true_eq] at he
    obtain ⟨⟨hby, h63⟩, rfl, rfl⟩ := he
    rw [hk] at hx
    generalize hxv : a.eval x = v at hx
    obtain ⟨n, hn⟩ : ∃ n, n = l.length := ⟨_, rfl⟩
    rw [← hn] at hx
    -- a new row for the object
    have fresh : ∀ (pb : Option Addr) (cap : Nat) (olds : List Value), v = .slice pb n cap → cap < n + ys.length → (Builtin.firstCells sz' n (.slice pb n cap)).run P w.drew = .ok olds.toArray w.drew → olds.length = n * sz' → (∀ e ∈ l, e.cells.length = sz') →
        (∀ i e j d, l[i]? = some e → e.cells[j]? = some d → d.one = true ∧ V w (NB base s.m loc w) (olds.getD (i * sz' + j) undef) d) →
        Good P w0 base nt o a w ⟨forgetR i s.r, upd (forgetM i s.m) i (some ⟨T', sz', .row (l ++ ys), false⟩)⟩ (.slice i 0 (l.length + ys.length)) := by
      rintro pb cap olds rfl hg hold hol hel hVl
      obtain ⟨cap', c', hr, hcs, hcap, h63', hget⟩ := append_grow (P := P) (ty := o.type) (olds := olds) hu hi hzz hsize hzs hb hold hol hsrc hg (by rw [hn]; exact hby) (by rw [hn]; exact h63)
      have hmul := Nat.mul_le_mul_right sz' hcap
      have hrel := h.relocate (w' := w.drew.alloc (.cells c' T')) (m := l ++ ys) (L' := ⟨w.heap.size, 0, c'.size, sz', false⟩) hm (by show w.heap.size ≤ (w.heap.push _).size; simp)
        (h.ext.tr (hdrew.alloc (Nat.le_refl _) _)) (fun b hb _ => Below.heap_alloc w.drew _ b hb) rfl (fun hh => by cases hh) (fun _ => .inl (Nat.le_refl _)) (fun _ => h.ext.size) (fun _ => ⟨c', (0, 0), heap_alloc_new w.drew _, rfl, by simp, ?_⟩)
      · refine ⟨_, _, _, .inl (run _ _ (by rw [hxv]; exact hr)), hrel, ?_⟩
        have := RV.slice (w := w.drew.alloc (.cells c' T')) (N := NB base (upd (forgetM i s.m) i (some ⟨T', sz', .row (l ++ ys), false⟩)) (upd loc i (some ⟨w.heap.size, 0, c'.size, sz', false⟩)) (w.drew.alloc (.cells c' T'))) ⟨w.heap.size, 0, c'.size, sz', false⟩ i 0 (n + ys.length) cap' (upd_same loc i _) rfl hcap h63' (by simp [hcs])
        rw [← hn]
        simpa using this
      · rw [hn] at hmul
        refine row_app (by rw [Nat.zero_add, hcs]; exact hmul) hel hes (fun p e j q hp hj => ⟨(hVl p e j q hp hj).1, ?_⟩) (fun p e j q hp hj => ⟨(hev p e j q hp hj).1, ?_⟩)
        · have hk1 := hlt l hel p e j q hp hj
          rw [Nat.zero_add, hget _ (by rw [hn, Nat.add_mul]; omega)]
          have : (olds ++ news).getD (p * sz' + j) undef = olds.getD (p * sz' + j) undef := by
            simp only [List.getD_eq_getElem?_getD]
            rw [List.getElem?_append_left (by rw [hol, hn]; exact hk1)]
          rw [this]
          exact (hVl p e j q hp hj).2.mono (fun b hb => (hdrew.alloc (Nat.le_refl _) _).block b hb.1) (fun b hb => hb)
        · have hk1 := hlt ys hes p e j q hp hj
          rw [Nat.zero_add, hget _ (by rw [hn, Nat.add_mul, Nat.add_mul]; omega)]
          have : (olds ++ news).getD ((l.length + p) * sz' + j) undef = news.getD (p * sz' + j) undef := by
            simp only [List.getD_eq_getElem?_getD]
            rw [List.getElem?_append_right (by rw [hol, hn, Nat.add_mul]; omega)]
            congr 2
            rw [hol, hn, Nat.add_mul]; omega
          rw [this]
          exact (hev p e j q hp hj).2.mono (fun b hb => (hdrew.alloc (Nat.le_refl _) _).block b hb.1) (fun b hb => hb)
    obtain ⟨Lo, hLo, hok⟩ := h.objs i _ hm
    cases hx with
    | sliceEmp L _ _ p hL =>
      have hLe : L = Lo := by rw [hL] at hLo; injection hLo
      subst hLe
      have hl0 : l = [] := List.eq_nil_of_length_eq_zero hn.symm
      subst hl0
      rcases Nat.eq_zero_or_pos ys.length with h0 | h0
      · have hys0 : ys = [] := List.eq_nil_of_length_eq_zero h0
        subst hys0
        have hn0 : news = [] := List.eq_nil_of_length_eq_zero (by simpa using hnl)
        subst hn0
        have hr := run_append_nothing (P := P) w T T o.type T' ti hu hi p 0 0 (Nat.le_refl 0) (a.eval y) (by rw [hsize]; exact hsrc)
        have hrel := h.relocate (w' := w) (m := [] ++ []) (L' := L) hm (Nat.le_refl _) h.ext (fun _ _ _ => rfl) hok.sz (fun _ => rfl) (fun hh => .inr ⟨L, hL, hh, rfl⟩)
          (fun hh => by obtain ⟨c0, fr, k1, k2, k3, k4, -⟩ := hok.at_ hh; exact (k4 rfl).1)
          (fun hh => by obtain ⟨c0, fr, k1, k2, k3, k4, -⟩ := hok.at_ hh; exact ⟨c0, fr, k1, k2, (k4 rfl).2, k3⟩)
        exact ⟨_, w, _, .inl (run _ _ (by rw [hxv]; exact hr)), hrel, .sliceEmp L i 0 p (upd_same _ _ _)⟩
      · refine fresh p 0 [] rfl (by omega) ?_ (by simp) (by simp) (fun i e j d hh => by simp at hh)
        cases p with
        | none => exact run_firstCells_none w.drew sz' 0 0 0
        | some ad => exact run_firstCells_some w.drew sz' 0 ad 0 0 [] (by simp) (fun j u hj => by simp at hj)
    | slice L _ _ _ cap hL hnil h3 h4 h5 =>
      have hLe : L = Lo := by rw [hL] at hLo; injection hLo
      subst hLe
      obtain ⟨c0, fr, k1, k2, k3, k4, -⟩ := hok.at_ hnil
      obtain ⟨m1, m2, m3⟩ := k3
      obtain ⟨k4a, k4b⟩ := k4 rfl
      have hLs : L.sz = sz' := hok.sz
      simp only at m1 m2 m3 k1
      have hmulc := Nat.mul_le_mul_right sz' h3
      rw [hLs] at h5
      rcases Nat.lt_or_ge cap (n + ys.length) with hgr | hroom
      · refine fresh _ cap (rd c0 (L.o + 0 * L.sz) (n * sz')).toList rfl hgr ?_ (by simp) m2 (fun p e j q hp hj => ⟨(m3 p e j q hp hj).1, ?_⟩)
        · refine run_firstCells_some w.drew sz' n _ n cap _ (by simp) (fun k u hk => ?_)
          have hk' : k < n * sz' := by have := (List.getElem?_eq_some_iff.1 hk).1; simpa using this
          rw [add_mid, cell_at (w := w.drew) k1 (by omega), ← rd_get c0 (L.o + 0 * L.sz) (n * sz') k hk']
          simpa using congrArg (·.getD undef) hk
        · have hk1 := hlt l m2 p e j q hp hj
          have h2 : (rd c0 (L.o + 0 * L.sz) (n * sz')).toList.getD (p * sz' + j) undef = (rd c0 (L.o + 0 * L.sz) (n * sz')).getD (p * sz' + j) undef := by simp
          rw [h2, rd_get _ _ _ _ (by rw [hn]; exact hk1)]
          have := (m3 p e j q hp hj).2
          rwa [show L.o + 0 * L.sz + (p * sz' + j) = L.o + (p * sz' + j) by omega]
      · have hmulr := Nat.mul_le_mul_right sz' hroom
        rw [Nat.add_mul] at hmulr
        have hfit : L.o + n * sz' + news.length ≤ c0.size := by rw [hnl]; omega
        have hr := run_append_room_src (P := P) w T T o.type T' ti hu hi L.b (L.o + 0 * L.sz) n cap (a.eval y) ys.length news (by rw [hsize]; exact hsrc) hroom
          (fun j hj => by rw [hsize, cell_at k1 (by omega)]; rfl)
          (fun j hj => by
            have := k4b (L.o + 0 * L.sz + n * ti.size + j) (by rw [hsize]; omega)
            simp only [World.frozen?, k1]
            exact this)
        rw [hsize, show L.o + 0 * L.sz + n * sz' = L.o + n * sz' by omega] at hr
        have hself : ∀ b, NB base s.m loc w b → b ≠ L.b := fun b hbN e => hbN.2.2 ⟨i, _, L, hm, rfl, hL, hnil, e.symm⟩
        have hrel := h.relocate (w' := w.setCells L.b (L.o + n * sz') news) (m := l ++ ys) (L' := L) hm (by rw [size_setCells]; exact Nat.le_refl _) (Below.trans h.ext (below_setCells k4a _ _ _))
          (fun b hb hne => heap_setCells_ne (hne L hL hnil) _ _ _) hLs (fun hh => by rw [hnil] at hh; cases hh) (fun hh => .inr ⟨L, hL, hnil, rfl⟩) (fun _ => k4a)
          (fun _ => ⟨setC c0 (L.o + n * sz') news, fr, heap_setCells _ _ _ _ k1, by simpa using k2, k4b, ?_⟩)
        · refine ⟨_, _, _, .inl (run _ _ (by rw [hxv]; exact hr)), hrel, ?_⟩
          have := RV.slice (w := w.setCells L.b (L.o + n * sz') news) (N := NB base (upd (forgetM i s.m) i (some ⟨T', sz', .row (l ++ ys), false⟩)) (upd loc i (some L)) (w.setCells L.b (L.o + n * sz') news)) L i 0 (n + ys.length) cap (upd_same loc i _) hnil hroom h4 (by rw [hLs]; exact h5)
          rw [← hn]
          exact this
        · have hsame : ∀ b, NB base s.m loc w b → (w.setCells L.b (L.o + n * sz') news).heap[b]? = w.heap[b]? := fun b hbN => heap_setCells_ne (hself b hbN) _ _ _
          refine row_app (by rw [size_setC, ← hn, Nat.add_mul]; omega) m2 hes (fun p e j q hp hj => ⟨(m3 p e j q hp hj).1, ?_⟩) (fun p e j q hp hj => ⟨(hev p e j q hp hj).1, ?_⟩)
          · have hk1 := hlt l m2 p e j q hp hj
            rw [setC_out _ _ _ _ (.inl (by rw [← hn] at hk1; omega))]
            exact (m3 p e j q hp hj).2.mono hsame (fun b hb => hb)
          · have hk1 := hlt ys hes p e j q hp hj
            have hin := setC_in news (L.o + n * sz') c0 (p * sz' + j) (by omega) (by omega)
            rw [show L.o + ((l.length + p) * sz' + j) = L.o + n * sz' + (p * sz' + j) by rw [← hn, Nat.add_mul]; omega, hin]
            exact (hev p e j q hp hj).2.mono hsame (fun b hb => hb)
  · cases he

end

end Go.Proofs.Ytbbidekjbgjooaa.M
end

section
namespace Go.Proofs.Ytbbidekjbgjooaa.M
open Go.RowKit

/-- What a call is promised: of arguments that read as ds it gives what reads as d, and leaves all blocks as they were; the caller's own blocks (base), none of which holds elements of A, are not in what it gives. -/
def Con (P : Program) (A : List TypeId) (f : FuncId) (ds : List D) (d : D) : Prop :=
  ∀ (base : Nat → Prop) (w : World) (vs : Array Value), (∀ b, base b → b < w.heap.size) → (∀ b, base b → ∀ c T fr, w.heap[b]? = some (.cells c T fr) → T ∉ A) → vs.size = ds.length →
    (∀ (i : Nat) (e : D), ds[i]? = some e → V w (fun b => b < w.heap.size ∧ ¬ base b) (vs.getD i undef) e) →
    Calls P f vs w fun e w' => ∃ v, e = .returned v ∧ V w' (fun b => b < w'.heap.size ∧ ¬ base b) v d ∧ Ext w w'

theorem Con.mono {P : Program} {A A' : List TypeId} {f : FuncId} {ds : List D} {d : D} (h : Con P A f ds d) (hA : ∀ T ∈ A, T ∈ A') : Con P A' f ds d :=
  fun base w vs h1 h2 h3 h4 => h base w vs h1 (fun b hb c T fr hc ht => h2 b hb c T fr hc (hA T ht)) h3 h4

structure COp where
  dst : Option Nat
  op : AOp
  guard : Option (Nat × Bool)

def St.put (s : St) (t : Option Nat) (v : AV) : St := match t with
  | some t => ⟨upd s.r t v, s.m⟩
  | none => s
def argsD (s : St) : List Opd → Option (List D)
  | [] => some []
  | x :: l => match (x.ev s.r).toD false s.m 20, argsD s l with
    | some d, some ds => some (d :: ds)
    | _, _ => none

/-- One operation, carried out. -/
def step (G : FuncId → List D → D → Prop) (c : COp) (K : St → Prop) (s : St) : Prop :=
  match c.op with
  | .call f args => match argsD s args with
    | some ds => ∃ d, G f ds d ∧ K (s.put c.dst (.p d))
    | none => False
  | .append T sz b x y => match evApp T sz b x y (c.dst.getD 0) s with
    | some (p, v, t) => p = true ∧ K (t.put c.dst v)
    | none => False
  | op => match ev op (c.dst.getD 0) s with
    | some (p, v, t) => p = true ∧ K (t.put c.dst v)
    | none => False
/-- One operation, if its guard lets it. -/
def gstep (G : FuncId → List D → D → Prop) (c : COp) (K : St → Prop) (s : St) : Prop :=
  match c.guard with
  | none => step G c K s
  | some (g, want) => match s.r g with
    | .p (.bool b) => if b = want then step G c K s else K (s.put c.dst .und)
    | _ => False
def cops (G : FuncId → List D → D → Prop) : List COp → (St → Prop) → St → Prop
  | [], K, s => K s
  | c :: l, K, s => gstep G c (cops G l K) s

def calleeOk (P : Program) (f : FuncId) : Bool := match P.funcs[f]? with
  | some fn => fn.body.isSome && fn.name != "runtime.NumGoroutine"
  | none => false

/-- The operation as the small machine has it. OT: the types of which the function makes objects. -/
def typesOk (OT : List TypeId) : AOp → Bool
  | .alloc T _ _ => OT.contains T
  | .box T _ _ => OT.contains T
  | .buildSlice T _ _ _ _ => OT.contains T
  | .makeSlice T _ _ _ _ _ => OT.contains T
  | .append T _ _ _ _ => OT.contains T
  | _ => true
def dstOk (nt : Nat) : Option Nat → Bool
  | some t => decide (t < nt)
  | none => true
def callOk (P : Program) : AOp → Bool
  | .call f _ => calleeOk P f
  | _ => true
def cop (P : Program) (nt : Nat) (OT : List TypeId) (ops : Array Oper) (o : Oper) : Option COp :=
  match aop P o with
  | some ao =>
    if typesOk OT ao && dstOk nt o.dst && callOk P ao then
      match o.guard with
      | none => some ⟨o.dst, ao, none⟩
      | some (j, want) => match (ops[j]?).bind (·.dst) with
        | some g => some ⟨o.dst, ao, some (g, want)⟩
        | none => none
    else none
  | none => none

/-- The context of a function: what its caller owns, what may not be made, what it makes. -/
structure Ctx where
  P : Program
  A : List TypeId
  OT : List TypeId
  nt : Nat
  w0 : World
  base : Nat → Prop
structure Ctx.Ok (C : Ctx) : Prop where
  avoid : ∀ b, C.base b → ∀ c T fr, C.w0.heap[b]? = some (.cells c T fr) → T ∉ C.A
  apart : ∀ T ∈ C.OT, T ∉ C.A
/-- The state is known to be s. -/
def Is (C : Ctx) (s : St) (a : Act) (w : World) : Prop := (∃ loc, Rel C.w0 C.base C.nt loc s a w) ∧ ∀ id o, s.m id = some o → o.T ∈ C.OT

section
variable {C : Ctx} {loc : Locs} {s t : St} {a : Act} {w : World} {o : Oper} {id : Nat} {d : AV}

theorem ev_types {op : AOp} {p : Bool} (h : ev op id s = some (p, d, t)) (hO : typesOk C.OT op = true) (hs : ∀ id o, s.m id = some o → o.T ∈ C.OT) : ∀ id o, t.m id = some o → o.T ∈ C.OT := by
  have hupd : ∀ (i : Nat) (ob : AObj), ob.T ∈ C.OT → ∀ j q, upd s.m i (some ob) j = some q → q.T ∈ C.OT := by
    intro i ob hob j q hq
    by_cases e : j = i
    · subst e; rw [upd_same] at hq; cases hq; exact hob
    · rw [upd_ne _ _ e] at hq; exact hs j q hq
  cases op <;> simp only [ev] at h
  case alloc T sz z =>
    simp only [typesOk, List.contains_iff_mem] at hO
    split at h <;> simp only [Option.some.injEq, Prod.mk.injEq, reduceCtorEq] at h
    obtain ⟨-, -, rfl⟩ := h
    exact hupd _ _ hO
  case box T sz x =>
    simp only [typesOk, List.contains_iff_mem] at hO
    split at h <;> try cases h
    split at h <;> simp only [Option.some.injEq, Prod.mk.injEq, reduceCtorEq] at h
    obtain ⟨-, -, rfl⟩ := h
    exact hupd _ _ hO
  case buildSlice T sz z n parts =>
    simp only [typesOk, List.contains_iff_mem] at hO
    split at h <;> try cases h
    split at h <;> simp only [Option.some.injEq, Prod.mk.injEq, reduceCtorEq] at h
    obtain ⟨-, -, rfl⟩ := h
    exact hupd _ _ hO
  case makeSlice T sz bytes z l c =>
    simp only [typesOk, List.contains_iff_mem] at hO
    split at h <;> try cases h
    split at h <;> simp only [Option.some.injEq, Prod.mk.injEq, reduceCtorEq] at h
    obtain ⟨-, -, rfl⟩ := h
    exact hupd _ _ hO
  case store sz x v =>
    split at h
    case h_2 => cases h
    split at h
    · rename_i hm
      have ht := hs _ _ hm
      split at h
      case h_2 => cases h
      split at h
      case isFalse => cases h
      split at h <;> simp only [Option.some.injEq, Prod.mk.injEq, reduceCtorEq] at h
      obtain ⟨-, -, rfl⟩ := h
      exact hupd _ _ ht
    · rename_i hm
      have ht := hs _ _ hm
      split at h
      case isFalse => cases h
      split at h
      · simp only [Option.some.injEq, Prod.mk.injEq] at h
        obtain ⟨-, -, rfl⟩ := h
        exact hupd _ _ ht
      · split at h <;> simp only [Option.some.injEq, Prod.mk.injEq, reduceCtorEq] at h
        obtain ⟨-, -, rfl⟩ := h
        exact hupd _ _ ht
    · rename_i hm
      have ht := hs _ _ hm
      split at h
      case isFalse => cases h
      split at h <;> simp only [Option.some.injEq, Prod.mk.injEq, reduceCtorEq] at h
      obtain ⟨-, -, rfl⟩ := h
      exact hupd _ _ ht
    · cases h
  all_goals
    (repeat' (split at h)) <;> simp only [Option.some.injEq, Prod.mk.injEq, reduceCtorEq, Option.map_eq_some_iff] at h <;>
      first
        | (obtain ⟨-, -, rfl⟩ := h; exact hs)
        | (obtain ⟨_, -, -, -, rfl⟩ := h; exact hs)

theorem app_types {T sz b : Nat} {x y : Opd} {p : Bool} (h : evApp T sz b x y id s = some (p, d, t)) (hO : C.OT.contains T = true) (hs : ∀ id o, s.m id = some o → o.T ∈ C.OT) : ∀ id o, t.m id = some o → o.T ∈ C.OT := by
  simp only [List.contains_iff_mem] at hO
  have hupd : ∀ (m : Mem), (∀ id o, m id = some o → o.T ∈ C.OT) → ∀ (i : Nat) (ob : AObj), ob.T ∈ C.OT → ∀ j q, upd m i (some ob) j = some q → q.T ∈ C.OT := by
    intro m hm i ob hob j q hq
    by_cases e : j = i
    · subst e; rw [upd_same] at hq; cases hq; exact hob
    · rw [upd_ne _ _ e] at hq; exact hm j q hq
  unfold evApp at h
  split at h
  case h_1 => cases h
  split at h
  · split at h
    case h_2 => cases h
    split at h
    case isFalse => cases h
    simp only [Option.some.injEq, Prod.mk.injEq] at h
    obtain ⟨-, -, rfl⟩ := h
    exact hupd _ hs _ _ hO
  · split at h
    case h_2 => cases h
    split at h
    case isFalse => cases h
    simp only [Option.some.injEq, Prod.mk.injEq] at h
    obtain ⟨-, -, rfl⟩ := h
    refine hupd _ (fun j o ho => ?_) _ _ hO
    unfold forgetM at ho
    simp only [Option.map_eq_some_iff] at ho
    obtain ⟨o', h1, rfl⟩ := ho
    rw [(forget_same _ o').1]
    exact hs j o' h1
  · cases h

theorem aop_append {P : Program} {T sz b : Nat} {x y : Opd} (h : aop P o = some (.append T sz b x y)) : ∃ c xx yy TT lz ag ti U W, o.op = .call c ∧ c.callee = .builtin .append ∧ c.args.toList = [xx, yy] ∧ c.argTypes.toList = [TT, TT] ∧ P.underlying TT = some (.slice T) ∧ ZOk P T lz ag sz ∧ P.info? T = some ti ∧ ti.bytes = b ∧ x = opd P U xx ∧ y = opd P W yy := by
  cases hop : o.op <;> simp only [aop, hop] at h
  case call c =>
    split at h
    · cases h
    · rename_i hcal
      split at h
      · split at h <;> cases h
      · cases h
    · rename_i hcal
      split at h
      case h_2 => cases h
      rename_i xx yy TT UU hx hT
      split at h
      case h_2 => cases h
      rename_i e e' hu1 hu2
      split at h
      case h_2 => cases h
      rename_i lz ag sz' ti hz hi
      split at h
      case isFalse => cases h
      rename_i hcc
      simp only [Bool.and_eq_true, beq_iff_eq] at hcc
      obtain ⟨rfl, rfl⟩ := hcc
      simp only [Option.some.injEq, AOp.append.injEq] at h
      obtain ⟨rfl, rfl, rfl, rfl, rfl⟩ := h
      exact ⟨c, xx, yy, TT, lz, ag, ti, _, _, rfl, hcal, hx, hT, hu1, zeroOf_ok hz, hi, rfl, rfl, rfl⟩
    · cases h
  all_goals ((repeat' (split at h)) <;> simp only [Option.some.injEq, reduceCtorEq] at h)

theorem Is.put (h : Is C s a w) {t : Option Nat} (ht : ∀ i, t = some i → i < C.nt) {v : Value} (hv : ∀ loc, Rel C.w0 C.base C.nt loc s a w → RV w (NB C.base s.m loc w) loc v d) : Is C (s.put t d) (a.put t v) w := by
  obtain ⟨⟨loc, hr⟩, h2⟩ := h
  cases t with
  | none => exact ⟨⟨loc, hr⟩, h2⟩
  | some i => exact ⟨⟨loc, hr.put (ht i rfl) (hv loc hr)⟩, h2⟩

theorem argsD_spec (h : Rel C.w0 C.base C.nt loc s a w) : ∀ (l : List (Operand × Option TypeId)) (ds : List D), argsD s (l.map fun p => opd C.P p.2 p.1) = some ds → l.length = ds.length ∧ ∀ (i : Nat) (e : D), ds[i]? = some e → ∃ x, l[i]? = some x ∧ V w (NB C.base s.m loc w) (a.eval x.1) e
  | [], ds, hd => by
    simp only [List.map_nil, argsD, Option.some.injEq] at hd
    subst hd
    exact ⟨rfl, fun i e hi => by simp at hi⟩
  | x :: l, ds, hd => by
    simp only [List.map_cons, argsD] at hd
    split at hd
    case h_2 => cases hd
    rename_i e ds' h1 h2
    simp only [Option.some.injEq] at hd
    subst hd
    obtain ⟨g1, g2⟩ := argsD_spec h l ds' h2
    refine ⟨by simp [g1], fun i e' hi => ?_⟩
    match i, hi with
    | 0, hi => simp at hi; subst hi; exact ⟨x, rfl, toD_pure h h1 (h.opd (P := C.P) x.2 x.1)⟩
    | i + 1, hi => simpa using g2 i e' (by simpa using hi)

/-- One operation of a region. -/
theorem wp_cop {ops : Array Oper} {Q : Exit → Act → World → Prop} {i : Nat} {c : COp} (hC : C.Ok) (ho : ops[i]? = some o) (hc : cop C.P C.nt C.OT ops o = some c) (h : Is C s a w) {K : St → Prop} {R : Act → World → Prop}
    (hk : ∀ t a' w', Is C t a' w' → K t → R a' w') (hg : gstep (Con C.P C.A) c K s) : wpOp C.P ops Q i R a w := by
  unfold cop at hc
  split at hc
  case h_2 => cases hc
  rename_i ao hao
  split at hc
  case isFalse => cases hc
  rename_i hok
  simp only [Bool.and_eq_true] at hok
  obtain ⟨⟨hty, hdst⟩, hcal⟩ := hok
  have hdst' : ∀ k, o.dst = some k → k < C.nt := by intro k hk; rw [hk] at hdst; simpa [dstOk] using hdst
  -- the operation itself
  have core : step (Con C.P C.A) ⟨o.dst, ao, c.guard⟩ K s → o.wp C.P a w R Q := by
    intro hs
    unfold Oper.wp
    by_cases hcall : ∃ f args, ao = .call f args
    · obtain ⟨f, args, rfl⟩ := hcall
      simp only [step] at hs
      split at hs
      case h_2 => exact hs.elim
      rename_i ds hds
      obtain ⟨d, hcon, hK⟩ := hs
      have hcall : ∃ cl, o.op = .call cl ∧ cl.callee = .value (.func f) ∧ args = cl.args.toList.zipIdx.map fun (x, i) => opd C.P cl.argTypes[i]? x := by
        cases hop : o.op <;> simp only [aop, hop] at hao
        case call cl =>
          split at hao
          · rename_i f' hcl
            simp only [Option.some.injEq, AOp.call.injEq] at hao
            obtain ⟨rfl, rfl⟩ := hao
            exact ⟨cl, rfl, hcl, rfl⟩
          all_goals ((repeat' (split at hao)) <;> simp only [Option.some.injEq, reduceCtorEq] at hao)
        all_goals ((repeat' (split at hao)) <;> simp only [Option.some.injEq, reduceCtorEq] at hao)
      obtain ⟨cl, hop, hcl, rfl⟩ := hcall
      obtain ⟨loc, hrel⟩ := h.1
      have hfn : ∃ fn, C.P.funcs[f]? = some fn ∧ fn.body.isSome = true ∧ fn.name ≠ "runtime.NumGoroutine" := by
        simp only [callOk, calleeOk] at hcal
        split at hcal
        · rename_i fn hf
          simp only [Bool.and_eq_true, bne_iff_ne, ne_eq] at hcal
          exact ⟨fn, hf, hcal.1, hcal.2⟩
        · cases hcal
      obtain ⟨fn, hf, hb, hnm⟩ := hfn
      have hrun : (execOp a.eval o).run C.P w = .ok (.enter f (cl.args.map a.eval)) w := by
        have hbn : ¬ fn.body = none := by intro hq; simp [hq] at hb
        simp [execOp, hop, resolve, hcl, Deferred.ofValue, invoke, callFunc, Act.eval, hf, hnm, hbn]
      rw [hrun]
      have hl : (cl.args.toList.zipIdx.map fun (x, i) => opd C.P cl.argTypes[i]? x) = (cl.args.toList.zipIdx.map fun p => (p.1, cl.argTypes[p.2]?)).map fun p => opd C.P p.2 p.1 := by
        rw [List.map_map]; rfl
      rw [hl] at hds
      obtain ⟨g1, g2⟩ := argsD_spec hrel _ _ hds
      have hcalls := hcon (fun b => C.base b ∨ ownB s.m loc b) w (cl.args.map a.eval) ?_ ?_ ?_ ?_
      · refine hcalls.mono fun e w' he => ?_
        obtain ⟨v, rfl, hv, hext⟩ := he
        have hrel' := hrel.later hext
        refine hk _ _ _ ?_ hK
        cases hd : o.dst with
        | none => exact ⟨⟨loc, hrel'⟩, h.2⟩
        | some k => exact ⟨⟨loc, hrel'.put (hdst' k hd) (.p _ _ (hv.mono (fun _ _ => rfl) fun b hb => ⟨hb.1, fun hh => hb.2 (.inl hh), fun hh => hb.2 (.inr hh)⟩))⟩, h.2⟩
      · rintro b (hb | ⟨i, ob, L, h1, h2, h3, h4, rfl⟩)
        · exact Nat.lt_of_lt_of_le (hrel.low b hb) hrel.ext.size
        · exact hrel.obj_lt h1 h3 h4
      · rintro b (hb | ⟨i, ob, L, h1, h2, h3, h4, rfl⟩) c' T fr hcell
        · exact hC.avoid b hb c' T fr (by rw [← hrel.ext.block b (hrel.low b hb)]; exact hcell)
        · obtain ⟨L', hL', hok⟩ := hrel.objs i ob h1
          rw [h3] at hL'
          cases hL'
          obtain ⟨c'', fr', k1, _⟩ := hok.at_ h4
          rw [k1] at hcell
          injection hcell with hcell
          injection hcell with _ hT _
          rw [← hT]
          exact hC.apart _ (h.2 i ob h1)
      · simpa using g1
      · intro i e hi
        obtain ⟨x, hx, hv⟩ := g2 i e hi
        have hx' : cl.args[i]? = some x.1 := by
          simp only [List.getElem?_map, Option.map_eq_some_iff, List.getElem?_zipIdx] at hx
          obtain ⟨p, ⟨q, hq, rfl⟩, rfl⟩ := hx
          simpa using hq
        have : (cl.args.map a.eval).getD i undef = a.eval x.1 := by simp [hx']
        rw [this]
        exact hv.mono (fun _ _ => rfl) fun b hb => ⟨hb.1, fun hh => hh.elim hb.2.1 hb.2.2⟩
    · have hs' : ∃ v t, (ev ao (o.dst.getD 0) s = some (true, v, t) ∨ ∃ T sz b x y, ao = .append T sz b x y ∧ evApp T sz b x y (o.dst.getD 0) s = some (true, v, t)) ∧ K (t.put o.dst v) := by
        cases ao <;> simp only [step] at hs <;> first | (exact absurd ⟨_, _, rfl⟩ hcall) | skip
        case append T sz b x y =>
          split at hs
          · rename_i p v t hev
            exact ⟨v, t, .inr ⟨T, sz, b, x, y, rfl, by rw [hev, hs.1]⟩, hs.2⟩
          · exact hs.elim
        all_goals
          split at hs
          · rename_i p v t hev
            exact ⟨v, t, .inl (by rw [hev, hs.1]), hs.2⟩
          · exact hs.elim
      obtain ⟨v, t, hev, hK⟩ := hs'
      obtain ⟨loc, hrel⟩ := h.1
      have hgood : Good C.P C.w0 C.base C.nt o a w t v ∧ ∀ id o, t.m id = some o → o.T ∈ C.OT := by
        rcases hev with hev | ⟨T, sz, b, x, y, rfl, hev⟩
        · exact ⟨sim (P := C.P) hrel hao hev, ev_types hev hty h.2⟩
        · obtain ⟨c, xx, yy, TT, lz, ag, ti, U, W, q1, q2, q3, q4, q5, q6, q7, q8, rfl, rfl⟩ := aop_append hao
          exact ⟨sim_append hrel q1 q2 q3 q4 q5 q6 q7 q8 hev, app_types hev hty h.2⟩
      obtain ⟨⟨x, w', loc', hrun, hrel', hrv⟩, htypes⟩ := hgood
      have his : Is C t a w' := ⟨⟨loc', hrel'⟩, htypes⟩
      have hput : Is C (t.put o.dst v) (a.put o.dst x) w' := by
        cases hd : o.dst with
        | none => exact his
        | some k => exact ⟨⟨loc', hrel'.put (hdst' k hd) hrv⟩, his.2⟩
      rcases hrun with hrun | ⟨hrun, rfl⟩
      · rw [hrun]; exact hk _ _ _ hput hK
      · rw [hrun]; exact hk _ _ _ hput hK
  have hwp : step (Con C.P C.A) c K s → c.dst = o.dst → c.op = ao → o.wp C.P a w R Q := by
    intro h1 h2 h3
    refine core ?_
    obtain ⟨dst, op, g⟩ := c
    simp only at h2 h3
    subst h2; subst h3
    exact h1
  unfold wpOp
  simp only [ho]
  split at hc
  · rename_i hg0
    simp only [Option.some.injEq] at hc
    subst hc
    have hw : Region.wanted o (yielded ops a.tmps) = true := by unfold Region.wanted; rw [hg0]
    rw [hw, if_pos rfl]
    exact .inl (hwp hg rfl rfl)
  · rename_i j want hg0
    split at hc
    case h_2 => cases hc
    rename_i g hg1
    simp only [Option.some.injEq] at hc
    subst hc
    simp only [gstep] at hg
    split at hg
    case h_2 => exact hg.elim
    rename_i b hb
    obtain ⟨loc, hrel⟩ := h.1
    have hy : yielded ops a.tmps j = some b := by
      have := hrel.tmps g
      rw [hb] at this
      have := this.inv
      unfold yielded
      rw [hg1]
      simp only [Option.bind_some]
      rw [Array.getD_eq_getD_getElem?] at this
      cases hq : a.tmps[g]? with
      | none => rw [hq] at this; simp [undef] at this; cases this
      | some v => rw [hq] at this; simp only [Option.getD_some] at this; cases this; rfl
    have hw : Region.wanted o (yielded ops a.tmps) = (b == want) := by
      unfold Region.wanted
      rw [hg0]
      simp only [hy]
      cases b <;> cases want <;> rfl
    rw [hw]
    split at hg
    · rename_i hbw
      subst hbw
      simp only [BEq.rfl, if_true]
      exact .inl (hwp hg rfl rfl)
    · rename_i hbw
      rw [if_neg (by simpa using hbw)]
      exact hk _ _ _ (h.put hdst' (fun _ _ => .und _)) hg

end

end Go.Proofs.Ytbbidekjbgjooaa.M
end

section
namespace Go.Proofs.Ytbbidekjbgjooaa.M
open Go.RowKit

def optL {α : Type} : Option α → List α
  | some x => [x]
  | none => []
/-- The operands of an operation. -/
def AOp.opds : AOp → List Opd
  | .mov x | .nilCheck x | .box _ _ x | .load _ _ x | .un _ x | .conv _ x | .fieldAddr _ _ _ x | .field _ _ _ x | .extract x _ | .len x | .lenS x => [x]
  | .pick c a b => [c, a, b]
  | .alloc _ _ _ => []
  | .build _ ps => ps.map (·.2.2)
  | .buildSlice _ _ _ _ ps => ps.map (·.2)
  | .store _ x v | .bin _ _ x v | .eqs _ _ x v | .indexAddr _ x v | .index x v | .makeSlice _ _ _ _ x v | .append _ _ _ x v => [x, v]
  | .slice _ x lo hi mx => [x] ++ optL lo ++ optL hi ++ optL mx
  | .sliceS x lo hi => [x] ++ optL lo ++ optL hi
  | .call _ args => args
  | .fnv _ a b => a ++ b

section
variable {r r' : Nat → AV} {m m' : Mem}

theorem fillA_congr : ∀ (ps : List (Nat × Nat × Opd)) (l : List AV), (∀ x ∈ ps.map (·.2.2), x.ev r = x.ev r') → fillA l r ps = fillA l r' ps
  | [], _, _ => rfl
  | (off, sz, x) :: ps, l, h => by
    have h1 := h x (by simp)
    simp only [fillA, h1]
    split
    · exact fillA_congr ps _ (fun y hy => h y (by simp at hy ⊢; exact .inr hy))
    · rfl
theorem fillR_congr (sz : Nat) : ∀ (ps : List (Nat × Opd)) (l : List D), (∀ x ∈ ps.map (·.2), x.ev r = x.ev r') → fillR sz l r m ps = fillR sz l r' m ps
  | [], _, _ => rfl
  | (i, x) :: ps, l, h => by
    have h1 := h x (by simp)
    simp only [fillR, h1]
    split
    · split
      · exact fillR_congr sz ps _ (fun y hy => h y (by simp at hy ⊢; exact .inr hy))
      · rfl
    · rfl
theorem bounds_congr {len : Nat} {lo hi mx : Option Opd} (h : ∀ x ∈ optL lo ++ optL hi ++ optL mx, x.ev r = x.ev r') : bounds r len lo hi mx = bounds r' len lo hi mx := by
  unfold bounds
  have h1 : ∀ x, lo = some x → x.ev r = x.ev r' := fun x hx => h x (by simp [hx, optL])
  have h2 : ∀ x, hi = some x → x.ev r = x.ev r' := fun x hx => h x (by simp [hx, optL])
  have h3 : ∀ x, mx = some x → x.ev r = x.ev r' := fun x hx => h x (by simp [hx, optL])
  cases lo <;> cases hi <;> cases mx <;> simp_all
theorem argsD_congr : ∀ (l : List Opd), (∀ x ∈ l, x.ev r = x.ev r') → argsD ⟨r, m⟩ l = argsD ⟨r', m⟩ l
  | [], _ => rfl
  | x :: l, h => by
    simp only [argsD, h x (by simp), argsD_congr l (fun y hy => h y (by simp [hy]))]

def outM : Option (Bool × AV × St) → Option (Bool × AV × Mem)
  | some (p, v, s) => some (p, v, s.m)
  | none => none

theorem ev_congr (o : AOp) (id : Nat) (h : ∀ x ∈ o.opds, x.ev r = x.ev r') : outM (ev o id ⟨r, m⟩) = outM (ev o id ⟨r', m⟩) := by
  cases o with
  | build z ps => simp only [ev, fillA_congr ps z h]; split <;> rfl
  | buildSlice T sz z n ps => simp only [ev, fillR_congr (m := m) sz ps _ h]; (repeat' split) <;> rfl
  | slice sz x lo hi mx =>
    have hb := fun n => bounds_congr (r := r) (r' := r') (len := n) (lo := lo) (hi := hi) (mx := mx) (fun y hy => h y (by simp only [AOp.opds, List.append_assoc, List.mem_append] at hy ⊢; exact .inr hy))
    have hx := h x (by simp [AOp.opds])
    simp only [ev, hx, hb]
    (repeat' split) <;> rfl
  | sliceS x lo hi =>
    have hb := fun n => bounds_congr (r := r) (r' := r') (len := n) (lo := lo) (hi := hi) (mx := none) (fun y hy => h y (by
      simp only [AOp.opds, List.mem_append] at hy ⊢
      rcases hy with (hy | hy) | hy
      · exact .inl (.inr hy)
      · exact .inr hy
      · cases hy))
    have hx := h x (by simp [AOp.opds])
    simp only [ev, hx, hb]
    (repeat' split) <;> rfl
  | call f args => rfl
  | fnv f a b => rfl
  | append T sz b x y => rfl
  | alloc T sz z => simp only [ev]; split <;> rfl
  | pick c a b =>
    have h1 := h c (by simp [AOp.opds]); have h2 := h a (by simp [AOp.opds]); have h3 := h b (by simp [AOp.opds])
    simp only [ev, h1, h2, h3]; (repeat' split) <;> rfl
  | store sz x v =>
    have h1 := h x (by simp [AOp.opds]); have h2 := h v (by simp [AOp.opds])
    simp only [ev, h1, h2]; (repeat' split) <;> rfl
  | bin bo op x v =>
    have h1 := h x (by simp [AOp.opds]); have h2 := h v (by simp [AOp.opds])
    simp only [ev, h1, h2]; (repeat' split) <;> rfl
  | eqs n neg x v =>
    have h1 := h x (by simp [AOp.opds]); have h2 := h v (by simp [AOp.opds])
    simp only [ev, h1, h2]; (repeat' split) <;> rfl
  | indexAddr sz x v =>
    have h1 := h x (by simp [AOp.opds]); have h2 := h v (by simp [AOp.opds])
    simp only [ev, h1, h2]; (repeat' split) <;> rfl
  | index x v =>
    have h1 := h x (by simp [AOp.opds]); have h2 := h v (by simp [AOp.opds])
    simp only [ev, h1, h2]; (repeat' split) <;> rfl
  | makeSlice T sz b z x v =>
    have h1 := h x (by simp [AOp.opds]); have h2 := h v (by simp [AOp.opds])
    simp only [ev, h1, h2]; (repeat' split) <;> rfl
  | mov x => have h1 := h x (by simp [AOp.opds]); simp only [ev, h1]; rfl
  | nilCheck x => have h1 := h x (by simp [AOp.opds]); simp only [ev, h1]; (repeat' split) <;> rfl
  | box T sz x => have h1 := h x (by simp [AOp.opds]); simp only [ev, h1]; (repeat' split) <;> rfl
  | load ag sz x => have h1 := h x (by simp [AOp.opds]); simp only [ev, h1]; (repeat' split) <;> rfl
  | un op x => have h1 := h x (by simp [AOp.opds]); simp only [ev, h1]; (repeat' split) <;> rfl
  | conv k x => have h1 := h x (by simp [AOp.opds]); simp only [ev, h1]; (repeat' split) <;> rfl
  | fieldAddr off sz ag x => have h1 := h x (by simp [AOp.opds]); simp only [ev, h1]; (repeat' split) <;> rfl
  | field off sz ag x => have h1 := h x (by simp [AOp.opds]); simp only [ev, h1]; (repeat' split) <;> rfl
  | extract x i => have h1 := h x (by simp [AOp.opds]); simp only [ev, h1]; (split <;> (try rfl)) <;> (rename_i l _; cases l[i]? <;> rfl)
  | len x => have h1 := h x (by simp [AOp.opds]); simp only [ev, h1]; (repeat' split) <;> rfl
  | lenS x => have h1 := h x (by simp [AOp.opds]); simp only [ev, h1]; (repeat' split) <;> rfl

theorem ev_r {o : AOp} {id : Nat} {s t : St} {p : Bool} {v : AV} (h : ev o id s = some (p, v, t)) : t.r = s.r := by
  cases o <;> simp only [ev] at h <;>
    ((repeat' (split at h)) <;> simp only [Option.some.injEq, Prod.mk.injEq, reduceCtorEq, Option.map_eq_some_iff] at h <;>
      first
        | (obtain ⟨-, -, rfl⟩ := h; rfl)
        | (obtain ⟨_, -, -, -, rfl⟩ := h; rfl))
end

/-- Kinds of operations: without memory; reading it; making an object; making a slice that is written out; a store; others. -/
def AOp.kind : AOp → Nat
  | .mov _ | .nilCheck _ | .pick .. | .build .. | .bin .. | .eqs .. | .un .. | .conv .. | .sliceS .. | .fieldAddr .. | .field .. | .index .. | .extract .. | .len _ | .lenS _ => 0
  | .load .. | .slice .. | .indexAddr .. | .call .. => 1
  | .alloc .. | .box .. | .makeSlice .. => 2
  | .buildSlice .. => 3
  | .store .. => 4
  | _ => 5

/-- What an operation gives, and the memory behind it. -/
def Out (G : FuncId → List D → D → Prop) (c : COp) (r : Nat → AV) (m : Mem) (v : AV) (m' : Mem) : Prop :=
  match c.op with
  | .call f args => ∃ ds d, argsD ⟨r, m⟩ args = some ds ∧ G f ds d ∧ v = .p d ∧ m' = m
  | op => outM (ev op (c.dst.getD 0) ⟨r, m⟩) = some (true, v, m')
def GOut (G : FuncId → List D → D → Prop) (c : COp) (r : Nat → AV) (m : Mem) (v : AV) (m' : Mem) : Prop :=
  match c.guard with
  | none => Out G c r m v m'
  | some (g, want) => ∃ b, r g = .p (.bool b) ∧ ((b = want ∧ Out G c r m v m') ∨ (b ≠ want ∧ v = .und ∧ m' = m))
def putr (r : Nat → AV) : Option Nat → AV → Nat → AV
  | some t, v => upd r t v
  | none, _ => r

section
variable {G : FuncId → List D → D → Prop} {c c1 c2 : COp} {K K' : St → Prop} {s : St} {r r' : Nat → AV} {m m' : Mem} {v : AV}

theorem put_eq (r : Nat → AV) (m : Mem) (t : Option Nat) (v : AV) : St.put ⟨r, m⟩ t v = ⟨putr r t v, m⟩ := by cases t <;> rfl

theorem step_out (hkind : c.op.kind ≠ 5) : step G c K ⟨r, m⟩ ↔ ∃ v m', Out G c r m v m' ∧ K ⟨putr r c.dst v, m'⟩ := by
  have other : (∀ f args, c.op ≠ .call f args) → (step G c K ⟨r, m⟩ ↔ ∃ v m', outM (ev c.op (c.dst.getD 0) ⟨r, m⟩) = some (true, v, m') ∧ K ⟨putr r c.dst v, m'⟩) := by
    intro hn
    have hs : step G c K ⟨r, m⟩ = (match ev c.op (c.dst.getD 0) ⟨r, m⟩ with
      | some (p, v, t) => p = true ∧ K (t.put c.dst v)
      | none => False) := by
      unfold step
      cases hc : c.op <;> first | (exact absurd hc (hn _ _)) | rfl | (exact absurd (by rw [hc]; rfl) hkind)
    rw [hs]
    cases he : ev c.op (c.dst.getD 0) ⟨r, m⟩ with
    | none => simp [outM]
    | some x =>
      obtain ⟨p, v, t⟩ := x
      have hr := ev_r he
      obtain ⟨tr, tm⟩ := t
      simp only at hr
      subst hr
      simp only [outM, Option.some.injEq, Prod.mk.injEq, put_eq]
      constructor
      · rintro ⟨rfl, hk⟩; exact ⟨v, tm, ⟨rfl, rfl, rfl⟩, hk⟩
      · rintro ⟨v', m', ⟨rfl, rfl, rfl⟩, hk⟩; exact ⟨rfl, hk⟩
  by_cases hcall : ∃ f args, c.op = .call f args
  · obtain ⟨f, args, hop⟩ := hcall
    unfold step Out
    rw [hop]
    simp only
    constructor
    · intro h
      split at h
      · rename_i ds hds
        obtain ⟨d, hg, hk⟩ := h
        rw [put_eq] at hk
        exact ⟨_, m, ⟨ds, d, hds, hg, rfl, rfl⟩, hk⟩
      · exact h.elim
    · rintro ⟨v, m', ⟨ds, d, hds, hg, rfl, rfl⟩, hk⟩
      rw [hds]
      exact ⟨d, hg, by rw [put_eq]; exact hk⟩
  · have hn : ∀ f args, c.op ≠ .call f args := fun f args h => hcall ⟨f, args, h⟩
    rw [other hn]
    have ho : ∀ v m', Out G c r m v m' = (outM (ev c.op (c.dst.getD 0) ⟨r, m⟩) = some (true, v, m')) := by
      intro v m'
      unfold Out
      cases hc : c.op <;> first | (exact absurd hc (hn _ _)) | rfl
    simp only [ho]

theorem gstep_out (hkind : c.op.kind ≠ 5) : gstep G c K ⟨r, m⟩ ↔ ∃ v m', GOut G c r m v m' ∧ K ⟨putr r c.dst v, m'⟩ := by
  unfold gstep GOut
  cases hg : c.guard with
  | none => exact step_out hkind
  | some x =>
    obtain ⟨g, want⟩ := x
    simp only
    constructor
    · intro h
      split at h
      · rename_i b hb
        split at h
        · rename_i hbw
          obtain ⟨v, m', h1, h2⟩ := (step_out hkind).1 h
          exact ⟨v, m', ⟨b, hb, .inl ⟨hbw, h1⟩⟩, h2⟩
        · rename_i hbw
          rw [put_eq] at h
          exact ⟨.und, m, ⟨b, hb, .inr ⟨hbw, rfl, rfl⟩⟩, h⟩
      · exact h.elim
    · rintro ⟨v, m', ⟨b, hb, h1⟩, h2⟩
      rw [hb]
      simp only
      rcases h1 with ⟨hbw, h1⟩ | ⟨hbw, rfl, rfl⟩
      · rw [if_pos hbw]; exact (step_out hkind).2 ⟨v, m', h1, h2⟩
      · rw [if_neg hbw, put_eq]; exact h2

theorem step_mono (h : step G c K s) (hk : ∀ t, K t → K' t) : step G c K' s := by
  unfold step at *
  split at h
  · split at h
    · obtain ⟨d, h1, h2⟩ := h; exact ⟨d, h1, hk _ h2⟩
    · exact h.elim
  · split at h
    · exact ⟨h.1, hk _ h.2⟩
    · exact h.elim
  · split at h
    · exact ⟨h.1, hk _ h.2⟩
    · exact h.elim
theorem gstep_mono (h : gstep G c K s) (hk : ∀ t, K t → K' t) : gstep G c K' s := by
  unfold gstep at *
  split at h
  · exact step_mono h hk
  · split at h
    · split at h
      · rename_i hb
        rw [if_pos hb]
        exact step_mono h hk
      · rename_i hb
        rw [if_neg hb]
        exact hk _ h
    · exact h.elim
theorem cops_mono : ∀ (l : List COp) (s : St), cops G l K s → (∀ t, K t → K' t) → cops G l K' s
  | [], _, h, hk => hk _ h
  | _ :: l, _, h, hk => gstep_mono h fun t ht => cops_mono l t ht hk

/-- The slots that an operation reads. -/
def readsL : List Opd → List Nat
  | [] => []
  | .t n :: l => n :: readsL l
  | .k _ :: l => readsL l
def COp.reads (c : COp) : List Nat := readsL c.op.opds ++ (match c.guard with | some (g, _) => [g] | none => [])
theorem readsL_ev : ∀ (l : List Opd), (∀ n ∈ readsL l, r n = r' n) → ∀ x ∈ l, x.ev r = x.ev r'
  | .t n :: l, h, x, hx => by
    rcases List.mem_cons.1 hx with rfl | hx
    · exact h n (by simp [readsL])
    · exact readsL_ev l (fun k hk => h k (by simp [readsL, hk])) x hx
  | .k v :: l, h, x, hx => by
    rcases List.mem_cons.1 hx with rfl | hx
    · rfl
    · exact readsL_ev l (fun k hk => h k (by simpa [readsL] using hk)) x hx

theorem Out.congr (h : ∀ n ∈ readsL c.op.opds, r n = r' n) (ho : Out G c r m v m') : Out G c r' m v m' := by
  have hx := readsL_ev (r := r) (r' := r') c.op.opds h
  unfold Out at *
  have hev := ev_congr (m := m) c.op (c.dst.getD 0) hx
  cases hc : c.op <;> simp only [hc] at ho hev hx ⊢ <;> first | (rw [← hev]; exact ho) | skip
  obtain ⟨ds, d, h1, h2, h3, h4⟩ := ho
  exact ⟨ds, d, by have hq := argsD_congr (m := m) (r := r) (r' := r') _ hx; simp only [AOp.opds] at hq; rw [← hq]; exact h1, h2, h3, h4⟩
theorem GOut.congr (h : ∀ n ∈ c.reads, r n = r' n) (ho : GOut G c r m v m') : GOut G c r' m v m' := by
  have hx : ∀ n ∈ readsL c.op.opds, r n = r' n := fun n hn => h n (by simp [COp.reads, hn])
  unfold GOut at *
  cases hg : c.guard with
  | none => rw [hg] at ho; exact ho.congr hx
  | some x =>
    obtain ⟨g, want⟩ := x
    rw [hg] at ho
    simp only at ho ⊢
    obtain ⟨b, hb, h1⟩ := ho
    exact ⟨b, by rw [← h g (by simp [COp.reads, hg])]; exact hb, h1.imp (fun h1 => ⟨h1.1, h1.2.congr hx⟩) id⟩

end

end Go.Proofs.Ytbbidekjbgjooaa.M
end

section
namespace Go.Proofs.Ytbbidekjbgjooaa.M
open Go.RowKit

section
variable {G : FuncId → List D → D → Prop} {c c1 c2 : COp} {K K' : St → Prop} {s : St} {r r' : Nat → AV} {m m' : Mem} {v : AV}

theorem outM_some {x : Option (Bool × AV × St)} {p : Bool} {v : AV} {m : Mem} (h : outM x = some (p, v, m)) : ∃ t, x = some (p, v, t) ∧ t.m = m := by
  cases x with
  | none => simp [outM] at h
  | some x => obtain ⟨p', v', t⟩ := x; simp only [outM, Option.some.injEq, Prod.mk.injEq] at h; obtain ⟨rfl, rfl, rfl⟩ := h; exact ⟨t, rfl, rfl⟩

theorem ev_pure {o : AOp} {id : Nat} (hk : o.kind = 0) (m m2 : Mem) : outM (ev o id ⟨r, m⟩) = (outM (ev o id ⟨r, m2⟩)).map (fun x => (x.1, x.2.1, m)) := by
  cases o <;> simp only [AOp.kind, reduceCtorEq] at hk <;> try omega
  case extract x i => simp only [ev]; (split <;> (try rfl)) <;> (rename_i l _; cases l[i]? <;> rfl)
  all_goals (simp only [ev]; (repeat' split) <;> rfl)

/-- Operations without memory. -/
theorem Out.pure (hk : c.op.kind = 0) (h : Out G c r m v m') : m' = m ∧ ∀ m2, Out G c r m2 v m2 := by
  have hn : ∀ f args, c.op ≠ .call f args := by intro f args e; rw [e] at hk; simp [AOp.kind] at hk
  have ho : ∀ m v m', Out G c r m v m' = (outM (ev c.op (c.dst.getD 0) ⟨r, m⟩) = some (true, v, m')) := by
    intro m v m'
    unfold Out
    cases hc : c.op <;> first | (exact absurd hc (hn _ _)) | rfl
  rw [ho] at h
  have key : ∀ m2, outM (ev c.op (c.dst.getD 0) ⟨r, m2⟩) = some (true, v, m2) := by
    intro m2
    rw [ev_pure hk m2 m, h]
    rfl
  have := key m
  rw [h] at this
  simp only [Option.some.injEq, Prod.mk.injEq, true_and] at this
  exact ⟨this, fun m2 => by rw [ho]; exact key m2⟩

theorem toD_more {any : Bool} {M M' : Mem} (h : ∀ i o, M i = some o → M' i = some o) : ∀ (n : Nat), (∀ (x : AV) (d : D), x.toD any M n = some d → x.toD any M' n = some d) ∧ (∀ (l : List AV) (ds : List D), toDL any M n l = some ds → toDL any M' n l = some ds) := by
  intro n
  induction n with
  | zero => exact ⟨fun x d hd => by simp [AV.toD] at hd, fun l ds hd => by simp [toDL] at hd⟩
  | succ n ih =>
    refine ⟨fun x d hd => ?_, fun l ds hd => ?_⟩
    · cases x with
      | und => simp [AV.toD] at hd
      | p e => simpa [AV.toD] using hd
      | nils T sz => simpa [AV.toD] using hd
      | agg l =>
        simp only [AV.toD, Option.map_eq_some_iff] at hd ⊢
        obtain ⟨ds, h1, h2⟩ := hd
        exact ⟨ds, ih.2 l ds h1, h2⟩
      | tup l =>
        simp only [AV.toD, Option.map_eq_some_iff] at hd ⊢
        obtain ⟨ds, h1, h2⟩ := hd
        exact ⟨ds, ih.2 l ds h1, h2⟩
      | slice i off len =>
        simp only [AV.toD] at hd ⊢
        split at hd
        case h_2 => cases hd
        rename_i o ho
        rw [h i o ho]
        exact hd
      | ptr i j off =>
        simp only [AV.toD] at hd ⊢
        split at hd
        case isFalse => cases hd
        rename_i hij
        rw [if_pos hij]
        split at hd
        case h_2 => cases hd
        rename_i o ho
        rw [h i o ho]
        simp only
        split at hd
        case h_2 => cases hd
        rename_i u hu
        (try rw [hu])
        (try simp only)
        split at hd
        case isFalse => cases hd
        rename_i hf
        rw [if_pos hf]
        simp only [Option.map_eq_some_iff] at hd ⊢
        obtain ⟨e, h1, h2⟩ := hd
        exact ⟨e, ih.1 u e h1, h2⟩
    · cases l with
      | nil => simpa [toDL] using hd
      | cons x l =>
        simp only [toDL] at hd ⊢
        split at hd
        case h_2 => cases hd
        rename_i d ds' h1 h2
        rw [ih.1 x d h1, ih.2 l ds' h2]
        exact hd

theorem argsD_more {M M' : Mem} (h : ∀ i o, M i = some o → M' i = some o) : ∀ (l : List Opd) (ds : List D), argsD ⟨r, M⟩ l = some ds → argsD ⟨r, M'⟩ l = some ds
  | [], ds, hd => by simpa [argsD] using hd
  | x :: l, ds, hd => by
    simp only [argsD] at hd ⊢
    split at hd
    case h_2 => cases hd
    rename_i d ds' h1 h2
    rw [(toD_more h 20).1 _ _ h1, argsD_more h l ds' h2]
    exact hd

/-- Operations that read memory: more memory does not hurt. -/
theorem Out.read (hk : c.op.kind = 1) (h : Out G c r m v m') : m' = m ∧ ∀ m2, (∀ i o, m i = some o → m2 i = some o) → Out G c r m2 v m2 := by
  unfold Out at *
  cases hc : c.op <;> simp only [hc, AOp.kind, reduceCtorEq] at hk h ⊢ <;> try omega
  case call f args =>
    obtain ⟨ds, d, h1, h2, h3, rfl⟩ := h
    exact ⟨rfl, fun m2 hm => ⟨ds, d, argsD_more hm _ _ h1, h2, h3, (by first | rfl | trivial)⟩⟩
  case load ag sz x =>
    obtain ⟨t, h1, rfl⟩ := outM_some h
    simp only [ev] at h1 ⊢
    split at h1
    · rename_i i j off hx
      (try rw [hx])
      (try simp only)
      split at h1
      · rename_i T osz l frz hm
        split at h1
        case h_2 => cases h1
        rename_i u hu
        simp only [Option.some.injEq, Prod.mk.injEq] at h1
        obtain ⟨h2, rfl, rfl⟩ := h1
        refine ⟨rfl, fun m2 hm2 => ?_⟩
        rw [hm2 _ _ hm]
        simp only [hu, h2]
        rfl
      · rename_i T osz u frz hm
        split at h1
        case isFalse => cases h1
        rename_i hj
        split at h1
        case h_2 => cases h1
        rename_i z hz
        simp only [Option.some.injEq, Prod.mk.injEq, true_and] at h1
        obtain ⟨rfl, rfl⟩ := h1
        refine ⟨rfl, fun m2 hm2 => ?_⟩
        rw [hm2 _ _ hm]
        simp only [hz, hj, if_true]
        rfl
      · cases h1
    · rename_i e hx
      (try rw [hx])
      (try simp only)
      split at h1
      case isFalse => cases h1
      rename_i hag
      simp only [Option.some.injEq, Prod.mk.injEq] at h1
      obtain ⟨h2, rfl, rfl⟩ := h1
      refine ⟨rfl, fun m2 hm2 => ?_⟩
      rw [if_pos hag, h2]
      rfl
    · cases h1
  case slice sz x lo hi mx =>
    obtain ⟨t, h1, rfl⟩ := outM_some h
    simp only [ev] at h1 ⊢
    split at h1
    · rename_i T sz' l hx
      (try rw [hx])
      (try simp only)
      split at h1
      case isFalse => cases h1
      rename_i hs
      split at h1
      case h_2 => cases h1
      rename_i cc a b hb
      simp only [Option.some.injEq, Prod.mk.injEq] at h1
      obtain ⟨h2, rfl, rfl⟩ := h1
      exact ⟨rfl, fun m2 hm2 => by (try simp only [hs, if_true]); (try simp only [hb]); (try simp only [h2]); rfl⟩
    · rename_i i off len hx
      (try rw [hx])
      (try simp only)
      split at h1
      case h_2 => cases h1
      rename_i ob hob
      split at h1
      case isFalse => cases h1
      rename_i hs
      split at h1
      case h_2 => cases h1
      rename_i cc a b hb
      simp only [Option.some.injEq, Prod.mk.injEq] at h1
      obtain ⟨h2, rfl, rfl⟩ := h1
      exact ⟨rfl, fun m2 hm2 => by rw [hm2 _ _ hob]; (try simp only [hs, if_true]); (try simp only [hb]); (try simp only [h2]); rfl⟩
    · rename_i T sz' hx
      (try rw [hx])
      (try simp only)
      split at h1
      case h_2 => cases h1
      rename_i cc a b hb
      simp only [Option.some.injEq, Prod.mk.injEq] at h1
      obtain ⟨h2, rfl, rfl⟩ := h1
      exact ⟨rfl, fun m2 hm2 => by (try simp only [hb]); (try simp only [h2]); rfl⟩
    · cases h1
  case indexAddr sz x i =>
    obtain ⟨t, h1, rfl⟩ := outM_some h
    simp only [ev] at h1 ⊢
    split at h1
    · rename_i T sz' l n hx hi
      (try rw [hx, hi])
      (try simp only)
      split at h1
      case isFalse => cases h1
      rename_i hs
      simp only [Option.some.injEq, Prod.mk.injEq] at h1
      obtain ⟨h2, rfl, rfl⟩ := h1
      exact ⟨rfl, fun m2 hm2 => by (try simp only [hs, if_true]); (try simp only [h2]); rfl⟩
    · rename_i j off len n hx hi
      (try rw [hx, hi])
      (try simp only)
      split at h1
      case h_2 => cases h1
      rename_i ob hob
      split at h1
      case isFalse => cases h1
      rename_i hs
      simp only [Option.some.injEq, Prod.mk.injEq] at h1
      obtain ⟨h2, rfl, rfl⟩ := h1
      exact ⟨rfl, fun m2 hm2 => by rw [hm2 _ _ hob]; (try simp only [hs, if_true]); (try simp only [h2]); rfl⟩
    · cases h1

/-- Operations that make an object. -/
theorem Out.made (hk : c.op.kind = 2) (h : Out G c r m v m') : m (c.dst.getD 0) = none ∧ ∃ ob, m' = upd m (c.dst.getD 0) (some ob) ∧ ∀ m2 : Mem, m2 (c.dst.getD 0) = none → Out G c r m2 v (upd m2 (c.dst.getD 0) (some ob)) := by
  unfold Out at *
  cases hc : c.op <;> simp only [hc, AOp.kind, reduceCtorEq] at hk h ⊢ <;> try omega
  case alloc T sz z =>
    obtain ⟨t, h1, rfl⟩ := outM_some h
    simp only [ev] at h1 ⊢
    split at h1
    case h_2 => cases h1
    rename_i hid
    simp only [Option.some.injEq, Prod.mk.injEq, true_and] at h1
    obtain ⟨rfl, rfl⟩ := h1
    exact ⟨hid, _, rfl, fun m2 hm2 => by rw [hm2]; rfl⟩
  case box T sz x =>
    obtain ⟨t, h1, rfl⟩ := outM_some h
    simp only [ev] at h1 ⊢
    split at h1
    case h_2 => cases h1
    rename_i hid
    split at h1
    case isFalse => cases h1
    rename_i hcc
    simp only [Option.some.injEq, Prod.mk.injEq, true_and] at h1
    obtain ⟨rfl, rfl⟩ := h1
    exact ⟨hid, _, rfl, fun m2 hm2 => by rw [hm2]; simp only; rw [if_pos hcc]; rfl⟩
  case makeSlice T sz b z l cc =>
    obtain ⟨t, h1, rfl⟩ := outM_some h
    simp only [ev] at h1 ⊢
    split at h1
    case h_2 => cases h1
    rename_i hid
    split at h1
    case h_2 => cases h1
    rename_i n k hn hk
    simp only [Option.some.injEq, Prod.mk.injEq] at h1
    obtain ⟨h2, rfl, rfl⟩ := h1
    exact ⟨hid, _, rfl, fun m2 hm2 => by rw [hm2]; (try simp only [h2]); rfl⟩

theorem Out.built (hk : c.op.kind = 3) (h : Out G c r m v m') : m (c.dst.getD 0) = none ∧ ∃ ob, m' = upd m (c.dst.getD 0) (some ob) := by
  unfold Out at *
  cases hc : c.op <;> simp only [hc, AOp.kind, reduceCtorEq] at hk h ⊢ <;> try omega
  case buildSlice T sz z n ps =>
    obtain ⟨t, h1, rfl⟩ := outM_some h
    simp only [ev] at h1
    split at h1
    case h_2 => cases h1
    rename_i hid
    split at h1
    case h_2 => cases h1
    simp only [Option.some.injEq, Prod.mk.injEq, true_and] at h1
    obtain ⟨rfl, rfl⟩ := h1
    exact ⟨hid, _, rfl⟩

/-- Two slots that do not point into one object. -/
def apartV : AV → AV → Bool
  | .ptr i _ _, .ptr j _ _ => i != j
  | .p (.ref _), .ptr _ _ _ => true
  | _, _ => false

/-- A load ahead of a store into another object. -/
theorem Out.load_store {ag : Bool} {sz sz2 : Nat} {x y z : Opd} {v2 : AV} {m2 : Mem} (h1 : c1.op = .load ag sz x) (h2 : c2.op = .store sz2 y z) (ha : apartV (x.ev r) (y.ev r) = true) (ho1 : Out G c1 r m v m') (ho2 : Out G c2 r m v2 m2) : Out G c1 r m2 v m2 := by
  have hm2 : ∃ (j : Nat) (o : Nat × Nat) (o' : Option AObj), y.ev r = .ptr j o.1 o.2 ∧ m2 = upd m j o' := by
    unfold Out at ho2
    rw [h2] at ho2
    simp only at ho2
    obtain ⟨t, g1, rfl⟩ := outM_some ho2
    simp only [ev] at g1
    split at g1
    case h_2 => cases g1
    rename_i i j off hy
    split at g1
    · split at g1
      case h_2 => cases g1
      split at g1
      case isFalse => cases g1
      split at g1 <;> simp only [Option.some.injEq, Prod.mk.injEq, reduceCtorEq] at g1
      obtain ⟨-, -, rfl⟩ := g1
      exact ⟨i, (j, off), _, hy, rfl⟩
    · split at g1
      case isFalse => cases g1
      split at g1
      · simp only [Option.some.injEq, Prod.mk.injEq] at g1
        obtain ⟨-, -, rfl⟩ := g1
        exact ⟨i, (j, off), _, hy, rfl⟩
      · split at g1 <;> simp only [Option.some.injEq, Prod.mk.injEq, reduceCtorEq] at g1
        obtain ⟨-, -, rfl⟩ := g1
        exact ⟨i, (j, off), _, hy, rfl⟩
    · split at g1
      case isFalse => cases g1
      split at g1 <;> simp only [Option.some.injEq, Prod.mk.injEq, reduceCtorEq] at g1
      obtain ⟨-, -, rfl⟩ := g1
      exact ⟨i, (j, off), _, hy, rfl⟩
    · cases g1
  obtain ⟨j, o, o', hy, rfl⟩ := hm2
  unfold Out at ho1 ⊢
  rw [h1] at ho1 ⊢
  simp only at ho1 ⊢
  obtain ⟨t, g1, rfl⟩ := outM_some ho1
  simp only [ev] at g1 ⊢
  cases hx : x.ev r with
  | ptr i k off =>
    rw [hx, hy] at ha
    simp only [apartV, bne_iff_ne, ne_eq] at ha
    rw [hx] at g1
    simp only at g1 ⊢
    rw [upd_ne _ _ ha]
    split at g1
    · rename_i T osz l frz hm
      split at g1
      case h_2 => cases g1
      rename_i u hu
      simp only [Option.some.injEq, Prod.mk.injEq] at g1
      obtain ⟨h3, rfl, rfl⟩ := g1
      (try simp only [hu])
      (try simp only [h3])
      rfl
    · rename_i T osz u frz hm
      split at g1
      case isFalse => cases g1
      rename_i hj
      split at g1
      case h_2 => cases g1
      rename_i q hq
      simp only [Option.some.injEq, Prod.mk.injEq, true_and] at g1
      obtain ⟨rfl, rfl⟩ := g1
      (try simp only [hj, if_true])
      (try simp only [hq])
      rfl
    · cases g1
  | p d =>
    rw [hx] at g1
    cases d with
    | ref e =>
      simp only at g1 ⊢
      split at g1
      case isFalse => cases g1
      rename_i hag
      simp only [Option.some.injEq, Prod.mk.injEq] at g1
      obtain ⟨h3, rfl, rfl⟩ := g1
      (try simp only [hag, if_true])
      (try simp only [h3])
      rfl
    | _ => simp at g1
  | _ => rw [hx] at g1; simp at g1

end

end Go.Proofs.Ytbbidekjbgjooaa.M
end

section
namespace Go.Proofs.Ytbbidekjbgjooaa.M
open Go.RowKit

def isT : Opd → Option Nat
  | .t n => some n
  | .k _ => none
/-- May c2 go ahead of c1? (ap: pairs of slots that do not point into one object.) -/
def swapOk (ap : List (Nat × Nat)) (c1 c2 : COp) : Bool :=
  (match c1.dst with | some t => !c2.reads.contains t && c2.dst != some t | none => true) &&
  (match c2.dst with | some t => !c1.reads.contains t | none => true) &&
  ((c1.op.kind ≤ 1 && c2.op.kind ≤ 3) || ((c1.op.kind == 2 || c1.op.kind == 3) && c2.op.kind == 0) || (c1.op.kind == 2 && (c2.op.kind == 2 && (c1.dst.isSome && c2.dst.isSome))) || (c1.op.kind == 0 && c2.op.kind == 4) || (c1.op.kind == 4 && c2.op.kind == 0) ||
    (match c1.op, c2.op with
     | .load _ _ (.t x), .store _ (.t y) _ => ap.contains (x, y)
     | _, _ => false))
/-- The slots of ap are written by nobody in the region. -/
def apFree (ap : List (Nat × Nat)) (c : COp) : Bool := ap.isEmpty || (c.op.kind != 5) && match c.dst with
  | some t => ap.all fun p => p.1 != t && p.2 != t
  | none => true
def apOk (ap : List (Nat × Nat)) (r : Nat → AV) : Bool := ap.all fun p => apartV (r p.1) (r p.2)

section
variable {G : FuncId → List D → D → Prop} {c c1 c2 : COp} {K K' : St → Prop} {s : St} {r r' : Nat → AV} {m m' : Mem} {v : AV} {ap : List (Nat × Nat)}

theorem GOut.cases_ (h : GOut G c r m v m') : Out G c r m v m' ∧ (∀ m2 v2 m2', Out G c r m2 v2 m2' → GOut G c r m2 v2 m2') ∨ (v = .und ∧ m' = m ∧ ∀ m2, GOut G c r m2 .und m2) := by
  unfold GOut at h ⊢
  cases hg : c.guard with
  | none => rw [hg] at h; exact .inl ⟨h, fun _ _ _ h => h⟩
  | some x =>
    obtain ⟨g, want⟩ := x
    rw [hg] at h
    simp only at h ⊢
    obtain ⟨b, hb, h1 | h1⟩ := h
    · exact .inl ⟨h1.2, fun m2 v2 m2' ho => ⟨b, hb, .inl ⟨h1.1, ho⟩⟩⟩
    · exact .inr ⟨h1.2.1, h1.2.2, fun m2 => ⟨b, hb, .inr (by simp [h1.1])⟩⟩

/-- What each kind of operation does to memory. -/
theorem Out.le1 (hk : c.op.kind ≤ 1) (h : Out G c r m v m') : m' = m ∧ ∀ m2, (∀ i o, m i = some o → m2 i = some o) → Out G c r m2 v m2 := by
  rcases (by omega : c.op.kind = 0 ∨ c.op.kind = 1) with h0 | h1
  · exact ⟨(h.pure h0).1, fun m2 _ => (h.pure h0).2 m2⟩
  · exact h.read h1

theorem upd_more {m : Mem} {i : Nat} {o : AObj} (h : m i = none) : ∀ j q, m j = some q → upd m i (some o) j = some q := by
  intro j q hq
  rw [upd_ne]; exact hq
  rintro rfl; rw [h] at hq; cases hq

theorem memSwap {m1 m2 : Mem} {v1 v2 : AV} (hs : swapOk ap c1 c2 = true) (ha : apOk ap r = true) (h1 : GOut G c1 r m v1 m1) (h2 : GOut G c2 r m1 v2 m2) : ∃ m', GOut G c2 r m v2 m' ∧ GOut G c1 r m' v1 m2 := by
  rcases h1.cases_ with ⟨o1, g1⟩ | ⟨rfl, rfl, g1⟩
  case inr => exact ⟨m2, h2, g1 m2⟩
  rcases h2.cases_ with ⟨o2, g2⟩ | ⟨rfl, rfl, g2⟩
  case inr => exact ⟨m, g2 m, h1⟩
  simp only [swapOk, Bool.and_eq_true, Bool.or_eq_true, decide_eq_true_eq, beq_iff_eq] at hs
  obtain ⟨⟨hd1, hd2⟩, ((((hk | hk) | hk) | hk) | hk) | hk⟩ := hs
  · -- nothing is changed by the first
    obtain ⟨rfl, q1⟩ := o1.le1 hk.1
    rcases (by omega : c2.op.kind ≤ 1 ∨ c2.op.kind = 2 ∨ c2.op.kind = 3) with hk2 | hk2 | hk2
    · obtain ⟨rfl, q2⟩ := o2.le1 hk2
      exact ⟨_, h2, h1⟩
    · obtain ⟨e, ob, rfl, -⟩ := o2.made hk2
      exact ⟨_, h2, g1 _ _ _ (q1 _ (upd_more e))⟩
    · obtain ⟨e, ob, rfl⟩ := o2.built hk2
      exact ⟨_, h2, g1 _ _ _ (q1 _ (upd_more e))⟩
  · obtain ⟨rfl, q2⟩ := o2.pure hk.2
    exact ⟨m, g2 _ _ _ (q2 m), h1⟩
  · obtain ⟨hk1, hk2, s1, s2⟩ := hk
    obtain ⟨e2, ob2, rfl, q2⟩ := o2.made hk2
    have hne : c1.dst.getD 0 ≠ c2.dst.getD 0 := by
      obtain ⟨t1, h1'⟩ := Option.isSome_iff_exists.1 s1
      obtain ⟨t2, h2'⟩ := Option.isSome_iff_exists.1 s2
      rw [h1'] at hd1
      rw [h1', h2']
      rintro e
      simp only [Option.getD_some] at e
      subst e
      simp [h2'] at hd1
    obtain ⟨e1, ob1, rfl, q1⟩ := o1.made hk1
    rw [upd_ne _ _ hne.symm] at e2
    refine ⟨_, g2 _ _ _ (q2 m e2), ?_⟩
    rw [upd_comm _ _ _ hne]
    exact g1 _ _ _ (q1 _ (by rw [upd_ne _ _ hne]; exact e1))
  · obtain ⟨rfl, q1⟩ := o1.pure hk.1
    exact ⟨m2, h2, g1 _ _ _ (q1 m2)⟩
  · obtain ⟨rfl, q2⟩ := o2.pure hk.2
    exact ⟨m, g2 _ _ _ (q2 m), h1⟩
  · split at hk
    · rename_i ag sz x sz2 y z e1 e2
      have hap : apartV (r x) (r y) = true := by
        simp only [apOk, List.all_eq_true] at ha
        exact ha (x, y) (by simpa using hk)
      obtain ⟨rfl, -⟩ := o1.le1 (by rw [e1]; simp [AOp.kind])
      exact ⟨m2, h2, g1 _ _ _ (Out.load_store e1 e2 hap o1 o2)⟩
    · cases hk

theorem putr_at {t : Option Nat} {n : Nat} (h : ∀ k, t = some k → k ≠ n) (r : Nat → AV) (v : AV) : putr r t v n = r n := by
  cases t with
  | none => rfl
  | some k => exact upd_ne _ _ (h k rfl).symm

theorem swapOk_kind (hs : swapOk ap c1 c2 = true) : c1.op.kind ≠ 5 ∧ c2.op.kind ≠ 5 := by
  simp only [swapOk, Bool.and_eq_true, Bool.or_eq_true, decide_eq_true_eq, beq_iff_eq] at hs
  obtain ⟨-, ((((hk | hk) | hk) | hk) | hk) | hk⟩ := hs
  · exact ⟨by omega, by omega⟩
  · exact ⟨by omega, by omega⟩
  · exact ⟨by omega, by omega⟩
  · exact ⟨by omega, by omega⟩
  · exact ⟨by omega, by omega⟩
  · split at hk
    · rename_i e1 e2
      rw [e1, e2]
      exact ⟨by simp [AOp.kind], by simp [AOp.kind]⟩
    · cases hk
/-- Two operations change places. -/
theorem gstep_swap (hs : swapOk ap c1 c2 = true) (ha : apOk ap s.r = true) (h : gstep G c1 (gstep G c2 K) s) : gstep G c2 (gstep G c1 K) s := by
  obtain ⟨r, m⟩ := s
  have k1 := (swapOk_kind hs).1
  have k2 := (swapOk_kind hs).2
  obtain ⟨v1, m1, h1, h2⟩ := (gstep_out k1).1 h
  obtain ⟨v2, m2, h3, h4⟩ := (gstep_out k2).1 h2
  have hs' := hs
  simp only [swapOk, Bool.and_eq_true] at hs'
  obtain ⟨⟨hd1, hd2⟩, -⟩ := hs'
  have e1 : ∀ n ∈ c2.reads, putr r c1.dst v1 n = r n := fun n hn => putr_at (fun k hk e => by
    subst e; rw [hk] at hd1; simp at hd1; exact hd1.1 hn) r v1
  have e2 : ∀ n ∈ c1.reads, r n = putr r c2.dst v2 n := fun n hn => (putr_at (fun k hk e => by
    subst e; rw [hk] at hd2; simp at hd2; exact hd2 hn) r v2).symm
  obtain ⟨m', g1, g2⟩ := memSwap hs ha h1 (h3.congr e1)
  refine (gstep_out k2).2 ⟨v2, m', g1, (gstep_out k1).2 ⟨v1, m2, g2.congr e2, ?_⟩⟩
  have : putr (putr r c2.dst v2) c1.dst v1 = putr (putr r c1.dst v1) c2.dst v2 := by
    cases hc1 : c1.dst with
    | none => rfl
    | some t1 =>
      cases hc2 : c2.dst with
      | none => rfl
      | some t2 =>
        rw [hc1] at hd1
        exact upd_comm _ _ _ (fun e => by subst e; simp [hc2] at hd1)
  rw [this]
  exact h4

theorem apOk_put (hf : apFree ap c = true) (ha : apOk ap r = true) (v : AV) : apOk ap (putr r c.dst v) = true := by
  simp only [apOk, List.all_eq_true] at ha ⊢
  intro p hp
  have hne : ap.isEmpty = false := by cases ap with
    | nil => cases hp
    | cons => rfl
  have : ∀ n, n = p.1 ∨ n = p.2 → putr r c.dst v n = r n := fun n hn => putr_at (fun k hk e => by
    subst e
    simp only [apFree, hne, hk, Bool.false_or, Bool.and_eq_true, List.all_eq_true] at hf
    have := hf.2 p hp
    simp only [bne_iff_ne, ne_eq] at this
    rcases hn with rfl | rfl
    · exact this.1 rfl
    · exact this.2 rfl) r v
  rw [this _ (.inl rfl), this _ (.inr rfl)]
  exact ha p hp

theorem gstep_keep (hf : apFree ap c = true) (ha : apOk ap s.r = true) (h : gstep G c K s) : gstep G c (fun t => apOk ap t.r = true ∧ K t) s := by
  obtain ⟨r, m⟩ := s
  cases hap : ap with
  | nil => exact gstep_mono h fun t ht => ⟨rfl, ht⟩
  | cons p q =>
    have k : c.op.kind ≠ 5 := by
      simp only [apFree, hap, List.isEmpty_cons, Bool.false_or, Bool.and_eq_true, bne_iff_ne, ne_eq] at hf
      exact hf.1
    obtain ⟨v, m', h1, h2⟩ := (gstep_out k).1 h
    exact (gstep_out k).2 ⟨v, m', h1, hap ▸ apOk_put hf ha v, h2⟩

/-- An operation that may go ahead of all that stand before it. -/
theorem cops_pull : ∀ (l1 l2 : List COp) (s : St), (∀ c' ∈ l1, swapOk ap c' c = true ∧ apFree ap c' = true) → apOk ap s.r = true → cops G (l1 ++ c :: l2) K s → gstep G c (cops G (l1 ++ l2) K) s
  | [], _, _, _, _, h => h
  | c' :: l1, l2, s, hl, ha, h => by
    have hc' := hl c' (by simp)
    have h1 : gstep G c' (cops G (l1 ++ c :: l2) K) s := h
    have h2 : gstep G c' (gstep G c (cops G (l1 ++ l2) K)) s := gstep_mono (gstep_keep hc'.2 ha h1) fun t ht => cops_pull l1 l2 t (fun q hq => hl q (by simp [hq])) ht.1 ht.2
    exact gstep_swap hc'.1 ha h2

end

end Go.Proofs.Ytbbidekjbgjooaa.M
end

section
namespace Go.Proofs.Ytbbidekjbgjooaa.M
open Go.RowKit

/-- No edge leads from x back to y. -/
def noEdge (ops : Array Oper) (x y : Nat) : Bool := match ops[x]? with
  | some o => o.after.all fun e => !Region.binds .any e || e.on != y
  | none => true
def beforeB (am : List Nat) (x y : Nat) : Bool := (am.getD y 0).testBit x
def pairsOk (ops : Array Oper) (am : List Nat) (ap : List (Nat × Nat)) : List (Nat × COp) → Bool
  | [] => true
  | x :: l => noEdge ops x.1 x.1 && l.all (fun y => noEdge ops x.1 y.1 && x.1 != y.1 && (beforeB am x.1 y.1 || swapOk ap x.2 y.2)) && pairsOk ops am ap l
def ancOk (ops : Array Oper) (am : List Nat) (n : Nat) : Bool := (List.range n).all fun i => match ops[i]? with
  | some o => o.after.all (fun e => !Region.binds .any e || decide (e.on < n)) && (List.range n).all fun j => !beforeB am j i || o.after.any fun e => Region.binds .any e && (e.on == j || beforeB am j e.on)
  | none => true
def regOk (ops : Array Oper) (am : List Nat) (ap : List (Nat × Nat)) (l : List (Nat × COp)) : Bool :=
  l.length == ops.size && (List.range ops.size).all (fun i => (l.map (·.1)).contains i) && l.all (fun x => decide (x.1 < ops.size) && apFree ap x.2) && ancOk ops am ops.size && pairsOk ops am ap l

section
variable {C : Ctx} {s : St} {a : Act} {w : World} {ops : Array Oper} {Q : Exit → Act → World → Prop} {K : St → Prop} {am : List Nat} {ap : List (Nat × Nat)}

def Rp (ops : Array Oper) (am : List Nat) (ap : List (Nat × Nat)) (x y : Nat × COp) : Prop := noEdge ops x.1 y.1 = true ∧ x.1 ≠ y.1 ∧ (beforeB am x.1 y.1 = true ∨ swapOk ap x.2 y.2 = true)
theorem pairs_spec : ∀ {l : List (Nat × COp)}, pairsOk ops am ap l = true → l.Pairwise (Rp ops am ap) ∧ ∀ x ∈ l, noEdge ops x.1 x.1 = true
  | [], _ => ⟨.nil, by simp⟩
  | x :: l, h => by
    simp only [pairsOk, Bool.and_eq_true, List.all_eq_true, Bool.or_eq_true, bne_iff_ne, ne_eq] at h
    obtain ⟨⟨h1, h2⟩, h3⟩ := h
    obtain ⟨g1, g2⟩ := pairs_spec h3
    refine ⟨.cons (fun y hy => ⟨(h2 y hy).1.1, (h2 y hy).1.2, (h2 y hy).2⟩) g1, fun y hy => ?_⟩
    rcases List.mem_cons.1 hy with rfl | hy
    · exact h1
    · exact g2 y hy

theorem noEdge_spec {x y : Nat} {o : Oper} (ho : ops[x]? = some o) (h : noEdge ops x y = true) : ∀ e ∈ o.after, Region.binds .any e = true → e.on ≠ y := by
  intro e he hb heq
  simp only [noEdge, ho, Array.all_eq_true_iff_forall_mem, Bool.or_eq_true, Bool.not_eq_true', bne_iff_ne, ne_eq] at h
  rcases h e he with h | h
  · rw [hb] at h; cases h
  · exact h heq

theorem anyRegion (hC : C.Ok) (hanc : ancOk ops am ops.size = true) (hQ : ∀ t a' w', Is C t a' w' → K t → Q .normal a' w') :
    ∀ (n : Nat) (l : List (Nat × COp)) (listed : Array Bool) (s : St) (a : Act) (w : World), l.length = n → listed.size = ops.size →
      (∀ i, i < ops.size → (listed.getD i true = false ↔ i ∈ l.map (·.1))) → l.Pairwise (Rp ops am ap) → (∀ x ∈ l, noEdge ops x.1 x.1 = true ∧ x.1 < ops.size ∧ apFree ap x.2 = true ∧ ∃ o, ops[x.1]? = some o ∧ cop C.P C.nt C.OT ops o = some x.2) →
      (∀ j, j < ops.size → listed.getD j true = true → ∀ k, k < ops.size → beforeB am k j = true → listed.getD k true = true) →
      Is C s a w → apOk ap s.r = true → cops (Con C.P C.A) (l.map (·.2)) K s → wpAny C.P .any ops Q n listed a w := by
  intro n
  induction n with
  | zero =>
    intro l listed s a w hl hsz hlist _ _ _ his _ hK
    have hnil : l = [] := List.eq_nil_of_length_eq_zero hl
    subst hnil
    refine ⟨?_, hQ s a w his hK⟩
    rw [List.eq_nil_iff_forall_not_mem]
    intro i hi
    obtain ⟨h1, o, ho, _⟩ := mem_ready.1 hi
    have := (hlist i (Array.getElem?_eq_some_iff.1 ho).1).1 h1
    simp at this
  | succ n ih =>
    intro l listed s a w hl hsz hlist hp hall hcl his hap hK
    refine ⟨fun h0 => ?_, fun i hi => ?_⟩
    · exfalso
      match l, hl, hlist, hp, hall with
      | x :: l', _, hlist, hp, hall =>
        obtain ⟨g1, g2, g3, o, ho, -⟩ := hall x (by simp)
        have hmem : x.1 ∈ Region.ready .any ops listed := by
          rw [mem_ready]
          refine ⟨(hlist x.1 g2).2 (by simp), o, ho, fun e he hb => ?_⟩
          have hon : e.on < ops.size := by
            simp only [ancOk, List.all_eq_true, List.mem_range] at hanc
            have := hanc x.1 g2
            rw [ho] at this
            simp only [Bool.and_eq_true, Array.all_eq_true_iff_forall_mem, Bool.or_eq_true, Bool.not_eq_true', decide_eq_true_eq] at this
            rcases this.1 e he with h | h
            · rw [hb] at h; cases h
            · exact h
          have hnot : ¬ (listed.getD e.on true = false) := by
            intro hf
            have := (hlist e.on hon).1 hf
            simp only [List.map_cons, List.mem_cons, List.mem_map] at this
            rcases this with h | ⟨y, hy, h⟩
            · exact noEdge_spec ho g1 e he hb h
            · exact noEdge_spec ho ((List.pairwise_cons.1 hp).1 y hy).1 e he hb h.symm
          have hlt : e.on < listed.size := by omega
          simp [hlt] at hnot ⊢
          exact hnot
        rw [h0] at hmem
        cases hmem
    · obtain ⟨h1, o, ho, hpre⟩ := mem_ready.1 hi
      have hin : i < ops.size := (Array.getElem?_eq_some_iff.1 ho).1
      have hmem := (hlist i hin).1 h1
      obtain ⟨x, hx, rfl⟩ := List.mem_map.1 hmem
      obtain ⟨l1, l2, rfl⟩ := List.append_of_mem hx
      obtain ⟨g1, g2, g3, o', ho', hcop⟩ := hall x hx
      rw [ho] at ho'
      cases ho'
      -- what has to come first has come
      have hbef : ∀ k, k < ops.size → beforeB am k x.1 = true → listed.getD k true = true := by
        intro k hk hb
        simp only [ancOk, List.all_eq_true, List.mem_range] at hanc
        have := hanc x.1 hin
        rw [ho] at this
        simp only [Bool.and_eq_true, List.all_eq_true, List.mem_range, Bool.or_eq_true, Bool.not_eq_true'] at this
        rcases this.2 k hk with h | h
        · rw [hb] at h; cases h
        · obtain ⟨e, he, hh⟩ := Array.any_eq_true'.1 h
          simp only [Bool.and_eq_true, Bool.or_eq_true, beq_iff_eq] at hh
          have hl' := hpre e he hh.1
          have hon : e.on < ops.size := by
            rw [← hsz]
            rcases Nat.lt_or_ge e.on listed.size with h' | h'
            · exact h'
            · simp [Array.getElem?_eq_none h'] at hl'
          have hlt : e.on < listed.size := by omega
          have hl'' : listed.getD e.on true = true := by simp [hlt] at hl' ⊢; exact hl'
          rcases hh.2 with rfl | hh2
          · exact hl''
          · exact hcl e.on hon hl'' k hk hh2
      have hsw : ∀ c' ∈ l1.map (·.2), swapOk ap c' x.2 = true ∧ apFree ap c' = true := by
        intro c' hc'
        obtain ⟨y, hy, rfl⟩ := List.mem_map.1 hc'
        obtain ⟨q1, q2, q3, -⟩ := hall y (by simp [hy])
        have hR := (List.pairwise_append.1 hp).2.2 y hy x (by simp)
        refine ⟨hR.2.2.resolve_left fun hb => ?_, q3⟩
        have := hbef y.1 q2 hb
        have hf := (hlist y.1 q2).2 (by simp; exact .inl ⟨_, hy⟩)
        rw [hf] at this
        cases this
      have hK' : cops (Con C.P C.A) (l1.map (·.2) ++ x.2 :: l2.map (·.2)) K s := by simpa using hK
      have hg := gstep_keep g3 hap (cops_pull (l1.map (·.2)) (l2.map (·.2)) s hsw hap hK')
      refine wp_cop hC ho hcop his (fun t a' w' ht hk => ?_) hg
      have hsub : (l1 ++ l2).Sublist (l1 ++ x :: l2) := List.Sublist.append (List.Sublist.refl _) (List.sublist_cons_self _ _)
      have hxn : x.1 ∉ (l1 ++ l2).map (·.1) := by
        intro hm
        obtain ⟨y, hy, he⟩ := List.mem_map.1 hm
        rcases List.mem_append.1 hy with hy | hy
        · exact ((List.pairwise_append.1 hp).2.2 y hy x (by simp)).2.1 he
        · exact ((List.pairwise_cons.1 (List.pairwise_append.1 hp).2.1).1 y hy).2.1 he.symm
      refine ih (l1 ++ l2) _ t a' w' (by simp at hl ⊢; omega) (by simpa using hsz) (fun k hk' => ?_) (hp.sublist hsub) (fun y hy => hall y (hsub.subset hy)) (fun j hj hlj k hk' hb => ?_) ht hk.1 (by simpa using hk.2)
      · by_cases hkx : x.1 = k
        · subst hkx
          have hlt : x.1 < listed.size := by omega
          simp only [Array.getD_eq_getD_getElem?, Array.getElem?_setIfInBounds_self, hlt, if_true, Option.getD_some]
          exact ⟨fun h => (by cases h), fun h => absurd h hxn⟩
        · rw [getD_set_ne true hkx, hlist k hk']
          constructor
          · intro hm
            obtain ⟨y, hy, rfl⟩ := List.mem_map.1 hm
            simp only [List.mem_append, List.mem_cons] at hy
            rcases hy with hy | rfl | hy
            · exact List.mem_map.2 ⟨y, by simp [hy], rfl⟩
            · exact absurd rfl hkx
            · exact List.mem_map.2 ⟨y, by simp [hy], rfl⟩
          · intro hm
            obtain ⟨y, hy, rfl⟩ := List.mem_map.1 hm
            exact List.mem_map.2 ⟨y, hsub.subset hy, rfl⟩
      · have hset : ∀ q, listed.getD q true = true → (listed.setIfInBounds x.1 true).getD q true = true := by
          intro q hq
          by_cases hqx : x.1 = q
          · subst hqx
            have hlt : x.1 < listed.size := by omega
            simp [hlt]
          · rw [getD_set_ne true hqx]; exact hq
        by_cases hjx : x.1 = j
        · subst hjx
          exact hset k (hbef k hk' hb)
        · rw [getD_set_ne true hjx] at hlj
          exact hset k (hcl j hj hlj k hk' hb)
end

end Go.Proofs.Ytbbidekjbgjooaa.M
end

section
namespace Go.Proofs.Ytbbidekjbgjooaa.M
open Go.RowKit

/-- Code, in the small machine's words. -/
inductive CC where
  | skip
  | ops (ap : List (Nat × Nat)) (l : List COp)
  | seq (a b : CC)
  | cond (x : Opd) (a b : CC)
  | block (id : Nat) (a : CC)
  | loop (a : CC)
  | exit (id : Nat)
  | ret
inductive AExit where
  | normal
  | exit (id : Nat)
  | ret

/-- Whoever knows s knows t. -/
def Sub (s t : St) : Prop := ∀ (C : Ctx) (a : Act) (w : World), Is C s a w → Is C t a w
theorem Sub.rf (s : St) : Sub s s := fun _ _ _ h => h

def cw (G : FuncId → List D → D → Prop) : CC → (AExit → St → Prop) → St → Prop
  | .skip, Q, s => Q .normal s
  | .ops ap l, Q, s => apOk ap s.r = true ∧ cops G l (Q .normal) s
  | .seq a b, Q, s => cw G a (fun e t => match e with
    | .normal => ∃ u, Sub t u ∧ cw G b Q u
    | e => Q e t) s
  | .cond x a b, Q, s => match x.ev s.r with
    | .p (.bool c) => (c = true → cw G a Q s) ∧ (c = false → cw G b Q s)
    | _ => False
  | .block id a, Q, s => cw G a (fun e t => match e with
    | .exit j => if j = id then Q .normal t else Q (.exit j) t
    | e => Q e t) s
  | .loop a, Q, s => ∃ (ι : Type) (I : ι → St) (μ : ι → Nat) (i0 : ι), Sub s (I i0) ∧ ∀ i, cw G a (fun e t => match e with
    | .normal => ∃ j, Sub t (I j) ∧ μ j < μ i
    | e => Q e t) (I i)
  | .exit id, Q, s => Q (.exit id) s
  | .ret, Q, s => Q .ret s

structure Hint where
  id : Nat
  ord : List Nat
  am : List Nat
  ap : List (Nat × Nat)

def copsAt (P : Program) (nt : Nat) (OT : List TypeId) (ops : Array Oper) : List Nat → Option (List (Nat × COp))
  | [] => some []
  | i :: l => match ops[i]? with
    | some o => match cop P nt OT ops o, copsAt P nt OT ops l with
      | some c, some m => some ((i, c) :: m)
      | _, _ => none
    | none => none

def comp (P : Program) (nt : Nat) (OT : List TypeId) (H : List Hint) : Code → Option CC
  | .skip => some .skip
  | .region id ops draw => if draw then
      match H.find? (·.id == id) with
      | some h => match copsAt P nt OT ops h.ord with
        | some l => if regOk ops h.am h.ap l then some (.ops h.ap (l.map (·.2))) else none
        | none => none
      | none => none
    else (copsAt P nt OT ops (List.range ops.size)).map fun l => .ops [] (l.map (·.2))
  | .seq a b => match comp P nt OT H a, comp P nt OT H b with
    | some x, some y => some (.seq x y)
    | _, _ => none
  | .cond c a b => match comp P nt OT H a, comp P nt OT H b with
    | some x, some y => some (.cond (opd P none c) x y)
    | _, _ => none
  | .block id a => (comp P nt OT H a).map (.block id)
  | .loop a => (comp P nt OT H a).map .loop
  | .exit id => some (.exit id)
  | .ret => some .ret
  | _ => none

section
variable {C : Ctx} {s : St} {a : Act} {w : World}

def Qm (C : Ctx) (Q : AExit → St → Prop) : Exit → Act → World → Prop
  | .normal, a, w => ∃ t, Is C t a w ∧ Q .normal t
  | .exit id, a, w => ∃ t, Is C t a w ∧ Q (.exit id) t
  | .ret, a, w => ∃ t, Is C t a w ∧ Q .ret t
  | _, _, _ => False

theorem copsAt_spec {P : Program} {nt : Nat} {OT : List TypeId} {ops : Array Oper} : ∀ {l : List Nat} {m : List (Nat × COp)}, copsAt P nt OT ops l = some m → m.map (·.1) = l ∧ ∀ x ∈ m, ∃ o, ops[x.1]? = some o ∧ cop P nt OT ops o = some x.2
  | [], m, h => by simp only [copsAt, Option.some.injEq] at h; subst h; exact ⟨rfl, by simp⟩
  | i :: l, m, h => by
    simp only [copsAt] at h
    split at h
    case h_2 => cases h
    rename_i o ho
    split at h
    case h_2 => cases h
    rename_i c m' h1 h2
    simp only [Option.some.injEq] at h
    subst h
    obtain ⟨g1, g2⟩ := copsAt_spec h2
    refine ⟨by simp [g1], fun x hx => ?_⟩
    rcases List.mem_cons.1 hx with rfl | hx
    · exact ⟨o, ho, h1⟩
    · exact g2 x hx

theorem seqOps {ops : Array Oper} {Q : Exit → Act → World → Prop} {K : St → Prop} (hC : C.Ok) (hQ : ∀ t a' w', Is C t a' w' → K t → Q .normal a' w') : ∀ (m : List (Nat × COp)) (s : St) (a : Act) (w : World),
    (∀ x ∈ m, ∃ o, ops[x.1]? = some o ∧ cop C.P C.nt C.OT ops o = some x.2) → Is C s a w → cops (Con C.P C.A) (m.map (·.2)) K s → wpOps C.P ops Q (m.map (·.1)) a w
  | [], s, a, w, _, his, hK => hQ s a w his hK
  | x :: m, s, a, w, hm, his, hK => by
    obtain ⟨o, ho, hc⟩ := hm x (by simp)
    rw [List.map_cons, wpOps_cons]
    exact wp_cop hC ho hc his (fun t a' w' ht hk => seqOps hC hQ m t a' w' (fun y hy => hm y (by simp [hy])) ht hk) hK

theorem Is.later (h : Is C s a w) {w' : World} (he : Ext w w') : Is C s a w' := ⟨h.1.elim fun loc hr => ⟨loc, hr.later he⟩, h.2⟩

theorem cw_sound (hC : C.Ok) (hm : C.P.follows .mixedOrders = true) (H : List Hint) : ∀ (c : Code) (cc : CC) (Q : AExit → St → Prop) (s : St) (a : Act) (w : World), comp C.P C.nt C.OT H c = some cc → cw (Con C.P C.A) cc Q s → Is C s a w → c.wp C.P (Qm C Q) a w := by
  intro c
  induction c with
  | skip => intro cc Q s a w h1 h2 h3; simp only [comp, Option.some.injEq] at h1; subst h1; exact wp_skip ⟨s, h3, h2⟩
  | region id ops draw =>
    intro cc Q s a w h1 h2 h3
    simp only [comp] at h1
    cases draw with
    | true =>
      simp only [if_true] at h1
      split at h1
      case h_2 => cases h1
      rename_i h _
      split at h1
      case h_2 => cases h1
      rename_i l hl
      split at h1
      case isFalse => cases h1
      rename_i hok
      simp only [Option.some.injEq] at h1
      subst h1
      obtain ⟨hap, hcw⟩ := h2
      simp only [regOk, Bool.and_eq_true, beq_iff_eq, List.all_eq_true, decide_eq_true_eq] at hok
      obtain ⟨⟨⟨⟨hlen, hevery⟩, hall⟩, hanc⟩, hpairs⟩ := hok
      obtain ⟨g1, g2⟩ := copsAt_spec hl
      obtain ⟨p1, p2⟩ := pairs_spec hpairs
      refine wp_region_any hm ?_
      have hw : Is C s a { w with drawn := w.drawn + 1 } := h3.later (Below.drew (Below.refl _ _))
      have hfull : ∀ i, i < ops.size → i ∈ l.map (·.1) := by
        intro i hi
        have := hevery i (List.mem_range.2 hi)
        simpa using this
      have := anyRegion (Q := Qm C Q) (K := Q .normal) (ap := h.ap) hC hanc (fun t a' w' ht hk => ⟨t, ht, hk⟩) l.length l (Array.replicate ops.size false) s a _ rfl (by simp) (fun i hi => by
          simp only [Array.getD_eq_getD_getElem?, Array.getElem?_replicate, hi, if_true, Option.getD_some, true_iff]
          exact hfull i hi) p1 (fun x hx => ⟨p2 x hx, (hall x hx).1, (hall x hx).2, g2 x hx⟩) (fun j hj hlj => by simp [hj] at hlj) hw hap hcw
      rwa [hlen] at this
    | false =>
      simp only [Bool.false_eq_true, if_false, Option.map_eq_some_iff] at h1
      obtain ⟨l, hl, rfl⟩ := h1
      obtain ⟨hap, hcw⟩ := h2
      obtain ⟨g1, g2⟩ := copsAt_spec hl
      refine wp_region ?_
      rw [← g1]
      exact seqOps hC (fun t a' w' ht hk => ⟨t, ht, hk⟩) l s a w g2 h3 hcw
  | seq x y ihx ihy =>
    intro cc Q s a w h1 h2 h3
    simp only [comp] at h1
    split at h1
    case h_2 => cases h1
    rename_i cx cy hx hy
    simp only [Option.some.injEq] at h1
    subst h1
    refine wp_seq (wp_mono (ihx cx _ s a w hx h2 h3) ?_)
    intro e a' w' hq
    cases e with
    | normal =>
      obtain ⟨t, ht, u, hsub, hu⟩ := hq
      exact ihy cy Q u a' w' hy hu (hsub C a' w' ht)
    | exit id => exact hq
    | ret => exact hq
    | _ => exact hq.elim
  | cond o x y ihx ihy =>
    intro cc Q s a w h1 h2 h3
    simp only [comp] at h1
    split at h1
    case h_2 => cases h1
    rename_i cx cy hx hy
    simp only [Option.some.injEq] at h1
    subst h1
    simp only [cw] at h2
    split at h2
    case h_2 => exact h2.elim
    rename_i b hb
    obtain ⟨loc, hr⟩ := h3.1
    have hv := hr.opd (P := C.P) none o
    rw [hb] at hv
    have hv := hv.inv
    generalize hov : a.eval o = v at hv
    cases hv
    cases b with
    | true => exact wp_cond_true hov (ihx cx Q s a w hx (h2.1 rfl) h3)
    | false => exact wp_cond_false hov (ihy cy Q s a w hy (h2.2 rfl) h3)
  | block id x ih =>
    intro cc Q s a w h1 h2 h3
    simp only [comp, Option.map_eq_some_iff] at h1
    obtain ⟨cx, hx, rfl⟩ := h1
    refine wp_block (wp_mono (ih cx _ s a w hx h2 h3) ?_)
    intro e a' w' hq
    cases e with
    | normal => exact hq
    | exit j =>
      obtain ⟨t, ht, hq⟩ := hq
      simp only [Exit.inBlock]
      by_cases hj : j = id
      · rw [if_pos hj]; simp only [hj, if_true] at hq; exact ⟨t, ht, hq⟩
      · rw [if_neg hj]; simp only [hj, if_false] at hq; exact ⟨t, ht, hq⟩
    | ret => exact hq
    | _ => exact hq.elim
  | loop x ih =>
    intro cc Q s a w h1 h2 h3
    simp only [comp, Option.map_eq_some_iff] at h1
    obtain ⟨cx, hx, rfl⟩ := h1
    obtain ⟨ι, I, μ, i0, hsub, hround⟩ := h2
    intro b k cs
    have key : ∀ n i a w, μ i = n → Is C (I i) a w →
        ∃ e a' w', Qm C Q e a' w' ∧ Arrives C.P (lone (b.at a (.code x :: .inLoop x :: k)) cs w) b k cs e a' w' := by
      intro n
      induction n using Nat.strongRecOn with
      | _ n ihn =>
        intro i a w hn hI
        obtain ⟨e, a₁, w₁, hq, harr⟩ := ih cx _ (I i) a w hx (hround i) hI b (.inLoop x :: k) cs
        cases e with
        | normal =>
          obtain ⟨t, ht, j, hj, hlt⟩ := hq
          obtain ⟨e₂, a₂, w₂, hq₂, harr₂⟩ := ihn (μ j) (hn ▸ hlt) j a₁ w₁ rfl (hj C a₁ w₁ ht)
          exact ⟨e₂, a₂, w₂, hq₂, .of_steps (Steps.trans harr (.one step_inLoop)) harr₂⟩
        | exit id => exact ⟨.exit id, a₁, w₁, hq, .pass (x := .inLoop x) rfl (fun _ _ => .inl (by simp)) harr⟩
        | ret => exact ⟨.ret, a₁, w₁, hq, .pass (x := .inLoop x) rfl (fun _ _ => .inl (by simp)) harr⟩
        | _ => exact hq.elim
    obtain ⟨e, a', w', hq, harr⟩ := key _ i0 a w rfl (hsub C a w h3)
    exact ⟨e, a', w', hq, .of_steps (.one step_loop) harr⟩
  | exit id => intro cc Q s a w h1 h2 h3; simp only [comp, Option.some.injEq] at h1; subst h1; exact wp_exit ⟨s, h3, h2⟩
  | ret => intro cc Q s a w h1 h2 h3; simp only [comp, Option.some.injEq] at h1; subst h1; exact wp_ret ⟨s, h3, h2⟩
  | _ => intro cc Q s a w h1; simp [comp] at h1

end

end Go.Proofs.Ytbbidekjbgjooaa.M
end
