/- The small machine: the model's operations written in its words. -/
import Derived.Test.YtlnhembcfhfpkaaME
namespace Go.Proofs.Ytlnhembcfhfpkaa.M
open Go.RowKit

def opd (P : Program) (T : Option TypeId) : Operand → Opd
  | .tmp t => .t t
  | .const (.bool b) => .k (.p (.bool b))
  | .const (.int k n) => .k (.p (.int k n))
  | .const (.string s) => .k (.p (.str s.data.toList))
  | .const (.pointer none) => .k (.p .nilp)
  | .const (.slice none 0 0) => match T.bind P.underlying with
    | some (.slice e) => .k (.nils e (P.cellsOf e))
    | _ => .k .und
  | .func f => .k (.p (.fn (.func f) [] []))
  | _ => .k .und

theorem opd_ok (P : Program) (T : Option TypeId) (x : Operand) {w : World} {N : Nat → Prop} {loc : Locs} {a : Act} {r : Nat → AV} (h : ∀ t, RV w N loc (a.tmps.getD t undef) (r t)) :
    RV w N loc (a.eval x) ((opd P T x).ev r) := by
  unfold opd
  split
  · exact h _
  · exact .p _ _ (.bool _)
  · exact .p _ _ (.int _ _)
  · exact .p _ _ (.str _)
  · exact .p _ _ .nilp
  · split
    · exact .nils _ _
    · exact .und _
  · exact .p _ _ (.fn _ _ _ [] [] rfl rfl (fun i d h => by simp at h) (fun i d h => by simp at h))
  · exact .und _

def tyOf (P : Program) (T : TypeId) : Option (Bool × Nat) := match P.underlying T, P.info? T with
  | some d, some i => some (aggT d, i.size)
  | _, _ => none
theorem tyOf_ok {P : Program} {T : TypeId} {ag : Bool} {sz : Nat} (h : tyOf P T = some (ag, sz)) : TyOk P T ag sz := by
  unfold tyOf at h
  split at h
  · rename_i d i h1 h2
    simp only [Option.some.injEq, Prod.mk.injEq] at h
    exact ⟨d, i, h1, h.1, h2, h.2⟩
  · cases h

/-- The cells of a type's zero value. -/
def zeroD (P : Program) : Nat → TypeId → Option (List D)
  | 0, _ => none
  | n + 1, T => match P.underlying T with
    | some .bool => some [.bool false]
    | some (.int k) => some [.int k 0]
    | some .string => some [.str []]
    | some (.pointer _) => some [.nilp]
    | some (.slice e) => some [.list e (P.cellsOf e) []]
    | some (.struct fs) => (fs.toList.mapM fun f => zeroD P n f.type).map List.flatten
    | some (.array k e) => (zeroD P n e).map fun l => (List.replicate k l).flatten
    | _ => none
def chkD : Value → D → Bool
  | .bool a, .bool b => a == b
  | .int k a, .int k' b => k == k' && a == b
  | .string s, .str l => s.data.toList == l
  | .pointer none, .nilp => true
  | .slice none 0 0, .list _ _ [] => true
  | _, _ => false
def chkL : List Value → List D → Bool
  | [], [] => true
  | v :: vs, d :: ds => chkD v d && chkL vs ds
  | _, _ => false

theorem chkD_ok {v : Value} {d : D} (h : chkD v d = true) (w : World) (N : Nat → Prop) : V w N v d ∧ d.one = true := by
  unfold chkD at h
  split at h
  · have := eq_of_beq h; subst this; exact ⟨.bool _, rfl⟩
  · simp only [Bool.and_eq_true, beq_iff_eq] at h; obtain ⟨rfl, rfl⟩ := h; exact ⟨.int _ _, rfl⟩
  · simp only [beq_iff_eq] at h; subst h; exact ⟨.str _, rfl⟩
  · exact ⟨.nilp, rfl⟩
  · exact ⟨.empty _ _ _ _ (by omega), rfl⟩
  · cases h
theorem chkL_ok : ∀ {vs : List Value} {ds : List D}, chkL vs ds = true → vs.length = ds.length ∧ ∀ i d, ds[i]? = some d → d.one = true ∧ ∀ (w : World) (N : Nat → Prop), V w N (vs.getD i undef) d
  | [], [], _ => ⟨rfl, fun i d h => by simp at h⟩
  | v :: vs, d :: ds, h => by
    simp only [chkL, Bool.and_eq_true] at h
    obtain ⟨g1, g2⟩ := chkL_ok h.2
    refine ⟨by simp [g1], fun i d' hi => ?_⟩
    match i, hi with
    | 0, hi => simp at hi; subst hi; exact ⟨(chkD_ok h.1 default (fun _ => True)).2, fun w N => (chkD_ok h.1 w N).1⟩
    | i + 1, hi => simpa using g2 i d' (by simpa using hi)
  | [], _ :: _, h => by simp [chkL] at h
  | _ :: _, [], h => by simp [chkL] at h

/-- A type's zero value, its cells, whether it is a struct, and how many cells it has: all checked. -/
def zeroOf (P : Program) (T : TypeId) : Option (List D × Bool × Nat) := match P.info? T, tyOf P T, zeroD P 20 T with
  | some i, some (ag, sz), some l => match i.zero with
    | some z => if chkL z.cells.toList l && l.length == sz && (ag || sz == 1) then some (l, ag, sz) else none
    | none => none
  | _, _, _ => none
def ZOk (P : Program) (T : TypeId) (l : List D) (ag : Bool) (sz : Nat) : Prop := ∃ i z, P.info? T = some i ∧ i.zero = some z ∧ TyOk P T ag sz ∧ chkL z.cells.toList l = true ∧ l.length = sz ∧ (ag = false → sz = 1)
theorem zeroOf_ok {P : Program} {T : TypeId} {l : List D} {ag : Bool} {sz : Nat} (h : zeroOf P T = some (l, ag, sz)) : ZOk P T l ag sz := by
  unfold zeroOf at h
  split at h
  · rename_i i ag' sz' l' h1 h2 h3
    split at h
    · rename_i z hz
      split at h
      · rename_i hc
        simp only [Bool.and_eq_true, Bool.or_eq_true, beq_iff_eq] at hc
        simp only [Option.some.injEq, Prod.mk.injEq] at h
        obtain ⟨rfl, rfl, rfl⟩ := h
        exact ⟨i, z, h1, hz, tyOf_ok h2, hc.1.1, hc.1.2, fun e => hc.2.resolve_left (by simp [e])⟩
      · cases h
    · cases h
  · cases h

/-- The zero value as a variable holds it: a slice is known to be nil. -/
def zeroA (l : List D) (ag : Bool) : AV := if ag then .p (.agg l) else match l with
  | [.list T sz []] => .nils T sz
  | [d] => .p d
  | _ => .und
def avOk (v : AV) (sz : Nat) : Bool := v.cells.length == sz && v.cells.all AV.one

def pairs {α β : Type} (f : α → Option β) : List (Nat × α) → Option (List (Nat × β))
  | [] => some []
  | (i, x) :: l => match f x, pairs f l with
    | some y, some m => some ((i, y) :: m)
    | _, _ => none

/-- A struct of numbers alone, which == compares number by number. -/
def intStruct (P : Program) (T : TypeId) : Bool := match P.underlying T with
  | some (.struct fs) => !P.stoodInHeld T && !P.eqGuardType P.depth T && fs.toList.zipIdx.all fun (f, i) => f.offset == i && f.name != "_" && (match P.underlying f.type with | some (.int _) => true | _ => false)
  | _ => false

/-- An array of numbers, which == compares number by number. -/
def intArr (P : Program) (T e : TypeId) : Bool := !P.eqGuardType P.depth T && (P.cellsOf e == 1) && (P.info? e).isSome && (match P.underlying e with | some (.int _) => true | _ => false)
/-- An append onto nil makes a new object; any other one makes its first argument longer. -/
def appOp (e sz b : Nat) (x y : Opd) : AOp := match x with
  | .k (.nils e2 sz2) => if sz2 == sz && e2 == e then .copyS e sz b y else .append e sz b x y
  | _ => .append e sz b x y
theorem appOp_cases (e sz b : Nat) (x y : Opd) : appOp e sz b x y = .append e sz b x y ∨ (appOp e sz b x y = .copyS e sz b y ∧ x = .k (.nils e sz)) := by
  unfold appOp
  split
  · rename_i e2 sz2
    split
    · rename_i hh
      simp only [Bool.and_eq_true, beq_iff_eq] at hh
      obtain ⟨rfl, rfl⟩ := hh
      exact .inr ⟨rfl, rfl⟩
    · exact .inl rfl
  · exact .inl rfl
theorem appOp_is {e sz b : Nat} {x y : Opd} {z : AOp} (h : appOp e sz b x y = z) : (∃ T sz b x y, z = .append T sz b x y) ∨ ∃ T sz b y, z = .copyS T sz b y := by
  rcases appOp_cases e sz b x y with h1 | ⟨h1, -⟩ <;> rw [h1] at h <;> subst h
  · exact .inl ⟨_, _, _, _, _, rfl⟩
  · exact .inr ⟨_, _, _, _, rfl⟩

def aop (P : Program) (o : Oper) : Option AOp :=
  match o.op with
  | .move x => some (.mov (opd P (some o.type) x))
  | .assign x => some (.mov (opd P (some o.type) x))
  | .nilCheck x => some (.nilCheck (opd P none x))
  | .pick c a b => some (.pick (opd P none c) (opd P (some o.type) a) (opd P (some o.type) b))
  | .alloc T => match zeroOf P T with
    | some (l, ag, sz) => if avOk (zeroA l ag) sz then some (.alloc T sz (zeroA l ag)) else none
    | none => none
  | .box T x => match tyOf P T with
    | some (_, sz) => some (.box T sz (opd P (some T) x))
    | none => none
  | .build T parts => match zeroOf P T, P.underlying T with
    | some (l, true, _), some (.struct fs) => match fs.toList.mapM (fun f => (P.info? f.type).map fun i => (f.offset, i.size)) with
      | some places => match parts.toList.mapM (fun p : Nat × Operand => match places[p.1]?, fs[p.1]? with
          | some (off, sz), some f => some (off, sz, opd P (some f.type) p.2)
          | _, _ => none) with
        | some ps => some (.build (l.map .p) ps)
        | none => none
      | none => none
    | some (l, true, _), some (.array _ e) => match P.info? e with
      | some i => some (.build (l.map .p) (parts.toList.map fun p : Nat × Operand => (p.1 * i.size, i.size, opd P (some e) p.2)))
      | none => none
    | _, _ => none
  | .buildSlice T n parts => match P.underlying T with
    | some (.slice e) => match zeroOf P e with
      | some (l, ag, sz) => if n * sz ≤ 16777216 ∧ n ≤ 9223372036854775807 then some (.buildSlice e sz (if ag then .agg l else l.headD default) n (parts.toList.map fun (i, x) => (i, opd P (some e) x))) else none
      | none => none
    | _ => none
  | .load T x => match tyOf P T with
    | some (ag, sz) => if ag || sz == 1 then some (.load ag sz (opd P none x)) else none
    | none => none
  | .store T x v => match tyOf P T with
    | some (_, sz) => some (.store sz (opd P none x) (opd P (some T) v))
    | none => none
  | .binOp op T x y _ => match P.underlying T with
    | some (.int _) => some (.bin false op (opd P none x) (opd P none y))
    | some .string => some (.bin false op (opd P none x) (opd P none y))
    | some .bool => some (.bin true op (opd P none x) (opd P none y))
    | some (.struct fs) => if intStruct P T then match op with
        | .eql => some (.eqs fs.size false (opd P none x) (opd P none y))
        | .neq => some (.eqs fs.size true (opd P none x) (opd P none y))
        | _ => none else none
    | some (.slice _) => match op, y with
      | .eql, .const (.slice none 0 0) => some (.isNil false (opd P none x))
      | .neq, .const (.slice none 0 0) => some (.isNil true (opd P none x))
      | _, _ => none
    | some (.array n e) => if intArr P T e then match op with
        | .eql => some (.eqs n false (opd P none x) (opd P none y))
        | .neq => some (.eqs n true (opd P none x) (opd P none y))
        | _ => none else none
    | _ => none
  | .unOp op _ x => some (.un op (opd P none x))
  | .convert S T x => match P.underlying S, P.underlying T with
    | some _, some (.int k) => some (.conv k (opd P none x))
    | _, _ => none
  | .makeSlice T l c => match P.underlying T with
    | some (.slice e) => match zeroOf P e, P.info? e with
      | some (z, ag, sz), some i => some (.makeSlice e sz i.bytes (if ag then .agg z else z.headD default) (opd P none l) (opd P none c))
      | _, _ => none
    | _ => none
  | .slice T x lo hi mx => match P.underlying T with
    | some .string => if mx.isSome then none else some (.sliceS (opd P none x) (lo.map (opd P none)) (hi.map (opd P none)))
    | some (.slice e) => match tyOf P e with
      | some (_, sz) => if mx.isSome && hi.isNone then none else some (.slice sz (opd P none x) (lo.map (opd P none)) (hi.map (opd P none)) (mx.map (opd P none)))
      | none => none
    | some (.array n e) => match tyOf P e with
      | some (_, 1) => if mx.isSome && hi.isNone then none else some (.sliceA n (opd P none x) (lo.map (opd P none)) (hi.map (opd P none)) (mx.map (opd P none)))
      | _ => none
    | _ => none
  | .fieldAddr S x f => match P.underlying S with
    | some (.struct fs) => match fs[f]? with
      | some g => match tyOf P g.type with
        | some (ag, sz) => if sz == 0 then none else some (.fieldAddr g.offset sz ag (opd P none x))
        | none => none
      | none => none
    | _ => none
  | .field S x f => match P.underlying S with
    | some (.struct fs) => match fs[f]? with
      | some g => match tyOf P g.type with
        | some (ag, sz) => some (.field g.offset sz ag (opd P none x))
        | none => none
      | none => none
    | _ => none
  | .indexAddr T x i => match P.underlying T with
    | some (.slice e) => match tyOf P e with
      | some (_, sz) => some (.indexAddr sz (opd P none x) (opd P none i))
      | none => none
    | some (.array n e) => match tyOf P e with
      | some (ag, sz) => some (.indexAddrA n sz ag (opd P none x) (opd P none i))
      | none => none
    | _ => none
  | .index T x i => match P.underlying T with
    | some .string => some (.index (opd P none x) (opd P none i))
    | some (.array n e) => match tyOf P e with
      | some (ag, sz) => some (.indexA n sz ag (opd P none x) (opd P none i))
      | none => none
    | _ => none
  | .makeFunc fn x y => some (.fnv fn (x.toList.map (opd P none)) (y.toList.map (opd P none)))
  | .panic _ => some .bad
  | .makeInterface _ _ => some .bad
  | .extract x i => some (.extract (opd P none x) i)
  | .call c => match c.callee with
    | .value (.func f) => some (.call f (c.args.toList.zipIdx.map fun (x, i) => opd P c.argTypes[i]? x))
    | .value (.tmp n) => some (.callv [] (.t n) (c.args.toList.zipIdx.map fun (x, i) => opd P c.argTypes[i]? x))
    | .builtin .len => match c.args.toList, c.argTypes.toList with
      | [x], [T] => match P.underlying T with
        | some .string => some (.lenS (opd P none x))
        | some (.slice _) => some (.len (opd P none x))
        | _ => none
      | _, _ => none
    | .builtin .max => match c.args.toList with
      | [x, y] => some (.mm true (opd P none x) (opd P none y))
      | _ => none
    | .builtin .min => match c.args.toList with
      | [x, y] => some (.mm false (opd P none x) (opd P none y))
      | _ => none
    | .builtin .append => match c.args.toList, c.argTypes.toList with
      | [x, y], [T, U] => match P.underlying T, P.underlying U with
        | some (.slice e), some (.slice e') => match zeroOf P e, P.info? e with
          | some (_, _, sz), some i => if e == e' && T == U then some (appOp e sz i.bytes (opd P (some T) x) (opd P (some U) y)) else none
          | _, _ => none
        | _, _ => none
      | _, _ => none
    | .builtin .copy => match c.args.toList, c.argTypes.toList with
      | [x, y], [T, U] => match P.underlying T, P.underlying U with
        | some (.slice e), some (.slice _) => match tyOf P e with
          | some (_, 1) => some (.copyA (opd P none x) (opd P none y))
          | _ => none
        | _, _ => none
      | _, _ => none
    | .builtin .clear => match c.args.toList, c.argTypes.toList with
      | [x], [T] => match P.underlying T with
        | some (.slice e) => match zeroOf P e with
          | some (l, ag, sz) => some (.clearS sz (if ag then .agg l else l.headD default) (opd P none x))
          | none => none
        | _ => none
      | _, _ => none
    | _ => none
  | _ => none

end Go.Proofs.Ytlnhembcfhfpkaa.M
