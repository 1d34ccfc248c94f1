/- The small machine: what each operation does, as equations. -/
import Derived.Test.YtlnhembcfhfpkaaK3
namespace Go.Proofs.Ytlnhembcfhfpkaa.M
open Go.RowKit
set_option linter.defProp false
def fin (d : Option Nat) (K : St → Prop) : Option (Bool × AV × St) → Prop
  | some (p, v, t) => p = true ∧ K (t.put d v)
  | none => False
theorem fin_some (d : Option Nat) (K : St → Prop) (p : Bool) (v : AV) (t : St) : fin d K (some (p, v, t)) = (p = true ∧ K (t.put d v)) := rfl
theorem fin_none (d : Option Nat) (K : St → Prop) : fin d K none = False := rfl
theorem st_call (G : FuncId → List D → D → Prop) (d : Option Nat) (f : FuncId) (args : List Opd) (g : Option (Nat × Bool)) (K : St → Prop) (s : St) : step G ⟨d, .call f args, g⟩ K s = (match argsD s args with
    | some ds => ∃ e, G f ds e ∧ K (s.put d (.p e))
    | none => False) := rfl
theorem st_append (G : FuncId → List D → D → Prop) (d : Option Nat) (T sz b : Nat) (x y : Opd) (g : Option (Nat × Bool)) (K : St → Prop) (s : St) : step G ⟨d, .append T sz b x y, g⟩ K s = fin d K (evApp T sz b x y (d.getD 0) s) := rfl
theorem gs_none (G : FuncId → List D → D → Prop) (d : Option Nat) (o : AOp) (K : St → Prop) (s : St) : gstep G ⟨d, o, none⟩ K s = step G ⟨d, o, none⟩ K s := rfl
theorem gs_some (G : FuncId → List D → D → Prop) (d : Option Nat) (o : AOp) (i : Nat) (b : Bool) (K : St → Prop) (s : St) : gstep G ⟨d, o, some (i, b)⟩ K s = (match s.r i with
    | .p (.bool c) => if c = b then step G ⟨d, o, some (i, b)⟩ K s else K (s.put d (.p (.tup [])))
    | .p (.tup []) => K (s.put d (.p (.tup [])))
    | _ => False) := rfl
theorem opd_t (r : Nat → AV) (n : Nat) : Opd.ev r (.t n) = r n := rfl
theorem opd_k (r : Nat → AV) (v : AV) : Opd.ev r (.k v) = v := rfl
theorem asI_int (k : IntKind) (n : Int) : asI (.p (.int k n)) = some n := rfl
theorem toD_p (any : Bool) (M : Mem) (d : D) : AV.toD any M 20 (.p d) = some d := rfl
theorem toD_nils (any : Bool) (M : Mem) (T : TypeId) (sz : Nat) : AV.toD any M 20 (.nils T sz) = some (.list T sz []) := rfl
theorem toD_slice (any : Bool) (M : Mem) (id off len : Nat) : AV.toD any M 20 (.slice id off len) = (match M id with
    | some o => match o.cont with
      | .row l => if (o.frz || any) && decide (off + len ≤ l.length) then some (.list o.T o.sz ((l.drop off).take len)) else none
      | _ => none
    | none => none) := rfl
theorem argsD_nil (s : St) : argsD s [] = some [] := rfl
theorem argsD_cons (s : St) (x : Opd) (l : List Opd) : argsD s (x :: l) = (match (x.ev s.r).toD false s.m 20, argsD s l with
    | some d, some ds => some (d :: ds)
    | _, _ => none) := rfl
theorem st_mov (G : FuncId → List D → D → Prop) (dd : Option Nat) (x : Opd) (g : Option (Nat × Bool)) (K : St → Prop) (s : St) : step G ⟨dd, .mov x, g⟩ K s = fin dd K (ev (.mov x) (dd.getD 0) s) := rfl
theorem ev_mov (x : Opd) (id : Nat) (s : St) : ev (.mov x) id s = (some (true, x.ev s.r, s)) := rfl
theorem st_nilCheck (G : FuncId → List D → D → Prop) (dd : Option Nat) (x : Opd) (g : Option (Nat × Bool)) (K : St → Prop) (s : St) : step G ⟨dd, .nilCheck x, g⟩ K s = fin dd K (ev (.nilCheck x) (dd.getD 0) s) := rfl
theorem ev_nilCheck (x : Opd) (id : Nat) (s : St) : ev (.nilCheck x) id s = (match x.ev s.r with
    | .ptr i j o => some (true, .ptr i j o, s)
    | .p (.ref d) => some (true, .p (.ref d), s)
    | _ => none) := rfl
theorem st_pick (G : FuncId → List D → D → Prop) (dd : Option Nat) (c : Opd) (a : Opd) (b : Opd) (g : Option (Nat × Bool)) (K : St → Prop) (s : St) : step G ⟨dd, .pick c a b, g⟩ K s = fin dd K (ev (.pick c a b) (dd.getD 0) s) := rfl
theorem ev_pick (c : Opd) (a : Opd) (b : Opd) (id : Nat) (s : St) : ev (.pick c a b) id s = (match c.ev s.r with
    | .p (.bool true) => some (true, a.ev s.r, s)
    | .p (.bool false) => some (true, b.ev s.r, s)
    | _ => none) := rfl
theorem st_alloc (G : FuncId → List D → D → Prop) (dd : Option Nat) (T : Nat) (sz : Nat) (z : AV) (g : Option (Nat × Bool)) (K : St → Prop) (s : St) : step G ⟨dd, .alloc T sz z, g⟩ K s = fin dd K (ev (.alloc T sz z) (dd.getD 0) s) := rfl
theorem ev_alloc (T : Nat) (sz : Nat) (z : AV) (id : Nat) (s : St) : ev (.alloc T sz z) id s = (match s.m id with
    | none => some (true, .ptr id 0 0, ⟨s.r, upd s.m id (some ⟨T, sz, .box z, false⟩)⟩)
    | some _ => none) := rfl
theorem st_box (G : FuncId → List D → D → Prop) (dd : Option Nat) (T : Nat) (sz : Nat) (x : Opd) (g : Option (Nat × Bool)) (K : St → Prop) (s : St) : step G ⟨dd, .box T sz x, g⟩ K s = fin dd K (ev (.box T sz x) (dd.getD 0) s) := rfl
theorem ev_box (T : Nat) (sz : Nat) (x : Opd) (id : Nat) (s : St) : ev (.box T sz x) id s = (match s.m id with
    | none => if (x.ev s.r).cells.length = sz ∧ (x.ev s.r).cells.all AV.one = true then some (true, .ptr id 0 0, ⟨s.r, upd s.m id (some ⟨T, sz, .box (x.ev s.r), false⟩)⟩) else none
    | some _ => none) := rfl
theorem st_build (G : FuncId → List D → D → Prop) (dd : Option Nat) (z : List AV) (parts : List (Nat × Nat × Opd)) (g : Option (Nat × Bool)) (K : St → Prop) (s : St) : step G ⟨dd, .build z parts, g⟩ K s = fin dd K (ev (.build z parts) (dd.getD 0) s) := rfl
theorem ev_build (z : List AV) (parts : List (Nat × Nat × Opd)) (id : Nat) (s : St) : ev (.build z parts) id s = (match fillA z s.r parts with
    | some l => some (true, AV.mk l, s)
    | none => none) := rfl
theorem st_buildSlice (G : FuncId → List D → D → Prop) (dd : Option Nat) (T : Nat) (sz : Nat) (z : D) (n : Nat) (parts : List (Nat × Opd)) (g : Option (Nat × Bool)) (K : St → Prop) (s : St) : step G ⟨dd, .buildSlice T sz z n parts, g⟩ K s = fin dd K (ev (.buildSlice T sz z n parts) (dd.getD 0) s) := rfl
theorem ev_buildSlice (T : Nat) (sz : Nat) (z : D) (n : Nat) (parts : List (Nat × Opd)) (id : Nat) (s : St) : ev (.buildSlice T sz z n parts) id s = (match s.m id with
    | none => match fillR sz (List.replicate n z) s.r s.m parts with
      | some l => some (true, .slice id 0 n, ⟨s.r, upd s.m id (some ⟨T, sz, .row l, false⟩)⟩)
      | none => none
    | some _ => none) := rfl
theorem st_load (G : FuncId → List D → D → Prop) (dd : Option Nat) (ag : Bool) (sz : Nat) (x : Opd) (g : Option (Nat × Bool)) (K : St → Prop) (s : St) : step G ⟨dd, .load ag sz x, g⟩ K s = fin dd K (ev (.load ag sz x) (dd.getD 0) s) := rfl
theorem ev_load (ag : Bool) (sz : Nat) (x : Opd) (id : Nat) (s : St) : ev (.load ag sz x) id s = (match x.ev s.r with
    | .ptr i j off => match s.m i with
      | some ⟨_, osz, .row l, _⟩ => match (AV.p (l.getD j default)).get off sz osz ag with
        | some v => some (decide (j < l.length), v, s)
        | none => none
      | some ⟨_, osz, .box v, _⟩ => if j = 0 then match v.get off sz osz ag with
        | some u => some (true, u, s)
        | none => none else none
      | _ => none
    | .p (.ref d) => if d.isAgg = ag then some (decide (d.cells.length = sz ∧ 0 < sz), .p d, s) else none
    | _ => none) := rfl
theorem st_store (G : FuncId → List D → D → Prop) (dd : Option Nat) (sz : Nat) (x : Opd) (v : Opd) (g : Option (Nat × Bool)) (K : St → Prop) (s : St) : step G ⟨dd, .store sz x v, g⟩ K s = fin dd K (ev (.store sz x v) (dd.getD 0) s) := rfl
theorem ev_store (sz : Nat) (x : Opd) (v : Opd) (id : Nat) (s : St) : ev (.store sz x v) id s = (match x.ev s.r with
    | .ptr i j off => match s.m i with
      | some ⟨T, osz, .row l, false⟩ => match (v.ev s.r).toD false s.m 20 with
        | some d => if d.cells.length = sz ∧ d.cells.all D.one = true then
            (if off = 0 ∧ sz = osz then some (decide (j < l.length), .und, ⟨s.r, upd s.m i (some ⟨T, osz, .row (l.set j d), false⟩)⟩)
             else none) else none
        | none => none
      | some ⟨T, osz, .box u, false⟩ => if (v.ev s.r).cells.length = sz ∧ (v.ev s.r).cells.all AV.one = true ∧ j = 0 then
          (if off = 0 ∧ sz = osz then some (true, .und, ⟨s.r, upd s.m i (some ⟨T, osz, .box (v.ev s.r), false⟩)⟩)
           else if off + sz ≤ osz then some (true, .und, ⟨s.r, upd s.m i (some ⟨T, osz, .box (AV.mk (u.cells.take off ++ (v.ev s.r).cells ++ u.cells.drop (off + sz))), false⟩)⟩) else none) else none
      | some ⟨T, osz, .junk, false⟩ => if (v.ev s.r).cells.length = sz ∧ (v.ev s.r).cells.all AV.one = true ∧ j = 0 then
          (if off = 0 ∧ sz = osz then some (true, .und, ⟨s.r, upd s.m i (some ⟨T, osz, .box (v.ev s.r), false⟩)⟩) else none) else none
      | _ => none
    | _ => none) := rfl
theorem st_bin (G : FuncId → List D → D → Prop) (dd : Option Nat) (bo : Bool) (op : BinOp) (x : Opd) (y : Opd) (g : Option (Nat × Bool)) (K : St → Prop) (s : St) : step G ⟨dd, .bin bo op x y, g⟩ K s = fin dd K (ev (.bin bo op x y) (dd.getD 0) s) := rfl
theorem ev_bin (bo : Bool) (op : BinOp) (x : Opd) (y : Opd) (id : Nat) (s : St) : ev (.bin bo op x y) id s = (match x.ev s.r, y.ev s.r with
    | .p a, .p b => if a.isBool = bo then match binD op a b with
      | some (c, d) => some (c, .p d, s)
      | none => none else none
    | _, _ => none) := rfl
theorem st_eqs (G : FuncId → List D → D → Prop) (dd : Option Nat) (n : Nat) (neg : Bool) (x : Opd) (y : Opd) (g : Option (Nat × Bool)) (K : St → Prop) (s : St) : step G ⟨dd, .eqs n neg x y, g⟩ K s = fin dd K (ev (.eqs n neg x y) (dd.getD 0) s) := rfl
theorem ev_eqs (n : Nat) (neg : Bool) (x : Opd) (y : Opd) (id : Nat) (s : St) : ev (.eqs n neg x y) id s = (match x.ev s.r, y.ev s.r with
    | .p (.agg a), .p (.agg b) => match intsOf a, intsOf b with
      | some (k, l), some (k', m) => if k = k' ∧ k.length = n then some (true, .p (.bool (if neg then !decide (l = m) else decide (l = m))), s) else none
      | _, _ => none
    | _, _ => none) := rfl
theorem st_un (G : FuncId → List D → D → Prop) (dd : Option Nat) (op : UnOp) (x : Opd) (g : Option (Nat × Bool)) (K : St → Prop) (s : St) : step G ⟨dd, .un op x, g⟩ K s = fin dd K (ev (.un op x) (dd.getD 0) s) := rfl
theorem ev_un (op : UnOp) (x : Opd) (id : Nat) (s : St) : ev (.un op x) id s = (match x.ev s.r with
    | .p a => match unD op a with
      | some (c, d) => some (c, .p d, s)
      | none => none
    | _ => none) := rfl
theorem st_conv (G : FuncId → List D → D → Prop) (dd : Option Nat) (k : IntKind) (x : Opd) (g : Option (Nat × Bool)) (K : St → Prop) (s : St) : step G ⟨dd, .conv k x, g⟩ K s = fin dd K (ev (.conv k x) (dd.getD 0) s) := rfl
theorem ev_conv (k : IntKind) (x : Opd) (id : Nat) (s : St) : ev (.conv k x) id s = (match x.ev s.r with
    | .p (.int _ n) => some (inK k n, .p (.int k n), s)
    | _ => none) := rfl
theorem st_makeSlice (G : FuncId → List D → D → Prop) (dd : Option Nat) (T : Nat) (sz : Nat) (bytes : Nat) (z : D) (l : Opd) (c : Opd) (g : Option (Nat × Bool)) (K : St → Prop) (s : St) : step G ⟨dd, .makeSlice T sz bytes z l c, g⟩ K s = fin dd K (ev (.makeSlice T sz bytes z l c) (dd.getD 0) s) := rfl
theorem ev_makeSlice (T : Nat) (sz : Nat) (bytes : Nat) (z : D) (l : Opd) (c : Opd) (id : Nat) (s : St) : ev (.makeSlice T sz bytes z l c) id s = (match s.m id with
    | none => match asI (l.ev s.r), asI (c.ev s.r) with
      | some n, some m => some (decide (0 ≤ n ∧ n = m ∧ bytes * n ≤ 281474976710656 ∧ n ≤ 9223372036854775807), .slice id 0 n.toNat, ⟨s.r, upd s.m id (some ⟨T, sz, .row (List.replicate n.toNat z), false⟩)⟩)
      | _, _ => none
    | some _ => none) := rfl
theorem st_sliceS (G : FuncId → List D → D → Prop) (dd : Option Nat) (x : Opd) (lo : Option Opd) (hi : Option Opd) (g : Option (Nat × Bool)) (K : St → Prop) (s : St) : step G ⟨dd, .sliceS x lo hi, g⟩ K s = fin dd K (ev (.sliceS x lo hi) (dd.getD 0) s) := rfl
theorem ev_sliceS (x : Opd) (lo : Option Opd) (hi : Option Opd) (id : Nat) (s : St) : ev (.sliceS x lo hi) id s = (match x.ev s.r with
    | .p (.str t) => match bounds s.r t.length lo hi none with
      | some (c, l, h) => some (c, .p (.str ((t.drop l).take (h - l))), s)
      | none => none
    | _ => none) := rfl
theorem st_slice (G : FuncId → List D → D → Prop) (dd : Option Nat) (sz : Nat) (x : Opd) (lo : Option Opd) (hi : Option Opd) (mx : Option Opd) (g : Option (Nat × Bool)) (K : St → Prop) (s : St) : step G ⟨dd, .slice sz x lo hi mx, g⟩ K s = fin dd K (ev (.slice sz x lo hi mx) (dd.getD 0) s) := rfl
theorem ev_slice (sz : Nat) (x : Opd) (lo : Option Opd) (hi : Option Opd) (mx : Option Opd) (id : Nat) (s : St) : ev (.slice sz x lo hi mx) id s = (match x.ev s.r with
    | .p (.list T sz' t) => if sz = sz' then match bounds s.r t.length lo hi mx with
      | some (c, l, h) => some (c, .p (.list T sz ((t.drop l).take (h - l))), s)
      | none => none else none
    | .slice i off len => match s.m i with
      | some o => if o.sz = sz then match bounds s.r len lo hi mx with
        | some (c, l, h) => some (c, .slice i (off + l) (h - l), s)
        | none => none else none
      | none => none
    | .nils T sz => match bounds s.r 0 lo hi mx with
      | some (c, _, _) => some (c, .nils T sz, s)
      | none => none
    | .arr i off len => if sz = 1 then match bounds s.r len lo hi mx with
      | some (c, l, h) => some (c, .arr i (off + l) (h - l), s)
      | none => none else none
    | _ => none) := rfl
theorem st_fieldAddr (G : FuncId → List D → D → Prop) (dd : Option Nat) (off : Nat) (sz : Nat) (ag : Bool) (x : Opd) (g : Option (Nat × Bool)) (K : St → Prop) (s : St) : step G ⟨dd, .fieldAddr off sz ag x, g⟩ K s = fin dd K (ev (.fieldAddr off sz ag x) (dd.getD 0) s) := rfl
theorem ev_fieldAddr (off : Nat) (sz : Nat) (ag : Bool) (x : Opd) (id : Nat) (s : St) : ev (.fieldAddr off sz ag x) id s = (match x.ev s.r with
    | .ptr i j o => some (true, .ptr i j (o + off), s)
    | .p (.ref d) => match d.part off sz ag with
      | some e => some (true, .p (.ref e), s)
      | none => none
    | _ => none) := rfl
theorem st_field (G : FuncId → List D → D → Prop) (dd : Option Nat) (off : Nat) (sz : Nat) (ag : Bool) (x : Opd) (g : Option (Nat × Bool)) (K : St → Prop) (s : St) : step G ⟨dd, .field off sz ag x, g⟩ K s = fin dd K (ev (.field off sz ag x) (dd.getD 0) s) := rfl
theorem ev_field (off : Nat) (sz : Nat) (ag : Bool) (x : Opd) (id : Nat) (s : St) : ev (.field off sz ag x) id s = (if (x.ev s.r).isAgg = some true then match (x.ev s.r).part off sz ag with
    | some v => some (true, v, s)
    | none => none else none) := rfl
theorem st_indexAddr (G : FuncId → List D → D → Prop) (dd : Option Nat) (sz : Nat) (x : Opd) (i : Opd) (g : Option (Nat × Bool)) (K : St → Prop) (s : St) : step G ⟨dd, .indexAddr sz x i, g⟩ K s = fin dd K (ev (.indexAddr sz x i) (dd.getD 0) s) := rfl
theorem ev_indexAddr (sz : Nat) (x : Opd) (i : Opd) (id : Nat) (s : St) : ev (.indexAddr sz x i) id s = (match x.ev s.r, asI (i.ev s.r) with
    | .p (.list _ sz' t), some n => if sz = sz' then some (decide (0 ≤ n ∧ n < t.length), .p (.ref (t.getD n.toNat default)), s) else none
    | .slice j off len, some n => match s.m j with
      | some o => if o.sz = sz then some (decide (0 ≤ n ∧ n < len), .ptr j (off + n.toNat) 0, s) else none
      | none => none
    | .arr j off len, some n => if sz = 1 then some (decide (0 ≤ n ∧ n < len), .ptr j 0 (off + n.toNat), s) else none
    | _, _ => none) := rfl
theorem st_index (G : FuncId → List D → D → Prop) (dd : Option Nat) (x : Opd) (i : Opd) (g : Option (Nat × Bool)) (K : St → Prop) (s : St) : step G ⟨dd, .index x i, g⟩ K s = fin dd K (ev (.index x i) (dd.getD 0) s) := rfl
theorem ev_index (x : Opd) (i : Opd) (id : Nat) (s : St) : ev (.index x i) id s = (match x.ev s.r, asI (i.ev s.r) with
    | .p (.str t), some n => some (decide (0 ≤ n ∧ n < t.length), .p (.int .u8 ((t.getD n.toNat 0).toNat : Int)), s)
    | _, _ => none) := rfl
theorem st_extract (G : FuncId → List D → D → Prop) (dd : Option Nat) (x : Opd) (i : Nat) (g : Option (Nat × Bool)) (K : St → Prop) (s : St) : step G ⟨dd, .extract x i, g⟩ K s = fin dd K (ev (.extract x i) (dd.getD 0) s) := rfl
theorem ev_extract (x : Opd) (i : Nat) (id : Nat) (s : St) : ev (.extract x i) id s = (match x.ev s.r with
    | .p (.tup l) => (l[i]?).map fun d => (true, .p d, s)
    | .tup l => (l[i]?).map fun d => (true, d, s)
    | _ => none) := rfl
theorem st_mm (G : FuncId → List D → D → Prop) (dd : Option Nat) (mx : Bool) (x y : Opd) (g : Option (Nat × Bool)) (K : St → Prop) (s : St) : step G ⟨dd, .mm mx x y, g⟩ K s = fin dd K (ev (.mm mx x y) (dd.getD 0) s) := rfl
theorem ev_mm (mx : Bool) (x y : Opd) (id : Nat) (s : St) : ev (.mm mx x y) id s = (match x.ev s.r, y.ev s.r with
    | .p (.int k p), .p (.int k' q) => if k = k' then some (true, .p (.int k (if mx then (if q > p then q else p) else (if q < p then q else p))), s) else none
    | _, _ => none) := rfl
theorem st_lenS (G : FuncId → List D → D → Prop) (dd : Option Nat) (x : Opd) (g : Option (Nat × Bool)) (K : St → Prop) (s : St) : step G ⟨dd, .lenS x, g⟩ K s = fin dd K (ev (.lenS x) (dd.getD 0) s) := rfl
theorem ev_lenS (x : Opd) (id : Nat) (s : St) : ev (.lenS x) id s = (match x.ev s.r with
    | .p (.str t) => some (true, .p (.int .i64 t.length), s)
    | _ => none) := rfl
theorem st_len (G : FuncId → List D → D → Prop) (dd : Option Nat) (x : Opd) (g : Option (Nat × Bool)) (K : St → Prop) (s : St) : step G ⟨dd, .len x, g⟩ K s = fin dd K (ev (.len x) (dd.getD 0) s) := rfl
theorem ev_len (x : Opd) (id : Nat) (s : St) : ev (.len x) id s = (match x.ev s.r with
    | .p (.list _ _ t) => some (true, .p (.int .i64 t.length), s)
    | .slice _ _ n => some (true, .p (.int .i64 n), s)
    | .nils _ _ => some (true, .p (.int .i64 0), s)
    | .arr _ _ n => some (true, .p (.int .i64 n), s)
    | _ => none) := rfl
def cs0 := And.intro @cops_app (And.intro @fin_some (And.intro @fin_none (And.intro @st_call (And.intro @st_append (And.intro @gs_none (And.intro @gs_some (And.intro @opd_t (And.intro @opd_k (And.intro @asI_int (And.intro @toD_p (And.intro @toD_nils (And.intro @toD_slice (And.intro @argsD_nil (And.intro @argsD_cons (And.intro @st_mov (And.intro @ev_mov (And.intro @st_nilCheck (And.intro @ev_nilCheck (And.intro @st_pick (And.intro @ev_pick (And.intro @st_alloc (And.intro @ev_alloc (And.intro @st_box (And.intro @ev_box (And.intro @st_build (And.intro @ev_build (And.intro @st_buildSlice (And.intro @ev_buildSlice (@st_load)))))))))))))))))))))))))))))
def cs1 := And.intro @ev_load (And.intro @st_store (And.intro @ev_store (And.intro @st_bin (And.intro @ev_bin (And.intro @st_eqs (And.intro @ev_eqs (And.intro @st_un (And.intro @ev_un (And.intro @st_conv (And.intro @ev_conv (And.intro @st_makeSlice (And.intro @ev_makeSlice (And.intro @st_sliceS (And.intro @ev_sliceS (And.intro @st_slice (And.intro @ev_slice (And.intro @st_fieldAddr (And.intro @ev_fieldAddr (And.intro @st_field (And.intro @ev_field (And.intro @st_indexAddr (And.intro @ev_indexAddr (And.intro @st_index (And.intro @ev_index (And.intro @st_extract (And.intro @ev_extract (And.intro @st_mm (And.intro @ev_mm (And.intro @st_lenS (And.intro @ev_lenS (@st_len)))))))))))))))))))))))))))))))
def cs2 := And.intro @ev_len (And.intro @List.all_nil.{0} (And.intro @true_and (And.intro @upd_look (And.intro @upd_lookM (And.intro @setR_nil (And.intro @setR_cons (And.intro @setM_nil (And.intro @setM_cons (And.intro @sel_nil (And.intro @sel_cons (And.intro @look_cons (And.intro @look_nil (And.intro @lookM_cons (And.intro @lookM_nil (And.intro @Option.getD_some.{0} (And.intro @eq_self.{1} (And.intro @decide_true (And.intro @decide_false (And.intro @Bool.not_true (And.intro @Bool.not_false (And.intro @Bool.false_eq_true (And.intro @Bool.true_eq_false (And.intro @dc_bool (And.intro @do_bool (And.intro @da_bool (And.intro @dc_int (And.intro @do_int (And.intro @da_int (@dc_str)))))))))))))))))))))))))))))
def cs3 := And.intro @do_str (And.intro @da_str (And.intro @dc_list (And.intro @do_list (And.intro @da_list (And.intro @dc_nilp (And.intro @do_nilp (And.intro @da_nilp (And.intro @dc_ref (And.intro @do_ref (And.intro @da_ref (And.intro @dc_fn (And.intro @do_fn (And.intro @da_fn (And.intro @dc_agg (And.intro @do_agg (And.intro @da_agg (And.intro @ac_p (And.intro @ao_p (And.intro @aa_p (And.intro @ac_agg (And.intro @aa_agg (And.intro @ao_agg (And.intro @ac_slice (And.intro @ao_slice (And.intro @aa_slice (And.intro @ac_ptr (And.intro @ao_ptr (And.intro @aa_ptr (@ac_nils)))))))))))))))))))))))))))))
def cs4 := And.intro @ao_nils (And.intro @aa_nils (And.intro @decide_eq_true_eq (And.intro @Bool.and_eq_true (And.intro @and_true (And.intro @List.length_map.{0,0} (And.intro @List.map_cons.{0,0} (And.intro @List.map_nil.{0,0} (And.intro @getD_I (And.intro @set_I (And.intro @rep_I (And.intro @take_I (And.intro @drop_I (And.intro @app_I (And.intro @cast1 (And.intro @Int.add_sub_cancel (And.intro @Int.toNat_natCast (And.intro @List.length_set.{0} (And.intro @List.length_replicate.{0} (And.intro @true_implies (And.intro @false_implies (And.intro @List.length_cons.{0} (And.intro @List.length_nil.{0} (And.intro @Nat.zero_add (And.intro @Nat.lt_add_one (And.intro @ne_eq.{1} (And.intro @not_true_eq_false (And.intro @not_false_eq_true (And.intro @Nat.add_zero (@Nat.sub_zero)))))))))))))))))))))))))))))
def cs5 := And.intro @List.drop_zero.{0} (And.intro @List.take_length.{0} (And.intro @Int.toNat_zero (And.intro @toNat1 (And.intro @cast0 (And.intro @List.all_cons.{0} (And.intro @List.append_nil.{0} (And.intro @List.nil_append.{0} (And.intro @List.cons_append.{0} (And.intro @List.take_zero.{0} (And.intro @List.take_nil.{0} (And.intro @List.take_succ_cons.{0} (And.intro @List.drop_succ_cons.{0} (And.intro @List.drop_nil.{0} (And.intro @Bool.and_self (And.intro @and_self (And.intro @List.getElem?_cons_zero.{0} (And.intro @List.getElem?_cons_succ.{0} (And.intro @Option.map_some.{0,0} (And.intro @Nat.le_refl (And.intro @Option.some.injEq.{0} (And.intro @Bool.and_true (And.intro @Bool.true_and (And.intro @if_true.{1} (And.intro @if_false.{1} (@Option.map_none.{0,0})))))))))))))))))))))))))
end Go.Proofs.Ytlnhembcfhfpkaa.M
