/- The small machine: its operations, and what each makes of a state. -/
import Derived.Test.YtlnhembcfhfpkaaMB
namespace Go.Proofs.Ytlnhembcfhfpkaa.M
open Go.RowKit

inductive Opd where
  | t (n : Nat)
  | k (v : AV)
def Opd.ev (r : Nat → AV) : Opd → AV
  | .t n => r n
  | .k v => v

/-- The operations. -/
inductive AOp where
  | mov (x : Opd)
  | nilCheck (x : Opd)
  | pick (c a b : Opd)
  | alloc (T sz : Nat) (z : AV)
  | box (T sz : Nat) (x : Opd)
  | build (z : List AV) (parts : List (Nat × Nat × Opd))
  | buildSlice (T sz : Nat) (z : D) (n : Nat) (parts : List (Nat × Opd))
  | buildSliceF (T sz : Nat) (z : D) (n : Nat) (parts : List (Nat × Opd))
  | load (ag : Bool) (sz : Nat) (x : Opd)
  | store (sz : Nat) (x v : Opd)
  | bin (bo : Bool) (op : BinOp) (x y : Opd)
  | eqs (n : Nat) (neg : Bool) (x y : Opd)
  | un (op : UnOp) (x : Opd)
  | conv (k : IntKind) (x : Opd)
  | makeSlice (T sz bytes : Nat) (z : D) (l c : Opd)
  | slice (sz : Nat) (x : Opd) (lo hi mx : Option Opd)
  | sliceS (x : Opd) (lo hi : Option Opd)
  | fieldAddr (off sz : Nat) (ag : Bool) (x : Opd)
  | field (off sz : Nat) (ag : Bool) (x : Opd)
  | indexAddr (sz : Nat) (x i : Opd)
  | index (x i : Opd)
  | extract (x : Opd) (i : Nat)
  | len (x : Opd)
  | lenS (x : Opd)
  | mm (mx : Bool) (x y : Opd)
  | append (T sz bytes : Nat) (x y : Opd)
  | appendF (T sz bytes : Nat) (x y : Opd)
  | call (f : FuncId) (args : List Opd)
  | fnv (fn : Fn) (first captured : List Opd)
  | callL (f : FuncId) (k : Nat) (args : List Opd)
  | callv (fs : List FuncId) (x : Opd) (args : List Opd)
  | callN (f : FuncId) (T : TypeId) (args : List Opd)
  | sliceA (n : Nat) (x : Opd) (lo hi mx : Option Opd)
  | copyA (x y : Opd)
  | isNil (neg : Bool) (x : Opd)
  | clearS (sz : Nat) (z : D) (x : Opd)
  | indexAddrA (n esz : Nat) (ag : Bool) (x i : Opd)
  | indexA (n esz : Nat) (ag : Bool) (x i : Opd)
  | copyS (T sz bytes : Nat) (y : Opd)
  | copyF (T sz bytes : Nat) (y : Opd)
  | bad

def inK : IntKind → Int → Bool
  | .i8, n => decide (-128 ≤ n ∧ n ≤ 127)
  | .i16, n => decide (-32768 ≤ n ∧ n ≤ 32767)
  | .i32, n => decide (-2147483648 ≤ n ∧ n ≤ 2147483647)
  | .i64, n => decide (-9223372036854775808 ≤ n ∧ n ≤ 9223372036854775807)
  | .u8, n => decide (0 ≤ n ∧ n ≤ 255)
  | .u16, n => decide (0 ≤ n ∧ n ≤ 65535)
  | .u32, n => decide (0 ≤ n ∧ n ≤ 4294967295)
  | .u64, n => decide (0 ≤ n ∧ n ≤ 18446744073709551615)

/-- A part of some cells: a struct, or the one cell. -/
def partD (l : List D) (off sz : Nat) (ag : Bool) : Option D :=
  if ag then (if off + sz ≤ l.length then some (.agg ((l.drop off).take sz)) else none) else l[off]?
def partA (l : List AV) (off sz : Nat) (ag : Bool) : Option AV :=
  if ag then (if off + sz ≤ l.length then some (.agg ((l.drop off).take sz)) else none) else l[off]?
def D.part (d : D) (off sz : Nat) (ag : Bool) : Option D := partD d.cells off sz ag
def AV.part (v : AV) (off sz : Nat) (ag : Bool) : Option AV :=
  match v with
  | .p d => (d.part off sz ag).map .p
  | v => partA v.cells off sz ag
/-- What a load of sz cells (ag: as a struct) from place off of an element of osz cells gives. -/
def AV.get (v : AV) (off sz osz : Nat) (ag : Bool) : Option AV :=
  if off = 0 ∧ sz = osz ∧ v.isAgg = some ag then some v else v.part off sz ag

mutual
/-- A value as plain data, if it is that. -/
def AV.pure : AV → Option D
  | .p d => some d
  | .nils T sz => some (.list T sz [])
  | .agg l => (pureL l).map .agg
  | _ => none
def pureL : List AV → Option (List D)
  | [] => some []
  | v :: l => match v.pure, pureL l with
    | some d, some ds => some (d :: ds)
    | _, _ => none
end
def AV.mk (l : List AV) : AV := match pureL l with
  | some ds => .p (.agg ds)
  | none => .agg l

mutual
/-- The same, where slices of, and pointers to, objects that are not written any more count too. (any: where nothing is written any more.) -/
def AV.toD (any : Bool) (M : Mem) : Nat → AV → Option D
  | 0, _ => none
  | n + 1, v => match v with
    | .p d => some d
    | .nils T sz => some (.list T sz [])
    | .agg l => (toDL any M n l).map .agg
    | .tup l => (toDL any M n l).map .tup
    | .slice id off len => match M id with
      | some o => match o.cont with
        | .row l => if (o.frz || any) && decide (off + len ≤ l.length) then some (.list o.T o.sz ((l.drop off).take len)) else none
        | _ => none
      | none => none
    | .ptr id i off => if i = 0 ∧ off = 0 then match M id with
      | some o => match o.cont with
        | .box v => if o.frz || any then (AV.toD any M n v).map .ref else none
        | _ => none
      | none => none else none
    | .arr id off len => match M id with
      | some o => match o.cont with
        | .box (.p d) => if (o.frz || any) && decide (off + len ≤ d.cells.length) && decide (len ≤ 9223372036854775807) then some (.list 1000000 1 ((d.cells.drop off).take len)) else none
        | _ => none
      | none => none
    | .und => none
def toDL (any : Bool) (M : Mem) : Nat → List AV → Option (List D)
  | 0, _ => none
  | n + 1, l => match l with
    | [] => some []
    | v :: l => match AV.toD any M n v, toDL any M n l with
      | some d, some ds => some (d :: ds)
      | _, _ => none
end

def asI : AV → Option Int
  | .p (.int _ n) => some n
  | _ => none

def bitN (op : BinOp) (a b : Nat) : Nat := match op with
  | .and => a &&& b
  | .or => a ||| b
  | .xor => a ^^^ b
  | _ => a ^^^ (a &&& b)
def bitB (k : IntKind) (a b : Int) : Bool := decide (0 ≤ a ∧ 0 ≤ b) && inK k a && inK k b

def binD (op : BinOp) : D → D → Option (Bool × D)
  | .int k a, .int k' b =>
    match op with
    | .shl => some (decide (0 ≤ b ∧ b < k.bits) && inK k (a * 2 ^ b.toNat), .int k (a * 2 ^ b.toNat))
    | .shr => some (decide (0 ≤ b ∧ b < k.bits), .int k (a / 2 ^ b.toNat))
    | op => if k = k' then
      match op with
      | .add => some (inK k (a + b), .int k (a + b))
      | .sub => some (inK k (a - b), .int k (a - b))
      | .mul => some (inK k (a * b), .int k (a * b))
      | .quo => some (decide (b ≠ 0) && inK k (a.tdiv b), .int k (a.tdiv b))
      | .rem => some (decide (b ≠ 0), .int k (a.tmod b))
      | .and => some (bitB k a b, .int k (bitN .and a.toNat b.toNat : Nat))
      | .or => some (bitB k a b, .int k (bitN .or a.toNat b.toNat : Nat))
      | .xor => some (bitB k a b, .int k (bitN .xor a.toNat b.toNat : Nat))
      | .andNot => some (bitB k a b, .int k (bitN .andNot a.toNat b.toNat : Nat))
      | .eql => some (true, .bool (decide (a = b)))
      | .neq => some (true, .bool (!decide (a = b)))
      | .lss => some (true, .bool (decide (a < b)))
      | .leq => some (true, .bool (decide (a ≤ b)))
      | .gtr => some (true, .bool (decide (b < a)))
      | .geq => some (true, .bool (decide (b ≤ a)))
      | _ => none
      else none
  | .str a, .str b =>
    match op with
    | .add => some (decide (a.length + b.length ≤ 9223372036854775807), .str (a ++ b))
    | .eql => some (true, .bool (decide (a = b)))
    | .neq => some (true, .bool (!decide (a = b)))
    | _ => none
  | .bool a, .bool b =>
    match op with
    | .eql => some (true, .bool (a == b))
    | .neq => some (true, .bool (!(a == b)))
    | _ => none
  | _, _ => none

def D.isBool : D → Bool
  | .bool _ => true
  | _ => false

def intsOf : List D → Option (List IntKind × List Int)
  | [] => some ([], [])
  | .int k n :: l => (intsOf l).map fun p => (k :: p.1, n :: p.2)
  | _ => none

def unD (op : UnOp) : D → Option (Bool × D)
  | .int k a => match op with
    | .neg => some (inK k (-a), .int k (-a))
    | _ => none
  | .bool a => match op with
    | .not => some (true, .bool (!a))
    | _ => none
  | _ => none

def fillA (cells : List AV) (r : Nat → AV) : List (Nat × Nat × Opd) → Option (List AV)
  | [] => some cells
  | (off, sz, x) :: rest =>
    if (x.ev r).cells.length = sz ∧ off + sz ≤ cells.length ∧ (x.ev r).cells.all AV.one = true then fillA (cells.take off ++ (x.ev r).cells ++ cells.drop (off + sz)) r rest else none

def fillR (sz : Nat) (l : List D) (r : Nat → AV) (M : Mem) : List (Nat × Opd) → Option (List D)
  | [] => some l
  | (i, x) :: rest => match (x.ev r).toD false M 20 with
    | some d => if d.cells.length = sz ∧ d.cells.all D.one = true ∧ i < l.length then fillR sz (l.set i d) r M rest else none
    | none => none

/-- The bounds of a slice expression: from, to, most. -/
def bounds (r : Nat → AV) (len : Nat) (lo hi mx : Option Opd) : Option (Bool × Nat × Nat) :=
  match (match lo with | none => some 0 | some x => asI (x.ev r)), (match hi with | none => some (len : Int) | some x => asI (x.ev r)) with
  | some l, some h => match mx with
    | none => some (decide (0 ≤ l ∧ l ≤ h ∧ h ≤ len), l.toNat, h.toNat)
    | some y => match asI (y.ev r) with
      | some m => some (decide (0 ≤ l ∧ l ≤ h ∧ h ≤ m ∧ m ≤ len), l.toNat, h.toNat)
      | none => none
  | _, _ => none

mutual
def AV.forget (id : Nat) : AV → AV
  | .slice i off len => if i = id then .und else .slice i off len
  | .ptr i j off => if i = id then .und else .ptr i j off
  | .arr i j off => if i = id then .und else .arr i j off
  | .agg l => match forgetL id l with
    | some l => .agg l
    | none => .und
  | .tup l => match forgetL id l with
    | some l => .tup l
    | none => .und
  | v => v
/-- none: something in it is forgotten -/
def forgetL (id : Nat) : List AV → Option (List AV)
  | [] => some []
  | v :: l => match v.forget id, forgetL id l with
    | .und, _ => none
    | v, some l => some (v :: l)
    | _, none => none
end

def elemsOf (sz : Nat) (m : Mem) : AV → Option (List D)
  | .slice j off n => match m j with
    | some ⟨_, sz', .row l, _⟩ => if sz' = sz ∧ off + n ≤ l.length then some ((l.drop off).take n) else none
    | _ => none
  | .p (.list _ sz' l) => if sz' = sz then some l else none
  | .nils _ sz' => if sz' = sz then some [] else none
  | _ => none
/-- Values that a function value takes with it. -/
def opdsD (r : Nat → AV) (M : Mem) : List Opd → Option (List D)
  | [] => some []
  | x :: l => match (x.ev r).toD false M 20, opdsD r M l with
    | some d, some ds => some (d :: ds)
    | _, _ => none

/-- What an operation (no call) makes of a state, under the number id of its result: what has to hold, the result, the state. -/
def ev (o : AOp) (id : Nat) (s : St) : Option (Bool × AV × St) :=
  match o with
  | .mov x => some (true, x.ev s.r, s)
  | .nilCheck x => match x.ev s.r with
    | .ptr i j o => some (true, .ptr i j o, s)
    | .p (.ref d) => some (true, .p (.ref d), s)
    | _ => none
  | .pick c a b => match c.ev s.r with
    | .p (.bool true) => some (true, a.ev s.r, s)
    | .p (.bool false) => some (true, b.ev s.r, s)
    | _ => none
  | .alloc T sz z => match s.m id with
    | none => some (true, .ptr id 0 0, ⟨s.r, upd s.m id (some ⟨T, sz, .box z, false⟩)⟩)
    | some _ => none
  | .box T sz x => match s.m id with
    | none => if (x.ev s.r).cells.length = sz ∧ (x.ev s.r).cells.all AV.one = true then some (true, .ptr id 0 0, ⟨s.r, upd s.m id (some ⟨T, sz, .box (x.ev s.r), false⟩)⟩) else none
    | some _ => none
  | .build z parts => match fillA z s.r parts with
    | some l => some (true, AV.mk l, s)
    | none => none
  | .buildSlice T sz z n parts => match s.m id with
    | none => match fillR sz (List.replicate n z) s.r s.m parts with
      | some l => some (true, .slice id 0 n, ⟨s.r, upd s.m id (some ⟨T, sz, .row l, false⟩)⟩)
      | none => none
    | some _ => none
  | .buildSliceF T sz z n parts => if id = lentId then none else match s.m id with
    | none => match fillR sz (List.replicate n z) s.r s.m parts with
      | some l => some (true, .slice id 0 n, ⟨s.r, upd s.m id (some ⟨T, sz, .row l, true⟩)⟩)
      | none => none
    | some _ => none
  | .load ag sz x => match x.ev s.r with
    | .ptr i j off => match s.m i with
      | some ⟨_, osz, .row l, _⟩ => match (AV.p (l.getD j default)).get off sz osz ag with
        | some v => some (decide (j < l.length), v, s)
        | none => none
      | some ⟨_, osz, .box v, _⟩ => if j = 0 then match v.get off sz osz ag with
        | some u => some (true, u, s)
        | none => none else none
      | _ => none
    | .p (.ref d) => if d.isAgg = ag then some (decide (d.cells.length = sz ∧ 0 < sz), .p d, s) else none
    | _ => none
  | .store sz x v => match x.ev s.r with
    | .ptr i j off => match s.m i with
      | some ⟨T, osz, .row l, false⟩ => match (v.ev s.r).toD false s.m 20 with
        | some d => if d.cells.length = sz ∧ d.cells.all D.one = true then
            (if off = 0 ∧ sz = osz then some (decide (j < l.length), .und, ⟨s.r, upd s.m i (some ⟨T, osz, .row (l.set j d), false⟩)⟩)
             else none) else none
        | none => none
      | some ⟨T, osz, .box u, false⟩ => if (v.ev s.r).cells.length = sz ∧ (v.ev s.r).cells.all AV.one = true ∧ j = 0 then
          (if off = 0 ∧ sz = osz then some (true, .und, ⟨s.r, upd s.m i (some ⟨T, osz, .box (v.ev s.r), false⟩)⟩)
           else if off + sz ≤ osz then some (true, .und, ⟨s.r, upd s.m i (some ⟨T, osz, .box (AV.mk (u.cells.take off ++ (v.ev s.r).cells ++ u.cells.drop (off + sz))), false⟩)⟩) else none) else none
      | some ⟨T, osz, .junk, false⟩ => if (v.ev s.r).cells.length = sz ∧ (v.ev s.r).cells.all AV.one = true ∧ j = 0 then
          (if off = 0 ∧ sz = osz then some (true, .und, ⟨s.r, upd s.m i (some ⟨T, osz, .box (v.ev s.r), false⟩)⟩) else none) else none
      | _ => none
    | _ => none
  | .bin bo op x y => match x.ev s.r, y.ev s.r with
    | .p a, .p b => if a.isBool = bo then match binD op a b with
      | some (c, d) => some (c, .p d, s)
      | none => none else none
    | _, _ => none
  | .eqs n neg x y => match x.ev s.r, y.ev s.r with
    | .p (.agg a), .p (.agg b) => match intsOf a, intsOf b with
      | some (k, l), some (k', m) => if k = k' ∧ k.length = n then some (true, .p (.bool (if neg then !decide (l = m) else decide (l = m))), s) else none
      | _, _ => none
    | _, _ => none
  | .un op x => match x.ev s.r with
    | .p a => match unD op a with
      | some (c, d) => some (c, .p d, s)
      | none => none
    | _ => none
  | .conv k x => match x.ev s.r with
    | .p (.int _ n) => some (inK k n, .p (.int k n), s)
    | _ => none
  | .makeSlice T sz bytes z l c => match s.m id with
    | none => match asI (l.ev s.r), asI (c.ev s.r) with
      | some n, some m => some (decide (0 ≤ n ∧ n = m ∧ bytes * n ≤ 281474976710656 ∧ n ≤ 9223372036854775807), .slice id 0 n.toNat, ⟨s.r, upd s.m id (some ⟨T, sz, .row (List.replicate n.toNat z), false⟩)⟩)
      | _, _ => none
    | some _ => none
  | .sliceS x lo hi => match x.ev s.r with
    | .p (.str t) => match bounds s.r t.length lo hi none with
      | some (c, l, h) => some (c, .p (.str ((t.drop l).take (h - l))), s)
      | none => none
    | _ => none
  | .slice sz x lo hi mx => match x.ev s.r with
    | .p (.list T sz' t) => if sz = sz' then match bounds s.r t.length lo hi mx with
      | some (c, l, h) => some (c, .p (.list T sz ((t.drop l).take (h - l))), s)
      | none => none else none
    | .slice i off len => match s.m i with
      | some o => if o.sz = sz then match bounds s.r len lo hi mx with
        | some (c, l, h) => some (c, .slice i (off + l) (h - l), s)
        | none => none else none
      | none => none
    | .nils T sz => match bounds s.r 0 lo hi mx with
      | some (c, _, _) => some (c, .nils T sz, s)
      | none => none
    | .arr i off len => if sz = 1 then match bounds s.r len lo hi mx with
      | some (c, l, h) => some (c, .arr i (off + l) (h - l), s)
      | none => none else none
    | _ => none
  | .fieldAddr off sz ag x => match x.ev s.r with
    | .ptr i j o => some (true, .ptr i j (o + off), s)
    | .p (.ref d) => match d.part off sz ag with
      | some e => some (true, .p (.ref e), s)
      | none => none
    | _ => none
  | .field off sz ag x => if (x.ev s.r).isAgg = some true then match (x.ev s.r).part off sz ag with
    | some v => some (true, v, s)
    | none => none else none
  | .indexAddr sz x i => match x.ev s.r, asI (i.ev s.r) with
    | .p (.list _ sz' t), some n => if sz = sz' then some (decide (0 ≤ n ∧ n < t.length), .p (.ref (t.getD n.toNat default)), s) else none
    | .slice j off len, some n => match s.m j with
      | some o => if o.sz = sz then some (decide (0 ≤ n ∧ n < len), .ptr j (off + n.toNat) 0, s) else none
      | none => none
    | .arr j off len, some n => if sz = 1 then some (decide (0 ≤ n ∧ n < len), .ptr j 0 (off + n.toNat), s) else none
    | _, _ => none
  | .sliceA n x lo hi mx => match x.ev s.r with
    | .ptr i 0 off => match s.m i with
      | some ⟨_, osz, .box _, _⟩ => if off + n ≤ osz ∧ n ≤ 9223372036854775807 then match bounds s.r n lo hi mx with
        | some (c, l, h) => some (c, .arr i (off + l) (h - l), s)
        | none => none else none
      | _ => none
    | _ => none
  | .clearS sz z x => match x.ev s.r with
    | .slice i off len => match s.m i with
      | some ⟨T, osz, .row l, false⟩ => if osz = sz then some (decide (off + len ≤ l.length), .und, ⟨s.r, upd s.m i (some ⟨T, osz, .row (l.take off ++ List.replicate len z ++ l.drop (off + len)), false⟩)⟩) else none
      | _ => none
    | _ => none
  | .copyA x y => match x.ev s.r, elemsOf 1 s.m (y.ev s.r) with
    | .arr i off len, some ys => match s.m i with
      | some ⟨T, osz, .box u, false⟩ => if off + len ≤ osz ∧ ys.all D.one = true then
          some (decide (ys.length ≤ len), .p (.int .i64 (ys.length : Nat)), ⟨s.r, upd s.m i (some ⟨T, osz, .box (AV.mk (u.cells.take off ++ ys.map .p ++ u.cells.drop (off + ys.length))), false⟩)⟩) else none
      | _ => none
    | _, _ => none
  | .indexAddrA n esz ag x i => match x.ev s.r, asI (i.ev s.r) with
    | .ptr j k off, some q => some (decide (0 ≤ q ∧ q < n), .ptr j k (off + q.toNat * esz), s)
    | .p (.ref d), some q => match d.part (q.toNat * esz) esz ag with
      | some e => some (decide (0 ≤ q ∧ q < n), .p (.ref e), s)
      | none => none
    | _, _ => none
  | .indexA n esz ag x i => match asI (i.ev s.r) with
    | some q => if (x.ev s.r).isAgg = some true then match (x.ev s.r).part (q.toNat * esz) esz ag with
      | some v => some (decide (0 ≤ q ∧ q < n), v, s)
      | none => none else none
    | none => none
  | .copyS T sz bytes y => match s.m id, elemsOf sz s.m (y.ev s.r) with
    | none, some ys => some (decide (ys.length * bytes ≤ 140737488355328 ∧ ys.length ≤ 9223372036854775807), .slice id 0 ys.length, ⟨s.r, upd s.m id (some ⟨T, sz, .row ys, false⟩)⟩)
    | _, _ => none
  | .copyF T sz bytes y => if id = lentId then none else match s.m id, elemsOf sz s.m (y.ev s.r) with
    | none, some ys => some (decide (ys.length * bytes ≤ 140737488355328 ∧ ys.length ≤ 9223372036854775807), .slice id 0 ys.length, ⟨s.r, upd s.m id (some ⟨T, sz, .row ys, true⟩)⟩)
    | _, _ => none
  | .fnv fn x y => match opdsD s.r s.m x, opdsD s.r s.m y with
    | some l, some k => some (true, .p (.fn fn l k), s)
    | _, _ => none
  | .index x i => match x.ev s.r, asI (i.ev s.r) with
    | .p (.str t), some n => some (decide (0 ≤ n ∧ n < t.length), .p (.int .u8 ((t.getD n.toNat 0).toNat : Int)), s)
    | _, _ => none
  | .extract x i => match x.ev s.r with
    | .p (.tup l) => (l[i]?).map fun d => (true, .p d, s)
    | .tup l => (l[i]?).map fun d => (true, d, s)
    | _ => none
  | .mm mx x y => match x.ev s.r, y.ev s.r with
    | .p (.int k p), .p (.int k' q) => if k = k' then some (true, .p (.int k (if mx then (if q > p then q else p) else (if q < p then q else p))), s) else none
    | _, _ => none
  | .lenS x => match x.ev s.r with
    | .p (.str t) => some (true, .p (.int .i64 t.length), s)
    | _ => none
  | .len x => match x.ev s.r with
    | .p (.list _ _ t) => some (true, .p (.int .i64 t.length), s)
    | .slice _ _ n => some (true, .p (.int .i64 n), s)
    | .nils _ _ => some (true, .p (.int .i64 0), s)
    | .arr _ _ n => some (true, .p (.int .i64 n), s)
    | _ => none
  | _ => none

/-- Object id is not written any more. -/
def frzS (id : Nat) (s : St) : St := if id = lentId then s else match s.m id with
  | some o => ⟨s.r, upd s.m id (some ⟨o.T, o.sz, o.cont, true⟩)⟩
  | none => s
def AObj.forget (id : Nat) (o : AObj) : AObj := match o.cont with
  | .box v => match v.forget id with
    | .und => ⟨o.T, o.sz, .junk, o.frz⟩
    | u => ⟨o.T, o.sz, .box u, o.frz⟩
  | _ => o
def forgetR (id : Nat) (r : Nat → AV) : Nat → AV := fun t => (r t).forget id
def forgetM (id : Nat) (m : Mem) : Mem := fun j => (m j).map (AObj.forget id)
/-- append: onto a nil slice a new object; onto a whole object of the call's own the same object, longer, and whoever knew it knows it no more. -/
def evApp (T sz bytes : Nat) (x y : Opd) (id : Nat) (s : St) : Option (Bool × AV × St) :=
  match elemsOf sz s.m (y.ev s.r) with
  | none => none
  | some ys => match x.ev s.r with
    | .nils _ sz' => match s.m id with
      | none => if sz' = sz then some (decide (ys.length * bytes ≤ 140737488355328 ∧ ys.length ≤ 9223372036854775807), .slice id 0 ys.length, ⟨s.r, upd s.m id (some ⟨T, sz, .row ys, false⟩)⟩) else none
      | some _ => none
    | .slice i 0 n => match s.m i with
      | some ⟨T', sz', .row l, false⟩ => if sz' = sz ∧ T' = T ∧ n = l.length ∧ i ≠ lentId then
          some (decide ((n + ys.length) * bytes ≤ 140737488355328 ∧ n + ys.length ≤ 9223372036854775807), .slice i 0 (n + ys.length), ⟨forgetR i s.r, upd (forgetM i s.m) i (some ⟨T, sz, .row (l ++ ys), false⟩)⟩) else none
      | _ => none
    | _ => none

end Go.Proofs.Ytlnhembcfhfpkaa.M
