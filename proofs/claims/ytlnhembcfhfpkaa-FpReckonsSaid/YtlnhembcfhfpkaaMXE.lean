/- The small machine: lent arguments and calls of function values, as equations. -/
import Derived.Test.YtlnhembcfhfpkaaMXD
namespace Go.Proofs.Ytlnhembcfhfpkaa.M
open Go.RowKit
set_option linter.defProp false

theorem st_callL (G : FuncId → List D → D → Prop) (dd : Option Nat) (f : FuncId) (k : Nat) (args : List Opd) (g : Option (Nat × Bool)) (K : St → Prop) (s : St) : step G ⟨dd, .callL f k args, g⟩ K s = (match opdAt s k args with
    | .slice i 0 n => match s.m i with
      | some ⟨T, sz, .row l, false⟩ => match argsDL s (.list T sz l) k args with
        | some ds => n = l.length ∧ ∃ r l', G (f + LB * (k + 1)) ds (.tup [r, .list T sz l']) ∧ K ((⟨s.r, upd s.m i (some ⟨T, sz, .row l', false⟩)⟩ : St).put dd (if l = [] then .p (lentE T sz r) else lentR i r))
        | none => False
      | _ => False
    | _ => False) := rfl
theorem st_callv (G : FuncId → List D → D → Prop) (dd : Option Nat) (fs : List FuncId) (x : Opd) (args : List Opd) (g : Option (Nat × Bool)) (K : St → Prop) (s : St) : step G ⟨dd, .callv fs x args, g⟩ K s = (match (x.ev s.r).toD false s.m 20, argsD s args with
    | some (.fn (.func f) a b), some ds => fs.contains f = true ∧ ∃ d, G f (a ++ ds ++ b) d ∧ K (s.put dd (.p d))
    | _, _ => False) := rfl
theorem st_callN (G : FuncId → List D → D → Prop) (dd : Option Nat) (f : FuncId) (T : TypeId) (args : List Opd) (g : Option (Nat × Bool)) (K : St → Prop) (s : St) : step G ⟨dd, .callN f T args, g⟩ K s = (match argsD s args with
    | some ds => match s.m (dd.getD 0) with
      | none => ∃ sz l, G (f + LB * (8 + 1)) ds (.list T sz l) ∧ K ((⟨s.r, upd s.m (dd.getD 0) (some ⟨T, sz, .row l, false⟩)⟩ : St).put dd (.slice (dd.getD 0) 0 l.length))
      | some _ => False
    | none => False) := rfl
theorem oa_0 (s : St) (x : Opd) (l : List Opd) : opdAt s 0 (x :: l) = x.ev s.r := rfl
theorem oa_1 (s : St) (x y : Opd) (l : List Opd) : opdAt s 1 (x :: y :: l) = y.ev s.r := rfl
theorem al_0 (s : St) (d : D) (x : Opd) (l : List Opd) : argsDL s d 0 (x :: l) = (match argsD s l with
    | some ds => some (d :: ds)
    | none => none) := rfl
theorem al_1 (s : St) (d : D) (x y : Opd) (l : List Opd) : argsDL s d 1 (x :: y :: l) = (match (x.ev s.r).toD false s.m 20, (match argsD s l with
    | some ds => some (d :: ds)
    | none => none) with
    | some e, some es => some (e :: es)
    | _, _ => none) := rfl
theorem lr_pre (i : Nat) (m : Int) : lentR i (.tup [.int .i64 m]) = .slice i 0 m.toNat := rfl
theorem lr_nil (i : Nat) : lentR i (.tup []) = .p (.tup []) := rfl
theorem lr_int (i : Nat) (k : IntKind) (m : Int) : lentR i (.int k m) = .p (.int k m) := rfl
theorem le_pre (T sz : Nat) (m : Int) : lentE T sz (.tup [.int .i64 m]) = .list T sz [] := rfl
theorem le_nil (T sz : Nat) : lentE T sz (.tup []) = .tup [] := rfl
theorem initL1 (T sz : Nat) (l : List D) (a : D) : initL 0 T sz l [a] = ⟨look [(0, .slice 999999 0 l.length)], lookM [(999999, ⟨T, sz, .row l, false⟩)]⟩ := by
  unfold initL; congr 1; funext t
  match t with
  | 0 => rfl
  | k + 1 => simp [look]
theorem initL2 (T sz : Nat) (l : List D) (a b : D) : initL 0 T sz l [a, b] = ⟨look [(0, .slice 999999 0 l.length), (1, .p b)], lookM [(999999, ⟨T, sz, .row l, false⟩)]⟩ := by
  unfold initL; congr 1; funext t
  match t with
  | 0 => rfl
  | 1 => rfl
  | k + 2 => simp [look]
theorem initL3 (T sz : Nat) (l : List D) (a b c : D) : initL 0 T sz l [a, b, c] = ⟨look [(0, .slice 999999 0 l.length), (1, .p b), (2, .p c)], lookM [(999999, ⟨T, sz, .row l, false⟩)]⟩ := by
  unfold initL; congr 1; funext t
  match t with
  | 0 => rfl
  | 1 => rfl
  | 2 => rfl
  | k + 3 => simp [look]
theorem initL4 (T sz : Nat) (l : List D) (a b c d : D) : initL 0 T sz l [a, b, c, d] = ⟨look [(0, .slice 999999 0 l.length), (1, .p b), (2, .p c), (3, .p d)], lookM [(999999, ⟨T, sz, .row l, false⟩)]⟩ := by
  unfold initL; congr 1; funext t
  match t with
  | 0 => rfl
  | 1 => rfl
  | 2 => rfl
  | 3 => rfl
  | k + 4 => simp [look]
theorem initL5 (T sz : Nat) (l : List D) (a b c d e : D) : initL 0 T sz l [a, b, c, d, e] = ⟨look [(0, .slice 999999 0 l.length), (1, .p b), (2, .p c), (3, .p d), (4, .p e)], lookM [(999999, ⟨T, sz, .row l, false⟩)]⟩ := by
  unfold initL; congr 1; funext t
  match t with
  | 0 => rfl
  | 1 => rfl
  | 2 => rfl
  | 3 => rfl
  | 4 => rfl
  | k + 5 => simp [look]
theorem initL6 (T sz : Nat) (l : List D) (a b c d e f : D) : initL 0 T sz l [a, b, c, d, e, f] = ⟨look [(0, .slice 999999 0 l.length), (1, .p b), (2, .p c), (3, .p d), (4, .p e), (5, .p f)], lookM [(999999, ⟨T, sz, .row l, false⟩)]⟩ := by
  unfold initL; congr 1; funext t
  match t with
  | 0 => rfl
  | 1 => rfl
  | 2 => rfl
  | 3 => rfl
  | 4 => rfl
  | 5 => rfl
  | k + 6 => simp [look]
theorem endsL_ret (T sz : Nat) (l' : List D) (r : D) (rs : List (Nat × Option (Bool × Nat))) (s : St) : EndsL T sz l' r rs .ret s = (s.m 999999 = some ⟨T, sz, .row l', false⟩ ∧ ResLt s rs r) := rfl
theorem endsL_normal (T sz : Nat) (l' : List D) (r : D) (rs : List (Nat × Option (Bool × Nat))) (s : St) : EndsL T sz l' r rs .normal s = (s.m 999999 = some ⟨T, sz, .row l', false⟩ ∧ ResLt s rs r) := rfl
theorem endsL_exit (T sz : Nat) (l' : List D) (r : D) (rs : List (Nat × Option (Bool × Nat))) (i : Nat) (s : St) : EndsL T sz l' r rs (.exit i) s = False := rfl
theorem st_indexAddrA (G : FuncId → List D → D → Prop) (dd : Option Nat) (n esz : Nat) (ag : Bool) (x i : Opd) (g : Option (Nat × Bool)) (K : St → Prop) (s : St) : step G ⟨dd, .indexAddrA n esz ag x i, g⟩ K s = fin dd K (ev (.indexAddrA n esz ag x i) (dd.getD 0) s) := rfl
theorem ev_indexAddrA (n esz : Nat) (ag : Bool) (x i : Opd) (id : Nat) (s : St) : ev (.indexAddrA n esz ag x i) id s = (match x.ev s.r, asI (i.ev s.r) with
    | .ptr j k off, some q => some (decide (0 ≤ q ∧ q < n), .ptr j k (off + q.toNat * esz), s)
    | .p (.ref d), some q => match d.part (q.toNat * esz) esz ag with
      | some e => some (decide (0 ≤ q ∧ q < n), .p (.ref e), s)
      | none => none
    | _, _ => none) := rfl
theorem st_indexA (G : FuncId → List D → D → Prop) (dd : Option Nat) (n esz : Nat) (ag : Bool) (x i : Opd) (g : Option (Nat × Bool)) (K : St → Prop) (s : St) : step G ⟨dd, .indexA n esz ag x i, g⟩ K s = fin dd K (ev (.indexA n esz ag x i) (dd.getD 0) s) := rfl
theorem ev_indexA (n esz : Nat) (ag : Bool) (x i : Opd) (id : Nat) (s : St) : ev (.indexA n esz ag x i) id s = (match asI (i.ev s.r) with
    | some q => if (x.ev s.r).isAgg = some true then match (x.ev s.r).part (q.toNat * esz) esz ag with
      | some v => some (decide (0 ≤ q ∧ q < n), v, s)
      | none => none else none
    | none => none) := rfl
theorem st_copyS (G : FuncId → List D → D → Prop) (dd : Option Nat) (T sz bytes : Nat) (y : Opd) (g : Option (Nat × Bool)) (K : St → Prop) (s : St) : step G ⟨dd, .copyS T sz bytes y, g⟩ K s = fin dd K (ev (.copyS T sz bytes y) (dd.getD 0) s) := rfl
theorem ev_copyS (T sz bytes : Nat) (y : Opd) (id : Nat) (s : St) : ev (.copyS T sz bytes y) id s = (match s.m id, elemsOf sz s.m (y.ev s.r) with
    | none, some ys => some (decide (ys.length * bytes ≤ 140737488355328 ∧ ys.length ≤ 9223372036854775807), .slice id 0 ys.length, ⟨s.r, upd s.m id (some ⟨T, sz, .row ys, false⟩)⟩)
    | _, _ => none) := rfl
theorem st_copyF (G : FuncId → List D → D → Prop) (dd : Option Nat) (T sz bytes : Nat) (y : Opd) (g : Option (Nat × Bool)) (K : St → Prop) (s : St) : step G ⟨dd, .copyF T sz bytes y, g⟩ K s = fin dd K (ev (.copyF T sz bytes y) (dd.getD 0) s) := rfl
theorem ev_copyF (T sz bytes : Nat) (y : Opd) (id : Nat) (s : St) : ev (.copyF T sz bytes y) id s = (if id = 999999 then none else match s.m id, elemsOf sz s.m (y.ev s.r) with
    | none, some ys => some (decide (ys.length * bytes ≤ 140737488355328 ∧ ys.length ≤ 9223372036854775807), .slice id 0 ys.length, ⟨s.r, upd s.m id (some ⟨T, sz, .row ys, true⟩)⟩)
    | _, _ => none) := rfl
theorem st_fnv (G : FuncId → List D → D → Prop) (dd : Option Nat) (fn : Fn) (x y : List Opd) (g : Option (Nat × Bool)) (K : St → Prop) (s : St) : step G ⟨dd, .fnv fn x y, g⟩ K s = fin dd K (ev (.fnv fn x y) (dd.getD 0) s) := rfl
theorem ev_fnv (fn : Fn) (x y : List Opd) (id : Nat) (s : St) : ev (.fnv fn x y) id s = (match opdsD s.r s.m x, opdsD s.r s.m y with
    | some l, some k => some (true, .p (.fn fn l k), s)
    | _, _ => none) := rfl
theorem od_nil (r : Nat → AV) (M : Mem) : opdsD r M [] = some [] := rfl
theorem od_cons (r : Nat → AV) (M : Mem) (x : Opd) (l : List Opd) : opdsD r M (x :: l) = (match (x.ev r).toD false M 20, opdsD r M l with
    | some d, some ds => some (d :: ds)
    | _, _ => none) := rfl
theorem toD_ptr (any : Bool) (M : Mem) (id i off : Nat) : AV.toD any M 20 (.ptr id i off) = (if i = 0 ∧ off = 0 then match M id with
      | some o => match o.cont with
        | .box v => if o.frz || any then (AV.toD any M 19 v).map .ref else none
        | _ => none
      | none => none else none) := rfl
theorem toD_p19 (any : Bool) (M : Mem) (d : D) : AV.toD any M 19 (.p d) = some d := rfl
theorem st_sliceA (G : FuncId → List D → D → Prop) (dd : Option Nat) (n : Nat) (x : Opd) (lo hi mx : Option Opd) (g : Option (Nat × Bool)) (K : St → Prop) (s : St) : step G ⟨dd, .sliceA n x lo hi mx, g⟩ K s = fin dd K (ev (.sliceA n x lo hi mx) (dd.getD 0) s) := rfl
theorem ev_sliceA (n : Nat) (x : Opd) (lo hi mx : Option Opd) (id : Nat) (s : St) : ev (.sliceA n x lo hi mx) id s = (match x.ev s.r with
    | .ptr i 0 off => match s.m i with
      | some ⟨_, osz, .box _, _⟩ => if off + n ≤ osz ∧ n ≤ 9223372036854775807 then match bounds s.r n lo hi mx with
        | some (c, l, h) => some (c, .arr i (off + l) (h - l), s)
        | none => none else none
      | _ => none
    | _ => none) := rfl
theorem toD_arr (any : Bool) (M : Mem) (id off len : Nat) : AV.toD any M 20 (.arr id off len) = (match M id with
      | some o => match o.cont with
        | .box (.p d) => if (o.frz || any) && decide (off + len ≤ d.cells.length) && decide (len ≤ 9223372036854775807) then some (.list 1000000 1 ((d.cells.drop off).take len)) else none
        | _ => none
      | none => none) := rfl
theorem forget_arr (i j o n : Nat) : AV.forget i (.arr j o n) = if j = i then .und else .arr j o n := by unfold AV.forget; rfl
theorem st_copyA (G : FuncId → List D → D → Prop) (dd : Option Nat) (x y : Opd) (g : Option (Nat × Bool)) (K : St → Prop) (s : St) : step G ⟨dd, .copyA x y, g⟩ K s = fin dd K (ev (.copyA x y) (dd.getD 0) s) := rfl
theorem ev_copyA (x y : Opd) (id : Nat) (s : St) : ev (.copyA x y) id s = (match x.ev s.r, elemsOf 1 s.m (y.ev s.r) with
    | .arr i off len, some ys => match s.m i with
      | some ⟨T, osz, .box u, false⟩ => if off + len ≤ osz ∧ ys.all D.one = true then
          some (decide (ys.length ≤ len), .p (.int .i64 (ys.length : Nat)), ⟨s.r, upd s.m i (some ⟨T, osz, .box (AV.mk (u.cells.take off ++ ys.map .p ++ u.cells.drop (off + ys.length))), false⟩)⟩) else none
      | _ => none
    | _, _ => none) := rfl
theorem st_clearS (G : FuncId → List D → D → Prop) (dd : Option Nat) (sz : Nat) (z : D) (x : Opd) (g : Option (Nat × Bool)) (K : St → Prop) (s : St) : step G ⟨dd, .clearS sz z x, g⟩ K s = fin dd K (ev (.clearS sz z x) (dd.getD 0) s) := rfl
theorem ev_clearS (sz : Nat) (z : D) (x : Opd) (id : Nat) (s : St) : ev (.clearS sz z x) id s = (match x.ev s.r with
    | .slice i off len => match s.m i with
      | some ⟨T, osz, .row l, false⟩ => if osz = sz then some (decide (off + len ≤ l.length), .und, ⟨s.r, upd s.m i (some ⟨T, osz, .row (l.take off ++ List.replicate len z ++ l.drop (off + len)), false⟩)⟩) else none
      | _ => none
    | _ => none) := rfl
theorem st_isNil (G : FuncId → List D → D → Prop) (dd : Option Nat) (neg : Bool) (x : Opd) (g : Option (Nat × Bool)) (K : St → Prop) (s : St) : step G ⟨dd, .isNil neg x, g⟩ K s = (match x.ev s.r with
    | .nils _ _ => K (s.put dd (.p (.bool (!neg))))
    | .p (.list _ _ l) => ∀ b : Bool, (l ≠ [] → b = false) → K (s.put dd (.p (.bool (b != neg))))
    | _ => False) := rfl
theorem endsN_ret (T sz : Nat) (l : List D) (rs : List (Nat × Option (Bool × Nat))) (s : St) : EndsN T sz l rs .ret s = ResNew s rs T sz l := rfl
theorem endsN_normal (T sz : Nat) (l : List D) (rs : List (Nat × Option (Bool × Nat))) (s : St) : EndsN T sz l rs .normal s = ResNew s rs T sz l := rfl
theorem endsN_exit (T sz : Nat) (l : List D) (rs : List (Nat × Option (Bool × Nat))) (i : Nat) (s : St) : EndsN T sz l rs (.exit i) s = False := rfl
theorem bd_and (k : IntKind) (a b : Int) : binD .and (.int k a) (.int k b) = some (bitB k a b, .int k (bitN .and a.toNat b.toNat : Nat)) := by simp [binD]
theorem bd_or (k : IntKind) (a b : Int) : binD .or (.int k a) (.int k b) = some (bitB k a b, .int k (bitN .or a.toNat b.toNat : Nat)) := by simp [binD]
theorem bd_xor (k : IntKind) (a b : Int) : binD .xor (.int k a) (.int k b) = some (bitB k a b, .int k (bitN .xor a.toNat b.toNat : Nat)) := by simp [binD]
theorem bd_anot (k : IntKind) (a b : Int) : binD .andNot (.int k a) (.int k b) = some (bitB k a b, .int k (bitN .andNot a.toNat b.toNat : Nat)) := by simp [binD]
theorem bd_shr (k k' : IntKind) (a b : Int) : binD .shr (.int k a) (.int k' b) = some (decide (0 ≤ b ∧ b < k.bits), .int k (a / 2 ^ b.toNat)) := by simp [binD]
theorem bd_shl (k k' : IntKind) (a b : Int) : binD .shl (.int k a) (.int k' b) = some (decide (0 ≤ b ∧ b < k.bits) && inK k (a * 2 ^ b.toNat), .int k (a * 2 ^ b.toNat)) := by simp [binD]
def csL := And.intro @bd_and (And.intro @bd_or (And.intro @bd_xor (And.intro @bd_anot (And.intro @bd_shr (And.intro @bd_shl (And.intro @st_isNil (And.intro @ev_clearS (And.intro @st_clearS (And.intro @ev_copyA (And.intro @st_copyA (And.intro @forget_arr (And.intro @toD_arr (And.intro @ev_sliceA (And.intro @st_sliceA (And.intro @Option.map_some.{0,0} (And.intro @toD_p19 (And.intro @toD_ptr (And.intro @od_cons (And.intro @od_nil (And.intro @ev_fnv (And.intro @st_fnv (And.intro @ev_copyF (And.intro @st_copyF (And.intro @ev_copyS (And.intro @st_copyS (And.intro @ev_indexA (And.intro @st_indexA (And.intro @ev_indexAddrA (And.intro @st_indexAddrA (And.intro @st_callN (And.intro @endsN_ret (And.intro @endsN_normal (And.intro @endsN_exit (And.intro @st_callL (And.intro @st_callv (And.intro @oa_0 (And.intro @oa_1 (And.intro @al_0 (And.intro @al_1 (And.intro @lr_pre (And.intro @lr_nil (And.intro @lr_int (And.intro @le_pre (And.intro @le_nil (And.intro @endsL_ret (And.intro @endsL_normal @endsL_exit))))))))))))))))))))))))))))))))))))))))))))))
/-- A function without results, or whose result is plain data. -/
theorem ResLt.unit (s : St) : ResLt s [] (.tup []) := .plain rfl (fun m h => by cases h)
theorem ResLt.one {s : St} {t : Nat} {d : D} (h : s.r t = .p d) (hd : ∀ m, d ≠ .tup [.int .i64 m]) : ResLt s [(t, none)] d := .plain (by simp [resD, resL, resV, unlent, h, toD_p]) hd
/-- What is promised of a call to which slice l is lent, whatever its length. -/
def LentC (P : Program) (A : List TypeId) (f : FuncId) (k : Nat) (ds : List D) (T sz : Nat) (l : List D) (r : D) (l' : List D) : Prop :=
  f < LB ∧ ds[k]? = some (.list T sz l) ∧ l'.length = l.length ∧ (l = [] → Con P A f ds (lentE T sz r)) ∧ (l ≠ [] → ConLent P A f k ds T sz l r l')
theorem LentC.x {P : Program} {A : List TypeId} {f : FuncId} {k : Nat} {ds : List D} {T sz : Nat} {l : List D} {r : D} {l' : List D} (h : LentC P A f k ds T sz l r l') : ConX P A (f + LB * (k + 1)) ds (.tup [r, .list T sz l']) :=
  .lent h.1 h.2.1 h.2.2.1 h.2.2.2.1 h.2.2.2.2
/-- An ordinary promise of a call whose result is a new slice. -/
theorem ConNew.x {P : Program} {A : List TypeId} {f : FuncId} {ds : List D} {T sz : Nat} {l : List D} (h : ConNew P A f ds T sz l) (hf : f < LB := by decide) : ConX P A (f + LB * (8 + 1)) ds (.list T sz l) := .fresh hf h

end Go.Proofs.Ytlnhembcfhfpkaa.M
