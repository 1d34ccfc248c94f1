/- Sums, differences, products and their order: the program's walks. -/
import Derived.Test.YtbbidekjbgjooaaNumA
import Derived.Test.YtbbidekjbgjooaaOwn
namespace Go.Proofs.Ytbbidekjbgjooaa
open Go.RowKit

theorem infoU32 : (Try.prog.info? 93).map (fun i => (i.zero, i.size, i.bytes)) = some (some (.int .u32 0), 1, 4) := by kernel_rfl

set_option maxHeartbeats 400000 in
theorem add32 (x y c : Int) (w : World) (hx : 0 ≤ x ∧ x ≤ 4294967295) (hy : 0 ≤ y ∧ y ≤ 4294967295) (hc : 0 ≤ c ∧ c ≤ 1) :
    Calls Try.prog 88 #[.int .u32 x, .int .u32 y, .int .u32 c] w (fun e w' => e = .returned (.tuple #[.int .u32 ((x + y + c) % 4294967296), .int .u32 ((x + y + c) / 4294967296)]) ∧ w = w') := by
  go_enter Try.func88, Try.ntmps88
  go_wp2
  go_ret2
  exact ⟨rfl, rfl⟩

/-- The borrow. -/
def bor (x y c : Int) : Int := if x - y - c < 0 then 1 else 0

theorem top_and (a b : Nat) (ha : a < 4294967296) (hb : b < 4294967296) : (a &&& b) / 2147483648 = (a / 2147483648) * (b / 2147483648) := by
  have h : (a &&& b) / 2 ^ 31 = (a / 2 ^ 31) &&& (b / 2 ^ 31) := Nat.and_div_two_pow
  simp only [Nat.reducePow] at h
  rw [h]
  have h1 : a / 2147483648 < 2 := by omega
  have h2 : b / 2147483648 < 2 := by omega
  generalize a / 2147483648 = p at *
  generalize b / 2147483648 = q at *
  match p, h1, q, h2 with
  | 0, _, 0, _ => rfl
  | 0, _, 1, _ => rfl
  | 1, _, 0, _ => rfl
  | 1, _, 1, _ => rfl

theorem top_or (a b : Nat) (ha : a < 4294967296) (hb : b < 4294967296) : (a ||| b) / 2147483648 = max (a / 2147483648) (b / 2147483648) := by
  have h : (a ||| b) / 2 ^ 31 = (a / 2 ^ 31) ||| (b / 2 ^ 31) := Nat.or_div_two_pow
  simp only [Nat.reducePow] at h
  rw [h]
  have h1 : a / 2147483648 < 2 := by omega
  have h2 : b / 2147483648 < 2 := by omega
  generalize a / 2147483648 = p at *
  generalize b / 2147483648 = q at *
  match p, h1, q, h2 with
  | 0, _, 0, _ => rfl
  | 0, _, 1, _ => rfl
  | 1, _, 0, _ => rfl
  | 1, _, 1, _ => rfl

theorem top_xor (a b : Nat) (ha : a < 4294967296) (hb : b < 4294967296) : (a ^^^ b) / 2147483648 = (a / 2147483648 + b / 2147483648) % 2 := by
  have h : (a ^^^ b) / 2 ^ 31 = (a / 2 ^ 31) ^^^ (b / 2 ^ 31) := Nat.xor_div_two_pow
  simp only [Nat.reducePow] at h
  rw [h]
  have h1 : a / 2147483648 < 2 := by omega
  have h2 : b / 2147483648 < 2 := by omega
  generalize a / 2147483648 = p at *
  generalize b / 2147483648 = q at *
  match p, h1, q, h2 with
  | 0, _, 0, _ => rfl
  | 0, _, 1, _ => rfl
  | 1, _, 0, _ => rfl
  | 1, _, 1, _ => rfl

theorem not_u32 (a : Nat) (ha : a < 4294967296) : 4294967295 ^^^ a < 4294967296 := Nat.xor_lt_two_pow (n := 32) (by omega) ha

theorem borrow_nat (x y d : Nat) (hx : x < 4294967296) (hy : y < 4294967296) (hd : d < 4294967296) :
    (((4294967295 ^^^ x) &&& y) ||| ((4294967295 ^^^ (x ^^^ y)) &&& d)) / 2147483648 = max ((1 - x / 2147483648) * (y / 2147483648)) ((1 - (x / 2147483648 + y / 2147483648) % 2) * (d / 2147483648)) := by
  have hxy : x ^^^ y < 4294967296 := Nat.xor_lt_two_pow (n := 32) hx hy
  have h1 := not_u32 x hx
  have h2 := not_u32 _ hxy
  have h3 : (4294967295 ^^^ x) &&& y < 4294967296 := Nat.and_lt_two_pow (n := 32) _ hy
  have h4 : (4294967295 ^^^ (x ^^^ y)) &&& d < 4294967296 := Nat.and_lt_two_pow (n := 32) _ hd
  rw [top_or _ _ h3 h4, top_and _ _ h1 hy, top_and _ _ h2 hd, top_xor _ _ (by omega) hx, top_xor _ _ (by omega) hxy, top_xor _ _ hx hy]
  congr 1
  · congr 1; omega
  · congr 1; omega

theorem borrow_bits (x y c : Int) (hx : 0 ≤ x ∧ x ≤ 4294967295) (hy : 0 ≤ y ∧ y ≤ 4294967295) (hc : 0 ≤ c ∧ c ≤ 1) :
    bits BinOp.or IntKind.u32 (bits BinOp.and IntKind.u32 (bits BinOp.xor IntKind.u32 IntKind.u32.max x) y)
      (bits BinOp.and IntKind.u32 (bits BinOp.xor IntKind.u32 IntKind.u32.max (bits BinOp.xor IntKind.u32 x y)) ((x - y - c) % 4294967296)) / 2147483648 = bor x y c := by
  obtain ⟨a, rfl⟩ := Int.eq_ofNat_of_zero_le hx.1
  obtain ⟨b, rfl⟩ := Int.eq_ofNat_of_zero_le hy.1
  obtain ⟨d, hd⟩ := Int.eq_ofNat_of_zero_le (a := ((a : Int) - b - c) % 4294967296) (by omega)
  have hd' : d < 4294967296 := by omega
  have ha : a < 4294967296 := by omega
  have hb : b < 4294967296 := by omega
  have hm : IntKind.u32.max = ((4294967295 : Nat) : Int) := by decide
  have hxy : a ^^^ b < 4294967296 := Nat.xor_lt_two_pow (n := 32) ha hb
  have h1 := not_u32 a ha
  have h2 := not_u32 _ hxy
  have h3 : (4294967295 ^^^ a) &&& b < 4294967296 := Nat.and_lt_two_pow (n := 32) _ hb
  have h4 : (4294967295 ^^^ (a ^^^ b)) &&& d < 4294967296 := Nat.and_lt_two_pow (n := 32) _ hd'
  rw [hd, hm, u32_xor_nat _ _ (by omega) ha, u32_xor_nat _ _ ha hb, u32_xor_nat _ _ (by omega) hxy, u32_and_nat _ _ h1 hb, u32_and_nat _ _ h2 hd', u32_or_nat _ _ h3 h4]
  have := borrow_nat a b d ha hb hd'
  have e : (((((4294967295 ^^^ a) &&& b) ||| ((4294967295 ^^^ (a ^^^ b)) &&& d) : Nat) : Int)) / 2147483648 = ((((((4294967295 ^^^ a) &&& b) ||| ((4294967295 ^^^ (a ^^^ b)) &&& d)) / 2147483648 : Nat)) : Int) := by omega
  rw [e, this]
  unfold bor
  have ha2 : a / 2147483648 < 2 := by omega
  have hb2 : b / 2147483648 < 2 := by omega
  have hd2 : d / 2147483648 < 2 := by omega
  split
  · generalize hp : a / 2147483648 = p at *
    generalize hq : b / 2147483648 = q at *
    generalize hr : d / 2147483648 = r at *
    match p, ha2, q, hb2, r, hd2 with
    | 0, _, 0, _, 0, _ => omega
    | 0, _, 0, _, 1, _ => rfl
    | 0, _, 1, _, 0, _ => rfl
    | 0, _, 1, _, 1, _ => rfl
    | 1, _, 0, _, 0, _ => omega
    | 1, _, 0, _, 1, _ => omega
    | 1, _, 1, _, 0, _ => omega
    | 1, _, 1, _, 1, _ => rfl
  · generalize hp : a / 2147483648 = p at *
    generalize hq : b / 2147483648 = q at *
    generalize hr : d / 2147483648 = r at *
    match p, ha2, q, hb2, r, hd2 with
    | 0, _, 0, _, 0, _ => rfl
    | 0, _, 0, _, 1, _ => omega
    | 0, _, 1, _, 0, _ => omega
    | 0, _, 1, _, 1, _ => omega
    | 1, _, 0, _, 0, _ => rfl
    | 1, _, 0, _, 1, _ => rfl
    | 1, _, 1, _, 0, _ => rfl
    | 1, _, 1, _, 1, _ => omega

set_option maxHeartbeats 400000 in
theorem sub32 (x y c : Int) (w : World) (hx : 0 ≤ x ∧ x ≤ 4294967295) (hy : 0 ≤ y ∧ y ≤ 4294967295) (hc : 0 ≤ c ∧ c ≤ 1) :
    Calls Try.prog 90 #[.int .u32 x, .int .u32 y, .int .u32 c] w (fun e w' => e = .returned (.tuple #[.int .u32 ((x - y - c) % 4294967296), .int .u32 (bor x y c)]) ∧ w = w') := by
  have H := borrow_bits x y c hx hy hc
  go_enter Try.func90, Try.ntmps90
  go_wp2
  go_ret2
  exact ⟨rfl, rfl⟩

set_option maxHeartbeats 400000 in
theorem cmpI (x y : Int) (w : World) :
    Calls Try.prog 79 #[.int .i64 x, .int .i64 y] w (fun e w' => e = .returned (.int .i64 (cmpZ x y)) ∧ w = w') := by
  rcases Int.lt_trichotomy x y with h | h | h
  · have H := hd_ (cmpZ_lt h)
    go_enter Try.func79, Try.ntmps79
    go_wp2
    go_ret
    exact ⟨by rw [H.out]; rfl, rfl⟩
  · subst h
    have H := hd_ (cmpZ_eq (x := x) rfl)
    go_enter Try.func79, Try.ntmps79
    go_wp2
    go_ret
    exact ⟨by rw [H.out]; rfl, rfl⟩
  · have H := hd_ (cmpZ_gt h)
    go_enter Try.func79, Try.ntmps79
    go_wp2
    go_ret
    exact ⟨by rw [H.out]; rfl, rfl⟩

set_option maxHeartbeats 400000 in
theorem cmpU (x y : Int) (w : World) :
    Calls Try.prog 89 #[.int .u32 x, .int .u32 y] w (fun e w' => e = .returned (.int .i64 (cmpZ x y)) ∧ w = w') := by
  rcases Int.lt_trichotomy x y with h | h | h
  · have H := hd_ (cmpZ_lt h)
    go_enter Try.func89, Try.ntmps89
    go_wp2
    go_ret
    exact ⟨by rw [H.out]; rfl, rfl⟩
  · subst h
    have H := hd_ (cmpZ_eq (x := x) rfl)
    go_enter Try.func89, Try.ntmps89
    go_wp2
    go_ret
    exact ⟨by rw [H.out]; rfl, rfl⟩
  · have H := hd_ (cmpZ_gt h)
    go_enter Try.func89, Try.ntmps89
    go_wp2
    go_ret
    exact ⟨by rw [H.out]; rfl, rfl⟩

end Go.Proofs.Ytbbidekjbgjooaa
