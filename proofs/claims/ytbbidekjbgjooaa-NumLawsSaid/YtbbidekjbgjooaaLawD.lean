/- NumLaws: the walk. -/
import Derived.Test.YtbbidekjbgjooaaLawC
namespace Go.Proofs.Ytbbidekjbgjooaa
open Go.RowKit

set_option maxRecDepth 100000 in
set_option maxHeartbeats 8000000 in
theorem laws_any (t u v : List UInt8) (w : World) (ht : t.length ≤ 9223372036854775807) (hu : u.length ≤ 9223372036854775807) (hv : v.length ≤ 9223372036854775807) :
    Calls Try.prog 5 #[.string (bs t), .string (bs u), .string (bs v)] w (fun e w' => e = .returned (.bool true) ∧ Ext w w') := by
  obtain ⟨a, hA⟩ : ∃ a, a = parseZ t := ⟨_, rfl⟩
  obtain ⟨b, hB⟩ : ∃ b, b = parseZ u := ⟨_, rfl⟩
  obtain ⟨c, hC⟩ : ∃ c, c = parseZ v := ⟨_, rfl⟩
  have BA : Bt a 4000 := by rw [hA]; exact parseZ_bt t
  have BB : Bt b 4000 := by rw [hB]; exact parseZ_bt u
  have BC : Bt c 4000 := by rw [hC]; exact parseZ_bt v
  have hback := hd_ (parse_back t)
  have hlen : (dec a).length ≤ 1001 := by rw [hA]; exact hback.out.2.2
  have hlb : decide ((1001 : Int) < ((dec a).length : Int)) = false := decide_eq_false (by omega)
  replace hA := hd_ hA; replace hB := hd_ hB; replace hC := hd_ hC
  have q1 : cmpZ ((a + b) * c) ((a * c) + (b * c)) = 0 := cmpZ_eq (Int.add_mul ..)
  have q2 : cmpZ ((a - b) + b) a = 0 := cmpZ_eq (by omega)
  have q3 : cmpZ (a * b) (b * a) = 0 := cmpZ_eq (Int.mul_comm ..)
  have q4 : cmpZ ((a * b) * c) (a * (b * c)) = 0 := cmpZ_eq (Int.mul_assoc ..)
  have q5 : -cmpZ b a = cmpZ a b := by unfold cmpZ; (repeat' split) <;> omega
  have q6 : sgnZ (a - b) = cmpZ a b := Z4.sgn_sub a b
  have q7 : cmpZ (a + (b + c)) ((a + b) + c) = 0 := cmpZ_eq (by omega)
  have q8 : cmpZ (Int.gcd (a * c) (b * c) : Int) ((Int.gcd a b : Int) * (Int.gcd c 0 : Int)) = 0 := cmpZ_eq (by rw [Int.gcd_mul_right, Int.gcd_zero_right]; simp)
  have q9 : -1 ≤ cmpZ b a ∧ cmpZ b a ≤ 1 := by rcases cmpZ_cases b a with h | h | h <;> rw [h] <;> omega
  have q9' : -1 ≤ cmpZ a b ∧ cmpZ a b ≤ 1 := by rcases cmpZ_cases a b with h | h | h <;> rw [h] <;> omega
  have q11 := IntWalk.i64_in (cmpZ a b) (by omega)
  have q12 := IntWalk.wrap64_in (cmpZ a b) (by omega)
  have q10 : cmpZ a a = 0 := cmpZ_eq rfl
  go_enter Try.func5, Try.ntmps5
  go_wp2_with fail
  refine (parse_any t _ ht).mono ?_
  rintro e w1 ⟨x, rfl, hx, h1⟩
  rw [← hA.out] at hx
  go_wp2_with fail
  refine (parse_any u _ hu).mono ?_
  rintro e w2 ⟨y, rfl, hy, h2⟩
  rw [← hB.out] at hy
  have z2 := h2.size
  simp only [World.size_alloc] at z2
  go_wp2_with fail
  refine (parse_any v _ hv).mono ?_
  rintro e w3 ⟨z, rfl, hz, h3⟩
  rw [← hC.out] at hz
  have z3 := h3.size
  simp only [World.size_alloc] at z3
  go_wp2_with fail
  obtain ⟨w5, hw5⟩ : ∃ w5, w5 = (w3.alloc (Obj.cells #[Value.bool z.n, Value.slice z.s.a z.s.len z.s.cap] 24)).alloc (Obj.cells #[Value.int .i64 (parseC v), Value.int .i64 (parseP v)] 26) := ⟨_, rfl⟩
  have g3 : Ext w3 w5 := by rw [hw5]; exact ((Ext.rf w3).al _).al _
  have g2 := ((((Ext.rf w2).al _).al _).tr h3).tr g3
  have g1 := ((((Ext.rf w1).al _).al _).tr h2).tr g2
  have k1 : w5.cell? ⟨w1.heap.size, 0, none⟩ = some (Value.bool x.n) := cell_later (h2.tr g2) (by simp [go_sem])
  have k2 : w5.cell? ⟨w1.heap.size, 1, none⟩ = some (Value.slice x.s.a x.s.len x.s.cap) := cell_later (h2.tr g2) (by simp [go_sem])
  have k5 : w5.cell? ⟨w2.heap.size, 0, none⟩ = some (Value.bool y.n) := cell_later (h3.tr g3) (by simp [go_sem])
  have k6 : w5.cell? ⟨w2.heap.size, 1, none⟩ = some (Value.slice y.s.a y.s.len y.s.cap) := cell_later (h3.tr g3) (by simp [go_sem])
  have l1 : w5.cell? ⟨w3.heap.size, 0, none⟩ = some (Value.bool z.n) := by rw [hw5]; simp [go_sem]
  have l2 : w5.cell? ⟨w3.heap.size, 1, none⟩ = some (Value.slice z.s.a z.s.len z.s.cap) := by rw [hw5]; simp [go_sem]
  have b3 : w3.heap.size < w5.heap.size := by rw [hw5]; simp; omega
  have HX := hd_ (hx.keep g1)
  have HY := hd_ (hy.keep g2)
  have HZ := hd_ (hz.keep g3)
  have G := hd_ (h1.tr g1)
  have b1 : w1.heap.size < w5.heap.size := by omega
  have b2 : w2.heap.size < w5.heap.size := by omega
  rw [← hw5]
  clear hx hy hz h1 h2 h3 g1 g2 g3 z2 z3 hw5
  refine wp_region_held_drew (S := (fun w' => Ext w5 w' ∧ (∀ b o, b < w5.heap.size → w'.cell? ⟨b, o, none⟩ = w5.cell? ⟨b, o, none⟩))) (by kernel_rfl) ?_ (fun hHeld => ?_)
  · (try dsimp only)
    (first | (with_reducible assumption) | (with_reducible exact held_of (Ext.rf _).dr) | (with_reducible exact held_of (Ext.dr (held_ext hHeld))) | (with_reducible exact held_of (Ext.tr (held_ext hHeld) hx)))
  refine wpAnyH_ready (rs := [0]) (by kernel_rfl) (by simp) ?_
  refine AllReadyH.cons (o := { dst := some 33, op := Go.Op.call { callee := Go.Callee.value (Go.Operand.func 11), args := #[], argTypes := #[] }, type := 4, pos := "law01.go:135", after := #[], guard := none }) rfl (fun K hK => ?_) AllReadyH.nil
  go_simp
  (go_at_call 11; ((with_reducible refine (begun_any _).mono ?_); rintro e w' ⟨rfl, hx⟩))
  (try go_wp2_with fail)
  refine hK.out _ _ ?_ (fun hHeld' => ?_)
  · (try dsimp only)
    (first | (with_reducible assumption) | (with_reducible exact held_of (Ext.rf _).dr) | (with_reducible exact held_of (Ext.dr (held_ext hHeld))) | (with_reducible exact held_of (Ext.tr (held_ext hHeld) hx)))
  clear hHeld
  have hHeld := hHeld'
  clear hHeld'
  clear hK K
  (try simp only [Act.put, List.setIfInBounds_toArray, List.set_cons_zero, List.set_cons_succ])
  refine wpAnyH_take (i := 1) (oi := { dst := some 34, op := Go.Op.unOp Go.UnOp.not 4 (Go.Operand.tmp 33), type := 4, pos := "law01.go:135", after := #[{ on := 0, ground := Go.Ground.data }], guard := none }) (v := ?_) rfl (by kernel_rfl) (by kernel_rfl) (by kernel_rfl) (fun _ _ _ h => h) (Or.inl ⟨by rfl, ?_⟩) hHeld ?_
  rotate_left
  · intro w hSw; (try dsimp only at hSw); go_simp; (try with_reducible rfl)
  (try simp only [Act.put, List.setIfInBounds_toArray, List.set_cons_zero, List.set_cons_succ])
  refine wpAnyH_take (i := 2) (oi := { dst := some 35, op := Go.Op.move (Go.Operand.tmp 34), type := 4, pos := "law01.go:135", after := #[{ on := 1, ground := Go.Ground.data }, { on := 0, ground := Go.Ground.chain }], guard := none }) (v := ?_) rfl (by kernel_rfl) (by kernel_rfl) (by kernel_rfl) (fun _ _ _ h => h) (Or.inl ⟨by rfl, ?_⟩) hHeld ?_
  rotate_left
  · intro w hSw; (try dsimp only at hSw); go_simp; (try with_reducible rfl)
  (try simp only [Act.put, List.setIfInBounds_toArray, List.set_cons_zero, List.set_cons_succ])
  refine wpAnyH_take (i := 3) (oi := { dst := some 36, op := Go.Op.load 24 (Go.Operand.tmp 7), type := 24, pos := "law01.go:135", after := #[{ on := 2, ground := Go.Ground.guard }], guard := some (2, false) }) (v := ?_) rfl (by kernel_rfl) (by kernel_rfl) (by kernel_rfl) (fun _ _ _ h => h) (Or.inl ⟨by rfl, ?_⟩) hHeld ?_
  rotate_left
  · intro w hSw; (try dsimp only at hSw); go_simp; (try with_reducible rfl)
  (try simp only [Act.put, List.setIfInBounds_toArray, List.set_cons_zero, List.set_cons_succ])
  refine wpAnyH_take (i := 4) (oi := { dst := some 37, op := Go.Op.load 24 (Go.Operand.tmp 9), type := 24, pos := "law01.go:135", after := #[{ on := 2, ground := Go.Ground.guard }], guard := some (2, false) }) (v := ?_) rfl (by kernel_rfl) (by kernel_rfl) (by kernel_rfl) (fun _ _ _ h => h) (Or.inl ⟨by rfl, ?_⟩) hHeld ?_
  rotate_left
  · intro w hSw; (try dsimp only at hSw); go_simp; (try with_reducible rfl)
  (try simp only [Act.put, List.setIfInBounds_toArray, List.set_cons_zero, List.set_cons_succ])
  refine wpAnyH_take (i := 6) (oi := { dst := some 39, op := Go.Op.load 24 (Go.Operand.tmp 11), type := 24, pos := "law01.go:135", after := #[{ on := 2, ground := Go.Ground.guard }], guard := some (2, false) }) (v := ?_) rfl (by kernel_rfl) (by kernel_rfl) (by kernel_rfl) (fun _ _ _ h => h) (Or.inl ⟨by rfl, ?_⟩) hHeld ?_
  rotate_left
  · intro w hSw; (try dsimp only at hSw); go_simp; (try with_reducible rfl)
  (try simp only [Act.put, List.setIfInBounds_toArray, List.set_cons_zero, List.set_cons_succ])
  refine wpAnyH_take (i := 8) (oi := { dst := some 41, op := Go.Op.load 24 (Go.Operand.tmp 7), type := 24, pos := "law01.go:135", after := #[{ on := 2, ground := Go.Ground.guard }], guard := some (2, false) }) (v := ?_) rfl (by kernel_rfl) (by kernel_rfl) (by kernel_rfl) (fun _ _ _ h => h) (Or.inl ⟨by rfl, ?_⟩) hHeld ?_
  rotate_left
  · intro w hSw; (try dsimp only at hSw); go_simp; (try with_reducible rfl)
  (try simp only [Act.put, List.setIfInBounds_toArray, List.set_cons_zero, List.set_cons_succ])
  refine wpAnyH_take (i := 9) (oi := { dst := some 42, op := Go.Op.load 24 (Go.Operand.tmp 11), type := 24, pos := "law01.go:135", after := #[{ on := 2, ground := Go.Ground.guard }], guard := some (2, false) }) (v := ?_) rfl (by kernel_rfl) (by kernel_rfl) (by kernel_rfl) (fun _ _ _ h => h) (Or.inl ⟨by rfl, ?_⟩) hHeld ?_
  rotate_left
  · intro w hSw; (try dsimp only at hSw); go_simp; (try with_reducible rfl)
  (try simp only [Act.put, List.setIfInBounds_toArray, List.set_cons_zero, List.set_cons_succ])
  refine wpAnyH_take (i := 11) (oi := { dst := some 44, op := Go.Op.load 24 (Go.Operand.tmp 9), type := 24, pos := "law01.go:135", after := #[{ on := 2, ground := Go.Ground.guard }], guard := some (2, false) }) (v := ?_) rfl (by kernel_rfl) (by kernel_rfl) (by kernel_rfl) (fun _ _ _ h => h) (Or.inl ⟨by rfl, ?_⟩) hHeld ?_
  rotate_left
  · intro w hSw; (try dsimp only at hSw); go_simp; (try with_reducible rfl)
  (try simp only [Act.put, List.setIfInBounds_toArray, List.set_cons_zero, List.set_cons_succ])
  refine wpAnyH_take (i := 12) (oi := { dst := some 45, op := Go.Op.load 24 (Go.Operand.tmp 11), type := 24, pos := "law01.go:135", after := #[{ on := 2, ground := Go.Ground.guard }], guard := some (2, false) }) (v := ?_) rfl (by kernel_rfl) (by kernel_rfl) (by kernel_rfl) (fun _ _ _ h => h) (Or.inl ⟨by rfl, ?_⟩) hHeld ?_
  rotate_left
  · intro w hSw; (try dsimp only at hSw); go_simp; (try with_reducible rfl)
  (try simp only [Act.put, List.setIfInBounds_toArray, List.set_cons_zero, List.set_cons_succ])
  refine wpAnyH_ready (rs := [5]) (by kernel_rfl) (by simp) ?_
  refine AllReadyH.cons (o := { dst := some 38, op := Go.Op.call { callee := Go.Callee.value (Go.Operand.func 22), args := #[Go.Operand.tmp 36, Go.Operand.tmp 37], argTypes := #[24, 24] }, type := 24, pos := "law01.go:135", after := #[{ on := 3, ground := Go.Ground.data }, { on := 4, ground := Go.Ground.data }, { on := 2, ground := Go.Ground.chain }, { on := 2, ground := Go.Ground.guard }], guard := some (2, false) }) rfl (fun K hK => ?_) AllReadyH.nil
  go_simp
  (go_at_call 22; ((with_reducible refine (add_any x y a b _ ((HX.out).keep (held_ext hHeld)) ((HY.out).keep (held_ext hHeld)) (((BA).add (BB)).sm (by omega))).mono ?_); rintro e w' ⟨y38, rfl, h38, hx⟩))
  (try go_wp2_with fail)
  refine hK.out _ _ ?_ (fun hHeld' => ?_)
  · (try dsimp only)
    (first | (with_reducible assumption) | (with_reducible exact held_of (Ext.rf _).dr) | (with_reducible exact held_of (Ext.dr (held_ext hHeld))) | (with_reducible exact held_of (Ext.tr (held_ext hHeld) hx)))
  clear hHeld
  have hHeld := hHeld'
  clear hHeld'
  clear hK K
  (try simp only [Act.put, List.setIfInBounds_toArray, List.set_cons_zero, List.set_cons_succ])
  refine wpAnyH_ready (rs := [7]) (by kernel_rfl) (by simp) ?_
  refine AllReadyH.cons (o := { dst := some 40, op := Go.Op.call { callee := Go.Callee.value (Go.Operand.func 26), args := #[Go.Operand.tmp 38, Go.Operand.tmp 39], argTypes := #[24, 24] }, type := 24, pos := "law01.go:135", after := #[{ on := 5, ground := Go.Ground.data }, { on := 6, ground := Go.Ground.data }, { on := 5, ground := Go.Ground.chain }, { on := 2, ground := Go.Ground.guard }], guard := some (2, false) }) rfl (fun K hK => ?_) AllReadyH.nil
  go_simp
  (go_at_call 26; ((with_reducible refine (mul_any y38 z (a + b) c _ h38 ((HZ.out).keep (held_ext hHeld)) ((((BA).add (BB)).mul (BC)).sm (by omega))).mono ?_); rintro e w' ⟨y40, rfl, h40, hx⟩))
  (try go_wp2_with fail)
  refine hK.out _ _ ?_ (fun hHeld' => ?_)
  · (try dsimp only)
    (first | (with_reducible assumption) | (with_reducible exact held_of (Ext.rf _).dr) | (with_reducible exact held_of (Ext.dr (held_ext hHeld))) | (with_reducible exact held_of (Ext.tr (held_ext hHeld) hx)))
  clear hHeld
  have hHeld := hHeld'
  clear hHeld'
  clear hK K
  (try simp only [Act.put, List.setIfInBounds_toArray, List.set_cons_zero, List.set_cons_succ])
  refine wpAnyH_ready (rs := [10]) (by kernel_rfl) (by simp) ?_
  refine AllReadyH.cons (o := { dst := some 43, op := Go.Op.call { callee := Go.Callee.value (Go.Operand.func 26), args := #[Go.Operand.tmp 41, Go.Operand.tmp 42], argTypes := #[24, 24] }, type := 24, pos := "law01.go:135", after := #[{ on := 8, ground := Go.Ground.data }, { on := 9, ground := Go.Ground.data }, { on := 7, ground := Go.Ground.chain }, { on := 2, ground := Go.Ground.guard }], guard := some (2, false) }) rfl (fun K hK => ?_) AllReadyH.nil
  go_simp
  (go_at_call 26; ((with_reducible refine (mul_any x z a c _ ((HX.out).keep (held_ext hHeld)) ((HZ.out).keep (held_ext hHeld)) (((BA).mul (BC)).sm (by omega))).mono ?_); rintro e w' ⟨y43, rfl, h43, hx⟩; replace h40 := h40.keep hx))
  (try go_wp2_with fail)
  refine hK.out _ _ ?_ (fun hHeld' => ?_)
  · (try dsimp only)
    (first | (with_reducible assumption) | (with_reducible exact held_of (Ext.rf _).dr) | (with_reducible exact held_of (Ext.dr (held_ext hHeld))) | (with_reducible exact held_of (Ext.tr (held_ext hHeld) hx)))
  clear hHeld
  have hHeld := hHeld'
  clear hHeld'
  clear hK K
  (try simp only [Act.put, List.setIfInBounds_toArray, List.set_cons_zero, List.set_cons_succ])
  refine wpAnyH_ready (rs := [13]) (by kernel_rfl) (by simp) ?_
  refine AllReadyH.cons (o := { dst := some 46, op := Go.Op.call { callee := Go.Callee.value (Go.Operand.func 26), args := #[Go.Operand.tmp 44, Go.Operand.tmp 45], argTypes := #[24, 24] }, type := 24, pos := "law01.go:135", after := #[{ on := 11, ground := Go.Ground.data }, { on := 12, ground := Go.Ground.data }, { on := 10, ground := Go.Ground.chain }, { on := 2, ground := Go.Ground.guard }], guard := some (2, false) }) rfl (fun K hK => ?_) AllReadyH.nil
  go_simp
  (go_at_call 26; ((with_reducible refine (mul_any y z b c _ ((HY.out).keep (held_ext hHeld)) ((HZ.out).keep (held_ext hHeld)) (((BB).mul (BC)).sm (by omega))).mono ?_); rintro e w' ⟨y46, rfl, h46, hx⟩; replace h40 := h40.keep hx; replace h43 := h43.keep hx))
  (try go_wp2_with fail)
  refine hK.out _ _ ?_ (fun hHeld' => ?_)
  · (try dsimp only)
    (first | (with_reducible assumption) | (with_reducible exact held_of (Ext.rf _).dr) | (with_reducible exact held_of (Ext.dr (held_ext hHeld))) | (with_reducible exact held_of (Ext.tr (held_ext hHeld) hx)))
  clear hHeld
  have hHeld := hHeld'
  clear hHeld'
  clear hK K
  (try simp only [Act.put, List.setIfInBounds_toArray, List.set_cons_zero, List.set_cons_succ])
  refine wpAnyH_ready (rs := [14]) (by kernel_rfl) (by simp) ?_
  refine AllReadyH.cons (o := { dst := some 47, op := Go.Op.call { callee := Go.Callee.value (Go.Operand.func 22), args := #[Go.Operand.tmp 43, Go.Operand.tmp 46], argTypes := #[24, 24] }, type := 24, pos := "law01.go:135", after := #[{ on := 10, ground := Go.Ground.data }, { on := 13, ground := Go.Ground.data }, { on := 13, ground := Go.Ground.chain }, { on := 2, ground := Go.Ground.guard }], guard := some (2, false) }) rfl (fun K hK => ?_) AllReadyH.nil
  go_simp
  (go_at_call 22; ((with_reducible refine (add_any y43 y46 (a * c) (b * c) _ h43 h46 ((((BA).mul (BC)).add ((BB).mul (BC))).sm (by omega))).mono ?_); rintro e w' ⟨y47, rfl, h47, hx⟩; replace h40 := h40.keep hx))
  (try go_wp2_with fail)
  refine hK.out _ _ ?_ (fun hHeld' => ?_)
  · (try dsimp only)
    (first | (with_reducible assumption) | (with_reducible exact held_of (Ext.rf _).dr) | (with_reducible exact held_of (Ext.dr (held_ext hHeld))) | (with_reducible exact held_of (Ext.tr (held_ext hHeld) hx)))
  clear hHeld
  have hHeld := hHeld'
  clear hHeld'
  clear hK K
  (try simp only [Act.put, List.setIfInBounds_toArray, List.set_cons_zero, List.set_cons_succ])
  refine wpAnyH_ready (rs := [15]) (by kernel_rfl) (by simp) ?_
  refine AllReadyH.cons (o := { dst := some 48, op := Go.Op.call { callee := Go.Callee.value (Go.Operand.func 28), args := #[Go.Operand.tmp 40, Go.Operand.tmp 47], argTypes := #[24, 24] }, type := 3, pos := "law01.go:135", after := #[{ on := 7, ground := Go.Ground.data }, { on := 14, ground := Go.Ground.data }, { on := 14, ground := Go.Ground.chain }, { on := 2, ground := Go.Ground.guard }], guard := some (2, false) }) rfl (fun K hK => ?_) AllReadyH.nil
  go_simp
  (go_at_call 28; ((with_reducible refine (cmp_any y40 y47 ((a + b) * c) ((a * c) + (b * c)) _ h40 h47).mono ?_); rintro e w' ⟨rfl, hx⟩; rw [q1]))
  (try go_wp2_with fail)
  refine hK.out _ _ ?_ (fun hHeld' => ?_)
  · (try dsimp only)
    (first | (with_reducible assumption) | (with_reducible exact held_of (Ext.rf _).dr) | (with_reducible exact held_of (Ext.dr (held_ext hHeld))) | (with_reducible exact held_of (Ext.tr (held_ext hHeld) hx)))
  clear hHeld
  have hHeld := hHeld'
  clear hHeld'
  clear hK K
  (try simp only [Act.put, List.setIfInBounds_toArray, List.set_cons_zero, List.set_cons_succ])
  refine wpAnyH_take (i := 16) (oi := { dst := some 49, op := Go.Op.binOp Go.BinOp.neq 3 (Go.Operand.tmp 48) (Go.Operand.const (Go.Value.int Go.IntKind.i64 0)) 3, type := 4, pos := "law01.go:135", after := #[{ on := 15, ground := Go.Ground.data }, { on := 2, ground := Go.Ground.guard }], guard := some (2, false) }) (v := ?_) rfl (by kernel_rfl) (by kernel_rfl) (by kernel_rfl) (fun _ _ _ h => h) (Or.inl ⟨by rfl, ?_⟩) hHeld ?_
  rotate_left
  · intro w hSw; (try dsimp only at hSw); go_simp; (try with_reducible rfl)
  (try simp only [Act.put, List.setIfInBounds_toArray, List.set_cons_zero, List.set_cons_succ])
  refine wpAnyH_take (i := 17) (oi := { dst := some 50, op := Go.Op.pick (Go.Operand.tmp 35) (Go.Operand.const (Go.Value.bool true)) (Go.Operand.tmp 49), type := 4, pos := "law01.go:135", after := #[{ on := 2, ground := Go.Ground.data }, { on := 16, ground := Go.Ground.data }], guard := none }) (v := ?_) rfl (by kernel_rfl) (by kernel_rfl) (by kernel_rfl) (fun _ _ _ h => h) (Or.inl ⟨by rfl, ?_⟩) hHeld ?_
  rotate_left
  · intro w hSw; (try dsimp only at hSw); go_simp; (try with_reducible rfl)
  (try simp only [Act.put, List.setIfInBounds_toArray, List.set_cons_zero, List.set_cons_succ])
  refine wpAnyH_take (i := 18) (oi := { dst := some 51, op := Go.Op.move (Go.Operand.tmp 50), type := 4, pos := "law01.go:135", after := #[{ on := 17, ground := Go.Ground.data }, { on := 15, ground := Go.Ground.chain }], guard := none }) (v := ?_) rfl (by kernel_rfl) (by kernel_rfl) (by kernel_rfl) (fun _ _ _ h => h) (Or.inl ⟨by rfl, ?_⟩) hHeld ?_
  rotate_left
  · intro w hSw; (try dsimp only at hSw); go_simp; (try with_reducible rfl)
  (try simp only [Act.put, List.setIfInBounds_toArray, List.set_cons_zero, List.set_cons_succ])
  refine wpAnyH_take (i := 19) (oi := { dst := some 52, op := Go.Op.load 24 (Go.Operand.tmp 7), type := 24, pos := "law01.go:135", after := #[{ on := 18, ground := Go.Ground.guard }], guard := some (18, false) }) (v := ?_) rfl (by kernel_rfl) (by kernel_rfl) (by kernel_rfl) (fun _ _ _ h => h) (Or.inl ⟨by rfl, ?_⟩) hHeld ?_
  rotate_left
  · intro w hSw; (try dsimp only at hSw); go_simp; (try with_reducible rfl)
  (try simp only [Act.put, List.setIfInBounds_toArray, List.set_cons_zero, List.set_cons_succ])
  refine wpAnyH_take (i := 20) (oi := { dst := some 53, op := Go.Op.load 24 (Go.Operand.tmp 9), type := 24, pos := "law01.go:135", after := #[{ on := 18, ground := Go.Ground.guard }], guard := some (18, false) }) (v := ?_) rfl (by kernel_rfl) (by kernel_rfl) (by kernel_rfl) (fun _ _ _ h => h) (Or.inl ⟨by rfl, ?_⟩) hHeld ?_
  rotate_left
  · intro w hSw; (try dsimp only at hSw); go_simp; (try with_reducible rfl)
  (try simp only [Act.put, List.setIfInBounds_toArray, List.set_cons_zero, List.set_cons_succ])
  refine wpAnyH_take (i := 22) (oi := { dst := some 55, op := Go.Op.load 24 (Go.Operand.tmp 9), type := 24, pos := "law01.go:135", after := #[{ on := 18, ground := Go.Ground.guard }], guard := some (18, false) }) (v := ?_) rfl (by kernel_rfl) (by kernel_rfl) (by kernel_rfl) (fun _ _ _ h => h) (Or.inl ⟨by rfl, ?_⟩) hHeld ?_
  rotate_left
  · intro w hSw; (try dsimp only at hSw); go_simp; (try with_reducible rfl)
  (try simp only [Act.put, List.setIfInBounds_toArray, List.set_cons_zero, List.set_cons_succ])
  refine wpAnyH_take (i := 24) (oi := { dst := some 57, op := Go.Op.load 24 (Go.Operand.tmp 7), type := 24, pos := "law01.go:135", after := #[{ on := 18, ground := Go.Ground.guard }], guard := some (18, false) }) (v := ?_) rfl (by kernel_rfl) (by kernel_rfl) (by kernel_rfl) (fun _ _ _ h => h) (Or.inl ⟨by rfl, ?_⟩) hHeld ?_
  rotate_left
  · intro w hSw; (try dsimp only at hSw); go_simp; (try with_reducible rfl)
  (try simp only [Act.put, List.setIfInBounds_toArray, List.set_cons_zero, List.set_cons_succ])
  refine wpAnyH_ready (rs := [21]) (by kernel_rfl) (by simp) ?_
  refine AllReadyH.cons (o := { dst := some 54, op := Go.Op.call { callee := Go.Callee.value (Go.Operand.func 24), args := #[Go.Operand.tmp 52, Go.Operand.tmp 53], argTypes := #[24, 24] }, type := 24, pos := "law01.go:135", after := #[{ on := 19, ground := Go.Ground.data }, { on := 20, ground := Go.Ground.data }, { on := 18, ground := Go.Ground.chain }, { on := 18, ground := Go.Ground.guard }], guard := some (18, false) }) rfl (fun K hK => ?_) AllReadyH.nil
  go_simp
  (go_at_call 24; ((with_reducible refine (sub_any x y a b _ ((HX.out).keep (held_ext hHeld)) ((HY.out).keep (held_ext hHeld)) (((BA).sub (BB)).sm (by omega))).mono ?_); rintro e w' ⟨y54, rfl, h54, hx⟩))
  (try go_wp2_with fail)
  refine hK.out _ _ ?_ (fun hHeld' => ?_)
  · (try dsimp only)
    (first | (with_reducible assumption) | (with_reducible exact held_of (Ext.rf _).dr) | (with_reducible exact held_of (Ext.dr (held_ext hHeld))) | (with_reducible exact held_of (Ext.tr (held_ext hHeld) hx)))
  clear hHeld
  have hHeld := hHeld'
  clear hHeld'
  clear hK K
  (try simp only [Act.put, List.setIfInBounds_toArray, List.set_cons_zero, List.set_cons_succ])
  refine wpAnyH_ready (rs := [23]) (by kernel_rfl) (by simp) ?_
  refine AllReadyH.cons (o := { dst := some 56, op := Go.Op.call { callee := Go.Callee.value (Go.Operand.func 22), args := #[Go.Operand.tmp 54, Go.Operand.tmp 55], argTypes := #[24, 24] }, type := 24, pos := "law01.go:135", after := #[{ on := 21, ground := Go.Ground.data }, { on := 22, ground := Go.Ground.data }, { on := 21, ground := Go.Ground.chain }, { on := 18, ground := Go.Ground.guard }], guard := some (18, false) }) rfl (fun K hK => ?_) AllReadyH.nil
  go_simp
  (go_at_call 22; ((with_reducible refine (add_any y54 y (a - b) b _ h54 ((HY.out).keep (held_ext hHeld)) ((((BA).sub (BB)).add ((BB).mono (show 4000 ≤ 4001 by omega))).sm (by omega))).mono ?_); rintro e w' ⟨y56, rfl, h56, hx⟩))
  (try go_wp2_with fail)
  refine hK.out _ _ ?_ (fun hHeld' => ?_)
  · (try dsimp only)
    (first | (with_reducible assumption) | (with_reducible exact held_of (Ext.rf _).dr) | (with_reducible exact held_of (Ext.dr (held_ext hHeld))) | (with_reducible exact held_of (Ext.tr (held_ext hHeld) hx)))
  clear hHeld
  have hHeld := hHeld'
  clear hHeld'
  clear hK K
  (try simp only [Act.put, List.setIfInBounds_toArray, List.set_cons_zero, List.set_cons_succ])
  refine wpAnyH_ready (rs := [25]) (by kernel_rfl) (by simp) ?_
  refine AllReadyH.cons (o := { dst := some 58, op := Go.Op.call { callee := Go.Callee.value (Go.Operand.func 28), args := #[Go.Operand.tmp 56, Go.Operand.tmp 57], argTypes := #[24, 24] }, type := 3, pos := "law01.go:135", after := #[{ on := 23, ground := Go.Ground.data }, { on := 24, ground := Go.Ground.data }, { on := 23, ground := Go.Ground.chain }, { on := 18, ground := Go.Ground.guard }], guard := some (18, false) }) rfl (fun K hK => ?_) AllReadyH.nil
  go_simp
  (go_at_call 28; ((with_reducible refine (cmp_any y56 x ((a - b) + b) a _ h56 ((HX.out).keep (held_ext hHeld))).mono ?_); rintro e w' ⟨rfl, hx⟩; rw [q2]))
  (try go_wp2_with fail)
  refine hK.out _ _ ?_ (fun hHeld' => ?_)
  · (try dsimp only)
    (first | (with_reducible assumption) | (with_reducible exact held_of (Ext.rf _).dr) | (with_reducible exact held_of (Ext.dr (held_ext hHeld))) | (with_reducible exact held_of (Ext.tr (held_ext hHeld) hx)))
  clear hHeld
  have hHeld := hHeld'
  clear hHeld'
  clear hK K
  (try simp only [Act.put, List.setIfInBounds_toArray, List.set_cons_zero, List.set_cons_succ])
  refine wpAnyH_take (i := 26) (oi := { dst := some 59, op := Go.Op.binOp Go.BinOp.neq 3 (Go.Operand.tmp 58) (Go.Operand.const (Go.Value.int Go.IntKind.i64 0)) 3, type := 4, pos := "law01.go:135", after := #[{ on := 25, ground := Go.Ground.data }, { on := 18, ground := Go.Ground.guard }], guard := some (18, false) }) (v := ?_) rfl (by kernel_rfl) (by kernel_rfl) (by kernel_rfl) (fun _ _ _ h => h) (Or.inl ⟨by rfl, ?_⟩) hHeld ?_
  rotate_left
  · intro w hSw; (try dsimp only at hSw); go_simp; (try with_reducible rfl)
  (try simp only [Act.put, List.setIfInBounds_toArray, List.set_cons_zero, List.set_cons_succ])
  refine wpAnyH_take (i := 27) (oi := { dst := some 60, op := Go.Op.pick (Go.Operand.tmp 51) (Go.Operand.const (Go.Value.bool true)) (Go.Operand.tmp 59), type := 4, pos := "law01.go:135", after := #[{ on := 18, ground := Go.Ground.data }, { on := 26, ground := Go.Ground.data }], guard := none }) (v := ?_) rfl (by kernel_rfl) (by kernel_rfl) (by kernel_rfl) (fun _ _ _ h => h) (Or.inl ⟨by rfl, ?_⟩) hHeld ?_
  rotate_left
  · intro w hSw; (try dsimp only at hSw); go_simp; (try with_reducible rfl)
  (try simp only [Act.put, List.setIfInBounds_toArray, List.set_cons_zero, List.set_cons_succ])
  refine wpAnyH_take (i := 28) (oi := { dst := some 61, op := Go.Op.move (Go.Operand.tmp 60), type := 4, pos := "law01.go:135", after := #[{ on := 27, ground := Go.Ground.data }, { on := 25, ground := Go.Ground.chain }], guard := none }) (v := ?_) rfl (by kernel_rfl) (by kernel_rfl) (by kernel_rfl) (fun _ _ _ h => h) (Or.inl ⟨by rfl, ?_⟩) hHeld ?_
  rotate_left
  · intro w hSw; (try dsimp only at hSw); go_simp; (try with_reducible rfl)
  (try simp only [Act.put, List.setIfInBounds_toArray, List.set_cons_zero, List.set_cons_succ])
  refine wpAnyH_take (i := 29) (oi := { dst := some 62, op := Go.Op.load 24 (Go.Operand.tmp 7), type := 24, pos := "law01.go:135", after := #[{ on := 28, ground := Go.Ground.guard }], guard := some (28, false) }) (v := ?_) rfl (by kernel_rfl) (by kernel_rfl) (by kernel_rfl) (fun _ _ _ h => h) (Or.inl ⟨by rfl, ?_⟩) hHeld ?_
  rotate_left
  · intro w hSw; (try dsimp only at hSw); go_simp; (try with_reducible rfl)
  (try simp only [Act.put, List.setIfInBounds_toArray, List.set_cons_zero, List.set_cons_succ])
  refine wpAnyH_take (i := 30) (oi := { dst := some 63, op := Go.Op.load 24 (Go.Operand.tmp 9), type := 24, pos := "law01.go:135", after := #[{ on := 28, ground := Go.Ground.guard }], guard := some (28, false) }) (v := ?_) rfl (by kernel_rfl) (by kernel_rfl) (by kernel_rfl) (fun _ _ _ h => h) (Or.inl ⟨by rfl, ?_⟩) hHeld ?_
  rotate_left
  · intro w hSw; (try dsimp only at hSw); go_simp; (try with_reducible rfl)
  (try simp only [Act.put, List.setIfInBounds_toArray, List.set_cons_zero, List.set_cons_succ])
  refine wpAnyH_take (i := 32) (oi := { dst := some 65, op := Go.Op.load 24 (Go.Operand.tmp 9), type := 24, pos := "law01.go:135", after := #[{ on := 28, ground := Go.Ground.guard }], guard := some (28, false) }) (v := ?_) rfl (by kernel_rfl) (by kernel_rfl) (by kernel_rfl) (fun _ _ _ h => h) (Or.inl ⟨by rfl, ?_⟩) hHeld ?_
  rotate_left
  · intro w hSw; (try dsimp only at hSw); go_simp; (try with_reducible rfl)
  (try simp only [Act.put, List.setIfInBounds_toArray, List.set_cons_zero, List.set_cons_succ])
  refine wpAnyH_take (i := 33) (oi := { dst := some 66, op := Go.Op.load 24 (Go.Operand.tmp 7), type := 24, pos := "law01.go:135", after := #[{ on := 28, ground := Go.Ground.guard }], guard := some (28, false) }) (v := ?_) rfl (by kernel_rfl) (by kernel_rfl) (by kernel_rfl) (fun _ _ _ h => h) (Or.inl ⟨by rfl, ?_⟩) hHeld ?_
  rotate_left
  · intro w hSw; (try dsimp only at hSw); go_simp; (try with_reducible rfl)
  (try simp only [Act.put, List.setIfInBounds_toArray, List.set_cons_zero, List.set_cons_succ])
  refine wpAnyH_ready (rs := [31]) (by kernel_rfl) (by simp) ?_
  refine AllReadyH.cons (o := { dst := some 64, op := Go.Op.call { callee := Go.Callee.value (Go.Operand.func 26), args := #[Go.Operand.tmp 62, Go.Operand.tmp 63], argTypes := #[24, 24] }, type := 24, pos := "law01.go:135", after := #[{ on := 29, ground := Go.Ground.data }, { on := 30, ground := Go.Ground.data }, { on := 28, ground := Go.Ground.chain }, { on := 28, ground := Go.Ground.guard }], guard := some (28, false) }) rfl (fun K hK => ?_) AllReadyH.nil
  go_simp
  (go_at_call 26; ((with_reducible refine (mul_any x y a b _ ((HX.out).keep (held_ext hHeld)) ((HY.out).keep (held_ext hHeld)) (((BA).mul (BB)).sm (by omega))).mono ?_); rintro e w' ⟨y64, rfl, h64, hx⟩))
  (try go_wp2_with fail)
  refine hK.out _ _ ?_ (fun hHeld' => ?_)
  · (try dsimp only)
    (first | (with_reducible assumption) | (with_reducible exact held_of (Ext.rf _).dr) | (with_reducible exact held_of (Ext.dr (held_ext hHeld))) | (with_reducible exact held_of (Ext.tr (held_ext hHeld) hx)))
  clear hHeld
  have hHeld := hHeld'
  clear hHeld'
  clear hK K
  (try simp only [Act.put, List.setIfInBounds_toArray, List.set_cons_zero, List.set_cons_succ])
  refine wpAnyH_ready (rs := [34]) (by kernel_rfl) (by simp) ?_
  refine AllReadyH.cons (o := { dst := some 67, op := Go.Op.call { callee := Go.Callee.value (Go.Operand.func 26), args := #[Go.Operand.tmp 65, Go.Operand.tmp 66], argTypes := #[24, 24] }, type := 24, pos := "law01.go:135", after := #[{ on := 32, ground := Go.Ground.data }, { on := 33, ground := Go.Ground.data }, { on := 31, ground := Go.Ground.chain }, { on := 28, ground := Go.Ground.guard }], guard := some (28, false) }) rfl (fun K hK => ?_) AllReadyH.nil
  go_simp
  (go_at_call 26; ((with_reducible refine (mul_any y x b a _ ((HY.out).keep (held_ext hHeld)) ((HX.out).keep (held_ext hHeld)) (((BB).mul (BA)).sm (by omega))).mono ?_); rintro e w' ⟨y67, rfl, h67, hx⟩; replace h64 := h64.keep hx))
  (try go_wp2_with fail)
  refine hK.out _ _ ?_ (fun hHeld' => ?_)
  · (try dsimp only)
    (first | (with_reducible assumption) | (with_reducible exact held_of (Ext.rf _).dr) | (with_reducible exact held_of (Ext.dr (held_ext hHeld))) | (with_reducible exact held_of (Ext.tr (held_ext hHeld) hx)))
  clear hHeld
  have hHeld := hHeld'
  clear hHeld'
  clear hK K
  (try simp only [Act.put, List.setIfInBounds_toArray, List.set_cons_zero, List.set_cons_succ])
  refine wpAnyH_ready (rs := [35]) (by kernel_rfl) (by simp) ?_
  refine AllReadyH.cons (o := { dst := some 68, op := Go.Op.call { callee := Go.Callee.value (Go.Operand.func 28), args := #[Go.Operand.tmp 64, Go.Operand.tmp 67], argTypes := #[24, 24] }, type := 3, pos := "law01.go:135", after := #[{ on := 31, ground := Go.Ground.data }, { on := 34, ground := Go.Ground.data }, { on := 34, ground := Go.Ground.chain }, { on := 28, ground := Go.Ground.guard }], guard := some (28, false) }) rfl (fun K hK => ?_) AllReadyH.nil
  go_simp
  (go_at_call 28; ((with_reducible refine (cmp_any y64 y67 (a * b) (b * a) _ h64 h67).mono ?_); rintro e w' ⟨rfl, hx⟩; rw [q3]))
  (try go_wp2_with fail)
  refine hK.out _ _ ?_ (fun hHeld' => ?_)
  · (try dsimp only)
    (first | (with_reducible assumption) | (with_reducible exact held_of (Ext.rf _).dr) | (with_reducible exact held_of (Ext.dr (held_ext hHeld))) | (with_reducible exact held_of (Ext.tr (held_ext hHeld) hx)))
  clear hHeld
  have hHeld := hHeld'
  clear hHeld'
  clear hK K
  (try simp only [Act.put, List.setIfInBounds_toArray, List.set_cons_zero, List.set_cons_succ])
  refine wpAnyH_take (i := 36) (oi := { dst := some 69, op := Go.Op.binOp Go.BinOp.neq 3 (Go.Operand.tmp 68) (Go.Operand.const (Go.Value.int Go.IntKind.i64 0)) 3, type := 4, pos := "law01.go:135", after := #[{ on := 35, ground := Go.Ground.data }, { on := 28, ground := Go.Ground.guard }], guard := some (28, false) }) (v := ?_) rfl (by kernel_rfl) (by kernel_rfl) (by kernel_rfl) (fun _ _ _ h => h) (Or.inl ⟨by rfl, ?_⟩) hHeld ?_
  rotate_left
  · intro w hSw; (try dsimp only at hSw); go_simp; (try with_reducible rfl)
  (try simp only [Act.put, List.setIfInBounds_toArray, List.set_cons_zero, List.set_cons_succ])
  refine wpAnyH_take (i := 37) (oi := { dst := some 70, op := Go.Op.pick (Go.Operand.tmp 61) (Go.Operand.const (Go.Value.bool true)) (Go.Operand.tmp 69), type := 4, pos := "law01.go:135", after := #[{ on := 28, ground := Go.Ground.data }, { on := 36, ground := Go.Ground.data }], guard := none }) (v := ?_) rfl (by kernel_rfl) (by kernel_rfl) (by kernel_rfl) (fun _ _ _ h => h) (Or.inl ⟨by rfl, ?_⟩) hHeld ?_
  rotate_left
  · intro w hSw; (try dsimp only at hSw); go_simp; (try with_reducible rfl)
  (try simp only [Act.put, List.setIfInBounds_toArray, List.set_cons_zero, List.set_cons_succ])
  refine wpAnyH_take (i := 38) (oi := { dst := some 71, op := Go.Op.move (Go.Operand.tmp 70), type := 4, pos := "law01.go:135", after := #[{ on := 37, ground := Go.Ground.data }, { on := 35, ground := Go.Ground.chain }], guard := none }) (v := ?_) rfl (by kernel_rfl) (by kernel_rfl) (by kernel_rfl) (fun _ _ _ h => h) (Or.inl ⟨by rfl, ?_⟩) hHeld ?_
  rotate_left
  · intro w hSw; (try dsimp only at hSw); go_simp; (try with_reducible rfl)
  (try simp only [Act.put, List.setIfInBounds_toArray, List.set_cons_zero, List.set_cons_succ])
  refine wpAnyH_take (i := 39) (oi := { dst := some 72, op := Go.Op.load 24 (Go.Operand.tmp 7), type := 24, pos := "law01.go:135", after := #[{ on := 38, ground := Go.Ground.guard }], guard := some (38, false) }) (v := ?_) rfl (by kernel_rfl) (by kernel_rfl) (by kernel_rfl) (fun _ _ _ h => h) (Or.inl ⟨by rfl, ?_⟩) hHeld ?_
  rotate_left
  · intro w hSw; (try dsimp only at hSw); go_simp; (try with_reducible rfl)
  (try simp only [Act.put, List.setIfInBounds_toArray, List.set_cons_zero, List.set_cons_succ])
  refine wpAnyH_take (i := 40) (oi := { dst := some 73, op := Go.Op.load 24 (Go.Operand.tmp 9), type := 24, pos := "law01.go:135", after := #[{ on := 38, ground := Go.Ground.guard }], guard := some (38, false) }) (v := ?_) rfl (by kernel_rfl) (by kernel_rfl) (by kernel_rfl) (fun _ _ _ h => h) (Or.inl ⟨by rfl, ?_⟩) hHeld ?_
  rotate_left
  · intro w hSw; (try dsimp only at hSw); go_simp; (try with_reducible rfl)
  (try simp only [Act.put, List.setIfInBounds_toArray, List.set_cons_zero, List.set_cons_succ])
  refine wpAnyH_take (i := 42) (oi := { dst := some 75, op := Go.Op.load 24 (Go.Operand.tmp 11), type := 24, pos := "law01.go:135", after := #[{ on := 38, ground := Go.Ground.guard }], guard := some (38, false) }) (v := ?_) rfl (by kernel_rfl) (by kernel_rfl) (by kernel_rfl) (fun _ _ _ h => h) (Or.inl ⟨by rfl, ?_⟩) hHeld ?_
  rotate_left
  · intro w hSw; (try dsimp only at hSw); go_simp; (try with_reducible rfl)
  (try simp only [Act.put, List.setIfInBounds_toArray, List.set_cons_zero, List.set_cons_succ])
  refine wpAnyH_take (i := 44) (oi := { dst := some 77, op := Go.Op.load 24 (Go.Operand.tmp 7), type := 24, pos := "law01.go:135", after := #[{ on := 38, ground := Go.Ground.guard }], guard := some (38, false) }) (v := ?_) rfl (by kernel_rfl) (by kernel_rfl) (by kernel_rfl) (fun _ _ _ h => h) (Or.inl ⟨by rfl, ?_⟩) hHeld ?_
  rotate_left
  · intro w hSw; (try dsimp only at hSw); go_simp; (try with_reducible rfl)
  (try simp only [Act.put, List.setIfInBounds_toArray, List.set_cons_zero, List.set_cons_succ])
  refine wpAnyH_take (i := 45) (oi := { dst := some 78, op := Go.Op.load 24 (Go.Operand.tmp 9), type := 24, pos := "law01.go:135", after := #[{ on := 38, ground := Go.Ground.guard }], guard := some (38, false) }) (v := ?_) rfl (by kernel_rfl) (by kernel_rfl) (by kernel_rfl) (fun _ _ _ h => h) (Or.inl ⟨by rfl, ?_⟩) hHeld ?_
  rotate_left
  · intro w hSw; (try dsimp only at hSw); go_simp; (try with_reducible rfl)
  (try simp only [Act.put, List.setIfInBounds_toArray, List.set_cons_zero, List.set_cons_succ])
  refine wpAnyH_take (i := 46) (oi := { dst := some 79, op := Go.Op.load 24 (Go.Operand.tmp 11), type := 24, pos := "law01.go:135", after := #[{ on := 38, ground := Go.Ground.guard }], guard := some (38, false) }) (v := ?_) rfl (by kernel_rfl) (by kernel_rfl) (by kernel_rfl) (fun _ _ _ h => h) (Or.inl ⟨by rfl, ?_⟩) hHeld ?_
  rotate_left
  · intro w hSw; (try dsimp only at hSw); go_simp; (try with_reducible rfl)
  (try simp only [Act.put, List.setIfInBounds_toArray, List.set_cons_zero, List.set_cons_succ])
  refine wpAnyH_ready (rs := [41]) (by kernel_rfl) (by simp) ?_
  refine AllReadyH.cons (o := { dst := some 74, op := Go.Op.call { callee := Go.Callee.value (Go.Operand.func 26), args := #[Go.Operand.tmp 72, Go.Operand.tmp 73], argTypes := #[24, 24] }, type := 24, pos := "law01.go:135", after := #[{ on := 39, ground := Go.Ground.data }, { on := 40, ground := Go.Ground.data }, { on := 38, ground := Go.Ground.chain }, { on := 38, ground := Go.Ground.guard }], guard := some (38, false) }) rfl (fun K hK => ?_) AllReadyH.nil
  go_simp
  (go_at_call 26; ((with_reducible refine (mul_any x y a b _ ((HX.out).keep (held_ext hHeld)) ((HY.out).keep (held_ext hHeld)) (((BA).mul (BB)).sm (by omega))).mono ?_); rintro e w' ⟨y74, rfl, h74, hx⟩))
  (try go_wp2_with fail)
  refine hK.out _ _ ?_ (fun hHeld' => ?_)
  · (try dsimp only)
    (first | (with_reducible assumption) | (with_reducible exact held_of (Ext.rf _).dr) | (with_reducible exact held_of (Ext.dr (held_ext hHeld))) | (with_reducible exact held_of (Ext.tr (held_ext hHeld) hx)))
  clear hHeld
  have hHeld := hHeld'
  clear hHeld'
  clear hK K
  (try simp only [Act.put, List.setIfInBounds_toArray, List.set_cons_zero, List.set_cons_succ])
  refine wpAnyH_ready (rs := [43]) (by kernel_rfl) (by simp) ?_
  refine AllReadyH.cons (o := { dst := some 76, op := Go.Op.call { callee := Go.Callee.value (Go.Operand.func 26), args := #[Go.Operand.tmp 74, Go.Operand.tmp 75], argTypes := #[24, 24] }, type := 24, pos := "law01.go:135", after := #[{ on := 41, ground := Go.Ground.data }, { on := 42, ground := Go.Ground.data }, { on := 41, ground := Go.Ground.chain }, { on := 38, ground := Go.Ground.guard }], guard := some (38, false) }) rfl (fun K hK => ?_) AllReadyH.nil
  go_simp
  (go_at_call 26; ((with_reducible refine (mul_any y74 z (a * b) c _ h74 ((HZ.out).keep (held_ext hHeld)) ((((BA).mul (BB)).mul (BC)).sm (by omega))).mono ?_); rintro e w' ⟨y76, rfl, h76, hx⟩))
  (try go_wp2_with fail)
  refine hK.out _ _ ?_ (fun hHeld' => ?_)
  · (try dsimp only)
    (first | (with_reducible assumption) | (with_reducible exact held_of (Ext.rf _).dr) | (with_reducible exact held_of (Ext.dr (held_ext hHeld))) | (with_reducible exact held_of (Ext.tr (held_ext hHeld) hx)))
  clear hHeld
  have hHeld := hHeld'
  clear hHeld'
  clear hK K
  (try simp only [Act.put, List.setIfInBounds_toArray, List.set_cons_zero, List.set_cons_succ])
  refine wpAnyH_ready (rs := [47]) (by kernel_rfl) (by simp) ?_
  refine AllReadyH.cons (o := { dst := some 80, op := Go.Op.call { callee := Go.Callee.value (Go.Operand.func 26), args := #[Go.Operand.tmp 78, Go.Operand.tmp 79], argTypes := #[24, 24] }, type := 24, pos := "law01.go:135", after := #[{ on := 45, ground := Go.Ground.data }, { on := 46, ground := Go.Ground.data }, { on := 43, ground := Go.Ground.chain }, { on := 38, ground := Go.Ground.guard }], guard := some (38, false) }) rfl (fun K hK => ?_) AllReadyH.nil
  go_simp
  (go_at_call 26; ((with_reducible refine (mul_any y z b c _ ((HY.out).keep (held_ext hHeld)) ((HZ.out).keep (held_ext hHeld)) (((BB).mul (BC)).sm (by omega))).mono ?_); rintro e w' ⟨y80, rfl, h80, hx⟩; replace h76 := h76.keep hx))
  (try go_wp2_with fail)
  refine hK.out _ _ ?_ (fun hHeld' => ?_)
  · (try dsimp only)
    (first | (with_reducible assumption) | (with_reducible exact held_of (Ext.rf _).dr) | (with_reducible exact held_of (Ext.dr (held_ext hHeld))) | (with_reducible exact held_of (Ext.tr (held_ext hHeld) hx)))
  clear hHeld
  have hHeld := hHeld'
  clear hHeld'
  clear hK K
  (try simp only [Act.put, List.setIfInBounds_toArray, List.set_cons_zero, List.set_cons_succ])
  refine wpAnyH_ready (rs := [48]) (by kernel_rfl) (by simp) ?_
  refine AllReadyH.cons (o := { dst := some 81, op := Go.Op.call { callee := Go.Callee.value (Go.Operand.func 26), args := #[Go.Operand.tmp 77, Go.Operand.tmp 80], argTypes := #[24, 24] }, type := 24, pos := "law01.go:135", after := #[{ on := 44, ground := Go.Ground.data }, { on := 47, ground := Go.Ground.data }, { on := 47, ground := Go.Ground.chain }, { on := 38, ground := Go.Ground.guard }], guard := some (38, false) }) rfl (fun K hK => ?_) AllReadyH.nil
  go_simp
  (go_at_call 26; ((with_reducible refine (mul_any x y80 a (b * c) _ ((HX.out).keep (held_ext hHeld)) h80 (((BA).mul ((BB).mul (BC))).sm (by omega))).mono ?_); rintro e w' ⟨y81, rfl, h81, hx⟩; replace h76 := h76.keep hx))
  (try go_wp2_with fail)
  refine hK.out _ _ ?_ (fun hHeld' => ?_)
  · (try dsimp only)
    (first | (with_reducible assumption) | (with_reducible exact held_of (Ext.rf _).dr) | (with_reducible exact held_of (Ext.dr (held_ext hHeld))) | (with_reducible exact held_of (Ext.tr (held_ext hHeld) hx)))
  clear hHeld
  have hHeld := hHeld'
  clear hHeld'
  clear hK K
  (try simp only [Act.put, List.setIfInBounds_toArray, List.set_cons_zero, List.set_cons_succ])
  refine wpAnyH_ready (rs := [49]) (by kernel_rfl) (by simp) ?_
  refine AllReadyH.cons (o := { dst := some 82, op := Go.Op.call { callee := Go.Callee.value (Go.Operand.func 28), args := #[Go.Operand.tmp 76, Go.Operand.tmp 81], argTypes := #[24, 24] }, type := 3, pos := "law01.go:135", after := #[{ on := 43, ground := Go.Ground.data }, { on := 48, ground := Go.Ground.data }, { on := 48, ground := Go.Ground.chain }, { on := 38, ground := Go.Ground.guard }], guard := some (38, false) }) rfl (fun K hK => ?_) AllReadyH.nil
  go_simp
  (go_at_call 28; ((with_reducible refine (cmp_any y76 y81 ((a * b) * c) (a * (b * c)) _ h76 h81).mono ?_); rintro e w' ⟨rfl, hx⟩; rw [q4]))
  (try go_wp2_with fail)
  refine hK.out _ _ ?_ (fun hHeld' => ?_)
  · (try dsimp only)
    (first | (with_reducible assumption) | (with_reducible exact held_of (Ext.rf _).dr) | (with_reducible exact held_of (Ext.dr (held_ext hHeld))) | (with_reducible exact held_of (Ext.tr (held_ext hHeld) hx)))
  clear hHeld
  have hHeld := hHeld'
  clear hHeld'
  clear hK K
  (try simp only [Act.put, List.setIfInBounds_toArray, List.set_cons_zero, List.set_cons_succ])
  refine wpAnyH_take (i := 50) (oi := { dst := some 83, op := Go.Op.binOp Go.BinOp.neq 3 (Go.Operand.tmp 82) (Go.Operand.const (Go.Value.int Go.IntKind.i64 0)) 3, type := 4, pos := "law01.go:135", after := #[{ on := 49, ground := Go.Ground.data }, { on := 38, ground := Go.Ground.guard }], guard := some (38, false) }) (v := ?_) rfl (by kernel_rfl) (by kernel_rfl) (by kernel_rfl) (fun _ _ _ h => h) (Or.inl ⟨by rfl, ?_⟩) hHeld ?_
  rotate_left
  · intro w hSw; (try dsimp only at hSw); go_simp; (try with_reducible rfl)
  (try simp only [Act.put, List.setIfInBounds_toArray, List.set_cons_zero, List.set_cons_succ])
  refine wpAnyH_take (i := 51) (oi := { dst := some 84, op := Go.Op.pick (Go.Operand.tmp 71) (Go.Operand.const (Go.Value.bool true)) (Go.Operand.tmp 83), type := 4, pos := "law01.go:135", after := #[{ on := 38, ground := Go.Ground.data }, { on := 50, ground := Go.Ground.data }], guard := none }) (v := ?_) rfl (by kernel_rfl) (by kernel_rfl) (by kernel_rfl) (fun _ _ _ h => h) (Or.inl ⟨by rfl, ?_⟩) hHeld ?_
  rotate_left
  · intro w hSw; (try dsimp only at hSw); go_simp; (try with_reducible rfl)
  (try simp only [Act.put, List.setIfInBounds_toArray, List.set_cons_zero, List.set_cons_succ])
  refine wpAnyH_done (by kernel_rfl) ?_ _
  go_wp2_with fail
  refine wp_region_held_drew (S := (fun w' => Ext w5 w' ∧ (∀ b o, b < w5.heap.size → w'.cell? ⟨b, o, none⟩ = w5.cell? ⟨b, o, none⟩))) (by kernel_rfl) ?_ (fun hHeld => ?_)
  · (try dsimp only)
    (first | (with_reducible assumption) | (with_reducible exact held_of (Ext.rf _).dr) | (with_reducible exact held_of (Ext.dr (held_ext hHeld))) | (with_reducible exact held_of (Ext.tr (held_ext hHeld) hx)))
  refine wpAnyH_take (i := 0) (oi := { dst := some 85, op := Go.Op.load 24 (Go.Operand.tmp 7), type := 24, pos := "law01.go:138", after := #[], guard := none }) (v := ?_) rfl (by kernel_rfl) (by kernel_rfl) (by kernel_rfl) (fun _ _ _ h => h) (Or.inl ⟨by rfl, ?_⟩) hHeld ?_
  rotate_left
  · intro w hSw; (try dsimp only at hSw); go_simp; (try with_reducible rfl)
  (try simp only [Act.put, List.setIfInBounds_toArray, List.set_cons_zero, List.set_cons_succ])
  refine wpAnyH_take (i := 1) (oi := { dst := some 86, op := Go.Op.load 24 (Go.Operand.tmp 9), type := 24, pos := "law01.go:138", after := #[], guard := none }) (v := ?_) rfl (by kernel_rfl) (by kernel_rfl) (by kernel_rfl) (fun _ _ _ h => h) (Or.inl ⟨by rfl, ?_⟩) hHeld ?_
  rotate_left
  · intro w hSw; (try dsimp only at hSw); go_simp; (try with_reducible rfl)
  (try simp only [Act.put, List.setIfInBounds_toArray, List.set_cons_zero, List.set_cons_succ])
  refine wpAnyH_take (i := 3) (oi := { dst := some 88, op := Go.Op.load 24 (Go.Operand.tmp 9), type := 24, pos := "law01.go:138", after := #[], guard := none }) (v := ?_) rfl (by kernel_rfl) (by kernel_rfl) (by kernel_rfl) (fun _ _ _ h => h) (Or.inl ⟨by rfl, ?_⟩) hHeld ?_
  rotate_left
  · intro w hSw; (try dsimp only at hSw); go_simp; (try with_reducible rfl)
  (try simp only [Act.put, List.setIfInBounds_toArray, List.set_cons_zero, List.set_cons_succ])
  refine wpAnyH_take (i := 4) (oi := { dst := some 89, op := Go.Op.load 24 (Go.Operand.tmp 7), type := 24, pos := "law01.go:138", after := #[], guard := none }) (v := ?_) rfl (by kernel_rfl) (by kernel_rfl) (by kernel_rfl) (fun _ _ _ h => h) (Or.inl ⟨by rfl, ?_⟩) hHeld ?_
  rotate_left
  · intro w hSw; (try dsimp only at hSw); go_simp; (try with_reducible rfl)
  (try simp only [Act.put, List.setIfInBounds_toArray, List.set_cons_zero, List.set_cons_succ])
  refine wpAnyH_ready (rs := [2]) (by kernel_rfl) (by simp) ?_
  refine AllReadyH.cons (o := { dst := some 87, op := Go.Op.call { callee := Go.Callee.value (Go.Operand.func 28), args := #[Go.Operand.tmp 85, Go.Operand.tmp 86], argTypes := #[24, 24] }, type := 3, pos := "law01.go:138", after := #[{ on := 0, ground := Go.Ground.data }, { on := 1, ground := Go.Ground.data }], guard := none }) rfl (fun K hK => ?_) AllReadyH.nil
  go_simp
  (go_at_call 28; ((with_reducible refine (cmp_any x y a b _ ((HX.out).keep (held_ext hHeld)) ((HY.out).keep (held_ext hHeld))).mono ?_); rintro e w' ⟨rfl, hx⟩))
  (try go_wp2_with fail)
  refine hK.out _ _ ?_ (fun hHeld' => ?_)
  · (try dsimp only)
    (first | (with_reducible assumption) | (with_reducible exact held_of (Ext.rf _).dr) | (with_reducible exact held_of (Ext.dr (held_ext hHeld))) | (with_reducible exact held_of (Ext.tr (held_ext hHeld) hx)))
  clear hHeld
  have hHeld := hHeld'
  clear hHeld'
  clear hK K
  (try simp only [Act.put, List.setIfInBounds_toArray, List.set_cons_zero, List.set_cons_succ])
  refine wpAnyH_ready (rs := [5]) (by kernel_rfl) (by simp) ?_
  refine AllReadyH.cons (o := { dst := some 90, op := Go.Op.call { callee := Go.Callee.value (Go.Operand.func 28), args := #[Go.Operand.tmp 88, Go.Operand.tmp 89], argTypes := #[24, 24] }, type := 3, pos := "law01.go:138", after := #[{ on := 3, ground := Go.Ground.data }, { on := 4, ground := Go.Ground.data }, { on := 2, ground := Go.Ground.chain }], guard := none }) rfl (fun K hK => ?_) AllReadyH.nil
  go_simp
  (go_at_call 28; ((with_reducible refine (cmp_any y x b a _ ((HY.out).keep (held_ext hHeld)) ((HX.out).keep (held_ext hHeld))).mono ?_); rintro e w' ⟨rfl, hx⟩))
  (try go_wp2_with fail)
  refine hK.out _ _ ?_ (fun hHeld' => ?_)
  · (try dsimp only)
    (first | (with_reducible assumption) | (with_reducible exact held_of (Ext.rf _).dr) | (with_reducible exact held_of (Ext.dr (held_ext hHeld))) | (with_reducible exact held_of (Ext.tr (held_ext hHeld) hx)))
  clear hHeld
  have hHeld := hHeld'
  clear hHeld'
  clear hK K
  (try simp only [Act.put, List.setIfInBounds_toArray, List.set_cons_zero, List.set_cons_succ])
  refine wpAnyH_take (i := 6) (oi := { dst := some 91, op := Go.Op.unOp Go.UnOp.neg 3 (Go.Operand.tmp 90), type := 3, pos := "law01.go:138", after := #[{ on := 5, ground := Go.Ground.data }], guard := none }) (v := ?_) rfl (by kernel_rfl) (by kernel_rfl) (by kernel_rfl) (fun _ _ _ h => h) (Or.inl ⟨by rfl, ?_⟩) hHeld ?_
  rotate_left
  · intro w hSw; (try dsimp only at hSw); go_simp; (try with_reducible rfl)
  (try simp only [Act.put, List.setIfInBounds_toArray, List.set_cons_zero, List.set_cons_succ])
  refine wpAnyH_take (i := 7) (oi := { dst := some 92, op := Go.Op.binOp Go.BinOp.neq 3 (Go.Operand.tmp 87) (Go.Operand.tmp 91) 3, type := 4, pos := "law01.go:138", after := #[{ on := 2, ground := Go.Ground.data }, { on := 6, ground := Go.Ground.data }], guard := none }) (v := ?_) rfl (by kernel_rfl) (by kernel_rfl) (by kernel_rfl) (fun _ _ _ h => h) (Or.inl ⟨by rfl, ?_⟩) hHeld ?_
  rotate_left
  · intro w hSw; (try dsimp only at hSw); go_simp; (try with_reducible rfl)
  (try simp only [Act.put, List.setIfInBounds_toArray, List.set_cons_zero, List.set_cons_succ])
  refine wpAnyH_take (i := 8) (oi := { dst := some 93, op := Go.Op.move (Go.Operand.tmp 92), type := 4, pos := "law01.go:138", after := #[{ on := 7, ground := Go.Ground.data }, { on := 5, ground := Go.Ground.chain }], guard := none }) (v := ?_) rfl (by kernel_rfl) (by kernel_rfl) (by kernel_rfl) (fun _ _ _ h => h) (Or.inl ⟨by rfl, ?_⟩) hHeld ?_
  rotate_left
  · intro w hSw; (try dsimp only at hSw); go_simp; (try with_reducible rfl)
  (try simp only [Act.put, List.setIfInBounds_toArray, List.set_cons_zero, List.set_cons_succ])
  refine wpAnyH_take (i := 9) (oi := { dst := some 94, op := Go.Op.load 24 (Go.Operand.tmp 7), type := 24, pos := "law01.go:138", after := #[{ on := 8, ground := Go.Ground.guard }], guard := some (8, false) }) (v := ?_) rfl (by kernel_rfl) (by kernel_rfl) (by kernel_rfl) (fun _ _ _ h => h) (Or.inl ⟨by rfl, ?_⟩) hHeld ?_
  rotate_left
  · intro w hSw; (try dsimp only at hSw); go_simp; (try with_reducible rfl)
  (try simp only [Act.put, List.setIfInBounds_toArray, List.set_cons_zero, List.set_cons_succ])
  refine wpAnyH_take (i := 10) (oi := { dst := some 95, op := Go.Op.load 24 (Go.Operand.tmp 9), type := 24, pos := "law01.go:138", after := #[{ on := 8, ground := Go.Ground.guard }], guard := some (8, false) }) (v := ?_) rfl (by kernel_rfl) (by kernel_rfl) (by kernel_rfl) (fun _ _ _ h => h) (Or.inl ⟨by rfl, ?_⟩) hHeld ?_
  rotate_left
  · intro w hSw; (try dsimp only at hSw); go_simp; (try with_reducible rfl)
  (try simp only [Act.put, List.setIfInBounds_toArray, List.set_cons_zero, List.set_cons_succ])
  refine wpAnyH_take (i := 12) (oi := { dst := some 97, op := Go.Op.load 24 (Go.Operand.tmp 7), type := 24, pos := "law01.go:138", after := #[{ on := 8, ground := Go.Ground.guard }], guard := some (8, false) }) (v := ?_) rfl (by kernel_rfl) (by kernel_rfl) (by kernel_rfl) (fun _ _ _ h => h) (Or.inl ⟨by rfl, ?_⟩) hHeld ?_
  rotate_left
  · intro w hSw; (try dsimp only at hSw); go_simp; (try with_reducible rfl)
  (try simp only [Act.put, List.setIfInBounds_toArray, List.set_cons_zero, List.set_cons_succ])
  refine wpAnyH_take (i := 13) (oi := { dst := some 98, op := Go.Op.load 24 (Go.Operand.tmp 9), type := 24, pos := "law01.go:138", after := #[{ on := 8, ground := Go.Ground.guard }], guard := some (8, false) }) (v := ?_) rfl (by kernel_rfl) (by kernel_rfl) (by kernel_rfl) (fun _ _ _ h => h) (Or.inl ⟨by rfl, ?_⟩) hHeld ?_
  rotate_left
  · intro w hSw; (try dsimp only at hSw); go_simp; (try with_reducible rfl)
  (try simp only [Act.put, List.setIfInBounds_toArray, List.set_cons_zero, List.set_cons_succ])
  refine wpAnyH_ready (rs := [11]) (by kernel_rfl) (by simp) ?_
  refine AllReadyH.cons (o := { dst := some 96, op := Go.Op.call { callee := Go.Callee.value (Go.Operand.func 28), args := #[Go.Operand.tmp 94, Go.Operand.tmp 95], argTypes := #[24, 24] }, type := 3, pos := "law01.go:138", after := #[{ on := 9, ground := Go.Ground.data }, { on := 10, ground := Go.Ground.data }, { on := 8, ground := Go.Ground.chain }, { on := 8, ground := Go.Ground.guard }], guard := some (8, false) }) rfl (fun K hK => ?_) AllReadyH.nil
  go_simp
  (go_at_call 28; ((with_reducible refine (cmp_any x y a b _ ((HX.out).keep (held_ext hHeld)) ((HY.out).keep (held_ext hHeld))).mono ?_); rintro e w' ⟨rfl, hx⟩))
  (try go_wp2_with fail)
  refine hK.out _ _ ?_ (fun hHeld' => ?_)
  · (try dsimp only)
    (first | (with_reducible assumption) | (with_reducible exact held_of (Ext.rf _).dr) | (with_reducible exact held_of (Ext.dr (held_ext hHeld))) | (with_reducible exact held_of (Ext.tr (held_ext hHeld) hx)))
  clear hHeld
  have hHeld := hHeld'
  clear hHeld'
  clear hK K
  (try simp only [Act.put, List.setIfInBounds_toArray, List.set_cons_zero, List.set_cons_succ])
  refine wpAnyH_ready (rs := [14]) (by kernel_rfl) (by simp) ?_
  refine AllReadyH.cons (o := { dst := some 99, op := Go.Op.call { callee := Go.Callee.value (Go.Operand.func 24), args := #[Go.Operand.tmp 97, Go.Operand.tmp 98], argTypes := #[24, 24] }, type := 24, pos := "law01.go:138", after := #[{ on := 12, ground := Go.Ground.data }, { on := 13, ground := Go.Ground.data }, { on := 11, ground := Go.Ground.chain }, { on := 8, ground := Go.Ground.guard }], guard := some (8, false) }) rfl (fun K hK => ?_) AllReadyH.nil
  go_simp
  (go_at_call 24; ((with_reducible refine (sub_any x y a b _ ((HX.out).keep (held_ext hHeld)) ((HY.out).keep (held_ext hHeld)) (((BA).sub (BB)).sm (by omega))).mono ?_); rintro e w' ⟨y99, rfl, h99, hx⟩))
  (try go_wp2_with fail)
  refine hK.out _ _ ?_ (fun hHeld' => ?_)
  · (try dsimp only)
    (first | (with_reducible assumption) | (with_reducible exact held_of (Ext.rf _).dr) | (with_reducible exact held_of (Ext.dr (held_ext hHeld))) | (with_reducible exact held_of (Ext.tr (held_ext hHeld) hx)))
  clear hHeld
  have hHeld := hHeld'
  clear hHeld'
  clear hK K
  (try simp only [Act.put, List.setIfInBounds_toArray, List.set_cons_zero, List.set_cons_succ])
  refine wpAnyH_ready (rs := [15]) (by kernel_rfl) (by simp) ?_
  refine AllReadyH.cons (o := { dst := some 100, op := Go.Op.call { callee := Go.Callee.value (Go.Operand.func 18), args := #[Go.Operand.tmp 99], argTypes := #[24] }, type := 3, pos := "law01.go:138", after := #[{ on := 14, ground := Go.Ground.data }, { on := 14, ground := Go.Ground.chain }, { on := 8, ground := Go.Ground.guard }], guard := some (8, false) }) rfl (fun K hK => ?_) AllReadyH.nil
  go_simp
  (go_at_call 18; ((with_reducible refine (sign_any y99 (a - b) _ h99).mono ?_); rintro e w' ⟨rfl, hx⟩; rw [q6]))
  (try go_wp2_with fail)
  refine hK.out _ _ ?_ (fun hHeld' => ?_)
  · (try dsimp only)
    (first | (with_reducible assumption) | (with_reducible exact held_of (Ext.rf _).dr) | (with_reducible exact held_of (Ext.dr (held_ext hHeld))) | (with_reducible exact held_of (Ext.tr (held_ext hHeld) hx)))
  clear hHeld
  have hHeld := hHeld'
  clear hHeld'
  clear hK K
  (try simp only [Act.put, List.setIfInBounds_toArray, List.set_cons_zero, List.set_cons_succ])
  refine wpAnyH_take (i := 16) (oi := { dst := some 101, op := Go.Op.binOp Go.BinOp.neq 3 (Go.Operand.tmp 96) (Go.Operand.tmp 100) 3, type := 4, pos := "law01.go:138", after := #[{ on := 11, ground := Go.Ground.data }, { on := 15, ground := Go.Ground.data }, { on := 8, ground := Go.Ground.guard }], guard := some (8, false) }) (v := ?_) rfl (by kernel_rfl) (by kernel_rfl) (by kernel_rfl) (fun _ _ _ h => h) (Or.inl ⟨by rfl, ?_⟩) hHeld ?_
  rotate_left
  · intro w hSw; (try dsimp only at hSw); go_simp; (try with_reducible rfl)
  (try simp only [Act.put, List.setIfInBounds_toArray, List.set_cons_zero, List.set_cons_succ])
  refine wpAnyH_take (i := 17) (oi := { dst := some 102, op := Go.Op.pick (Go.Operand.tmp 93) (Go.Operand.const (Go.Value.bool true)) (Go.Operand.tmp 101), type := 4, pos := "law01.go:138", after := #[{ on := 8, ground := Go.Ground.data }, { on := 16, ground := Go.Ground.data }], guard := none }) (v := ?_) rfl (by kernel_rfl) (by kernel_rfl) (by kernel_rfl) (fun _ _ _ h => h) (Or.inl ⟨by rfl, ?_⟩) hHeld ?_
  rotate_left
  · intro w hSw; (try dsimp only at hSw); go_simp; (try with_reducible rfl)
  (try simp only [Act.put, List.setIfInBounds_toArray, List.set_cons_zero, List.set_cons_succ])
  refine wpAnyH_take (i := 18) (oi := { dst := some 103, op := Go.Op.move (Go.Operand.tmp 102), type := 4, pos := "law01.go:138", after := #[{ on := 17, ground := Go.Ground.data }, { on := 15, ground := Go.Ground.chain }], guard := none }) (v := ?_) rfl (by kernel_rfl) (by kernel_rfl) (by kernel_rfl) (fun _ _ _ h => h) (Or.inl ⟨by rfl, ?_⟩) hHeld ?_
  rotate_left
  · intro w hSw; (try dsimp only at hSw); go_simp; (try with_reducible rfl)
  (try simp only [Act.put, List.setIfInBounds_toArray, List.set_cons_zero, List.set_cons_succ])
  refine wpAnyH_take (i := 19) (oi := { dst := some 104, op := Go.Op.load 24 (Go.Operand.tmp 7), type := 24, pos := "law01.go:138", after := #[{ on := 18, ground := Go.Ground.guard }], guard := some (18, false) }) (v := ?_) rfl (by kernel_rfl) (by kernel_rfl) (by kernel_rfl) (fun _ _ _ h => h) (Or.inl ⟨by rfl, ?_⟩) hHeld ?_
  rotate_left
  · intro w hSw; (try dsimp only at hSw); go_simp; (try with_reducible rfl)
  (try simp only [Act.put, List.setIfInBounds_toArray, List.set_cons_zero, List.set_cons_succ])
  refine wpAnyH_take (i := 20) (oi := { dst := some 105, op := Go.Op.load 24 (Go.Operand.tmp 9), type := 24, pos := "law01.go:138", after := #[{ on := 18, ground := Go.Ground.guard }], guard := some (18, false) }) (v := ?_) rfl (by kernel_rfl) (by kernel_rfl) (by kernel_rfl) (fun _ _ _ h => h) (Or.inl ⟨by rfl, ?_⟩) hHeld ?_
  rotate_left
  · intro w hSw; (try dsimp only at hSw); go_simp; (try with_reducible rfl)
  (try simp only [Act.put, List.setIfInBounds_toArray, List.set_cons_zero, List.set_cons_succ])
  refine wpAnyH_take (i := 21) (oi := { dst := some 106, op := Go.Op.load 24 (Go.Operand.tmp 11), type := 24, pos := "law01.go:138", after := #[{ on := 18, ground := Go.Ground.guard }], guard := some (18, false) }) (v := ?_) rfl (by kernel_rfl) (by kernel_rfl) (by kernel_rfl) (fun _ _ _ h => h) (Or.inl ⟨by rfl, ?_⟩) hHeld ?_
  rotate_left
  · intro w hSw; (try dsimp only at hSw); go_simp; (try with_reducible rfl)
  (try simp only [Act.put, List.setIfInBounds_toArray, List.set_cons_zero, List.set_cons_succ])
  refine wpAnyH_take (i := 24) (oi := { dst := some 109, op := Go.Op.load 24 (Go.Operand.tmp 7), type := 24, pos := "law01.go:138", after := #[{ on := 18, ground := Go.Ground.guard }], guard := some (18, false) }) (v := ?_) rfl (by kernel_rfl) (by kernel_rfl) (by kernel_rfl) (fun _ _ _ h => h) (Or.inl ⟨by rfl, ?_⟩) hHeld ?_
  rotate_left
  · intro w hSw; (try dsimp only at hSw); go_simp; (try with_reducible rfl)
  (try simp only [Act.put, List.setIfInBounds_toArray, List.set_cons_zero, List.set_cons_succ])
  refine wpAnyH_take (i := 25) (oi := { dst := some 110, op := Go.Op.load 24 (Go.Operand.tmp 9), type := 24, pos := "law01.go:138", after := #[{ on := 18, ground := Go.Ground.guard }], guard := some (18, false) }) (v := ?_) rfl (by kernel_rfl) (by kernel_rfl) (by kernel_rfl) (fun _ _ _ h => h) (Or.inl ⟨by rfl, ?_⟩) hHeld ?_
  rotate_left
  · intro w hSw; (try dsimp only at hSw); go_simp; (try with_reducible rfl)
  (try simp only [Act.put, List.setIfInBounds_toArray, List.set_cons_zero, List.set_cons_succ])
  refine wpAnyH_take (i := 27) (oi := { dst := some 112, op := Go.Op.load 24 (Go.Operand.tmp 11), type := 24, pos := "law01.go:138", after := #[{ on := 18, ground := Go.Ground.guard }], guard := some (18, false) }) (v := ?_) rfl (by kernel_rfl) (by kernel_rfl) (by kernel_rfl) (fun _ _ _ h => h) (Or.inl ⟨by rfl, ?_⟩) hHeld ?_
  rotate_left
  · intro w hSw; (try dsimp only at hSw); go_simp; (try with_reducible rfl)
  (try simp only [Act.put, List.setIfInBounds_toArray, List.set_cons_zero, List.set_cons_succ])
  refine wpAnyH_ready (rs := [22]) (by kernel_rfl) (by simp) ?_
  refine AllReadyH.cons (o := { dst := some 107, op := Go.Op.call { callee := Go.Callee.value (Go.Operand.func 22), args := #[Go.Operand.tmp 105, Go.Operand.tmp 106], argTypes := #[24, 24] }, type := 24, pos := "law01.go:138", after := #[{ on := 20, ground := Go.Ground.data }, { on := 21, ground := Go.Ground.data }, { on := 18, ground := Go.Ground.chain }, { on := 18, ground := Go.Ground.guard }], guard := some (18, false) }) rfl (fun K hK => ?_) AllReadyH.nil
  go_simp
  (go_at_call 22; ((with_reducible refine (add_any y z b c _ ((HY.out).keep (held_ext hHeld)) ((HZ.out).keep (held_ext hHeld)) (((BB).add (BC)).sm (by omega))).mono ?_); rintro e w' ⟨y107, rfl, h107, hx⟩))
  (try go_wp2_with fail)
  refine hK.out _ _ ?_ (fun hHeld' => ?_)
  · (try dsimp only)
    (first | (with_reducible assumption) | (with_reducible exact held_of (Ext.rf _).dr) | (with_reducible exact held_of (Ext.dr (held_ext hHeld))) | (with_reducible exact held_of (Ext.tr (held_ext hHeld) hx)))
  clear hHeld
  have hHeld := hHeld'
  clear hHeld'
  clear hK K
  (try simp only [Act.put, List.setIfInBounds_toArray, List.set_cons_zero, List.set_cons_succ])
  refine wpAnyH_ready (rs := [23]) (by kernel_rfl) (by simp) ?_
  refine AllReadyH.cons (o := { dst := some 108, op := Go.Op.call { callee := Go.Callee.value (Go.Operand.func 22), args := #[Go.Operand.tmp 104, Go.Operand.tmp 107], argTypes := #[24, 24] }, type := 24, pos := "law01.go:138", after := #[{ on := 19, ground := Go.Ground.data }, { on := 22, ground := Go.Ground.data }, { on := 22, ground := Go.Ground.chain }, { on := 18, ground := Go.Ground.guard }], guard := some (18, false) }) rfl (fun K hK => ?_) AllReadyH.nil
  go_simp
  (go_at_call 22; ((with_reducible refine (add_any x y107 a (b + c) _ ((HX.out).keep (held_ext hHeld)) h107 ((((BA).mono (show 4000 ≤ 4001 by omega)).add ((BB).add (BC))).sm (by omega))).mono ?_); rintro e w' ⟨y108, rfl, h108, hx⟩))
  (try go_wp2_with fail)
  refine hK.out _ _ ?_ (fun hHeld' => ?_)
  · (try dsimp only)
    (first | (with_reducible assumption) | (with_reducible exact held_of (Ext.rf _).dr) | (with_reducible exact held_of (Ext.dr (held_ext hHeld))) | (with_reducible exact held_of (Ext.tr (held_ext hHeld) hx)))
  clear hHeld
  have hHeld := hHeld'
  clear hHeld'
  clear hK K
  (try simp only [Act.put, List.setIfInBounds_toArray, List.set_cons_zero, List.set_cons_succ])
  refine wpAnyH_ready (rs := [26]) (by kernel_rfl) (by simp) ?_
  refine AllReadyH.cons (o := { dst := some 111, op := Go.Op.call { callee := Go.Callee.value (Go.Operand.func 22), args := #[Go.Operand.tmp 109, Go.Operand.tmp 110], argTypes := #[24, 24] }, type := 24, pos := "law01.go:138", after := #[{ on := 24, ground := Go.Ground.data }, { on := 25, ground := Go.Ground.data }, { on := 23, ground := Go.Ground.chain }, { on := 18, ground := Go.Ground.guard }], guard := some (18, false) }) rfl (fun K hK => ?_) AllReadyH.nil
  go_simp
  (go_at_call 22; ((with_reducible refine (add_any x y a b _ ((HX.out).keep (held_ext hHeld)) ((HY.out).keep (held_ext hHeld)) (((BA).add (BB)).sm (by omega))).mono ?_); rintro e w' ⟨y111, rfl, h111, hx⟩; replace h108 := h108.keep hx))
  (try go_wp2_with fail)
  refine hK.out _ _ ?_ (fun hHeld' => ?_)
  · (try dsimp only)
    (first | (with_reducible assumption) | (with_reducible exact held_of (Ext.rf _).dr) | (with_reducible exact held_of (Ext.dr (held_ext hHeld))) | (with_reducible exact held_of (Ext.tr (held_ext hHeld) hx)))
  clear hHeld
  have hHeld := hHeld'
  clear hHeld'
  clear hK K
  (try simp only [Act.put, List.setIfInBounds_toArray, List.set_cons_zero, List.set_cons_succ])
  refine wpAnyH_ready (rs := [28]) (by kernel_rfl) (by simp) ?_
  refine AllReadyH.cons (o := { dst := some 113, op := Go.Op.call { callee := Go.Callee.value (Go.Operand.func 22), args := #[Go.Operand.tmp 111, Go.Operand.tmp 112], argTypes := #[24, 24] }, type := 24, pos := "law01.go:138", after := #[{ on := 26, ground := Go.Ground.data }, { on := 27, ground := Go.Ground.data }, { on := 26, ground := Go.Ground.chain }, { on := 18, ground := Go.Ground.guard }], guard := some (18, false) }) rfl (fun K hK => ?_) AllReadyH.nil
  go_simp
  (go_at_call 22; ((with_reducible refine (add_any y111 z (a + b) c _ h111 ((HZ.out).keep (held_ext hHeld)) ((((BA).add (BB)).add ((BC).mono (show 4000 ≤ 4001 by omega))).sm (by omega))).mono ?_); rintro e w' ⟨y113, rfl, h113, hx⟩; replace h108 := h108.keep hx))
  (try go_wp2_with fail)
  refine hK.out _ _ ?_ (fun hHeld' => ?_)
  · (try dsimp only)
    (first | (with_reducible assumption) | (with_reducible exact held_of (Ext.rf _).dr) | (with_reducible exact held_of (Ext.dr (held_ext hHeld))) | (with_reducible exact held_of (Ext.tr (held_ext hHeld) hx)))
  clear hHeld
  have hHeld := hHeld'
  clear hHeld'
  clear hK K
  (try simp only [Act.put, List.setIfInBounds_toArray, List.set_cons_zero, List.set_cons_succ])
  refine wpAnyH_ready (rs := [29]) (by kernel_rfl) (by simp) ?_
  refine AllReadyH.cons (o := { dst := some 114, op := Go.Op.call { callee := Go.Callee.value (Go.Operand.func 28), args := #[Go.Operand.tmp 108, Go.Operand.tmp 113], argTypes := #[24, 24] }, type := 3, pos := "law01.go:138", after := #[{ on := 23, ground := Go.Ground.data }, { on := 28, ground := Go.Ground.data }, { on := 28, ground := Go.Ground.chain }, { on := 18, ground := Go.Ground.guard }], guard := some (18, false) }) rfl (fun K hK => ?_) AllReadyH.nil
  go_simp
  (go_at_call 28; ((with_reducible refine (cmp_any y108 y113 (a + (b + c)) ((a + b) + c) _ h108 h113).mono ?_); rintro e w' ⟨rfl, hx⟩; rw [q7]))
  (try go_wp2_with fail)
  refine hK.out _ _ ?_ (fun hHeld' => ?_)
  · (try dsimp only)
    (first | (with_reducible assumption) | (with_reducible exact held_of (Ext.rf _).dr) | (with_reducible exact held_of (Ext.dr (held_ext hHeld))) | (with_reducible exact held_of (Ext.tr (held_ext hHeld) hx)))
  clear hHeld
  have hHeld := hHeld'
  clear hHeld'
  clear hK K
  (try simp only [Act.put, List.setIfInBounds_toArray, List.set_cons_zero, List.set_cons_succ])
  refine wpAnyH_take (i := 30) (oi := { dst := some 115, op := Go.Op.binOp Go.BinOp.neq 3 (Go.Operand.tmp 114) (Go.Operand.const (Go.Value.int Go.IntKind.i64 0)) 3, type := 4, pos := "law01.go:138", after := #[{ on := 29, ground := Go.Ground.data }, { on := 18, ground := Go.Ground.guard }], guard := some (18, false) }) (v := ?_) rfl (by kernel_rfl) (by kernel_rfl) (by kernel_rfl) (fun _ _ _ h => h) (Or.inl ⟨by rfl, ?_⟩) hHeld ?_
  rotate_left
  · intro w hSw; (try dsimp only at hSw); go_simp; (try with_reducible rfl)
  (try simp only [Act.put, List.setIfInBounds_toArray, List.set_cons_zero, List.set_cons_succ])
  refine wpAnyH_take (i := 31) (oi := { dst := some 116, op := Go.Op.pick (Go.Operand.tmp 103) (Go.Operand.const (Go.Value.bool true)) (Go.Operand.tmp 115), type := 4, pos := "law01.go:138", after := #[{ on := 18, ground := Go.Ground.data }, { on := 30, ground := Go.Ground.data }], guard := none }) (v := ?_) rfl (by kernel_rfl) (by kernel_rfl) (by kernel_rfl) (fun _ _ _ h => h) (Or.inl ⟨by rfl, ?_⟩) hHeld ?_
  rotate_left
  · intro w hSw; (try dsimp only at hSw); go_simp; (try with_reducible rfl)
  (try simp only [Act.put, List.setIfInBounds_toArray, List.set_cons_zero, List.set_cons_succ])
  refine wpAnyH_done (by kernel_rfl) ?_ _
  go_wp2_with fail
  refine wp_region_held_drew (S := (fun w' => Ext w5 w' ∧ (∀ b o, b < w5.heap.size → w'.cell? ⟨b, o, none⟩ = w5.cell? ⟨b, o, none⟩))) (by kernel_rfl) ?_ (fun hHeld => ?_)
  · (try dsimp only)
    (first | (with_reducible assumption) | (with_reducible exact held_of (Ext.rf _).dr) | (with_reducible exact held_of (Ext.dr (held_ext hHeld))) | (with_reducible exact held_of (Ext.tr (held_ext hHeld) hx)))
  refine wpAnyH_take (i := 0) (oi := { dst := some 117, op := Go.Op.load 24 (Go.Operand.tmp 7), type := 24, pos := "law01.go:141", after := #[], guard := none }) (v := ?_) rfl (by kernel_rfl) (by kernel_rfl) (by kernel_rfl) (fun _ _ _ h => h) (Or.inl ⟨by rfl, ?_⟩) hHeld ?_
  rotate_left
  · intro w hSw; (try dsimp only at hSw); go_simp; (try with_reducible rfl)
  (try simp only [Act.put, List.setIfInBounds_toArray, List.set_cons_zero, List.set_cons_succ])
  refine wpAnyH_ready (rs := [1]) (by kernel_rfl) (by simp) ?_
  refine AllReadyH.cons (o := { dst := some 118, op := Go.Op.call { callee := Go.Callee.value (Go.Operand.func 14), args := #[Go.Operand.tmp 117], argTypes := #[24] }, type := 9, pos := "law01.go:141", after := #[{ on := 0, ground := Go.Ground.data }], guard := none }) rfl (fun K hK => ?_) AllReadyH.nil
  go_simp
  (go_at_call 14; ((with_reducible refine (text_any x a _ ((HX.out).keep (held_ext hHeld))).mono ?_); rintro e w' ⟨rfl, hx⟩))
  (try go_wp2_with fail)
  refine hK.out _ _ ?_ (fun hHeld' => ?_)
  · (try dsimp only)
    (first | (with_reducible assumption) | (with_reducible exact held_of (Ext.rf _).dr) | (with_reducible exact held_of (Ext.dr (held_ext hHeld))) | (with_reducible exact held_of (Ext.tr (held_ext hHeld) hx)))
  clear hHeld
  have hHeld := hHeld'
  clear hHeld'
  clear hK K
  (try simp only [Act.put, List.setIfInBounds_toArray, List.set_cons_zero, List.set_cons_succ])
  refine wpAnyH_take (i := 2) (oi := { dst := some 119, op := Go.Op.call { callee := Go.Callee.builtin Go.Builtin.len, args := #[Go.Operand.tmp 118], argTypes := #[9] }, type := 3, pos := "law01.go:141", after := #[{ on := 1, ground := Go.Ground.data }], guard := none }) (v := ?_) rfl (by kernel_rfl) (by kernel_rfl) (by kernel_rfl) (fun _ _ _ h => h) (Or.inl ⟨by rfl, ?_⟩) hHeld ?_
  rotate_left
  · intro w hSw; (try dsimp only at hSw); go_simp; (try with_reducible rfl)
  (try simp only [Act.put, List.setIfInBounds_toArray, List.set_cons_zero, List.set_cons_succ])
  refine wpAnyH_take (i := 3) (oi := { dst := some 120, op := Go.Op.binOp Go.BinOp.gtr 3 (Go.Operand.tmp 119) (Go.Operand.const (Go.Value.int Go.IntKind.i64 1001)) 3, type := 4, pos := "law01.go:141", after := #[{ on := 2, ground := Go.Ground.data }], guard := none }) (v := ?_) rfl (by kernel_rfl) (by kernel_rfl) (by kernel_rfl) (fun _ _ _ h => h) (Or.inl ⟨by rfl, ?_⟩) hHeld ?_
  rotate_left
  · intro w hSw; (try dsimp only at hSw); go_simp; (try with_reducible rfl)
  (try simp only [Act.put, List.setIfInBounds_toArray, List.set_cons_zero, List.set_cons_succ])
  refine wpAnyH_take (i := 4) (oi := { dst := some 121, op := Go.Op.move (Go.Operand.tmp 120), type := 4, pos := "law01.go:141", after := #[{ on := 3, ground := Go.Ground.data }, { on := 1, ground := Go.Ground.chain }], guard := none }) (v := ?_) rfl (by kernel_rfl) (by kernel_rfl) (by kernel_rfl) (fun _ _ _ h => h) (Or.inl ⟨by rfl, ?_⟩) hHeld ?_
  rotate_left
  · intro w hSw; (try dsimp only at hSw); go_simp; (try with_reducible rfl)
  (try simp only [Act.put, List.setIfInBounds_toArray, List.set_cons_zero, List.set_cons_succ])
  refine wpAnyH_take (i := 5) (oi := { dst := some 122, op := Go.Op.load 24 (Go.Operand.tmp 7), type := 24, pos := "law01.go:141", after := #[{ on := 4, ground := Go.Ground.guard }], guard := some (4, false) }) (v := ?_) rfl (by kernel_rfl) (by kernel_rfl) (by kernel_rfl) (fun _ _ _ h => h) (Or.inl ⟨by rfl, ?_⟩) hHeld ?_
  rotate_left
  · intro w hSw; (try dsimp only at hSw); go_simp; (try with_reducible rfl)
  (try simp only [Act.put, List.setIfInBounds_toArray, List.set_cons_zero, List.set_cons_succ])
  refine wpAnyH_take (i := 6) (oi := { dst := some 123, op := Go.Op.load 24 (Go.Operand.tmp 11), type := 24, pos := "law01.go:141", after := #[{ on := 4, ground := Go.Ground.guard }], guard := some (4, false) }) (v := ?_) rfl (by kernel_rfl) (by kernel_rfl) (by kernel_rfl) (fun _ _ _ h => h) (Or.inl ⟨by rfl, ?_⟩) hHeld ?_
  rotate_left
  · intro w hSw; (try dsimp only at hSw); go_simp; (try with_reducible rfl)
  (try simp only [Act.put, List.setIfInBounds_toArray, List.set_cons_zero, List.set_cons_succ])
  refine wpAnyH_take (i := 8) (oi := { dst := some 125, op := Go.Op.load 24 (Go.Operand.tmp 9), type := 24, pos := "law01.go:141", after := #[{ on := 4, ground := Go.Ground.guard }], guard := some (4, false) }) (v := ?_) rfl (by kernel_rfl) (by kernel_rfl) (by kernel_rfl) (fun _ _ _ h => h) (Or.inl ⟨by rfl, ?_⟩) hHeld ?_
  rotate_left
  · intro w hSw; (try dsimp only at hSw); go_simp; (try with_reducible rfl)
  (try simp only [Act.put, List.setIfInBounds_toArray, List.set_cons_zero, List.set_cons_succ])
  refine wpAnyH_take (i := 9) (oi := { dst := some 126, op := Go.Op.load 24 (Go.Operand.tmp 11), type := 24, pos := "law01.go:141", after := #[{ on := 4, ground := Go.Ground.guard }], guard := some (4, false) }) (v := ?_) rfl (by kernel_rfl) (by kernel_rfl) (by kernel_rfl) (fun _ _ _ h => h) (Or.inl ⟨by rfl, ?_⟩) hHeld ?_
  rotate_left
  · intro w hSw; (try dsimp only at hSw); go_simp; (try with_reducible rfl)
  (try simp only [Act.put, List.setIfInBounds_toArray, List.set_cons_zero, List.set_cons_succ])
  refine wpAnyH_take (i := 12) (oi := { dst := some 129, op := Go.Op.load 24 (Go.Operand.tmp 7), type := 24, pos := "law01.go:141", after := #[{ on := 4, ground := Go.Ground.guard }], guard := some (4, false) }) (v := ?_) rfl (by kernel_rfl) (by kernel_rfl) (by kernel_rfl) (fun _ _ _ h => h) (Or.inl ⟨by rfl, ?_⟩) hHeld ?_
  rotate_left
  · intro w hSw; (try dsimp only at hSw); go_simp; (try with_reducible rfl)
  (try simp only [Act.put, List.setIfInBounds_toArray, List.set_cons_zero, List.set_cons_succ])
  refine wpAnyH_take (i := 13) (oi := { dst := some 130, op := Go.Op.load 24 (Go.Operand.tmp 9), type := 24, pos := "law01.go:141", after := #[{ on := 4, ground := Go.Ground.guard }], guard := some (4, false) }) (v := ?_) rfl (by kernel_rfl) (by kernel_rfl) (by kernel_rfl) (fun _ _ _ h => h) (Or.inl ⟨by rfl, ?_⟩) hHeld ?_
  rotate_left
  · intro w hSw; (try dsimp only at hSw); go_simp; (try with_reducible rfl)
  (try simp only [Act.put, List.setIfInBounds_toArray, List.set_cons_zero, List.set_cons_succ])
  refine wpAnyH_take (i := 15) (oi := { dst := some 132, op := Go.Op.load 24 (Go.Operand.tmp 11), type := 24, pos := "law01.go:141", after := #[{ on := 4, ground := Go.Ground.guard }], guard := some (4, false) }) (v := ?_) rfl (by kernel_rfl) (by kernel_rfl) (by kernel_rfl) (fun _ _ _ h => h) (Or.inl ⟨by rfl, ?_⟩) hHeld ?_
  rotate_left
  · intro w hSw; (try dsimp only at hSw); go_simp; (try with_reducible rfl)
  (try simp only [Act.put, List.setIfInBounds_toArray, List.set_cons_zero, List.set_cons_succ])
  refine wpAnyH_ready (rs := [7]) (by kernel_rfl) (by simp) ?_
  refine AllReadyH.cons (o := { dst := some 124, op := Go.Op.call { callee := Go.Callee.value (Go.Operand.func 26), args := #[Go.Operand.tmp 122, Go.Operand.tmp 123], argTypes := #[24, 24] }, type := 24, pos := "law01.go:141", after := #[{ on := 5, ground := Go.Ground.data }, { on := 6, ground := Go.Ground.data }, { on := 4, ground := Go.Ground.chain }, { on := 4, ground := Go.Ground.guard }], guard := some (4, false) }) rfl (fun K hK => ?_) AllReadyH.nil
  go_simp
  (go_at_call 26; ((with_reducible refine (mul_any x z a c _ ((HX.out).keep (held_ext hHeld)) ((HZ.out).keep (held_ext hHeld)) (((BA).mul (BC)).sm (by omega))).mono ?_); rintro e w' ⟨y124, rfl, h124, hx⟩))
  (try go_wp2_with fail)
  refine hK.out _ _ ?_ (fun hHeld' => ?_)
  · (try dsimp only)
    (first | (with_reducible assumption) | (with_reducible exact held_of (Ext.rf _).dr) | (with_reducible exact held_of (Ext.dr (held_ext hHeld))) | (with_reducible exact held_of (Ext.tr (held_ext hHeld) hx)))
  clear hHeld
  have hHeld := hHeld'
  clear hHeld'
  clear hK K
  (try simp only [Act.put, List.setIfInBounds_toArray, List.set_cons_zero, List.set_cons_succ])
  refine wpAnyH_ready (rs := [10]) (by kernel_rfl) (by simp) ?_
  refine AllReadyH.cons (o := { dst := some 127, op := Go.Op.call { callee := Go.Callee.value (Go.Operand.func 26), args := #[Go.Operand.tmp 125, Go.Operand.tmp 126], argTypes := #[24, 24] }, type := 24, pos := "law01.go:141", after := #[{ on := 8, ground := Go.Ground.data }, { on := 9, ground := Go.Ground.data }, { on := 7, ground := Go.Ground.chain }, { on := 4, ground := Go.Ground.guard }], guard := some (4, false) }) rfl (fun K hK => ?_) AllReadyH.nil
  go_simp
  (go_at_call 26; ((with_reducible refine (mul_any y z b c _ ((HY.out).keep (held_ext hHeld)) ((HZ.out).keep (held_ext hHeld)) (((BB).mul (BC)).sm (by omega))).mono ?_); rintro e w' ⟨y127, rfl, h127, hx⟩; replace h124 := h124.keep hx))
  (try go_wp2_with fail)
  refine hK.out _ _ ?_ (fun hHeld' => ?_)
  · (try dsimp only)
    (first | (with_reducible assumption) | (with_reducible exact held_of (Ext.rf _).dr) | (with_reducible exact held_of (Ext.dr (held_ext hHeld))) | (with_reducible exact held_of (Ext.tr (held_ext hHeld) hx)))
  clear hHeld
  have hHeld := hHeld'
  clear hHeld'
  clear hK K
  (try simp only [Act.put, List.setIfInBounds_toArray, List.set_cons_zero, List.set_cons_succ])
  refine wpAnyH_ready (rs := [11]) (by kernel_rfl) (by simp) ?_
  refine AllReadyH.cons (o := { dst := some 128, op := Go.Op.call { callee := Go.Callee.value (Go.Operand.func 30), args := #[Go.Operand.tmp 124, Go.Operand.tmp 127], argTypes := #[24, 24] }, type := 24, pos := "law01.go:141", after := #[{ on := 7, ground := Go.Ground.data }, { on := 10, ground := Go.Ground.data }, { on := 10, ground := Go.Ground.chain }, { on := 4, ground := Go.Ground.guard }], guard := some (4, false) }) rfl (fun K hK => ?_) AllReadyH.nil
  go_simp
  (go_at_call 30; ((with_reducible refine (gcd_any y124 y127 (a * c) (b * c) _ h124 h127).mono ?_); rintro e w' ⟨y128, rfl, h128, hx⟩))
  (try go_wp2_with fail)
  refine hK.out _ _ ?_ (fun hHeld' => ?_)
  · (try dsimp only)
    (first | (with_reducible assumption) | (with_reducible exact held_of (Ext.rf _).dr) | (with_reducible exact held_of (Ext.dr (held_ext hHeld))) | (with_reducible exact held_of (Ext.tr (held_ext hHeld) hx)))
  clear hHeld
  have hHeld := hHeld'
  clear hHeld'
  clear hK K
  (try simp only [Act.put, List.setIfInBounds_toArray, List.set_cons_zero, List.set_cons_succ])
  refine wpAnyH_ready (rs := [14]) (by kernel_rfl) (by simp) ?_
  refine AllReadyH.cons (o := { dst := some 131, op := Go.Op.call { callee := Go.Callee.value (Go.Operand.func 30), args := #[Go.Operand.tmp 129, Go.Operand.tmp 130], argTypes := #[24, 24] }, type := 24, pos := "law01.go:141", after := #[{ on := 12, ground := Go.Ground.data }, { on := 13, ground := Go.Ground.data }, { on := 11, ground := Go.Ground.chain }, { on := 4, ground := Go.Ground.guard }], guard := some (4, false) }) rfl (fun K hK => ?_) AllReadyH.nil
  go_simp
  (go_at_call 30; ((with_reducible refine (gcd_any x y a b _ ((HX.out).keep (held_ext hHeld)) ((HY.out).keep (held_ext hHeld))).mono ?_); rintro e w' ⟨y131, rfl, h131, hx⟩; replace h128 := h128.keep hx))
  (try go_wp2_with fail)
  refine hK.out _ _ ?_ (fun hHeld' => ?_)
  · (try dsimp only)
    (first | (with_reducible assumption) | (with_reducible exact held_of (Ext.rf _).dr) | (with_reducible exact held_of (Ext.dr (held_ext hHeld))) | (with_reducible exact held_of (Ext.tr (held_ext hHeld) hx)))
  clear hHeld
  have hHeld := hHeld'
  clear hHeld'
  clear hK K
  (try simp only [Act.put, List.setIfInBounds_toArray, List.set_cons_zero, List.set_cons_succ])
  refine wpAnyH_ready (rs := [16]) (by kernel_rfl) (by simp) ?_
  refine AllReadyH.cons (o := { dst := some 133, op := Go.Op.call { callee := Go.Callee.value (Go.Operand.func 16), args := #[Go.Operand.const (Go.Value.int Go.IntKind.i64 0)], argTypes := #[3] }, type := 24, pos := "law01.go:141", after := #[{ on := 14, ground := Go.Ground.chain }, { on := 4, ground := Go.Ground.guard }], guard := some (4, false) }) rfl (fun K hK => ?_) AllReadyH.nil
  go_simp
  (go_at_call 16; ((with_reducible refine (of_any 0 _ (by omega)).mono ?_); rintro e w' ⟨y133, rfl, h133, hx⟩; replace h128 := h128.keep hx; replace h131 := h131.keep hx))
  (try go_wp2_with fail)
  refine hK.out _ _ ?_ (fun hHeld' => ?_)
  · (try dsimp only)
    (first | (with_reducible assumption) | (with_reducible exact held_of (Ext.rf _).dr) | (with_reducible exact held_of (Ext.dr (held_ext hHeld))) | (with_reducible exact held_of (Ext.tr (held_ext hHeld) hx)))
  clear hHeld
  have hHeld := hHeld'
  clear hHeld'
  clear hK K
  (try simp only [Act.put, List.setIfInBounds_toArray, List.set_cons_zero, List.set_cons_succ])
  refine wpAnyH_ready (rs := [17]) (by kernel_rfl) (by simp) ?_
  refine AllReadyH.cons (o := { dst := some 134, op := Go.Op.call { callee := Go.Callee.value (Go.Operand.func 30), args := #[Go.Operand.tmp 132, Go.Operand.tmp 133], argTypes := #[24, 24] }, type := 24, pos := "law01.go:141", after := #[{ on := 15, ground := Go.Ground.data }, { on := 16, ground := Go.Ground.data }, { on := 16, ground := Go.Ground.chain }, { on := 4, ground := Go.Ground.guard }], guard := some (4, false) }) rfl (fun K hK => ?_) AllReadyH.nil
  go_simp
  (go_at_call 30; ((with_reducible refine (gcd_any z y133 c 0 _ ((HZ.out).keep (held_ext hHeld)) h133).mono ?_); rintro e w' ⟨y134, rfl, h134, hx⟩; replace h128 := h128.keep hx; replace h131 := h131.keep hx))
  (try go_wp2_with fail)
  refine hK.out _ _ ?_ (fun hHeld' => ?_)
  · (try dsimp only)
    (first | (with_reducible assumption) | (with_reducible exact held_of (Ext.rf _).dr) | (with_reducible exact held_of (Ext.dr (held_ext hHeld))) | (with_reducible exact held_of (Ext.tr (held_ext hHeld) hx)))
  clear hHeld
  have hHeld := hHeld'
  clear hHeld'
  clear hK K
  (try simp only [Act.put, List.setIfInBounds_toArray, List.set_cons_zero, List.set_cons_succ])
  refine wpAnyH_ready (rs := [18]) (by kernel_rfl) (by simp) ?_
  refine AllReadyH.cons (o := { dst := some 135, op := Go.Op.call { callee := Go.Callee.value (Go.Operand.func 26), args := #[Go.Operand.tmp 131, Go.Operand.tmp 134], argTypes := #[24, 24] }, type := 24, pos := "law01.go:141", after := #[{ on := 14, ground := Go.Ground.data }, { on := 17, ground := Go.Ground.data }, { on := 17, ground := Go.Ground.chain }, { on := 4, ground := Go.Ground.guard }], guard := some (4, false) }) rfl (fun K hK => ?_) AllReadyH.nil
  go_simp
  (go_at_call 26; ((with_reducible refine (mul_any y131 y134 ((Int.gcd a b : Int)) ((Int.gcd c 0 : Int)) _ h131 h134 (((bt_gcd (BA) (BB)).mul (bt_gcd (BC) ((bt_i64 (n := 0) (by omega)).mono (show 64 ≤ 4000 by omega)))).sm (by omega))).mono ?_); rintro e w' ⟨y135, rfl, h135, hx⟩; replace h128 := h128.keep hx))
  (try go_wp2_with fail)
  refine hK.out _ _ ?_ (fun hHeld' => ?_)
  · (try dsimp only)
    (first | (with_reducible assumption) | (with_reducible exact held_of (Ext.rf _).dr) | (with_reducible exact held_of (Ext.dr (held_ext hHeld))) | (with_reducible exact held_of (Ext.tr (held_ext hHeld) hx)))
  clear hHeld
  have hHeld := hHeld'
  clear hHeld'
  clear hK K
  (try simp only [Act.put, List.setIfInBounds_toArray, List.set_cons_zero, List.set_cons_succ])
  refine wpAnyH_ready (rs := [19]) (by kernel_rfl) (by simp) ?_
  refine AllReadyH.cons (o := { dst := some 136, op := Go.Op.call { callee := Go.Callee.value (Go.Operand.func 28), args := #[Go.Operand.tmp 128, Go.Operand.tmp 135], argTypes := #[24, 24] }, type := 3, pos := "law01.go:141", after := #[{ on := 11, ground := Go.Ground.data }, { on := 18, ground := Go.Ground.data }, { on := 18, ground := Go.Ground.chain }, { on := 4, ground := Go.Ground.guard }], guard := some (4, false) }) rfl (fun K hK => ?_) AllReadyH.nil
  go_simp
  (go_at_call 28; ((with_reducible refine (cmp_any y128 y135 ((Int.gcd (a * c) (b * c) : Int)) (((Int.gcd a b : Int)) * ((Int.gcd c 0 : Int))) _ h128 h135).mono ?_); rintro e w' ⟨rfl, hx⟩; rw [q8]))
  (try go_wp2_with fail)
  refine hK.out _ _ ?_ (fun hHeld' => ?_)
  · (try dsimp only)
    (first | (with_reducible assumption) | (with_reducible exact held_of (Ext.rf _).dr) | (with_reducible exact held_of (Ext.dr (held_ext hHeld))) | (with_reducible exact held_of (Ext.tr (held_ext hHeld) hx)))
  clear hHeld
  have hHeld := hHeld'
  clear hHeld'
  clear hK K
  (try simp only [Act.put, List.setIfInBounds_toArray, List.set_cons_zero, List.set_cons_succ])
  refine wpAnyH_take (i := 20) (oi := { dst := some 137, op := Go.Op.binOp Go.BinOp.neq 3 (Go.Operand.tmp 136) (Go.Operand.const (Go.Value.int Go.IntKind.i64 0)) 3, type := 4, pos := "law01.go:141", after := #[{ on := 19, ground := Go.Ground.data }, { on := 4, ground := Go.Ground.guard }], guard := some (4, false) }) (v := ?_) rfl (by kernel_rfl) (by kernel_rfl) (by kernel_rfl) (fun _ _ _ h => h) (Or.inl ⟨by rfl, ?_⟩) hHeld ?_
  rotate_left
  · intro w hSw; (try dsimp only at hSw); go_simp; (try with_reducible rfl)
  (try simp only [Act.put, List.setIfInBounds_toArray, List.set_cons_zero, List.set_cons_succ])
  refine wpAnyH_take (i := 21) (oi := { dst := some 138, op := Go.Op.pick (Go.Operand.tmp 121) (Go.Operand.const (Go.Value.bool true)) (Go.Operand.tmp 137), type := 4, pos := "law01.go:141", after := #[{ on := 4, ground := Go.Ground.data }, { on := 20, ground := Go.Ground.data }], guard := none }) (v := ?_) rfl (by kernel_rfl) (by kernel_rfl) (by kernel_rfl) (fun _ _ _ h => h) (Or.inl ⟨by rfl, ?_⟩) hHeld ?_
  rotate_left
  · intro w hSw; (try dsimp only at hSw); go_simp; (try with_reducible rfl)
  (try simp only [Act.put, List.setIfInBounds_toArray, List.set_cons_zero, List.set_cons_succ])
  refine wpAnyH_done (by kernel_rfl) ?_ _
  have hX := held_ext hHeld
  clear q1 q2 q3 q4 q5 q6 q7 q8 q9 q9' q11 q12 hHeld
  have z1 := hX.size
  obtain ⟨hc1, hf1⟩ := bcell hX
  go_wp2_with fail
  refine (text_any x a _ (HX.out.keep hX)).mono ?_
  rintro e w6 ⟨rfl, h6⟩
  go_wp2_with fail
  have hb1 : parseZ (dec a) = a := by rw [hA.out]; exact hback.out.1
  have hb2 : parseC (dec a) = 0 := by rw [hA.out]; exact hback.out.2.1
  refine (parse_any (dec a) _ (by omega)).mono ?_
  rintro e w7 ⟨x2, rfl, hx2, h7⟩
  rw [hb1] at hx2
  rw [hb2]
  clear hb1
  have h57 := (hX.tr h6).tr h7
  clear hc1 hf1
  have z7 := h57.size
  obtain ⟨w8, hw8⟩ : ∃ w8, w8 = (w7.alloc (Obj.cells #[Value.bool x2.n, Value.slice x2.s.a x2.s.len x2.s.cap] 24)).alloc (Obj.cells #[Value.int .i64 0, Value.int .i64 (parseP (dec a))] 26) := ⟨_, rfl⟩
  have e78 : Ext w7 w8 := by rw [hw8]; exact ((Ext.rf w7).al _).al _
  have f0 : Box w8 (w7.heap.size + 1) 26 #[.int .i64 0, .int .i64 (parseP (dec a))] := by rw [hw8]; exact Box.new (by simp)
  have f1 : Box w8 w7.heap.size 24 (iv x2) := by rw [hw8]; exact (Box.new rfl).al _
  replace hx2 := hx2.keep e78
  have h58 := h57.tr e78
  go_upto_region 11 with fail
  rw [← hw8]
  clear e78 h6 h7 hX h57 hw8
  obtain ⟨hc1, hf1⟩ := bcell h58
  have z8 := h58.size
  obtain ⟨fa, fb, fc, fd⟩ := f0.facts
  obtain ⟨fe, ff, -, -⟩ := f1.facts
  go_wp2_with fail
  refine (cmp_any x2 x a a _ hx2 (HX.out.keep h58)).mono ?_
  rintro e w9 ⟨rfl, h9⟩
  rw [q10]
  have h59 := h58.tr h9
  replace f0 := f0.keep h9
  clear hc1 hf1 f1 fa fb fc fd fe ff hx2 h9 h58
  obtain ⟨hc1, hf1⟩ := bcell h59
  have z9 := h59.size
  have m1 : w1.heap.size < w9.heap.size := by omega
  have m2 : w2.heap.size < w9.heap.size := by omega
  have m3 : w3.heap.size < w9.heap.size := by omega
  by_cases hb0 : b = 0
  · go_wp2_with fail
    refine (div_zero x y _ (hb0 ▸ (HY.out.keep h59))).mono ?_
    rintro e w10 ⟨q, r, rfl, hq, hr, h10⟩
    have h510 := h59.tr h10
    replace f0 := f0.keep h10
    obtain ⟨fa, fb, fc, fd⟩ := f0.facts
    clear hc1 hf1
    obtain ⟨hc1, hf1⟩ := bcell h510
    have z10 := h510.size
    have hs0 : sgnZ b = 0 := by rw [hb0]; rfl
    replace hb0 := hd_ hb0
    have m1 : w1.heap.size < w10.heap.size := by omega
    have m2 : w2.heap.size < w10.heap.size := by omega
    have m7 := f0.lt
    have m8 : w7.heap.size < w10.heap.size := by omega
    go_wp2_with fail
    obtain ⟨w11, hw11⟩ : ∃ w11, w11 = (((w10.setCell ⟨w7.heap.size + 1, 0, none⟩ (.int .i64 4)).setCell ⟨w7.heap.size + 1, 1, none⟩ (.int .i64 0)).alloc (Obj.cells #[Value.bool q.n, Value.slice q.s.a q.s.len q.s.cap] 24)).alloc (Obj.cells #[Value.bool r.n, Value.slice r.s.a r.s.len r.s.cap] 24) := ⟨_, rfl⟩
    have h511 : Ext w5 w11 := by rw [hw11]; exact ((h510.st2 (by omega) _ _).al _).al _
    have f11 : Box w11 (w7.heap.size + 1) 26 #[.int .i64 4, .int .i64 0] := by rw [hw11]; exact ((f0.set2 _ _).al _).al _
    have q11 : Box w11 w10.heap.size 24 (iv q) := by rw [hw11]; exact (Box.new (by simp)).al _
    have r11 : Box w11 (w10.heap.size + 1) 24 (iv r) := by rw [hw11]; exact Box.new (by simp)
    have HQ : Hd (IsI w11 q _) := hd_ (by rw [hw11]; exact (hq.st2 f0 (by decide) _ _).keep (((Ext.rf _).al _).al _))
    have HR : Hd (IsI w11 r _) := hd_ (by rw [hw11]; exact (hr.st2 f0 (by decide) _ _).keep (((Ext.rf _).al _).al _))
    rw [← hw11]
    clear hc1 hf1 fa fb fc fd hw11 m1 m2 m7 m8
    refine (sign_any y b _ (HY.out.keep h511)).mono ?_
    rintro e w12 ⟨rfl, h12⟩
    have h512 := h511.tr h12
    obtain ⟨fa, fb, fc, fd⟩ := (f11.keep h12).facts
    go_wp2
    go_ret
    exact ⟨rfl, G.out.tr h512⟩
  · go_wp2_with fail
    refine (div_any x y a b _ (HX.out.keep h59) (HY.out.keep h59) hb0).mono ?_
    rintro e w10 ⟨q, r, rfl, hq, hr, h10⟩
    have h510 := h59.tr h10
    replace f0 := f0.keep h10
    obtain ⟨fa, fb, fc, fd⟩ := f0.facts
    clear hc1 hf1
    obtain ⟨hc1, hf1⟩ := bcell h510
    have z10 := h510.size
    have hs0 : (sgnZ b == 0) = false := by
      rw [beq_eq_false_iff_ne]
      unfold sgnZ; (repeat' split) <;> omega
    have m1 : w1.heap.size < w10.heap.size := by omega
    have m2 : w2.heap.size < w10.heap.size := by omega
    have m7 := f0.lt
    have m8 : w7.heap.size < w10.heap.size := by omega
    go_wp2_with fail
    obtain ⟨w11, hw11⟩ : ∃ w11, w11 = (((w10.setCell ⟨w7.heap.size + 1, 0, none⟩ (.int .i64 0)).setCell ⟨w7.heap.size + 1, 1, none⟩ (.int .i64 0)).alloc (Obj.cells #[Value.bool q.n, Value.slice q.s.a q.s.len q.s.cap] 24)).alloc (Obj.cells #[Value.bool r.n, Value.slice r.s.a r.s.len r.s.cap] 24) := ⟨_, rfl⟩
    have h511 : Ext w5 w11 := by rw [hw11]; exact ((h510.st2 (by omega) _ _).al _).al _
    have f11 : Box w11 (w7.heap.size + 1) 26 #[.int .i64 0, .int .i64 0] := by rw [hw11]; exact ((f0.set2 _ _).al _).al _
    have q11 : Box w11 w10.heap.size 24 (iv q) := by rw [hw11]; exact (Box.new (by simp)).al _
    have r11 : Box w11 (w10.heap.size + 1) 24 (iv r) := by rw [hw11]; exact Box.new (by simp)
    have HQ : Hd (IsI w11 q _) := hd_ (by rw [hw11]; exact (hq.st2 f0 (by decide) _ _).keep (((Ext.rf _).al _).al _))
    have HR : Hd (IsI w11 r _) := hd_ (by rw [hw11]; exact (hr.st2 f0 (by decide) _ _).keep (((Ext.rf _).al _).al _))
    rw [← hw11]
    clear hc1 hf1 fa fb fc fd hw11 m1 m2 m7 m8
    refine (sign_any y b _ (HY.out.keep h511)).mono ?_
    rintro e w12 ⟨rfl, h12⟩
    have h512 := h511.tr h12
    have z12 := h512.size
    have p2 : w2.heap.size < w12.heap.size := by omega
    have k5' := cell_later h512 k5
    have k6' := cell_later h512 k6
    have r1 : cmpZ (((a / b) * b) + (a % b)) a = 0 := cmpZ_eq (by have := Int.mul_ediv_add_emod a b; rw [Int.mul_comm]; omega)
    have g0 := Int.emod_nonneg a hb0
    have g1 := Int.emod_lt a hb0
    have r2 : decide (0 ≤ sgnZ (a % b)) = true := decide_eq_true (by unfold sgnZ; (repeat' split) <;> omega)
    replace f11 := f11.keep h12
    replace q11 := q11.keep h12
    replace r11 := r11.keep h12
    have BQ : Bt (a / b) 4000 := bt_ediv b BA
    have BR : Bt (a % b) 4000 := bt_emod hb0 BB
    by_cases hbn : b < 0
    · have r3 : cmpZ (a % b) (-b) = -1 := cmpZ_lt (by omega)
      have hs1 : sgnZ b < 0 := by unfold sgnZ; rw [if_pos hbn]; omega
      replace hb0 := hd_ hb0
      replace hbn := hd_ hbn
      clear g0 g1
      go_wp2_with fail
      refine (sign_any y b _ (HY.out.keep (h512.al _))).mono ?_
      rintro e w14 ⟨rfl, h14⟩
      have h514 := (h512.al _).tr h14
      have k5'' := cell_later h514 k5
      have k6'' := cell_later h514 k6
      have s0 : Box w14 w12.heap.size 24 (iv y) := (Box.new rfl).keep h14
      clear k5' k6'
      go_wp2_with fail
      refine (neg_any y b _ (HY.out.keep h514)).mono ?_
      rintro e w15 ⟨yn, rfl, hyn, h15⟩
      have s1 := s0.keep h15
      obtain ⟨sa, sb, sc, sd⟩ := s1.facts
      clear k5'' k6''
      go_upto_region 19 with fail
      obtain ⟨wE, hwE⟩ : ∃ wE, wE = (w15.setCell ⟨w12.heap.size, 0, none⟩ (Value.bool yn.n)).setCell ⟨w12.heap.size, 1, none⟩ (Value.slice yn.s.a yn.s.len yn.s.cap) := ⟨_, rfl⟩
      have h5E : Ext w5 wE := by rw [hwE]; exact (h514.tr h15).st2 h512.size _ _
      have e12E : Ext w12 wE := by rw [hwE]; exact ((((Ext.rf w12).al _).tr h14).tr h15).st2 (Nat.le_refl _) _ _
      have sE : Box wE w12.heap.size 24 (iv yn) := by rw [hwE]; exact s1.set2 _ _
      have HS : Hd (IsI wE yn (-b)) := hd_ (by rw [hwE]; exact hyn.st2 s1 (by decide) _ _)
      rw [← hwE]
      clear hwE
      have HXE := hd_ (HX.out.keep h5E)
      have HYE := hd_ (HY.out.keep h5E)
      have HQE := hd_ ((HQ.out.keep h12).keep e12E)
      have HRE := hd_ ((HR.out.keep h12).keep e12E)
      obtain ⟨fa, fb, -, -⟩ := (f11.keep e12E).facts
      obtain ⟨qa, qb, -, -⟩ := (q11.keep e12E).facts
      obtain ⟨ra, rb, -, -⟩ := (r11.keep e12E).facts
      obtain ⟨sa', sb', -, -⟩ := sE.facts
      have ka := cell_later h5E k1
      have kb := cell_later h5E k2
      have kc := cell_later h5E k5
      have kd := cell_later h5E k6
      have zE := h5E.size
      have ltb1 : w7.heap.size + 1 < wE.heap.size := (f11.keep e12E).lt
      have ltb7 : w7.heap.size < wE.heap.size := by omega
      have ltb2 := (q11.keep e12E).lt
      have ltb3 := (r11.keep e12E).lt
      have ltb4 := sE.lt
      have ltb5 : w1.heap.size < wE.heap.size := by omega
      have ltb6 : w2.heap.size < wE.heap.size := by omega
      have hS11 : Hd (∀ W', Ext wE W' → ((fun w' => Ext wE w' ∧ w'.cell? ⟨w7.heap.size + 1, 0, none⟩ = some (Value.int .i64 0) ∧ w'.cell? ⟨w10.heap.size, 0, none⟩ = some (Value.bool q.n) ∧ w'.cell? ⟨w10.heap.size, 1, none⟩ = some (Value.slice q.s.a q.s.len q.s.cap) ∧ w'.cell? ⟨w10.heap.size + 1, 0, none⟩ = some (Value.bool r.n) ∧ w'.cell? ⟨w10.heap.size + 1, 1, none⟩ = some (Value.slice r.s.a r.s.len r.s.cap) ∧ w'.cell? ⟨w12.heap.size, 0, none⟩ = some (Value.bool yn.n) ∧ w'.cell? ⟨w12.heap.size, 1, none⟩ = some (Value.slice yn.s.a yn.s.len yn.s.cap) ∧ w'.cell? ⟨w1.heap.size, 0, none⟩ = some (Value.bool x.n) ∧ w'.cell? ⟨w1.heap.size, 1, none⟩ = some (Value.slice x.s.a x.s.len x.s.cap) ∧ w'.cell? ⟨w2.heap.size, 0, none⟩ = some (Value.bool y.n) ∧ w'.cell? ⟨w2.heap.size, 1, none⟩ = some (Value.slice y.s.a y.s.len y.s.cap))) W') := hd_ fun W' e => ⟨e, cell_later e fa, cell_later e qa, cell_later e qb, cell_later e ra, cell_later e rb, cell_later e sa', cell_later e sb', cell_later e ka, cell_later e kb, cell_later e kc, cell_later e kd⟩
      refine wp_region_held_drew (S := (fun w' => Ext wE w' ∧ w'.cell? ⟨w7.heap.size + 1, 0, none⟩ = some (Value.int .i64 0) ∧ w'.cell? ⟨w10.heap.size, 0, none⟩ = some (Value.bool q.n) ∧ w'.cell? ⟨w10.heap.size, 1, none⟩ = some (Value.slice q.s.a q.s.len q.s.cap) ∧ w'.cell? ⟨w10.heap.size + 1, 0, none⟩ = some (Value.bool r.n) ∧ w'.cell? ⟨w10.heap.size + 1, 1, none⟩ = some (Value.slice r.s.a r.s.len r.s.cap) ∧ w'.cell? ⟨w12.heap.size, 0, none⟩ = some (Value.bool yn.n) ∧ w'.cell? ⟨w12.heap.size, 1, none⟩ = some (Value.slice yn.s.a yn.s.len yn.s.cap) ∧ w'.cell? ⟨w1.heap.size, 0, none⟩ = some (Value.bool x.n) ∧ w'.cell? ⟨w1.heap.size, 1, none⟩ = some (Value.slice x.s.a x.s.len x.s.cap) ∧ w'.cell? ⟨w2.heap.size, 0, none⟩ = some (Value.bool y.n) ∧ w'.cell? ⟨w2.heap.size, 1, none⟩ = some (Value.slice y.s.a y.s.len y.s.cap))) (by kernel_rfl) ?_ (fun hHeld => ?_)
      · (try dsimp only)
        (first | (with_reducible assumption) | (with_reducible exact hS11.out _ (Ext.rf _).dr) | (with_reducible exact hS11.out _ (Ext.dr (held_ext hHeld))) | (with_reducible exact hS11.out _ (Ext.tr (held_ext hHeld) hx)))
      refine wpAnyH_take (i := 0) (oi := { dst := some 173, op := Go.Op.fieldAddr 26 (Go.Operand.tmp 14) 0, type := 0, pos := "law01.go:156", after := #[], guard := none }) (v := ?_) rfl (by kernel_rfl) (by kernel_rfl) (by kernel_rfl) (fun _ _ _ h => h) (Or.inl ⟨by rfl, ?_⟩) hHeld ?_
      rotate_left
      · intro w hSw; (try dsimp only at hSw); go_simp; (try with_reducible rfl)
      (try simp only [Act.put, List.setIfInBounds_toArray, List.set_cons_zero, List.set_cons_succ])
      refine wpAnyH_take (i := 1) (oi := { dst := some 174, op := Go.Op.load 3 (Go.Operand.tmp 173), type := 3, pos := "law01.go:156", after := #[{ on := 0, ground := Go.Ground.data }], guard := none }) (v := ?_) rfl (by kernel_rfl) (by kernel_rfl) (by kernel_rfl) (fun _ _ _ h => h) (Or.inl ⟨by rfl, ?_⟩) hHeld ?_
      rotate_left
      · intro w hSw; (try dsimp only at hSw); go_simp; (try with_reducible rfl)
      (try simp only [Act.put, List.setIfInBounds_toArray, List.set_cons_zero, List.set_cons_succ])
      refine wpAnyH_take (i := 2) (oi := { dst := some 175, op := Go.Op.binOp Go.BinOp.eql 3 (Go.Operand.tmp 174) (Go.Operand.const (Go.Value.int Go.IntKind.i64 0)) 3, type := 4, pos := "law01.go:156", after := #[{ on := 1, ground := Go.Ground.data }], guard := none }) (v := ?_) rfl (by kernel_rfl) (by kernel_rfl) (by kernel_rfl) (fun _ _ _ h => h) (Or.inl ⟨by rfl, ?_⟩) hHeld ?_
      rotate_left
      · intro w hSw; (try dsimp only at hSw); go_simp; (try with_reducible rfl)
      (try simp only [Act.put, List.setIfInBounds_toArray, List.set_cons_zero, List.set_cons_succ])
      refine wpAnyH_take (i := 3) (oi := { dst := some 176, op := Go.Op.move (Go.Operand.tmp 175), type := 4, pos := "law01.go:156", after := #[{ on := 2, ground := Go.Ground.data }], guard := none }) (v := ?_) rfl (by kernel_rfl) (by kernel_rfl) (by kernel_rfl) (fun _ _ _ h => h) (Or.inl ⟨by rfl, ?_⟩) hHeld ?_
      rotate_left
      · intro w hSw; (try dsimp only at hSw); go_simp; (try with_reducible rfl)
      (try simp only [Act.put, List.setIfInBounds_toArray, List.set_cons_zero, List.set_cons_succ])
      refine wpAnyH_take (i := 4) (oi := { dst := some 177, op := Go.Op.load 24 (Go.Operand.tmp 15), type := 24, pos := "law01.go:156", after := #[{ on := 3, ground := Go.Ground.guard }], guard := some (3, true) }) (v := ?_) rfl (by kernel_rfl) (by kernel_rfl) (by kernel_rfl) (fun _ _ _ h => h) (Or.inl ⟨by rfl, ?_⟩) hHeld ?_
      rotate_left
      · intro w hSw; (try dsimp only at hSw); go_simp; (try with_reducible rfl)
      (try simp only [Act.put, List.setIfInBounds_toArray, List.set_cons_zero, List.set_cons_succ])
      refine wpAnyH_take (i := 5) (oi := { dst := some 178, op := Go.Op.load 24 (Go.Operand.tmp 9), type := 24, pos := "law01.go:156", after := #[{ on := 3, ground := Go.Ground.guard }], guard := some (3, true) }) (v := ?_) rfl (by kernel_rfl) (by kernel_rfl) (by kernel_rfl) (fun _ _ _ h => h) (Or.inl ⟨by rfl, ?_⟩) hHeld ?_
      rotate_left
      · intro w hSw; (try dsimp only at hSw); go_simp; (try with_reducible rfl)
      (try simp only [Act.put, List.setIfInBounds_toArray, List.set_cons_zero, List.set_cons_succ])
      refine wpAnyH_take (i := 7) (oi := { dst := some 180, op := Go.Op.load 24 (Go.Operand.tmp 16), type := 24, pos := "law01.go:156", after := #[{ on := 3, ground := Go.Ground.guard }], guard := some (3, true) }) (v := ?_) rfl (by kernel_rfl) (by kernel_rfl) (by kernel_rfl) (fun _ _ _ h => h) (Or.inl ⟨by rfl, ?_⟩) hHeld ?_
      rotate_left
      · intro w hSw; (try dsimp only at hSw); go_simp; (try with_reducible rfl)
      (try simp only [Act.put, List.setIfInBounds_toArray, List.set_cons_zero, List.set_cons_succ])
      refine wpAnyH_take (i := 9) (oi := { dst := some 182, op := Go.Op.load 24 (Go.Operand.tmp 7), type := 24, pos := "law01.go:156", after := #[{ on := 3, ground := Go.Ground.guard }], guard := some (3, true) }) (v := ?_) rfl (by kernel_rfl) (by kernel_rfl) (by kernel_rfl) (fun _ _ _ h => h) (Or.inl ⟨by rfl, ?_⟩) hHeld ?_
      rotate_left
      · intro w hSw; (try dsimp only at hSw); go_simp; (try with_reducible rfl)
      (try simp only [Act.put, List.setIfInBounds_toArray, List.set_cons_zero, List.set_cons_succ])
      refine wpAnyH_ready (rs := [6]) (by kernel_rfl) (by simp) ?_
      refine AllReadyH.cons (o := { dst := some 179, op := Go.Op.call { callee := Go.Callee.value (Go.Operand.func 26), args := #[Go.Operand.tmp 177, Go.Operand.tmp 178], argTypes := #[24, 24] }, type := 24, pos := "law01.go:156", after := #[{ on := 4, ground := Go.Ground.data }, { on := 5, ground := Go.Ground.data }, { on := 3, ground := Go.Ground.chain }, { on := 3, ground := Go.Ground.guard }], guard := some (3, true) }) rfl (fun K hK => ?_) AllReadyH.nil
      go_simp
      (go_at_call 26; ((with_reducible refine (mul_any q y (a / b) b _ ((HQE.out).keep (held_ext hHeld)) ((HYE.out).keep (held_ext hHeld)) (((BQ).mul (BB)).sm (by omega))).mono ?_); rintro e w' ⟨y179, rfl, h179, hx⟩))
      (try go_wp2_with fail)
      refine hK.out _ _ ?_ (fun hHeld' => ?_)
      · (try dsimp only)
        (first | (with_reducible assumption) | (with_reducible exact hS11.out _ (Ext.rf _).dr) | (with_reducible exact hS11.out _ (Ext.dr (held_ext hHeld))) | (with_reducible exact hS11.out _ (Ext.tr (held_ext hHeld) hx)))
      clear hHeld
      have hHeld := hHeld'
      clear hHeld'
      clear hK K
      (try simp only [Act.put, List.setIfInBounds_toArray, List.set_cons_zero, List.set_cons_succ])
      refine wpAnyH_ready (rs := [8]) (by kernel_rfl) (by simp) ?_
      refine AllReadyH.cons (o := { dst := some 181, op := Go.Op.call { callee := Go.Callee.value (Go.Operand.func 22), args := #[Go.Operand.tmp 179, Go.Operand.tmp 180], argTypes := #[24, 24] }, type := 24, pos := "law01.go:156", after := #[{ on := 6, ground := Go.Ground.data }, { on := 7, ground := Go.Ground.data }, { on := 6, ground := Go.Ground.chain }, { on := 3, ground := Go.Ground.guard }], guard := some (3, true) }) rfl (fun K hK => ?_) AllReadyH.nil
      go_simp
      (go_at_call 22; ((with_reducible refine (add_any y179 r ((a / b) * b) (a % b) _ h179 ((HRE.out).keep (held_ext hHeld)) ((((BQ).mul (BB)).add ((BR).mono (show 4000 ≤ 8000 by omega))).sm (by omega))).mono ?_); rintro e w' ⟨y181, rfl, h181, hx⟩))
      (try go_wp2_with fail)
      refine hK.out _ _ ?_ (fun hHeld' => ?_)
      · (try dsimp only)
        (first | (with_reducible assumption) | (with_reducible exact hS11.out _ (Ext.rf _).dr) | (with_reducible exact hS11.out _ (Ext.dr (held_ext hHeld))) | (with_reducible exact hS11.out _ (Ext.tr (held_ext hHeld) hx)))
      clear hHeld
      have hHeld := hHeld'
      clear hHeld'
      clear hK K
      (try simp only [Act.put, List.setIfInBounds_toArray, List.set_cons_zero, List.set_cons_succ])
      refine wpAnyH_ready (rs := [10]) (by kernel_rfl) (by simp) ?_
      refine AllReadyH.cons (o := { dst := some 183, op := Go.Op.call { callee := Go.Callee.value (Go.Operand.func 28), args := #[Go.Operand.tmp 181, Go.Operand.tmp 182], argTypes := #[24, 24] }, type := 3, pos := "law01.go:156", after := #[{ on := 8, ground := Go.Ground.data }, { on := 9, ground := Go.Ground.data }, { on := 8, ground := Go.Ground.chain }, { on := 3, ground := Go.Ground.guard }], guard := some (3, true) }) rfl (fun K hK => ?_) AllReadyH.nil
      go_simp
      (go_at_call 28; ((with_reducible refine (cmp_any y181 x (((a / b) * b) + (a % b)) a _ h181 ((HXE.out).keep (held_ext hHeld))).mono ?_); rintro e w' ⟨rfl, hx⟩; rw [r1]))
      (try go_wp2_with fail)
      refine hK.out _ _ ?_ (fun hHeld' => ?_)
      · (try dsimp only)
        (first | (with_reducible assumption) | (with_reducible exact hS11.out _ (Ext.rf _).dr) | (with_reducible exact hS11.out _ (Ext.dr (held_ext hHeld))) | (with_reducible exact hS11.out _ (Ext.tr (held_ext hHeld) hx)))
      clear hHeld
      have hHeld := hHeld'
      clear hHeld'
      clear hK K
      (try simp only [Act.put, List.setIfInBounds_toArray, List.set_cons_zero, List.set_cons_succ])
      refine wpAnyH_take (i := 11) (oi := { dst := some 184, op := Go.Op.binOp Go.BinOp.eql 3 (Go.Operand.tmp 183) (Go.Operand.const (Go.Value.int Go.IntKind.i64 0)) 3, type := 4, pos := "law01.go:156", after := #[{ on := 10, ground := Go.Ground.data }, { on := 3, ground := Go.Ground.guard }], guard := some (3, true) }) (v := ?_) rfl (by kernel_rfl) (by kernel_rfl) (by kernel_rfl) (fun _ _ _ h => h) (Or.inl ⟨by rfl, ?_⟩) hHeld ?_
      rotate_left
      · intro w hSw; (try dsimp only at hSw); go_simp; (try with_reducible rfl)
      (try simp only [Act.put, List.setIfInBounds_toArray, List.set_cons_zero, List.set_cons_succ])
      refine wpAnyH_take (i := 12) (oi := { dst := some 185, op := Go.Op.pick (Go.Operand.tmp 176) (Go.Operand.tmp 184) (Go.Operand.const (Go.Value.bool false)), type := 4, pos := "law01.go:156", after := #[{ on := 3, ground := Go.Ground.data }, { on := 11, ground := Go.Ground.data }], guard := none }) (v := ?_) rfl (by kernel_rfl) (by kernel_rfl) (by kernel_rfl) (fun _ _ _ h => h) (Or.inl ⟨by rfl, ?_⟩) hHeld ?_
      rotate_left
      · intro w hSw; (try dsimp only at hSw); go_simp; (try with_reducible rfl)
      (try simp only [Act.put, List.setIfInBounds_toArray, List.set_cons_zero, List.set_cons_succ])
      refine wpAnyH_take (i := 13) (oi := { dst := some 186, op := Go.Op.move (Go.Operand.tmp 185), type := 4, pos := "law01.go:156", after := #[{ on := 12, ground := Go.Ground.data }, { on := 10, ground := Go.Ground.chain }], guard := none }) (v := ?_) rfl (by kernel_rfl) (by kernel_rfl) (by kernel_rfl) (fun _ _ _ h => h) (Or.inl ⟨by rfl, ?_⟩) hHeld ?_
      rotate_left
      · intro w hSw; (try dsimp only at hSw); go_simp; (try with_reducible rfl)
      (try simp only [Act.put, List.setIfInBounds_toArray, List.set_cons_zero, List.set_cons_succ])
      refine wpAnyH_take (i := 14) (oi := { dst := some 187, op := Go.Op.load 24 (Go.Operand.tmp 16), type := 24, pos := "law01.go:156", after := #[{ on := 13, ground := Go.Ground.guard }], guard := some (13, true) }) (v := ?_) rfl (by kernel_rfl) (by kernel_rfl) (by kernel_rfl) (fun _ _ _ h => h) (Or.inl ⟨by rfl, ?_⟩) hHeld ?_
      rotate_left
      · intro w hSw; (try dsimp only at hSw); go_simp; (try with_reducible rfl)
      (try simp only [Act.put, List.setIfInBounds_toArray, List.set_cons_zero, List.set_cons_succ])
      refine wpAnyH_ready (rs := [15]) (by kernel_rfl) (by simp) ?_
      refine AllReadyH.cons (o := { dst := some 188, op := Go.Op.call { callee := Go.Callee.value (Go.Operand.func 18), args := #[Go.Operand.tmp 187], argTypes := #[24] }, type := 3, pos := "law01.go:156", after := #[{ on := 14, ground := Go.Ground.data }, { on := 13, ground := Go.Ground.chain }, { on := 13, ground := Go.Ground.guard }], guard := some (13, true) }) rfl (fun K hK => ?_) AllReadyH.nil
      go_simp
      (go_at_call 18; ((with_reducible refine (sign_any r (a % b) _ ((HRE.out).keep (held_ext hHeld))).mono ?_); rintro e w' ⟨rfl, hx⟩))
      (try go_wp2_with fail)
      refine hK.out _ _ ?_ (fun hHeld' => ?_)
      · (try dsimp only)
        (first | (with_reducible assumption) | (with_reducible exact hS11.out _ (Ext.rf _).dr) | (with_reducible exact hS11.out _ (Ext.dr (held_ext hHeld))) | (with_reducible exact hS11.out _ (Ext.tr (held_ext hHeld) hx)))
      clear hHeld
      have hHeld := hHeld'
      clear hHeld'
      clear hK K
      (try simp only [Act.put, List.setIfInBounds_toArray, List.set_cons_zero, List.set_cons_succ])
      refine wpAnyH_take (i := 16) (oi := { dst := some 189, op := Go.Op.binOp Go.BinOp.geq 3 (Go.Operand.tmp 188) (Go.Operand.const (Go.Value.int Go.IntKind.i64 0)) 3, type := 4, pos := "law01.go:156", after := #[{ on := 15, ground := Go.Ground.data }, { on := 13, ground := Go.Ground.guard }], guard := some (13, true) }) (v := ?_) rfl (by kernel_rfl) (by kernel_rfl) (by kernel_rfl) (fun _ _ _ h => h) (Or.inl ⟨by rfl, ?_⟩) hHeld ?_
      rotate_left
      · intro w hSw; (try dsimp only at hSw); go_simp; (try with_reducible rfl)
      (try simp only [Act.put, List.setIfInBounds_toArray, List.set_cons_zero, List.set_cons_succ])
      refine wpAnyH_take (i := 17) (oi := { dst := some 190, op := Go.Op.pick (Go.Operand.tmp 186) (Go.Operand.tmp 189) (Go.Operand.const (Go.Value.bool false)), type := 4, pos := "law01.go:156", after := #[{ on := 13, ground := Go.Ground.data }, { on := 16, ground := Go.Ground.data }], guard := none }) (v := ?_) rfl (by kernel_rfl) (by kernel_rfl) (by kernel_rfl) (fun _ _ _ h => h) (Or.inl ⟨by rfl, ?_⟩) hHeld ?_
      rotate_left
      · intro w hSw; (try dsimp only at hSw); go_simp; (try with_reducible rfl)
      (try simp only [Act.put, List.setIfInBounds_toArray, List.set_cons_zero, List.set_cons_succ])
      refine wpAnyH_take (i := 18) (oi := { dst := some 191, op := Go.Op.move (Go.Operand.tmp 190), type := 4, pos := "law01.go:156", after := #[{ on := 17, ground := Go.Ground.data }, { on := 15, ground := Go.Ground.chain }], guard := none }) (v := ?_) rfl (by kernel_rfl) (by kernel_rfl) (by kernel_rfl) (fun _ _ _ h => h) (Or.inl ⟨by rfl, ?_⟩) hHeld ?_
      rotate_left
      · intro w hSw; (try dsimp only at hSw); go_simp; (try with_reducible rfl)
      (try simp only [Act.put, List.setIfInBounds_toArray, List.set_cons_zero, List.set_cons_succ])
      refine wpAnyH_take (i := 19) (oi := { dst := some 192, op := Go.Op.load 24 (Go.Operand.tmp 16), type := 24, pos := "law01.go:156", after := #[{ on := 18, ground := Go.Ground.guard }], guard := some (18, true) }) (v := ?_) rfl (by kernel_rfl) (by kernel_rfl) (by kernel_rfl) (fun _ _ _ h => h) (Or.inl ⟨by rfl, ?_⟩) hHeld ?_
      rotate_left
      · intro w hSw; (try dsimp only at hSw); go_simp; (try with_reducible rfl)
      (try simp only [Act.put, List.setIfInBounds_toArray, List.set_cons_zero, List.set_cons_succ])
      refine wpAnyH_take (i := 20) (oi := { dst := some 193, op := Go.Op.load 24 (Go.Operand.tmp 17), type := 24, pos := "law01.go:156", after := #[{ on := 18, ground := Go.Ground.guard }], guard := some (18, true) }) (v := ?_) rfl (by kernel_rfl) (by kernel_rfl) (by kernel_rfl) (fun _ _ _ h => h) (Or.inl ⟨by rfl, ?_⟩) hHeld ?_
      rotate_left
      · intro w hSw; (try dsimp only at hSw); go_simp; (try with_reducible rfl)
      (try simp only [Act.put, List.setIfInBounds_toArray, List.set_cons_zero, List.set_cons_succ])
      refine wpAnyH_ready (rs := [21]) (by kernel_rfl) (by simp) ?_
      refine AllReadyH.cons (o := { dst := some 194, op := Go.Op.call { callee := Go.Callee.value (Go.Operand.func 28), args := #[Go.Operand.tmp 192, Go.Operand.tmp 193], argTypes := #[24, 24] }, type := 3, pos := "law01.go:156", after := #[{ on := 19, ground := Go.Ground.data }, { on := 20, ground := Go.Ground.data }, { on := 18, ground := Go.Ground.chain }, { on := 18, ground := Go.Ground.guard }], guard := some (18, true) }) rfl (fun K hK => ?_) AllReadyH.nil
      go_simp
      (go_at_call 28; ((with_reducible refine (cmp_any r yn (a % b) (-b) _ ((HRE.out).keep (held_ext hHeld)) ((HS.out).keep (held_ext hHeld))).mono ?_); rintro e w' ⟨rfl, hx⟩; rw [r3]))
      (try go_wp2_with fail)
      refine hK.out _ _ ?_ (fun hHeld' => ?_)
      · (try dsimp only)
        (first | (with_reducible assumption) | (with_reducible exact hS11.out _ (Ext.rf _).dr) | (with_reducible exact hS11.out _ (Ext.dr (held_ext hHeld))) | (with_reducible exact hS11.out _ (Ext.tr (held_ext hHeld) hx)))
      clear hHeld
      have hHeld := hHeld'
      clear hHeld'
      clear hK K
      (try simp only [Act.put, List.setIfInBounds_toArray, List.set_cons_zero, List.set_cons_succ])
      refine wpAnyH_take (i := 22) (oi := { dst := some 195, op := Go.Op.binOp Go.BinOp.lss 3 (Go.Operand.tmp 194) (Go.Operand.const (Go.Value.int Go.IntKind.i64 0)) 3, type := 4, pos := "law01.go:156", after := #[{ on := 21, ground := Go.Ground.data }, { on := 18, ground := Go.Ground.guard }], guard := some (18, true) }) (v := ?_) rfl (by kernel_rfl) (by kernel_rfl) (by kernel_rfl) (fun _ _ _ h => h) (Or.inl ⟨by rfl, ?_⟩) hHeld ?_
      rotate_left
      · intro w hSw; (try dsimp only at hSw); go_simp; (try with_reducible rfl)
      (try simp only [Act.put, List.setIfInBounds_toArray, List.set_cons_zero, List.set_cons_succ])
      refine wpAnyH_take (i := 23) (oi := { dst := some 196, op := Go.Op.pick (Go.Operand.tmp 191) (Go.Operand.tmp 195) (Go.Operand.const (Go.Value.bool false)), type := 4, pos := "law01.go:156", after := #[{ on := 18, ground := Go.Ground.data }, { on := 22, ground := Go.Ground.data }], guard := none }) (v := ?_) rfl (by kernel_rfl) (by kernel_rfl) (by kernel_rfl) (fun _ _ _ h => h) (Or.inl ⟨by rfl, ?_⟩) hHeld ?_
      rotate_left
      · intro w hSw; (try dsimp only at hSw); go_simp; (try with_reducible rfl)
      (try simp only [Act.put, List.setIfInBounds_toArray, List.set_cons_zero, List.set_cons_succ])
      refine wpAnyH_take (i := 24) (oi := { dst := some 6, op := Go.Op.assign (Go.Operand.tmp 196), type := 4, pos := "law01.go:156", after := #[{ on := 23, ground := Go.Ground.data }, { on := 21, ground := Go.Ground.chain }, { on := 0, ground := Go.Ground.phase }, { on := 1, ground := Go.Ground.phase }, { on := 2, ground := Go.Ground.phase }, { on := 3, ground := Go.Ground.phase }, { on := 4, ground := Go.Ground.phase }, { on := 5, ground := Go.Ground.phase }, { on := 6, ground := Go.Ground.phase }, { on := 7, ground := Go.Ground.phase }, { on := 8, ground := Go.Ground.phase }, { on := 9, ground := Go.Ground.phase }, { on := 10, ground := Go.Ground.phase }, { on := 11, ground := Go.Ground.phase }, { on := 12, ground := Go.Ground.phase }, { on := 13, ground := Go.Ground.phase }, { on := 14, ground := Go.Ground.phase }, { on := 15, ground := Go.Ground.phase }, { on := 16, ground := Go.Ground.phase }, { on := 17, ground := Go.Ground.phase }, { on := 18, ground := Go.Ground.phase }, { on := 19, ground := Go.Ground.phase }, { on := 20, ground := Go.Ground.phase }, { on := 21, ground := Go.Ground.phase }, { on := 22, ground := Go.Ground.phase }, { on := 23, ground := Go.Ground.phase }], guard := none }) (v := ?_) rfl (by kernel_rfl) (by kernel_rfl) (by kernel_rfl) (fun _ _ _ h => h) (Or.inl ⟨by rfl, ?_⟩) hHeld ?_
      rotate_left
      · intro w hSw; (try dsimp only at hSw); go_simp; (try with_reducible rfl)
      (try simp only [Act.put, List.setIfInBounds_toArray, List.set_cons_zero, List.set_cons_succ])
      refine wpAnyH_done (by kernel_rfl) ?_ _
      have hFin := h5E.tr (held_ext hHeld)
      go_wp2
      go_ret
      exact ⟨ret_b (by simp), G.out.tr hFin⟩
    · have r3 : cmpZ (a % b) b = -1 := cmpZ_lt (by omega)
      have hs1 : ¬ sgnZ b < 0 := by unfold sgnZ; rw [if_neg hbn]; split <;> omega
      replace hb0 := hd_ hb0
      replace hbn := hd_ hbn
      clear g0 g1
      go_wp2_with fail
      refine (sign_any y b _ (HY.out.keep (h512.al _))).mono ?_
      rintro e wE ⟨rfl, h14⟩
      have h5E := (h512.al _).tr h14
      have e12E : Ext w12 wE := ((Ext.rf w12).al _).tr h14
      have sE : Box wE w12.heap.size 24 (iv y) := (Box.new rfl).keep h14
      have HS : Hd (IsI wE y b) := hd_ (HY.out.keep h5E)
      clear k5' k6'
      go_upto_region 19 with fail
      have HXE := hd_ (HX.out.keep h5E)
      have HYE := hd_ (HY.out.keep h5E)
      have HQE := hd_ ((HQ.out.keep h12).keep e12E)
      have HRE := hd_ ((HR.out.keep h12).keep e12E)
      obtain ⟨fa, fb, -, -⟩ := (f11.keep e12E).facts
      obtain ⟨qa, qb, -, -⟩ := (q11.keep e12E).facts
      obtain ⟨ra, rb, -, -⟩ := (r11.keep e12E).facts
      obtain ⟨sa', sb', -, -⟩ := sE.facts
      have ka := cell_later h5E k1
      have kb := cell_later h5E k2
      have kc := cell_later h5E k5
      have kd := cell_later h5E k6
      have zE := h5E.size
      have ltb1 : w7.heap.size + 1 < wE.heap.size := (f11.keep e12E).lt
      have ltb7 : w7.heap.size < wE.heap.size := by omega
      have ltb2 := (q11.keep e12E).lt
      have ltb3 := (r11.keep e12E).lt
      have ltb4 := sE.lt
      have ltb5 : w1.heap.size < wE.heap.size := by omega
      have ltb6 : w2.heap.size < wE.heap.size := by omega
      have hS11 : Hd (∀ W', Ext wE W' → ((fun w' => Ext wE w' ∧ w'.cell? ⟨w7.heap.size + 1, 0, none⟩ = some (Value.int .i64 0) ∧ w'.cell? ⟨w10.heap.size, 0, none⟩ = some (Value.bool q.n) ∧ w'.cell? ⟨w10.heap.size, 1, none⟩ = some (Value.slice q.s.a q.s.len q.s.cap) ∧ w'.cell? ⟨w10.heap.size + 1, 0, none⟩ = some (Value.bool r.n) ∧ w'.cell? ⟨w10.heap.size + 1, 1, none⟩ = some (Value.slice r.s.a r.s.len r.s.cap) ∧ w'.cell? ⟨w12.heap.size, 0, none⟩ = some (Value.bool y.n) ∧ w'.cell? ⟨w12.heap.size, 1, none⟩ = some (Value.slice y.s.a y.s.len y.s.cap) ∧ w'.cell? ⟨w1.heap.size, 0, none⟩ = some (Value.bool x.n) ∧ w'.cell? ⟨w1.heap.size, 1, none⟩ = some (Value.slice x.s.a x.s.len x.s.cap) ∧ w'.cell? ⟨w2.heap.size, 0, none⟩ = some (Value.bool y.n) ∧ w'.cell? ⟨w2.heap.size, 1, none⟩ = some (Value.slice y.s.a y.s.len y.s.cap))) W') := hd_ fun W' e => ⟨e, cell_later e fa, cell_later e qa, cell_later e qb, cell_later e ra, cell_later e rb, cell_later e sa', cell_later e sb', cell_later e ka, cell_later e kb, cell_later e kc, cell_later e kd⟩
      refine wp_region_held_drew (S := (fun w' => Ext wE w' ∧ w'.cell? ⟨w7.heap.size + 1, 0, none⟩ = some (Value.int .i64 0) ∧ w'.cell? ⟨w10.heap.size, 0, none⟩ = some (Value.bool q.n) ∧ w'.cell? ⟨w10.heap.size, 1, none⟩ = some (Value.slice q.s.a q.s.len q.s.cap) ∧ w'.cell? ⟨w10.heap.size + 1, 0, none⟩ = some (Value.bool r.n) ∧ w'.cell? ⟨w10.heap.size + 1, 1, none⟩ = some (Value.slice r.s.a r.s.len r.s.cap) ∧ w'.cell? ⟨w12.heap.size, 0, none⟩ = some (Value.bool y.n) ∧ w'.cell? ⟨w12.heap.size, 1, none⟩ = some (Value.slice y.s.a y.s.len y.s.cap) ∧ w'.cell? ⟨w1.heap.size, 0, none⟩ = some (Value.bool x.n) ∧ w'.cell? ⟨w1.heap.size, 1, none⟩ = some (Value.slice x.s.a x.s.len x.s.cap) ∧ w'.cell? ⟨w2.heap.size, 0, none⟩ = some (Value.bool y.n) ∧ w'.cell? ⟨w2.heap.size, 1, none⟩ = some (Value.slice y.s.a y.s.len y.s.cap))) (by kernel_rfl) ?_ (fun hHeld => ?_)
      · (try dsimp only)
        (first | (with_reducible assumption) | (with_reducible exact hS11.out _ (Ext.rf _).dr) | (with_reducible exact hS11.out _ (Ext.dr (held_ext hHeld))) | (with_reducible exact hS11.out _ (Ext.tr (held_ext hHeld) hx)))
      refine wpAnyH_take (i := 0) (oi := { dst := some 173, op := Go.Op.fieldAddr 26 (Go.Operand.tmp 14) 0, type := 0, pos := "law01.go:156", after := #[], guard := none }) (v := ?_) rfl (by kernel_rfl) (by kernel_rfl) (by kernel_rfl) (fun _ _ _ h => h) (Or.inl ⟨by rfl, ?_⟩) hHeld ?_
      rotate_left
      · intro w hSw; (try dsimp only at hSw); go_simp; (try with_reducible rfl)
      (try simp only [Act.put, List.setIfInBounds_toArray, List.set_cons_zero, List.set_cons_succ])
      refine wpAnyH_take (i := 1) (oi := { dst := some 174, op := Go.Op.load 3 (Go.Operand.tmp 173), type := 3, pos := "law01.go:156", after := #[{ on := 0, ground := Go.Ground.data }], guard := none }) (v := ?_) rfl (by kernel_rfl) (by kernel_rfl) (by kernel_rfl) (fun _ _ _ h => h) (Or.inl ⟨by rfl, ?_⟩) hHeld ?_
      rotate_left
      · intro w hSw; (try dsimp only at hSw); go_simp; (try with_reducible rfl)
      (try simp only [Act.put, List.setIfInBounds_toArray, List.set_cons_zero, List.set_cons_succ])
      refine wpAnyH_take (i := 2) (oi := { dst := some 175, op := Go.Op.binOp Go.BinOp.eql 3 (Go.Operand.tmp 174) (Go.Operand.const (Go.Value.int Go.IntKind.i64 0)) 3, type := 4, pos := "law01.go:156", after := #[{ on := 1, ground := Go.Ground.data }], guard := none }) (v := ?_) rfl (by kernel_rfl) (by kernel_rfl) (by kernel_rfl) (fun _ _ _ h => h) (Or.inl ⟨by rfl, ?_⟩) hHeld ?_
      rotate_left
      · intro w hSw; (try dsimp only at hSw); go_simp; (try with_reducible rfl)
      (try simp only [Act.put, List.setIfInBounds_toArray, List.set_cons_zero, List.set_cons_succ])
      refine wpAnyH_take (i := 3) (oi := { dst := some 176, op := Go.Op.move (Go.Operand.tmp 175), type := 4, pos := "law01.go:156", after := #[{ on := 2, ground := Go.Ground.data }], guard := none }) (v := ?_) rfl (by kernel_rfl) (by kernel_rfl) (by kernel_rfl) (fun _ _ _ h => h) (Or.inl ⟨by rfl, ?_⟩) hHeld ?_
      rotate_left
      · intro w hSw; (try dsimp only at hSw); go_simp; (try with_reducible rfl)
      (try simp only [Act.put, List.setIfInBounds_toArray, List.set_cons_zero, List.set_cons_succ])
      refine wpAnyH_take (i := 4) (oi := { dst := some 177, op := Go.Op.load 24 (Go.Operand.tmp 15), type := 24, pos := "law01.go:156", after := #[{ on := 3, ground := Go.Ground.guard }], guard := some (3, true) }) (v := ?_) rfl (by kernel_rfl) (by kernel_rfl) (by kernel_rfl) (fun _ _ _ h => h) (Or.inl ⟨by rfl, ?_⟩) hHeld ?_
      rotate_left
      · intro w hSw; (try dsimp only at hSw); go_simp; (try with_reducible rfl)
      (try simp only [Act.put, List.setIfInBounds_toArray, List.set_cons_zero, List.set_cons_succ])
      refine wpAnyH_take (i := 5) (oi := { dst := some 178, op := Go.Op.load 24 (Go.Operand.tmp 9), type := 24, pos := "law01.go:156", after := #[{ on := 3, ground := Go.Ground.guard }], guard := some (3, true) }) (v := ?_) rfl (by kernel_rfl) (by kernel_rfl) (by kernel_rfl) (fun _ _ _ h => h) (Or.inl ⟨by rfl, ?_⟩) hHeld ?_
      rotate_left
      · intro w hSw; (try dsimp only at hSw); go_simp; (try with_reducible rfl)
      (try simp only [Act.put, List.setIfInBounds_toArray, List.set_cons_zero, List.set_cons_succ])
      refine wpAnyH_take (i := 7) (oi := { dst := some 180, op := Go.Op.load 24 (Go.Operand.tmp 16), type := 24, pos := "law01.go:156", after := #[{ on := 3, ground := Go.Ground.guard }], guard := some (3, true) }) (v := ?_) rfl (by kernel_rfl) (by kernel_rfl) (by kernel_rfl) (fun _ _ _ h => h) (Or.inl ⟨by rfl, ?_⟩) hHeld ?_
      rotate_left
      · intro w hSw; (try dsimp only at hSw); go_simp; (try with_reducible rfl)
      (try simp only [Act.put, List.setIfInBounds_toArray, List.set_cons_zero, List.set_cons_succ])
      refine wpAnyH_take (i := 9) (oi := { dst := some 182, op := Go.Op.load 24 (Go.Operand.tmp 7), type := 24, pos := "law01.go:156", after := #[{ on := 3, ground := Go.Ground.guard }], guard := some (3, true) }) (v := ?_) rfl (by kernel_rfl) (by kernel_rfl) (by kernel_rfl) (fun _ _ _ h => h) (Or.inl ⟨by rfl, ?_⟩) hHeld ?_
      rotate_left
      · intro w hSw; (try dsimp only at hSw); go_simp; (try with_reducible rfl)
      (try simp only [Act.put, List.setIfInBounds_toArray, List.set_cons_zero, List.set_cons_succ])
      refine wpAnyH_ready (rs := [6]) (by kernel_rfl) (by simp) ?_
      refine AllReadyH.cons (o := { dst := some 179, op := Go.Op.call { callee := Go.Callee.value (Go.Operand.func 26), args := #[Go.Operand.tmp 177, Go.Operand.tmp 178], argTypes := #[24, 24] }, type := 24, pos := "law01.go:156", after := #[{ on := 4, ground := Go.Ground.data }, { on := 5, ground := Go.Ground.data }, { on := 3, ground := Go.Ground.chain }, { on := 3, ground := Go.Ground.guard }], guard := some (3, true) }) rfl (fun K hK => ?_) AllReadyH.nil
      go_simp
      (go_at_call 26; ((with_reducible refine (mul_any q y (a / b) b _ ((HQE.out).keep (held_ext hHeld)) ((HYE.out).keep (held_ext hHeld)) (((BQ).mul (BB)).sm (by omega))).mono ?_); rintro e w' ⟨y179, rfl, h179, hx⟩))
      (try go_wp2_with fail)
      refine hK.out _ _ ?_ (fun hHeld' => ?_)
      · (try dsimp only)
        (first | (with_reducible assumption) | (with_reducible exact hS11.out _ (Ext.rf _).dr) | (with_reducible exact hS11.out _ (Ext.dr (held_ext hHeld))) | (with_reducible exact hS11.out _ (Ext.tr (held_ext hHeld) hx)))
      clear hHeld
      have hHeld := hHeld'
      clear hHeld'
      clear hK K
      (try simp only [Act.put, List.setIfInBounds_toArray, List.set_cons_zero, List.set_cons_succ])
      refine wpAnyH_ready (rs := [8]) (by kernel_rfl) (by simp) ?_
      refine AllReadyH.cons (o := { dst := some 181, op := Go.Op.call { callee := Go.Callee.value (Go.Operand.func 22), args := #[Go.Operand.tmp 179, Go.Operand.tmp 180], argTypes := #[24, 24] }, type := 24, pos := "law01.go:156", after := #[{ on := 6, ground := Go.Ground.data }, { on := 7, ground := Go.Ground.data }, { on := 6, ground := Go.Ground.chain }, { on := 3, ground := Go.Ground.guard }], guard := some (3, true) }) rfl (fun K hK => ?_) AllReadyH.nil
      go_simp
      (go_at_call 22; ((with_reducible refine (add_any y179 r ((a / b) * b) (a % b) _ h179 ((HRE.out).keep (held_ext hHeld)) ((((BQ).mul (BB)).add ((BR).mono (show 4000 ≤ 8000 by omega))).sm (by omega))).mono ?_); rintro e w' ⟨y181, rfl, h181, hx⟩))
      (try go_wp2_with fail)
      refine hK.out _ _ ?_ (fun hHeld' => ?_)
      · (try dsimp only)
        (first | (with_reducible assumption) | (with_reducible exact hS11.out _ (Ext.rf _).dr) | (with_reducible exact hS11.out _ (Ext.dr (held_ext hHeld))) | (with_reducible exact hS11.out _ (Ext.tr (held_ext hHeld) hx)))
      clear hHeld
      have hHeld := hHeld'
      clear hHeld'
      clear hK K
      (try simp only [Act.put, List.setIfInBounds_toArray, List.set_cons_zero, List.set_cons_succ])
      refine wpAnyH_ready (rs := [10]) (by kernel_rfl) (by simp) ?_
      refine AllReadyH.cons (o := { dst := some 183, op := Go.Op.call { callee := Go.Callee.value (Go.Operand.func 28), args := #[Go.Operand.tmp 181, Go.Operand.tmp 182], argTypes := #[24, 24] }, type := 3, pos := "law01.go:156", after := #[{ on := 8, ground := Go.Ground.data }, { on := 9, ground := Go.Ground.data }, { on := 8, ground := Go.Ground.chain }, { on := 3, ground := Go.Ground.guard }], guard := some (3, true) }) rfl (fun K hK => ?_) AllReadyH.nil
      go_simp
      (go_at_call 28; ((with_reducible refine (cmp_any y181 x (((a / b) * b) + (a % b)) a _ h181 ((HXE.out).keep (held_ext hHeld))).mono ?_); rintro e w' ⟨rfl, hx⟩; rw [r1]))
      (try go_wp2_with fail)
      refine hK.out _ _ ?_ (fun hHeld' => ?_)
      · (try dsimp only)
        (first | (with_reducible assumption) | (with_reducible exact hS11.out _ (Ext.rf _).dr) | (with_reducible exact hS11.out _ (Ext.dr (held_ext hHeld))) | (with_reducible exact hS11.out _ (Ext.tr (held_ext hHeld) hx)))
      clear hHeld
      have hHeld := hHeld'
      clear hHeld'
      clear hK K
      (try simp only [Act.put, List.setIfInBounds_toArray, List.set_cons_zero, List.set_cons_succ])
      refine wpAnyH_take (i := 11) (oi := { dst := some 184, op := Go.Op.binOp Go.BinOp.eql 3 (Go.Operand.tmp 183) (Go.Operand.const (Go.Value.int Go.IntKind.i64 0)) 3, type := 4, pos := "law01.go:156", after := #[{ on := 10, ground := Go.Ground.data }, { on := 3, ground := Go.Ground.guard }], guard := some (3, true) }) (v := ?_) rfl (by kernel_rfl) (by kernel_rfl) (by kernel_rfl) (fun _ _ _ h => h) (Or.inl ⟨by rfl, ?_⟩) hHeld ?_
      rotate_left
      · intro w hSw; (try dsimp only at hSw); go_simp; (try with_reducible rfl)
      (try simp only [Act.put, List.setIfInBounds_toArray, List.set_cons_zero, List.set_cons_succ])
      refine wpAnyH_take (i := 12) (oi := { dst := some 185, op := Go.Op.pick (Go.Operand.tmp 176) (Go.Operand.tmp 184) (Go.Operand.const (Go.Value.bool false)), type := 4, pos := "law01.go:156", after := #[{ on := 3, ground := Go.Ground.data }, { on := 11, ground := Go.Ground.data }], guard := none }) (v := ?_) rfl (by kernel_rfl) (by kernel_rfl) (by kernel_rfl) (fun _ _ _ h => h) (Or.inl ⟨by rfl, ?_⟩) hHeld ?_
      rotate_left
      · intro w hSw; (try dsimp only at hSw); go_simp; (try with_reducible rfl)
      (try simp only [Act.put, List.setIfInBounds_toArray, List.set_cons_zero, List.set_cons_succ])
      refine wpAnyH_take (i := 13) (oi := { dst := some 186, op := Go.Op.move (Go.Operand.tmp 185), type := 4, pos := "law01.go:156", after := #[{ on := 12, ground := Go.Ground.data }, { on := 10, ground := Go.Ground.chain }], guard := none }) (v := ?_) rfl (by kernel_rfl) (by kernel_rfl) (by kernel_rfl) (fun _ _ _ h => h) (Or.inl ⟨by rfl, ?_⟩) hHeld ?_
      rotate_left
      · intro w hSw; (try dsimp only at hSw); go_simp; (try with_reducible rfl)
      (try simp only [Act.put, List.setIfInBounds_toArray, List.set_cons_zero, List.set_cons_succ])
      refine wpAnyH_take (i := 14) (oi := { dst := some 187, op := Go.Op.load 24 (Go.Operand.tmp 16), type := 24, pos := "law01.go:156", after := #[{ on := 13, ground := Go.Ground.guard }], guard := some (13, true) }) (v := ?_) rfl (by kernel_rfl) (by kernel_rfl) (by kernel_rfl) (fun _ _ _ h => h) (Or.inl ⟨by rfl, ?_⟩) hHeld ?_
      rotate_left
      · intro w hSw; (try dsimp only at hSw); go_simp; (try with_reducible rfl)
      (try simp only [Act.put, List.setIfInBounds_toArray, List.set_cons_zero, List.set_cons_succ])
      refine wpAnyH_ready (rs := [15]) (by kernel_rfl) (by simp) ?_
      refine AllReadyH.cons (o := { dst := some 188, op := Go.Op.call { callee := Go.Callee.value (Go.Operand.func 18), args := #[Go.Operand.tmp 187], argTypes := #[24] }, type := 3, pos := "law01.go:156", after := #[{ on := 14, ground := Go.Ground.data }, { on := 13, ground := Go.Ground.chain }, { on := 13, ground := Go.Ground.guard }], guard := some (13, true) }) rfl (fun K hK => ?_) AllReadyH.nil
      go_simp
      (go_at_call 18; ((with_reducible refine (sign_any r (a % b) _ ((HRE.out).keep (held_ext hHeld))).mono ?_); rintro e w' ⟨rfl, hx⟩))
      (try go_wp2_with fail)
      refine hK.out _ _ ?_ (fun hHeld' => ?_)
      · (try dsimp only)
        (first | (with_reducible assumption) | (with_reducible exact hS11.out _ (Ext.rf _).dr) | (with_reducible exact hS11.out _ (Ext.dr (held_ext hHeld))) | (with_reducible exact hS11.out _ (Ext.tr (held_ext hHeld) hx)))
      clear hHeld
      have hHeld := hHeld'
      clear hHeld'
      clear hK K
      (try simp only [Act.put, List.setIfInBounds_toArray, List.set_cons_zero, List.set_cons_succ])
      refine wpAnyH_take (i := 16) (oi := { dst := some 189, op := Go.Op.binOp Go.BinOp.geq 3 (Go.Operand.tmp 188) (Go.Operand.const (Go.Value.int Go.IntKind.i64 0)) 3, type := 4, pos := "law01.go:156", after := #[{ on := 15, ground := Go.Ground.data }, { on := 13, ground := Go.Ground.guard }], guard := some (13, true) }) (v := ?_) rfl (by kernel_rfl) (by kernel_rfl) (by kernel_rfl) (fun _ _ _ h => h) (Or.inl ⟨by rfl, ?_⟩) hHeld ?_
      rotate_left
      · intro w hSw; (try dsimp only at hSw); go_simp; (try with_reducible rfl)
      (try simp only [Act.put, List.setIfInBounds_toArray, List.set_cons_zero, List.set_cons_succ])
      refine wpAnyH_take (i := 17) (oi := { dst := some 190, op := Go.Op.pick (Go.Operand.tmp 186) (Go.Operand.tmp 189) (Go.Operand.const (Go.Value.bool false)), type := 4, pos := "law01.go:156", after := #[{ on := 13, ground := Go.Ground.data }, { on := 16, ground := Go.Ground.data }], guard := none }) (v := ?_) rfl (by kernel_rfl) (by kernel_rfl) (by kernel_rfl) (fun _ _ _ h => h) (Or.inl ⟨by rfl, ?_⟩) hHeld ?_
      rotate_left
      · intro w hSw; (try dsimp only at hSw); go_simp; (try with_reducible rfl)
      (try simp only [Act.put, List.setIfInBounds_toArray, List.set_cons_zero, List.set_cons_succ])
      refine wpAnyH_take (i := 18) (oi := { dst := some 191, op := Go.Op.move (Go.Operand.tmp 190), type := 4, pos := "law01.go:156", after := #[{ on := 17, ground := Go.Ground.data }, { on := 15, ground := Go.Ground.chain }], guard := none }) (v := ?_) rfl (by kernel_rfl) (by kernel_rfl) (by kernel_rfl) (fun _ _ _ h => h) (Or.inl ⟨by rfl, ?_⟩) hHeld ?_
      rotate_left
      · intro w hSw; (try dsimp only at hSw); go_simp; (try with_reducible rfl)
      (try simp only [Act.put, List.setIfInBounds_toArray, List.set_cons_zero, List.set_cons_succ])
      refine wpAnyH_take (i := 19) (oi := { dst := some 192, op := Go.Op.load 24 (Go.Operand.tmp 16), type := 24, pos := "law01.go:156", after := #[{ on := 18, ground := Go.Ground.guard }], guard := some (18, true) }) (v := ?_) rfl (by kernel_rfl) (by kernel_rfl) (by kernel_rfl) (fun _ _ _ h => h) (Or.inl ⟨by rfl, ?_⟩) hHeld ?_
      rotate_left
      · intro w hSw; (try dsimp only at hSw); go_simp; (try with_reducible rfl)
      (try simp only [Act.put, List.setIfInBounds_toArray, List.set_cons_zero, List.set_cons_succ])
      refine wpAnyH_take (i := 20) (oi := { dst := some 193, op := Go.Op.load 24 (Go.Operand.tmp 17), type := 24, pos := "law01.go:156", after := #[{ on := 18, ground := Go.Ground.guard }], guard := some (18, true) }) (v := ?_) rfl (by kernel_rfl) (by kernel_rfl) (by kernel_rfl) (fun _ _ _ h => h) (Or.inl ⟨by rfl, ?_⟩) hHeld ?_
      rotate_left
      · intro w hSw; (try dsimp only at hSw); go_simp; (try with_reducible rfl)
      (try simp only [Act.put, List.setIfInBounds_toArray, List.set_cons_zero, List.set_cons_succ])
      refine wpAnyH_ready (rs := [21]) (by kernel_rfl) (by simp) ?_
      refine AllReadyH.cons (o := { dst := some 194, op := Go.Op.call { callee := Go.Callee.value (Go.Operand.func 28), args := #[Go.Operand.tmp 192, Go.Operand.tmp 193], argTypes := #[24, 24] }, type := 3, pos := "law01.go:156", after := #[{ on := 19, ground := Go.Ground.data }, { on := 20, ground := Go.Ground.data }, { on := 18, ground := Go.Ground.chain }, { on := 18, ground := Go.Ground.guard }], guard := some (18, true) }) rfl (fun K hK => ?_) AllReadyH.nil
      go_simp
      (go_at_call 28; ((with_reducible refine (cmp_any r y (a % b) b _ ((HRE.out).keep (held_ext hHeld)) ((HS.out).keep (held_ext hHeld))).mono ?_); rintro e w' ⟨rfl, hx⟩; rw [r3]))
      (try go_wp2_with fail)
      refine hK.out _ _ ?_ (fun hHeld' => ?_)
      · (try dsimp only)
        (first | (with_reducible assumption) | (with_reducible exact hS11.out _ (Ext.rf _).dr) | (with_reducible exact hS11.out _ (Ext.dr (held_ext hHeld))) | (with_reducible exact hS11.out _ (Ext.tr (held_ext hHeld) hx)))
      clear hHeld
      have hHeld := hHeld'
      clear hHeld'
      clear hK K
      (try simp only [Act.put, List.setIfInBounds_toArray, List.set_cons_zero, List.set_cons_succ])
      refine wpAnyH_take (i := 22) (oi := { dst := some 195, op := Go.Op.binOp Go.BinOp.lss 3 (Go.Operand.tmp 194) (Go.Operand.const (Go.Value.int Go.IntKind.i64 0)) 3, type := 4, pos := "law01.go:156", after := #[{ on := 21, ground := Go.Ground.data }, { on := 18, ground := Go.Ground.guard }], guard := some (18, true) }) (v := ?_) rfl (by kernel_rfl) (by kernel_rfl) (by kernel_rfl) (fun _ _ _ h => h) (Or.inl ⟨by rfl, ?_⟩) hHeld ?_
      rotate_left
      · intro w hSw; (try dsimp only at hSw); go_simp; (try with_reducible rfl)
      (try simp only [Act.put, List.setIfInBounds_toArray, List.set_cons_zero, List.set_cons_succ])
      refine wpAnyH_take (i := 23) (oi := { dst := some 196, op := Go.Op.pick (Go.Operand.tmp 191) (Go.Operand.tmp 195) (Go.Operand.const (Go.Value.bool false)), type := 4, pos := "law01.go:156", after := #[{ on := 18, ground := Go.Ground.data }, { on := 22, ground := Go.Ground.data }], guard := none }) (v := ?_) rfl (by kernel_rfl) (by kernel_rfl) (by kernel_rfl) (fun _ _ _ h => h) (Or.inl ⟨by rfl, ?_⟩) hHeld ?_
      rotate_left
      · intro w hSw; (try dsimp only at hSw); go_simp; (try with_reducible rfl)
      (try simp only [Act.put, List.setIfInBounds_toArray, List.set_cons_zero, List.set_cons_succ])
      refine wpAnyH_take (i := 24) (oi := { dst := some 6, op := Go.Op.assign (Go.Operand.tmp 196), type := 4, pos := "law01.go:156", after := #[{ on := 23, ground := Go.Ground.data }, { on := 21, ground := Go.Ground.chain }, { on := 0, ground := Go.Ground.phase }, { on := 1, ground := Go.Ground.phase }, { on := 2, ground := Go.Ground.phase }, { on := 3, ground := Go.Ground.phase }, { on := 4, ground := Go.Ground.phase }, { on := 5, ground := Go.Ground.phase }, { on := 6, ground := Go.Ground.phase }, { on := 7, ground := Go.Ground.phase }, { on := 8, ground := Go.Ground.phase }, { on := 9, ground := Go.Ground.phase }, { on := 10, ground := Go.Ground.phase }, { on := 11, ground := Go.Ground.phase }, { on := 12, ground := Go.Ground.phase }, { on := 13, ground := Go.Ground.phase }, { on := 14, ground := Go.Ground.phase }, { on := 15, ground := Go.Ground.phase }, { on := 16, ground := Go.Ground.phase }, { on := 17, ground := Go.Ground.phase }, { on := 18, ground := Go.Ground.phase }, { on := 19, ground := Go.Ground.phase }, { on := 20, ground := Go.Ground.phase }, { on := 21, ground := Go.Ground.phase }, { on := 22, ground := Go.Ground.phase }, { on := 23, ground := Go.Ground.phase }], guard := none }) (v := ?_) rfl (by kernel_rfl) (by kernel_rfl) (by kernel_rfl) (fun _ _ _ h => h) (Or.inl ⟨by rfl, ?_⟩) hHeld ?_
      rotate_left
      · intro w hSw; (try dsimp only at hSw); go_simp; (try with_reducible rfl)
      (try simp only [Act.put, List.setIfInBounds_toArray, List.set_cons_zero, List.set_cons_succ])
      refine wpAnyH_done (by kernel_rfl) ?_ _
      have hFin := h5E.tr (held_ext hHeld)
      go_wp2
      go_ret
      exact ⟨ret_b (by simp), G.out.tr hFin⟩

end Go.Proofs.Ytbbidekjbgjooaa
