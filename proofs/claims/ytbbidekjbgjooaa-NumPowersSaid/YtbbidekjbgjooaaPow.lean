/- Pow, ZPow: the walks. -/
import Derived.Test.YtbbidekjbgjooaaVs
import Derived.Test.YtbbidekjbgjooaaZM
import Derived.Test.YtbbidekjbgjooaaZG
import Derived.Test.YtbbidekjbgjooaaLawC
import Derived.Deep.DeepCutAuto
namespace Go.Proofs.Ytbbidekjbgjooaa
open Go.RowKit

theorem bt_pow {a : Int} {N : Nat} (ha : Bt a N) (k : Nat) : Bt (a ^ k) (N * k + 1) := by
  unfold Bt at *
  induction k with
  | zero => simp
  | succ k ih =>
    rw [Int.pow_succ, Int.natAbs_mul, Nat.mul_succ, show N * k + N + 1 = (N * k + 1) + N by omega, Nat.pow_add]
    exact Nat.mul_lt_mul'' ih ha

theorem sm_pow {a : Int} {N n k : Nat} (ha : Bt a N) (hN : N * n ≤ 17000000000) (hk : k ≤ n) : Sm (a ^ k) := by
  have h1 := Nat.mul_le_mul_left N hk
  exact (bt_pow ha k).sm (by omega)

theorem pow_odd {e f m n : Nat} (h : f + e * m = n) (hm : m % 2 = 1) : f + e ≤ n ∧ (f + e) + (e + e) * (m / 2) = n := by
  obtain ⟨k, hk⟩ : ∃ k, m = 2 * k + 1 := ⟨m / 2, by omega⟩
  subst hk
  have e1 : (2 * k + 1) / 2 = k := by omega
  rw [e1]
  rw [Nat.mul_add, Nat.mul_one, ← Nat.mul_assoc, Nat.mul_comm e 2, Nat.mul_assoc] at h
  rw [Nat.add_mul]
  have := Nat.zero_le (e * k)
  omega
theorem pow_even {e f m n : Nat} (h : f + e * m = n) (hm : m % 2 = 0) : f + (e + e) * (m / 2) = n := by
  obtain ⟨k, hk⟩ : ∃ k, m = 2 * k := ⟨m / 2, by omega⟩
  subst hk
  have e1 : (2 * k) / 2 = k := by omega
  rw [e1]
  rw [← Nat.mul_assoc, Nat.mul_comm e 2, Nat.mul_assoc] at h
  rw [Nat.add_mul]
  omega
theorem pow_two_le {e f m n : Nat} (h : f + e * m = n) (hm : 2 ≤ m) : e + e ≤ n := by
  have := Nat.mul_le_mul_left e hm
  omega

/-- What Pow answers. -/
def RetIF0 (w : World) (z c : Int) (e : Ending) (w' : World) : Prop :=
  ∃ x : IV, e = .returned (.tuple #[.agg #[.bool x.n, .slice x.s.a x.s.len x.s.cap], .agg #[.int .i64 c, .int .i64 0]]) ∧ IsI w' x z ∧ Ext w w'

set_option maxRecDepth 100000 in
set_option maxHeartbeats 4000000 in
theorem pow_bad (x : IV) (a n : Int) (w : World) (hx : IsI w x a) (hn : -9223372036854775808 ≤ n ∧ n ≤ 9223372036854775807) (hbad : n < 0 ∨ 200 < n) :
    Calls Try.prog 36 #[.agg #[.bool x.n, .slice x.s.a x.s.len x.s.cap], .int .i64 n] w (RetIF0 w 0 7) := by
  have hd : Bt a maxBits := hx.sm
  have V0 := ((((Vs.nil w).add' (n := w.heap.size) (vs := #[Value.bool x.n, Value.slice x.s.a x.s.len x.s.cap]) (T := 24) (by simp)).add' (n := w.heap.size + 1) (vs := #[Value.bool false, Value.slice none 0 0]) (T := 24) (by simp)).add' (n := w.heap.size + 1 + 1) (vs := #[Value.int .i64 0, Value.int .i64 0]) (T := 26) (by simp))
  replace hx := hx.keep V0.ext
  go_enter Try.func36, Try.ntmps36
  go_upto_region 1 with fail
  generalize (((w.alloc (Obj.cells #[Value.bool x.n, Value.slice x.s.a x.s.len x.s.cap] 24)).alloc (Obj.cells #[Value.bool false, Value.slice none 0 0] 24)).alloc (Obj.cells #[Value.int .i64 0, Value.int .i64 0] 26)) = W0 at *
  -- skip
  rcases hbad with hbad | hbad
  · go_upto_region 2 with fail
    obtain ⟨c4_0, c4_1, c4_2, c4_3⟩ := V0.facts 1 rfl
    obtain ⟨c5_0, c5_1, c5_2, c5_3⟩ := V0.facts 0 rfl
    go_wp2
    clear c4_0 c4_1 c4_2 c4_3 c5_0 c5_1 c5_2 c5_3
    have KI := V0.kept2 (U := 93) 1 rfl (by decide) (Value.bool false) (Value.slice none 0 0)
    replace hx := hx.kept KI
    clear KI
    replace V0 := V0.set2 1 rfl (Value.bool false) (Value.slice none 0 0)
    dsimp only [List.set] at V0
    have KI := V0.kept2 (U := 93) 0 rfl (by decide) (Value.int .i64 7) (Value.int .i64 0)
    replace hx := hx.kept KI
    clear KI
    replace V0 := V0.set2 0 rfl (Value.int .i64 7) (Value.int .i64 0)
    dsimp only [List.set] at V0
    generalize ((((W0.setCell ⟨w.heap.size + 1, 0, none⟩ (Value.bool false)).setCell ⟨w.heap.size + 1, 1, none⟩ (Value.slice none 0 0)).setCell ⟨w.heap.size + 1 + 1, 0, none⟩ (Value.int .i64 7)).setCell ⟨w.heap.size + 1 + 1, 1, none⟩ (Value.int .i64 0)) = W1 at *
    have V1 := V0
    clear V0
    obtain ⟨r4_0, r4_1, r4_2, r4_3⟩ := V1.facts 1 rfl
    obtain ⟨r5_0, r5_1, r5_2, r5_3⟩ := V1.facts 0 rfl
    go_wp2
    refine bodyPost_ret (v := .tuple #[.agg #[Value.bool false, Value.slice none 0 0], .agg #[Value.int .i64 7, Value.int .i64 0]]) (by simp [results, Try.results36, go_sem, r4_0, r4_1, r5_0, r5_1]) rfl ?_
    exact ⟨zI, rfl, isI_zero _, V1.ext⟩
  · -- skip
    have hn0 : ¬ n < 0 := by omega
    go_upto_region 2 with fail
    obtain ⟨c4_0, c4_1, c4_2, c4_3⟩ := V0.facts 1 rfl
    obtain ⟨c5_0, c5_1, c5_2, c5_3⟩ := V0.facts 0 rfl
    go_wp2
    clear c4_0 c4_1 c4_2 c4_3 c5_0 c5_1 c5_2 c5_3
    have KI := V0.kept2 (U := 93) 1 rfl (by decide) (Value.bool false) (Value.slice none 0 0)
    replace hx := hx.kept KI
    clear KI
    replace V0 := V0.set2 1 rfl (Value.bool false) (Value.slice none 0 0)
    dsimp only [List.set] at V0
    have KI := V0.kept2 (U := 93) 0 rfl (by decide) (Value.int .i64 7) (Value.int .i64 0)
    replace hx := hx.kept KI
    clear KI
    replace V0 := V0.set2 0 rfl (Value.int .i64 7) (Value.int .i64 0)
    dsimp only [List.set] at V0
    generalize ((((W0.setCell ⟨w.heap.size + 1, 0, none⟩ (Value.bool false)).setCell ⟨w.heap.size + 1, 1, none⟩ (Value.slice none 0 0)).setCell ⟨w.heap.size + 1 + 1, 0, none⟩ (Value.int .i64 7)).setCell ⟨w.heap.size + 1 + 1, 1, none⟩ (Value.int .i64 0)) = W1 at *
    have V1 := V0
    clear V0
    obtain ⟨r4_0, r4_1, r4_2, r4_3⟩ := V1.facts 1 rfl
    obtain ⟨r5_0, r5_1, r5_2, r5_3⟩ := V1.facts 0 rfl
    go_wp2
    refine bodyPost_ret (v := .tuple #[.agg #[Value.bool false, Value.slice none 0 0], .agg #[Value.int .i64 7, Value.int .i64 0]]) (by simp [results, Try.results36, go_sem, r4_0, r4_1, r5_0, r5_1]) rfl ?_
    exact ⟨zI, rfl, isI_zero _, V1.ext⟩

set_option maxRecDepth 100000 in
set_option maxHeartbeats 4000000 in
theorem pow_any (x : IV) (a : Int) (n N : Nat) (w : World) (hx : IsI w x a) (ha : Bt a N) (hn : n ≤ 200) (hN : N * n ≤ 17000000000) :
    Calls Try.prog 36 #[.agg #[.bool x.n, .slice x.s.a x.s.len x.s.cap], .int .i64 (n : Int)] w (RetIF0 w (a ^ n) 0) := by
  replace hN := hd_ hN
  have V0 := ((((Vs.nil w).add' (n := w.heap.size) (vs := #[Value.bool x.n, Value.slice x.s.a x.s.len x.s.cap]) (T := 24) (by simp)).add' (n := w.heap.size + 1) (vs := #[Value.bool false, Value.slice none 0 0]) (T := 24) (by simp)).add' (n := w.heap.size + 1 + 1) (vs := #[Value.int .i64 0, Value.int .i64 0]) (T := 26) (by simp))
  replace hx := hx.keep V0.ext
  go_enter Try.func36, Try.ntmps36
  go_upto_region 1 with fail
  generalize (((w.alloc (Obj.cells #[Value.bool x.n, Value.slice x.s.a x.s.len x.s.cap] 24)).alloc (Obj.cells #[Value.bool false, Value.slice none 0 0] 24)).alloc (Obj.cells #[Value.int .i64 0, Value.int .i64 0] 26)) = W0 at *
  go_upto_region 3 with fail
  (try go_upto_region 3 with fail)
  obtain ⟨c2_0, c2_1, c2_2, c2_3⟩ := V0.facts 2 rfl
  have HL := hd_ (show ∀ W', Ext W0 W' → Cs W' [(w.heap.size, 0, Value.bool x.n), (w.heap.size, 1, Value.slice x.s.a x.s.len x.s.cap)] from fun W' hW => by simp only [cs_cons, cs_nil]; exact ⟨cell_later hW c2_0, cell_later hW c2_1, trivial⟩)
  have HS := hd_ (show ∀ W', Ext W0 W' → Cs W' [(w.heap.size, 0, Value.bool x.n), (w.heap.size, 1, Value.slice x.s.a x.s.len x.s.cap)] from fun W' hW => by simp only [cs_cons, cs_nil]; exact ⟨cell_later hW c2_0, cell_later hW c2_1, trivial⟩)
  clear c2_0 c2_1 c2_2 c2_3
  have HSS := hd_ (show ∀ w', Ext W0 w' → ((fun w' => Cs w' [(w.heap.size, 0, Value.bool x.n), (w.heap.size, 1, Value.slice x.s.a x.s.len x.s.cap)]) w') ∧ ((fun _ => True : World → Prop) w') ∧ ((fun _ => True : World → Prop) w') from fun w' hw' => ⟨HS.out _ hw', trivial, trivial⟩)
  refine wpE_begin (S := (fun w' => Cs w' [(w.heap.size, 0, Value.bool x.n), (w.heap.size, 1, Value.slice x.s.a x.s.len x.s.cap)])) [(2, 24, #[Value.bool false, Value.slice none 0 0]), (3, 24, #[Value.bool false, Value.slice none 0 0])] [4, 5] [0] (fun _ => True) (fun _ => True) 99 99 4 (by kernel_rfl) (by kernel_rfl) (by kernel_rfl) (by kernel_rfl) (fun _ _ d _ _ h => by cases d <;> exact h) (by kernel_rfl) rfl (by kernel_rfl) (by kernel_rfl) HSS.out (fun WX hWX => ?_)
  have hE := hWX
  have hEW := Ext.rf WX
  refine wpE_takeS (i := 1) (oi := _) (v := ?_) rfl (by kernel_rfl) (by kernel_rfl) (by kernel_rfl) (by kernel_rfl) (by kernel_rfl) (by decide) (by decide) (fun w' hw' => HSS.out w' (hWX.tr hw')) (fun _ _ _ h => h) (Or.inl ⟨by rfl, ?_⟩) hEW ?_
  rotate_left
  · intro w hSw; (try dsimp only at hSw); (try simp only [cs_cons, cs_nil, and_true] at hSw); go_simp; (try with_reducible rfl)
  (try dsimp only [List.getElem_toArray, List.getElem_cons_zero, List.getElem_cons_succ]); (try simp only [Act.put, List.setIfInBounds_toArray, List.set_cons_zero, List.set_cons_succ])
  refine wpE_step (i := 0) (o := _) (by kernel_rfl) (by kernel_rfl) rfl (fun wY hwY K hK => ?_)
  replace hE := hE.tr hwY
  replace hEW := hEW.tr hwY
  go_simp
  (go_at_call 16; ((with_reducible refine (of_any 1 _ (by omega)).mono ?_); rintro e w' ⟨one, rfl, hone, hxx⟩))
  replace hE := hE.tr hxx
  replace hEW := hEW.tr hxx
  (try go_wp2_with fail)
  refine hK.out _ _ hxx ?_
  clear hK K hxx
  (try dsimp only [List.getElem_toArray, List.getElem_cons_zero, List.getElem_cons_succ]); (try simp only [Act.put, List.setIfInBounds_toArray, List.set_cons_zero, List.set_cons_succ])
  refine wpE_stores [2, 3] [6, 7] rfl (by kernel_rfl) (by kernel_rfl) (by kernel_rfl) (fun w' hw' => HSS.out w' (hE.tr hw')) (fun wZ ns hwZ hn1 hn2 hn3 hn4 hHeld => ?_)
  replace hone := hone.keep hwZ
  replace hE := hE.tr hwZ
  replace hEW := hEW.tr hwZ
  obtain ⟨n1_6, n1_7, rfl⟩ : ∃ n1_6 n1_7, ns = [n1_6, n1_7] := by match ns, hn1 with | [a0, a1], _ => exact ⟨a0, a1, rfl⟩
  obtain ⟨m1, m2, m3⟩ := more_of hn1 hn2 hn3 hn4
  have V1 : Vs w wZ [(n1_6, 24, #[Value.bool false, Value.slice none 0 0]), (n1_7, 24, #[Value.bool false, Value.slice none 0 0]), (w.heap.size + 1 + 1, 26, #[Value.int .i64 0, Value.int .i64 0]), (w.heap.size + 1, 24, #[Value.bool false, Value.slice none 0 0]), (w.heap.size, 24, #[Value.bool x.n, Value.slice x.s.a x.s.len x.s.cap])] := (V0.keep hWX).more hEW m1 m2 m3
  clear hn1 hn2 hn3 hn4 m1 m2 m3
  obtain ⟨s6_0, s6_1, s6_2, s6_3⟩ := V1.facts 0 rfl
  obtain ⟨s7_0, s7_1, s7_2, s7_3⟩ := V1.facts 1 rfl
  have ne6_7 := V1.ne 0 1 rfl rfl (by decide)
  have ne7_6 := V1.ne 1 0 rfl rfl (by decide)
  dsimp only [putN, markI] at hHeld ⊢
  (try dsimp only [List.getElem_toArray, List.getElem_cons_zero, List.getElem_cons_succ]); (try simp only [Act.put, List.setIfInBounds_toArray, List.set_cons_zero, List.set_cons_succ])
  refine wpG_step (i := 4) (o := _) (by kernel_rfl) rfl (fun K hK => ?_)
  go_simp
  refine hK.out _ _ ⟨hHeld.s.st2 ⟨V1.ne 0 4 rfl rfl (by decide), V1.ne 0 4 rfl rfl (by decide), trivial⟩ _ _, fun _ => trivial, fun _ => trivial⟩ (fun hHeld' => ?_)
  clear hHeld
  have hHeld := hHeld'
  clear hHeld'
  clear hK K
  (try dsimp only [List.getElem_toArray, List.getElem_cons_zero, List.getElem_cons_succ]); (try simp only [Act.put, List.setIfInBounds_toArray, List.set_cons_zero, List.set_cons_succ])
  refine wpG_step (i := 5) (o := _) (by kernel_rfl) rfl (fun K hK => ?_)
  go_simp
  refine hK.out _ _ ⟨hHeld.s.st2 ⟨V1.ne 1 4 rfl rfl (by decide), V1.ne 1 4 rfl rfl (by decide), trivial⟩ _ _, fun _ => trivial, fun _ => trivial⟩ (fun hHeld' => ?_)
  clear hHeld
  have hHeld := hHeld'
  clear hHeld'
  clear hK K
  (try dsimp only [List.getElem_toArray, List.getElem_cons_zero, List.getElem_cons_succ]); (try simp only [Act.put, List.setIfInBounds_toArray, List.set_cons_zero, List.set_cons_succ])
  refine wpG_done (by kernel_rfl) ?_ _
  clear hHeld HL HSS hEW HS
  replace hx := hx.keep hE
  have KI := V1.kept2 (U := 93) 0 rfl (by decide) (Value.bool one.n) (Value.slice one.s.a one.s.len one.s.cap)
  replace hx := hx.kept KI
  replace hone := hone.kept KI
  clear KI
  replace V1 := V1.set2 0 rfl (Value.bool one.n) (Value.slice one.s.a one.s.len one.s.cap)
  dsimp only [List.set] at V1
  have KI := V1.kept2 (U := 93) 1 rfl (by decide) (Value.bool x.n) (Value.slice x.s.a x.s.len x.s.cap)
  replace hx := hx.kept KI
  replace hone := hone.kept KI
  clear KI
  replace V1 := V1.set2 1 rfl (Value.bool x.n) (Value.slice x.s.a x.s.len x.s.cap)
  dsimp only [List.set] at V1
  clear s6_0 s6_1 s6_2 s6_3 s7_0 s7_1 s7_2 s7_3 ne6_7 ne7_6
  clear hE
  (try clear hxx)
  (try clear hWX)
  generalize ((((wZ.setCell ⟨n1_6, 0, none⟩ (Value.bool one.n)).setCell ⟨n1_6, 1, none⟩ (Value.slice one.s.a one.s.len one.s.cap)).setCell ⟨n1_7, 0, none⟩ (Value.bool x.n)).setCell ⟨n1_7, 1, none⟩ (Value.slice x.s.a x.s.len x.s.cap)) = W1 at *
  go_wp2
  go_loopw [1] (fun nv wr => ∃ (m e f : Nat) (xo xb : IV), nv = .int .i64 m ∧ Vs w wr [(n1_6, 24, #[Value.bool xo.n, Value.slice xo.s.a xo.s.len xo.s.cap]), (n1_7, 24, #[Value.bool xb.n, Value.slice xb.s.a xb.s.len xb.s.cap]), (w.heap.size + 1 + 1, 26, #[Value.int .i64 0, Value.int .i64 0]), (w.heap.size + 1, 24, #[Value.bool false, Value.slice none 0 0]), (w.heap.size, 24, #[Value.bool x.n, Value.slice x.s.a x.s.len x.s.cap])] ∧ IsI wr xo (a ^ f) ∧ IsI wr xb (a ^ e) ∧ f + e * m = n ∧ m ≤ 200) (fun nv _ => (intOf nv).toNat)
  case atStart => exact ⟨n, 1, 0, one, x, rfl, V1, by rw [Int.pow_zero]; exact hone, by rw [Int.pow_succ, Int.pow_zero, Int.one_mul]; exact hx, by omega, hn⟩
  case round =>
    clear hone hx V1
    obtain ⟨m, e, f, xo, xb, rfl, VL, ho, hb, hef, hm200⟩ := hrel
    replace hef := hd_ hef
    -- skip
    have hxo := ho; have hxb := hb
    clear ho hb
    -- skip
    match m, hm200, hef with
    | 0, hm200, hef =>
      have hfn := hd_ (show f = n by have := hef.out; omega)
      go_upto_region 10 with fail
      obtain ⟨c6_0, c6_1, c6_2, c6_3⟩ := VL.facts 0 rfl
      obtain ⟨c4_0, c4_1, c4_2, c4_3⟩ := VL.facts 3 rfl
      obtain ⟨c5_0, c5_1, c5_2, c5_3⟩ := VL.facts 2 rfl
      go_wp2
      clear c6_0 c6_1 c6_2 c6_3 c4_0 c4_1 c4_2 c4_3 c5_0 c5_1 c5_2 c5_3
      have KI := VL.kept2 (U := 93) 3 rfl (by decide) (Value.bool xo.n) (Value.slice xo.s.a xo.s.len xo.s.cap)
      replace hxo := hxo.kept KI
      replace hxb := hxb.kept KI
      clear KI
      replace VL := VL.set2 3 rfl (Value.bool xo.n) (Value.slice xo.s.a xo.s.len xo.s.cap)
      dsimp only [List.set] at VL
      have KI := VL.kept2 (U := 93) 2 rfl (by decide) (Value.int .i64 0) (Value.int .i64 0)
      replace hxo := hxo.kept KI
      replace hxb := hxb.kept KI
      clear KI
      replace VL := VL.set2 2 rfl (Value.int .i64 0) (Value.int .i64 0)
      dsimp only [List.set] at VL
      generalize ((((wr.setCell ⟨w.heap.size + 1, 0, none⟩ (Value.bool xo.n)).setCell ⟨w.heap.size + 1, 1, none⟩ (Value.slice xo.s.a xo.s.len xo.s.cap)).setCell ⟨w.heap.size + 1 + 1, 0, none⟩ (Value.int .i64 0)).setCell ⟨w.heap.size + 1 + 1, 1, none⟩ (Value.int .i64 0)) = W2 at *
      have V2 := VL
      clear VL
      obtain ⟨r4_0, r4_1, r4_2, r4_3⟩ := V2.facts 3 rfl
      obtain ⟨r5_0, r5_1, r5_2, r5_3⟩ := V2.facts 2 rfl
      go_wp2
      refine bodyPost_ret (v := .tuple #[.agg #[Value.bool xo.n, Value.slice xo.s.a xo.s.len xo.s.cap], .agg #[Value.int .i64 0, Value.int .i64 0]]) (by simp [results, Try.results36, go_sem, r4_0, r4_1, r5_0, r5_1]) rfl ?_
      exact ⟨xo, rfl, by rw [← hfn.out]; exact hxo, V2.ext⟩
    | m + 1, hm200, hef =>
      have hnn : n ≤ 200 := hn
      by_cases hodd : (m + 1) % 2 = 1
      · have hP := hd_ (pow_odd hef.out hodd)
        have hsm := hd_ (show Sm (a ^ f * a ^ e) by rw [← Int.pow_add]; exact sm_pow ha hN.out hP.out.1)
        have ho2 : (((m + 1 : Nat) : Int) % 2 == 1) = true := by rw [beq_iff_eq]; omega
        replace hodd := hd_ hodd
        -- skip
        go_upto_region 7 with fail
        clear ho2
        obtain ⟨c6_0, c6_1, c6_2, c6_3⟩ := VL.facts 0 rfl
        obtain ⟨c7_0, c7_1, c7_2, c7_3⟩ := VL.facts 1 rfl
        go_wp2_with fail
        (with_reducible refine (mul_any xo xb (a ^ f) (a ^ e) _ (hxo) (hxb) hsm.out).mono ?_)
        rintro e W2 ⟨xp, rfl, hxp, hxx⟩
        replace hxo := hxo.keep hxx
        replace hxb := hxb.keep hxx
        (try rw [← Int.pow_add] at hxp)
        clear c6_0 c6_1 c6_2 c6_3 c7_0 c7_1 c7_2 c7_3
        have V2 := VL.keep hxx
        clear VL hxx
        obtain ⟨c6_0, c6_1, c6_2, c6_3⟩ := V2.facts 0 rfl
        go_upto_if 29 with fail
        clear c6_0 c6_1 c6_2 c6_3
        have KI := V2.kept2 (U := 93) 0 rfl (by decide) (Value.bool xp.n) (Value.slice xp.s.a xp.s.len xp.s.cap)
        replace hxo := hxo.kept KI
        replace hxb := hxb.kept KI
        replace hxp := hxp.kept KI
        clear KI
        replace V2 := V2.set2 0 rfl (Value.bool xp.n) (Value.slice xp.s.a xp.s.len xp.s.cap)
        dsimp only [List.set] at V2
        generalize ((W2.setCell ⟨n1_6, 0, none⟩ (Value.bool xp.n)).setCell ⟨n1_6, 1, none⟩ (Value.slice xp.s.a xp.s.len xp.s.cap)) = W3 at *
        have V3 := V2
        clear V2
        clear hxo
        -- skip
        by_cases hm1 : 0 < m
        · have hsm2 := hd_ (show Sm (a ^ e * a ^ e) by rw [← Int.pow_add]; exact sm_pow ha hN.out (pow_two_le hef.out (by omega)))
          go_upto_region 9 with fail
          obtain ⟨c7_0, c7_1, c7_2, c7_3⟩ := V3.facts 1 rfl
          go_wp2_with fail
          (with_reducible refine (mul_any xb xb (a ^ e) (a ^ e) _ (hxb) (hxb) hsm2.out).mono ?_)
          rintro e W4 ⟨xq, rfl, hxq, hxx⟩
          replace hxb := hxb.keep hxx
          replace hxp := hxp.keep hxx
          (try rw [← Int.pow_add] at hxq)
          clear c7_0 c7_1 c7_2 c7_3
          have V4 := V3.keep hxx
          clear V3 hxx
          obtain ⟨c7_0, c7_1, c7_2, c7_3⟩ := V4.facts 1 rfl
          go_wp2
          clear c7_0 c7_1 c7_2 c7_3
          have KI := V4.kept2 (U := 93) 1 rfl (by decide) (Value.bool xq.n) (Value.slice xq.s.a xq.s.len xq.s.cap)
          replace hxb := hxb.kept KI
          replace hxp := hxp.kept KI
          replace hxq := hxq.kept KI
          clear KI
          replace V4 := V4.set2 1 rfl (Value.bool xq.n) (Value.slice xq.s.a xq.s.len xq.s.cap)
          dsimp only [List.set] at V4
          generalize ((W4.setCell ⟨n1_7, 0, none⟩ (Value.bool xq.n)).setCell ⟨n1_7, 1, none⟩ (Value.slice xq.s.a xq.s.len xq.s.cap)) = W5 at *
          have V5 := V4
          clear V4
          clear hxb
          go_roundw
          case rel => exact ⟨(m + 1) / 2, e + e, f + e, xp, xq, by go_num, V5, hxp, hxq, hP.out.2, by omega⟩
          case measure => first | (simp [intOf]; done) | (simp [intOf]; omega)
        · -- skip
          obtain rfl : m = 0 := by omega
          go_wp2
          go_roundw
          case rel => exact ⟨0, e, f + e, xp, xb, by go_num, V3, hxp, hxb, by have := hef.out; omega, by omega⟩
          case measure => first | (simp [intOf]; done) | (simp [intOf]; omega)
      · have hev : (m + 1) % 2 = 0 := by omega
        have hm1 : 0 < m := by omega
        have hP := hd_ (pow_even hef.out hev)
        have hsm2 := hd_ (show Sm (a ^ e * a ^ e) by rw [← Int.pow_add]; exact sm_pow ha hN.out (pow_two_le hef.out (by omega)))
        have ho2 : (((m + 1 : Nat) : Int) % 2 == 1) = false := by rw [beq_eq_false_iff_ne]; omega
        replace hodd := hd_ hodd
        replace hev := hd_ hev
        -- skip
        go_upto_region 9 with fail
        clear ho2
        obtain ⟨c7_0, c7_1, c7_2, c7_3⟩ := VL.facts 1 rfl
        go_wp2_with fail
        (with_reducible refine (mul_any xb xb (a ^ e) (a ^ e) _ (hxb) (hxb) hsm2.out).mono ?_)
        rintro e W2 ⟨xq, rfl, hxq, hxx⟩
        replace hxo := hxo.keep hxx
        replace hxb := hxb.keep hxx
        (try rw [← Int.pow_add] at hxq)
        clear c7_0 c7_1 c7_2 c7_3
        have V2 := VL.keep hxx
        clear VL hxx
        obtain ⟨c7_0, c7_1, c7_2, c7_3⟩ := V2.facts 1 rfl
        go_wp2
        clear c7_0 c7_1 c7_2 c7_3
        have KI := V2.kept2 (U := 93) 1 rfl (by decide) (Value.bool xq.n) (Value.slice xq.s.a xq.s.len xq.s.cap)
        replace hxo := hxo.kept KI
        replace hxb := hxb.kept KI
        replace hxq := hxq.kept KI
        clear KI
        replace V2 := V2.set2 1 rfl (Value.bool xq.n) (Value.slice xq.s.a xq.s.len xq.s.cap)
        dsimp only [List.set] at V2
        generalize ((W2.setCell ⟨n1_7, 0, none⟩ (Value.bool xq.n)).setCell ⟨n1_7, 1, none⟩ (Value.slice xq.s.a xq.s.len xq.s.cap)) = W3 at *
        have V3 := V2
        clear V2
        clear hxb
        go_roundw
        case rel => exact ⟨(m + 1) / 2, e + e, f, xo, xq, by go_num, V3, hxo, hxq, hP.out, by omega⟩
        case measure => first | (simp [intOf]; done) | (simp [intOf]; omega)

namespace Z4
set_option maxRecDepth 100000 in
set_option maxHeartbeats 4000000 in
theorem pow_any (x : IV) (a : Int) (n N : Nat) (w : World) (hx : IsZ w x a) (ha : Bt a N) (hn : n ≤ 200) (hN : N * n ≤ 17000000000) :
    Calls Try.prog 38 #[.agg #[.bool x.n, .slice x.s.a x.s.len x.s.cap], .int .i64 (n : Int)] w (RetZ w (a ^ n)) := by
  replace hN := hd_ hN
  have V0 := (((Vs.nil w).add' (n := w.heap.size) (vs := #[Value.bool x.n, Value.slice x.s.a x.s.len x.s.cap]) (T := 31) (by simp)).add' (n := w.heap.size + 1) (vs := #[Value.bool false, Value.slice none 0 0]) (T := 31) (by simp))
  replace hx := hx.keep V0.ext
  go_enter Try.func38, Try.ntmps38
  go_upto_region 1 with fail
  generalize ((w.alloc (Obj.cells #[Value.bool x.n, Value.slice x.s.a x.s.len x.s.cap] 31)).alloc (Obj.cells #[Value.bool false, Value.slice none 0 0] 31)) = W0 at *
  go_wp2_with fail
  (with_reducible refine (Z4.of_any 1 _ (by omega)).mono ?_)
  rintro e W1 ⟨one, rfl, hone, hxx⟩
  replace hx := hx.keep hxx
  have V1 := V0.keep hxx
  clear V0 hxx
  go_wp2
  replace V1 := V1.add' (n := W1.heap.size) (vs := #[Value.bool one.n, Value.slice one.s.a one.s.len one.s.cap]) (T := 31) (by simp)
  replace hx := hx.keep ((Ext.rf _).al (Obj.cells #[Value.bool one.n, Value.slice one.s.a one.s.len one.s.cap] 31))
  replace hone := hone.keep ((Ext.rf _).al (Obj.cells #[Value.bool one.n, Value.slice one.s.a one.s.len one.s.cap] 31))
  generalize (W1.alloc (Obj.cells #[Value.bool one.n, Value.slice one.s.a one.s.len one.s.cap] 31)) = W2 at *
  have V2 := V1
  clear V1
  go_loopw [1] (fun nv wr => ∃ (m e f : Nat) (xo xb : IV), nv = .int .i64 m ∧ Vs w wr [(W1.heap.size, 31, #[Value.bool xo.n, Value.slice xo.s.a xo.s.len xo.s.cap]), (w.heap.size + 1, 31, #[Value.bool false, Value.slice none 0 0]), (w.heap.size, 31, #[Value.bool xb.n, Value.slice xb.s.a xb.s.len xb.s.cap])] ∧ IsZ wr xo (a ^ f) ∧ IsZ wr xb (a ^ e) ∧ f + e * m = n ∧ m ≤ 200) (fun nv _ => (intOf nv).toNat)
  case atStart => exact ⟨n, 1, 0, one, x, rfl, V2, by rw [Int.pow_zero]; exact hone, by rw [Int.pow_succ, Int.pow_zero, Int.one_mul]; exact hx, by omega, hn⟩
  case round =>
    clear hone hx V2
    obtain ⟨m, e, f, xo, xb, rfl, VL, ho, hb, hef, hm200⟩ := hrel
    replace hef := hd_ hef
    -- skip
    have hxo := ho; have hxb := hb
    clear ho hb
    -- skip
    match m, hm200, hef with
    | 0, hm200, hef =>
      have hfn := hd_ (show f = n by have := hef.out; omega)
      go_upto_region 8 with fail
      obtain ⟨c5_0, c5_1, c5_2, c5_3⟩ := VL.facts 0 rfl
      obtain ⟨c4_0, c4_1, c4_2, c4_3⟩ := VL.facts 1 rfl
      go_wp2
      clear c5_0 c5_1 c5_2 c5_3 c4_0 c4_1 c4_2 c4_3
      have KZ := VL.kept2 (U := 3) 1 rfl (by decide) (Value.bool xo.n) (Value.slice xo.s.a xo.s.len xo.s.cap)
      replace hxo := hxo.kept KZ
      replace hxb := hxb.kept KZ
      clear KZ
      replace VL := VL.set2 1 rfl (Value.bool xo.n) (Value.slice xo.s.a xo.s.len xo.s.cap)
      dsimp only [List.set] at VL
      generalize ((wr.setCell ⟨w.heap.size + 1, 0, none⟩ (Value.bool xo.n)).setCell ⟨w.heap.size + 1, 1, none⟩ (Value.slice xo.s.a xo.s.len xo.s.cap)) = W3 at *
      have V3 := VL
      clear VL
      obtain ⟨r4_0, r4_1, r4_2, r4_3⟩ := V3.facts 1 rfl
      go_wp2
      refine bodyPost_ret (v := .agg #[Value.bool xo.n, Value.slice xo.s.a xo.s.len xo.s.cap]) (by simp [results, Try.results38, go_sem, r4_0, r4_1]) rfl ?_
      exact ⟨xo, rfl, by rw [← hfn.out]; exact hxo, V3.ext⟩
    | m + 1, hm200, hef =>
      have hnn : n ≤ 200 := hn
      by_cases hodd : (m + 1) % 2 = 1
      · have hP := hd_ (pow_odd hef.out hodd)
        have hsm := hd_ (show Sm (a ^ f * a ^ e) by rw [← Int.pow_add]; exact sm_pow ha hN.out hP.out.1)
        have ho2 : (((m + 1 : Nat) : Int) % 2 == 1) = true := by rw [beq_iff_eq]; omega
        replace hodd := hd_ hodd
        -- skip
        go_upto_region 4 with fail
        clear ho2
        obtain ⟨c5_0, c5_1, c5_2, c5_3⟩ := VL.facts 0 rfl
        obtain ⟨c2_0, c2_1, c2_2, c2_3⟩ := VL.facts 2 rfl
        go_wp2_with fail
        (with_reducible refine (Z4.mul_any xo xb (a ^ f) (a ^ e) _ (hxo) (hxb) hsm.out).mono ?_)
        rintro e W3 ⟨xp, rfl, hxp, hxx⟩
        replace hxo := hxo.keep hxx
        replace hxb := hxb.keep hxx
        (try rw [← Int.pow_add] at hxp)
        clear c5_0 c5_1 c5_2 c5_3 c2_0 c2_1 c2_2 c2_3
        have V3 := VL.keep hxx
        clear VL hxx
        obtain ⟨c5_0, c5_1, c5_2, c5_3⟩ := V3.facts 0 rfl
        go_upto_if 18 with fail
        clear c5_0 c5_1 c5_2 c5_3
        have KZ := V3.kept2 (U := 3) 0 rfl (by decide) (Value.bool xp.n) (Value.slice xp.s.a xp.s.len xp.s.cap)
        replace hxo := hxo.kept KZ
        replace hxb := hxb.kept KZ
        replace hxp := hxp.kept KZ
        clear KZ
        replace V3 := V3.set2 0 rfl (Value.bool xp.n) (Value.slice xp.s.a xp.s.len xp.s.cap)
        dsimp only [List.set] at V3
        generalize ((W3.setCell ⟨W1.heap.size, 0, none⟩ (Value.bool xp.n)).setCell ⟨W1.heap.size, 1, none⟩ (Value.slice xp.s.a xp.s.len xp.s.cap)) = W4 at *
        have V4 := V3
        clear V3
        clear hxo
        -- skip
        by_cases hm1 : 0 < m
        · have hsm2 := hd_ (show Sm (a ^ e * a ^ e) by rw [← Int.pow_add]; exact sm_pow ha hN.out (pow_two_le hef.out (by omega)))
          have hm2 : (0 : Int) < ((m + 1 : Nat) : Int) / 2 := by omega
          go_upto_region 7 with fail
          obtain ⟨c2_0, c2_1, c2_2, c2_3⟩ := V4.facts 2 rfl
          go_wp2_with fail
          (with_reducible refine (Z4.mul_any xb xb (a ^ e) (a ^ e) _ (hxb) (hxb) hsm2.out).mono ?_)
          rintro e W5 ⟨xq, rfl, hxq, hxx⟩
          replace hxb := hxb.keep hxx
          replace hxp := hxp.keep hxx
          (try rw [← Int.pow_add] at hxq)
          clear c2_0 c2_1 c2_2 c2_3
          have V5 := V4.keep hxx
          clear V4 hxx
          obtain ⟨c2_0, c2_1, c2_2, c2_3⟩ := V5.facts 2 rfl
          go_wp2
          clear c2_0 c2_1 c2_2 c2_3
          have KZ := V5.kept2 (U := 3) 2 rfl (by decide) (Value.bool xq.n) (Value.slice xq.s.a xq.s.len xq.s.cap)
          replace hxb := hxb.kept KZ
          replace hxp := hxp.kept KZ
          replace hxq := hxq.kept KZ
          clear KZ
          replace V5 := V5.set2 2 rfl (Value.bool xq.n) (Value.slice xq.s.a xq.s.len xq.s.cap)
          dsimp only [List.set] at V5
          generalize ((W5.setCell ⟨w.heap.size, 0, none⟩ (Value.bool xq.n)).setCell ⟨w.heap.size, 1, none⟩ (Value.slice xq.s.a xq.s.len xq.s.cap)) = W6 at *
          have V6 := V5
          clear V5
          clear hxb
          go_roundw
          case rel => exact ⟨(m + 1) / 2, e + e, f + e, xp, xq, by go_num, V6, hxp, hxq, hP.out.2, by omega⟩
          case measure => first | (simp [intOf]; done) | (simp [intOf]; omega)
        · -- skip
          obtain rfl : m = 0 := by omega
          go_wp2
          go_roundw
          case rel => exact ⟨0, e, f + e, xp, xb, by go_num, V4, hxp, hxb, by have := hef.out; omega, by omega⟩
          case measure => first | (simp [intOf]; done) | (simp [intOf]; omega)
      · have hev : (m + 1) % 2 = 0 := by omega
        have hm1 : 0 < m := by omega
        have hP := hd_ (pow_even hef.out hev)
        have hsm2 := hd_ (show Sm (a ^ e * a ^ e) by rw [← Int.pow_add]; exact sm_pow ha hN.out (pow_two_le hef.out (by omega)))
        have ho2 : (((m + 1 : Nat) : Int) % 2 == 1) = false := by rw [beq_eq_false_iff_ne]; omega
        have hm2 : (0 : Int) < ((m + 1 : Nat) : Int) / 2 := by omega
        replace hodd := hd_ hodd
        replace hev := hd_ hev
        -- skip
        go_upto_region 7 with fail
        clear ho2
        obtain ⟨c2_0, c2_1, c2_2, c2_3⟩ := VL.facts 2 rfl
        go_wp2_with fail
        (with_reducible refine (Z4.mul_any xb xb (a ^ e) (a ^ e) _ (hxb) (hxb) hsm2.out).mono ?_)
        rintro e W3 ⟨xq, rfl, hxq, hxx⟩
        replace hxo := hxo.keep hxx
        replace hxb := hxb.keep hxx
        (try rw [← Int.pow_add] at hxq)
        clear c2_0 c2_1 c2_2 c2_3
        have V3 := VL.keep hxx
        clear VL hxx
        obtain ⟨c2_0, c2_1, c2_2, c2_3⟩ := V3.facts 2 rfl
        go_wp2
        clear c2_0 c2_1 c2_2 c2_3
        have KZ := V3.kept2 (U := 3) 2 rfl (by decide) (Value.bool xq.n) (Value.slice xq.s.a xq.s.len xq.s.cap)
        replace hxo := hxo.kept KZ
        replace hxb := hxb.kept KZ
        replace hxq := hxq.kept KZ
        clear KZ
        replace V3 := V3.set2 2 rfl (Value.bool xq.n) (Value.slice xq.s.a xq.s.len xq.s.cap)
        dsimp only [List.set] at V3
        generalize ((W3.setCell ⟨w.heap.size, 0, none⟩ (Value.bool xq.n)).setCell ⟨w.heap.size, 1, none⟩ (Value.slice xq.s.a xq.s.len xq.s.cap)) = W4 at *
        have V4 := V3
        clear V3
        clear hxb
        go_roundw
        case rel => exact ⟨(m + 1) / 2, e + e, f, xo, xq, by go_num, V4, hxo, hxq, hP.out, by omega⟩
        case measure => first | (simp [intOf]; done) | (simp [intOf]; omega)
end Z4

end Go.Proofs.Ytbbidekjbgjooaa
