/- The reference's ZOf, ZSmall. -/
import Derived.Test.YtbbidekjbgjooaaK6
import Derived.Test.YtbbidekjbgjooaaZMx
import Derived.Test.YtbbidekjbgjooaaZTx
import Derived.Test.YtbbidekjbgjooaaK5
namespace Go.Proofs.Ytbbidekjbgjooaa.Z4
open Go.RowKit

theorem p4_le {j : Nat} (h : j ≤ 5) : (1 : Int) ≤ 10000 ^ j ∧ (10000 : Int) ^ j ≤ 100000000000000000000 := by
  match j, h with
  | 0, _ => decide
  | 1, _ => decide
  | 2, _ => decide
  | 3, _ => decide
  | 4, _ => decide
  | 5, _ => decide

theorem p4_five {v : Int} (h : 0 ≤ v ∧ v ≤ 9223372036854775808) : 0 ≤ v ∧ v < 10000 ^ (5 - 0) := by
  have : (10000 : Int) ^ (5 - 0) = 100000000000000000000 := by decide
  omega

theorem of_step {v : Int} {k : Nat} (h : 0 ≤ v ∧ v < 10000 ^ (5 - k)) (h0 : 0 < v) : k < 5 ∧ 0 ≤ v / 10000 ∧ v / 10000 < 10000 ^ (5 - (k + 1)) := by
  rcases Nat.lt_or_ge k 5 with hk | hk
  · refine ⟨hk, by omega, ?_⟩
    have e : 5 - k = 5 - (k + 1) + 1 := by omega
    rw [e, Int.pow_succ] at h
    generalize (10000 : Int) ^ (5 - (k + 1)) = p at *
    omega
  · rw [show 5 - k = 0 by omega] at h
    simp at h
    omega

theorem of_abs {n : Int} (h : -9223372036854775808 ≤ n ∧ n < 0) : IntKind.u64.wrap (-IntKind.u64.wrap n) = -n := by
  rw [IntKind.wrap_u64, IntKind.wrap_u64]; omega

set_option maxRecDepth 100000 in
set_option maxHeartbeats 1000000 in
theorem of_any (n : Int) (w : World) (h : -9223372036854775808 ≤ n ∧ n ≤ 9223372036854775807) :
    Calls Try.prog 17 #[.int .i64 n] w (RetZ w n) := by
  have hsm := hd_ ((bt_i64 h).sm (by omega))
  by_cases hn : n < 0
  · have hv := hd_ (of_abs ⟨h.1, hn⟩)
    have HV := hd_ (show sg true (-n) = n by simp [sg])
    have HB := hd_ (show 0 ≤ -n ∧ -n < 10000 ^ (5 - 0) from p4_five (by omega))
    go_enter Try.func17, Try.ntmps17
    go_wp2
    rw [hv.out]
    go_loopw [3, 4] (fun uv ov wr => ∃ (v : Int) (so : SV) (o : List Int), uv = .int .u64 v ∧ ov = .slice so.a so.len so.cap ∧ Rw wr (w.heap.size + 1) .i64 so o ∧ Dig o ∧ (0 ≤ v ∧ v < 10000 ^ (5 - o.length)) ∧ valL o + v * 10000 ^ o.length = (-n) ∧ o.length ≤ 5 ∧
        Ext (w.alloc (Obj.cells #[Value.bool false, Value.slice none 0 0] 31)) wr) (fun uv _ _ => (intOf uv).toNat)
    case atStart => exact ⟨_, ⟨none, 0, 0⟩, [], rfl, rfl, Rw.nil_ _ _ _, (fun x hx => by cases hx), HB.out, by simp [valL], by simp, Ext.rf _⟩
    case round =>
      obtain ⟨v, so, o, rfl, rfl, hown, hdo, hv1, hval, ho5, hx⟩ := hrel
      have hsl := hown.len
      obtain ⟨oa, on, oc⟩ := so
      simp only at hsl
      subst hsl
      have hp := (p4_le (j := 5 - o.length) (by omega)).2
      have HV1 := hd_ hv1
      have hvb : 0 ≤ v ∧ v ≤ 100000000000000000000 := by omega
      clear hp hv1
      replace hval := hd_ hval
      have hvt : v < 18446744073709551616 := by
        have h1 := hval.out
        have h2 := valL_nonneg hdo
        have h3 := (p4_le (j := o.length) ho5).1
        have h4 := Int.mul_le_mul_of_nonneg_left h3 hvb.1
        omega
      by_cases hz : 0 < v
      · have hs := hd_ (of_step HV1.out hz)
        have hs5 : o.length < 5 := hs.out.1
        go_wp2_with ((refine wpL_app1 _ rfl _ _ 29 rfl .i64 8 Try.underlying29 infoI64 (w.alloc (Obj.cells #[Value.bool false, Value.slice none 0 0] 31)) ⟨oa, o.length, oc⟩ o _ rfl rfl (by simpa using hown) hx (by omega) (by omega) ?_); intro s5 w5 hrw5 hx5 hk5; rw [World.size_alloc] at hrw5)
        go_roundw
        case rel =>
          refine ⟨v / 10000, s5, o ++ [v % 10000], rfl, rfl, hrw5, hdo.snoc (by omega), by rw [List.length_append]; exact hs.out.2, ?_, by simp; omega, hx5⟩
          have h1 := hval.out
          rw [valL_snoc, List.length_append, List.length_singleton, Int.pow_succ, ← h1]
          generalize (10000 : Int) ^ o.length = p
          have h2 : v = 10000 * (v / 10000) + v % 10000 := by omega
          generalize v / 10000 = a at *
          generalize v % 10000 = b at *
          subst h2
          grind
        case measure => first | (simp [intOf]; done) | (simp [intOf]; omega)
      · obtain rfl : v = 0 := by omega
        have HO := hd_ (show valL o = (-n) by have := hval.out; omega)
        go_wp2_with fail
        refine (made_any _ ⟨oa, o.length, oc⟩ o _ (hown.isL hdo.fit) hdo (by rw [HO.out, HV.out]; exact hsm.out)).mono ?_
        rintro e w2 ⟨y, rfl, hy, hx2⟩
        rw [HO.out, HV.out] at hy
        have k0 : w2.cell? ⟨w.heap.size, 0, none⟩ = some (Value.bool false) := cell_later hx2 (cell_later hx (by simp))
        have k1 : w2.cell? ⟨w.heap.size, 1, none⟩ = some (Value.slice none 0 0) := cell_later hx2 (cell_later hx (by simp))
        have hsz := hx.size
        have hsz2 := hx2.size
        simp only [World.size_alloc] at hsz
        have f0 : ∀ i, w2.frozen? ⟨w.heap.size, i, none⟩ = false := fun i => (hx2.frozen (p := ⟨w.heap.size, i, none⟩) (by show w.heap.size < _; omega)).trans ((hx.frozen (p := ⟨w.heap.size, i, none⟩) (by simp)).trans (by simp))
        go_wp2
        refine bodyPost_ret (v := .agg #[.bool y.n, .slice y.s.a y.s.len y.s.cap]) (by simp [results, Try.results17, go_sem, k0, k1]) rfl ⟨y, rfl, ?_, ?_⟩
        · exact hy.kept ((Kept.rf _ _).st2 (T' := 31) (((Ty.new' rfl).keep hx).keep hx2) (by decide) _ _)
        · exact ((((Ext.rf w).al _).tr hx).tr hx2).st2 (Nat.le_refl _) _ _
  · have HV := hd_ (show sg (decide (n < 0)) n = n by simp [sg, hn])
    have HB := hd_ (show 0 ≤ n ∧ n < 10000 ^ (5 - 0) from p4_five (by omega))
    go_enter Try.func17, Try.ntmps17
    go_wp2
    go_loopw [3, 4] (fun uv ov wr => ∃ (v : Int) (so : SV) (o : List Int), uv = .int .u64 v ∧ ov = .slice so.a so.len so.cap ∧ Rw wr (w.heap.size + 1) .i64 so o ∧ Dig o ∧ (0 ≤ v ∧ v < 10000 ^ (5 - o.length)) ∧ valL o + v * 10000 ^ o.length = n ∧ o.length ≤ 5 ∧
        Ext (w.alloc (Obj.cells #[Value.bool false, Value.slice none 0 0] 31)) wr) (fun uv _ _ => (intOf uv).toNat)
    case atStart => exact ⟨_, ⟨none, 0, 0⟩, [], rfl, rfl, Rw.nil_ _ _ _, (fun x hx => by cases hx), HB.out, by simp [valL], by simp, Ext.rf _⟩
    case round =>
      obtain ⟨v, so, o, rfl, rfl, hown, hdo, hv1, hval, ho5, hx⟩ := hrel
      have hsl := hown.len
      obtain ⟨oa, on, oc⟩ := so
      simp only at hsl
      subst hsl
      have hp := (p4_le (j := 5 - o.length) (by omega)).2
      have HV1 := hd_ hv1
      have hvb : 0 ≤ v ∧ v ≤ 100000000000000000000 := by omega
      clear hp hv1
      replace hval := hd_ hval
      have hvt : v < 18446744073709551616 := by
        have h1 := hval.out
        have h2 := valL_nonneg hdo
        have h3 := (p4_le (j := o.length) ho5).1
        have h4 := Int.mul_le_mul_of_nonneg_left h3 hvb.1
        omega
      by_cases hz : 0 < v
      · have hs := hd_ (of_step HV1.out hz)
        have hs5 : o.length < 5 := hs.out.1
        go_wp2_with ((refine wpL_app1 _ rfl _ _ 29 rfl .i64 8 Try.underlying29 infoI64 (w.alloc (Obj.cells #[Value.bool false, Value.slice none 0 0] 31)) ⟨oa, o.length, oc⟩ o _ rfl rfl (by simpa using hown) hx (by omega) (by omega) ?_); intro s5 w5 hrw5 hx5 hk5; rw [World.size_alloc] at hrw5)
        go_roundw
        case rel =>
          refine ⟨v / 10000, s5, o ++ [v % 10000], rfl, rfl, hrw5, hdo.snoc (by omega), by rw [List.length_append]; exact hs.out.2, ?_, by simp; omega, hx5⟩
          have h1 := hval.out
          rw [valL_snoc, List.length_append, List.length_singleton, Int.pow_succ, ← h1]
          generalize (10000 : Int) ^ o.length = p
          have h2 : v = 10000 * (v / 10000) + v % 10000 := by omega
          generalize v / 10000 = a at *
          generalize v % 10000 = b at *
          subst h2
          grind
        case measure => first | (simp [intOf]; done) | (simp [intOf]; omega)
      · obtain rfl : v = 0 := by omega
        have HO := hd_ (show valL o = n by have := hval.out; omega)
        go_wp2_with fail
        refine (made_any _ ⟨oa, o.length, oc⟩ o _ (hown.isL hdo.fit) hdo (by rw [HO.out, HV.out]; exact hsm.out)).mono ?_
        rintro e w2 ⟨y, rfl, hy, hx2⟩
        rw [HO.out, HV.out] at hy
        have k0 : w2.cell? ⟨w.heap.size, 0, none⟩ = some (Value.bool false) := cell_later hx2 (cell_later hx (by simp))
        have k1 : w2.cell? ⟨w.heap.size, 1, none⟩ = some (Value.slice none 0 0) := cell_later hx2 (cell_later hx (by simp))
        have hsz := hx.size
        have hsz2 := hx2.size
        simp only [World.size_alloc] at hsz
        have f0 : ∀ i, w2.frozen? ⟨w.heap.size, i, none⟩ = false := fun i => (hx2.frozen (p := ⟨w.heap.size, i, none⟩) (by show w.heap.size < _; omega)).trans ((hx.frozen (p := ⟨w.heap.size, i, none⟩) (by simp)).trans (by simp))
        go_wp2
        refine bodyPost_ret (v := .agg #[.bool y.n, .slice y.s.a y.s.len y.s.cap]) (by simp [results, Try.results17, go_sem, k0, k1]) rfl ⟨y, rfl, ?_, ?_⟩
        · exact hy.kept ((Kept.rf _ _).st2 (T' := 31) (((Ty.new' rfl).keep hx).keep hx2) (by decide) _ _)
        · exact ((((Ext.rf w).al _).tr hx).tr hx2).st2 (Nat.le_refl _) _ _

theorem valL_drop_le {l : List Int} (hd : Dig l) (k : Nat) : 0 ≤ valL (l.drop k) ∧ valL (l.drop k) ≤ valL l := by
  induction k with
  | zero => exact ⟨by simpa using valL_nonneg hd, by simp⟩
  | succ k ih =>
    have h0 : Dig (l.drop (k + 1)) := fun x hx => hd x (List.mem_of_mem_drop hx)
    have h1 := valL_nonneg h0
    refine ⟨h1, ?_⟩
    rcases Nat.lt_or_ge k l.length with hk | hk
    · have h2 := valL_drop hk
      have h3 := hd.at_ k
      omega
    · rw [List.drop_of_length_le (by omega)]; simp [valL]; exact valL_nonneg hd

theorem small_step {l : List Int} (dl : Dig l) {k : Nat} (hk : k < l.length) (hv : valL l ≤ 9223372036854775808) :
    0 ≤ valL (l.drop (k + 1)) ∧ valL (l.drop (k + 1)) * 10000 + at_ l k ≤ 9223372036854775808 ∧ valL (l.drop k) = valL (l.drop (k + 1)) * 10000 + at_ l k := by
  have h1 := valL_drop hk
  have h2 := valL_drop_le dl k
  have h3 := valL_drop_le dl (k + 1)
  omega

set_option maxRecDepth 100000 in
set_option maxHeartbeats 1000000 in
theorem small_any (x : IV) (z : Int) (w : World) (h : IsZ w x z) (hb : Bt z 17179869183) :
    Calls Try.prog 13 #[.agg #[.bool x.n, .slice x.s.a x.s.len x.s.cap]] w (fun e w' => e = .returned (.tuple #[.int .i64 (smallN z), .bool (in64 z)]) ∧ Ext w w') := by
  have s1 : Hd (Sm (z - -9223372036854775808)) := hd_ (((hb.sub ((bt_i64 (n := -9223372036854775808) (by omega)).mono (by omega)))).sm (by omega))
  have s2 : Hd (Sm (z - 9223372036854775807)) := hd_ (((hb.sub ((bt_i64 (n := 9223372036854775807) (by omega)).mono (by omega)))).sm (by omega))
  have HX := hd_ (h.keep ((Ext.rf w).al (Obj.cells #[Value.bool x.n, Value.slice x.s.a x.s.len x.s.cap] 31)))
  have he0 := ((Ext.rf w).al (Obj.cells #[Value.bool x.n, Value.slice x.s.a x.s.len x.s.cap] 31))
  obtain ⟨l, hl, hn, hd, hle, hz, h0, hs⟩ := h.open_
  by_cases h1 : z < -9223372036854775808
  · have H := hd_ (in64_no (z := z) (by omega))
    have c1 : decide (cmpZ z (-9223372036854775808) < 0) = true := by rw [cmpZ_lt h1]; rfl
    clear hz h0 hs h1 hl hn
    go_enter Try.func13, Try.ntmps13
    go_wp2
    refine wp_region_held_drew (S := (fun w' => Ext (w.alloc (Obj.cells #[Value.bool x.n, Value.slice x.s.a x.s.len x.s.cap] 31)) w' ∧ (∀ b o, b < (w.alloc (Obj.cells #[Value.bool x.n, Value.slice x.s.a x.s.len x.s.cap] 31)).heap.size → w'.cell? ⟨b, o, none⟩ = (w.alloc (Obj.cells #[Value.bool x.n, Value.slice x.s.a x.s.len x.s.cap] 31)).cell? ⟨b, o, none⟩))) (by kernel_rfl) ?_ (fun hHeld => ?_)
    · (try dsimp only)
      (first | assumption | exact held_of (Ext.rf _).dr | exact held_of (Ext.tr (held_ext (by assumption)) hx))
    refine wpAnyH_take (i := 0) (oi := _) (v := ?_) rfl (by kernel_rfl) (by kernel_rfl) (by kernel_rfl) (fun _ _ _ h => h) (Or.inl ⟨by rfl, ?_⟩) (by assumption) ?_
    rotate_left
    · intro w hSw; (try dsimp only at hSw); go_simp; (try with_reducible rfl)
    (try dsimp only [List.getElem_toArray, List.getElem_cons_zero, List.getElem_cons_succ]); (try simp only [Act.put, List.setIfInBounds_toArray, List.set_cons_zero, List.set_cons_succ])
    refine wpAnyH_ready (rs := [1]) (by kernel_rfl) (by simp) ?_
    refine AllReadyH.cons (o := _) rfl (fun K hK => ?_) AllReadyH.nil
    go_simp
    (first | (go_at_call 17; ((with_reducible refine (of_any (-9223372036854775808) _ (by omega)).mono ?_); rintro e w' ⟨y1, rfl, hy1, hx⟩)) | (go_at_call 29; ((with_reducible refine (cmp_any x y1 z (-9223372036854775808) _ (HX.out.keep (held_ext (by assumption))) hy1 s1.out).mono ?_); rintro e w' ⟨rfl, hx⟩)))
    (try go_wp2_with fail)
    refine hK.out _ _ ?_ (fun hHeld => ?_)
    · (try dsimp only)
      (first | assumption | exact held_of (Ext.rf _).dr | exact held_of (Ext.tr (held_ext (by assumption)) hx))
    clear hK K
    (try dsimp only [List.getElem_toArray, List.getElem_cons_zero, List.getElem_cons_succ]); (try simp only [Act.put, List.setIfInBounds_toArray, List.set_cons_zero, List.set_cons_succ])
    refine wpAnyH_ready (rs := [2]) (by kernel_rfl) (by simp) ?_
    refine AllReadyH.cons (o := _) rfl (fun K hK => ?_) AllReadyH.nil
    go_simp
    (first | (go_at_call 17; ((with_reducible refine (of_any (-9223372036854775808) _ (by omega)).mono ?_); rintro e w' ⟨y1, rfl, hy1, hx⟩)) | (go_at_call 29; ((with_reducible refine (cmp_any x y1 z (-9223372036854775808) _ (HX.out.keep (held_ext (by assumption))) hy1 s1.out).mono ?_); rintro e w' ⟨rfl, hx⟩)))
    (try go_wp2_with fail)
    refine hK.out _ _ ?_ (fun hHeld => ?_)
    · (try dsimp only)
      (first | assumption | exact held_of (Ext.rf _).dr | exact held_of (Ext.tr (held_ext (by assumption)) hx))
    clear hK K
    (try dsimp only [List.getElem_toArray, List.getElem_cons_zero, List.getElem_cons_succ]); (try simp only [Act.put, List.setIfInBounds_toArray, List.set_cons_zero, List.set_cons_succ])
    refine wpAnyH_take (i := 3) (oi := _) (v := ?_) rfl (by kernel_rfl) (by kernel_rfl) (by kernel_rfl) (fun _ _ _ h => h) (Or.inl ⟨by rfl, ?_⟩) (by assumption) ?_
    rotate_left
    · intro w hSw; (try dsimp only at hSw); go_simp; (try with_reducible rfl)
    (try dsimp only [List.getElem_toArray, List.getElem_cons_zero, List.getElem_cons_succ]); (try simp only [Act.put, List.setIfInBounds_toArray, List.set_cons_zero, List.set_cons_succ])
    refine wpAnyH_take (i := 4) (oi := _) (v := ?_) rfl (by kernel_rfl) (by kernel_rfl) (by kernel_rfl) (fun _ _ _ h => h) (Or.inl ⟨by rfl, ?_⟩) (by assumption) ?_
    rotate_left
    · intro w hSw; (try dsimp only at hSw); go_simp; (try with_reducible rfl)
    (try dsimp only [List.getElem_toArray, List.getElem_cons_zero, List.getElem_cons_succ]); (try simp only [Act.put, List.setIfInBounds_toArray, List.set_cons_zero, List.set_cons_succ])
    refine wpAnyH_take (i := 5) (oi := _) (v := undef) rfl (by kernel_rfl) (by kernel_rfl) (by kernel_rfl) (fun _ _ _ h => h) (Or.inr ⟨by rfl, rfl⟩) (by assumption) ?_
    (try dsimp only [List.getElem_toArray, List.getElem_cons_zero, List.getElem_cons_succ]); (try simp only [Act.put, List.setIfInBounds_toArray, List.set_cons_zero, List.set_cons_succ])
    refine wpAnyH_take (i := 6) (oi := _) (v := undef) rfl (by kernel_rfl) (by kernel_rfl) (by kernel_rfl) (fun _ _ _ h => h) (Or.inr ⟨by rfl, rfl⟩) (by assumption) ?_
    (try dsimp only [List.getElem_toArray, List.getElem_cons_zero, List.getElem_cons_succ]); (try simp only [Act.put, List.setIfInBounds_toArray, List.set_cons_zero, List.set_cons_succ])
    refine wpAnyH_take (i := 7) (oi := _) (v := undef) rfl (by kernel_rfl) (by kernel_rfl) (by kernel_rfl) (fun _ _ _ h => h) (Or.inr ⟨by rfl, rfl⟩) (by assumption) ?_
    (try dsimp only [List.getElem_toArray, List.getElem_cons_zero, List.getElem_cons_succ]); (try simp only [Act.put, List.setIfInBounds_toArray, List.set_cons_zero, List.set_cons_succ])
    refine wpAnyH_take (i := 8) (oi := _) (v := undef) rfl (by kernel_rfl) (by kernel_rfl) (by kernel_rfl) (fun _ _ _ h => h) (Or.inr ⟨by rfl, rfl⟩) (by assumption) ?_
    (try dsimp only [List.getElem_toArray, List.getElem_cons_zero, List.getElem_cons_succ]); (try simp only [Act.put, List.setIfInBounds_toArray, List.set_cons_zero, List.set_cons_succ])
    refine wpAnyH_take (i := 9) (oi := _) (v := ?_) rfl (by kernel_rfl) (by kernel_rfl) (by kernel_rfl) (fun _ _ _ h => h) (Or.inl ⟨by rfl, ?_⟩) (by assumption) ?_
    rotate_left
    · intro w hSw; (try dsimp only at hSw); go_simp; (try with_reducible rfl)
    (try dsimp only [List.getElem_toArray, List.getElem_cons_zero, List.getElem_cons_succ]); (try simp only [Act.put, List.setIfInBounds_toArray, List.set_cons_zero, List.set_cons_succ])
    refine wpAnyH_done (by kernel_rfl) ?_ _
    go_wp2
    go_ret2
    exact ⟨ret2_ib H.out.2.symm H.out.1.symm, he0.tr (held_ext (by assumption))⟩
  · have c1 : decide (cmpZ z (-9223372036854775808) < 0) = false := by
      rcases Int.lt_or_eq_of_le (Int.not_lt.1 h1) with h | h
      · rw [cmpZ_gt h]; rfl
      · rw [cmpZ_eq h.symm]; rfl
    by_cases h2 : 9223372036854775807 < z
    · have H := hd_ (in64_no (z := z) (by omega))
      have c2 : decide (0 < cmpZ z 9223372036854775807) = true := by rw [cmpZ_gt h2]; rfl
      clear hz h0 hs h1 h2 hl hn
      go_enter Try.func13, Try.ntmps13
      go_wp2
      go_region_held3 (fun w' => Ext (w.alloc (Obj.cells #[Value.bool x.n, Value.slice x.s.a x.s.len x.s.cap] 31)) w' ∧ (∀ b o, b < (w.alloc (Obj.cells #[Value.bool x.n, Value.slice x.s.a x.s.len x.s.cap] 31)).heap.size → w'.cell? ⟨b, o, none⟩ = (w.alloc (Obj.cells #[Value.bool x.n, Value.slice x.s.a x.s.len x.s.cap] 31)).cell? ⟨b, o, none⟩)) (first | assumption | exact held_of (Ext.rf _).dr | exact held_of (Ext.tr (held_ext (by assumption)) hx)) (first | (go_at_call 17; ((with_reducible refine (of_any (-9223372036854775808) _ (by omega)).mono ?_); rintro e w' ⟨y1, rfl, hy1, hx⟩)) | (go_at_call 17; ((with_reducible refine (of_any 9223372036854775807 _ (by omega)).mono ?_); rintro e w' ⟨y1, rfl, hy1, hx⟩)) | (go_at_call 29; ((with_reducible refine (cmp_any x y1 z (-9223372036854775808) _ (HX.out.keep (held_ext (by assumption))) hy1 s1.out).mono ?_); rintro e w' ⟨rfl, hx⟩)) | (go_at_call 29; ((with_reducible refine (cmp_any x y1 z 9223372036854775807 _ (HX.out.keep (held_ext (by assumption))) hy1 s2.out).mono ?_); rintro e w' ⟨rfl, hx⟩)))
      go_wp2
      go_ret2
      exact ⟨ret2_ib H.out.2.symm H.out.1.symm, he0.tr (held_ext (by assumption))⟩
    · have c2 : decide (0 < cmpZ z 9223372036854775807) = false := by
        rcases Int.lt_or_eq_of_le (Int.not_lt.1 h2) with h | h
        · rw [cmpZ_lt h]; rfl
        · rw [cmpZ_eq h]; rfl
      have H := hd_ (in64_yes (z := z) (by omega))
      have hva : valL l ≤ 9223372036854775808 := by rw [hz] at h1 h2; unfold sg at h1 h2; split at h1 <;> simp_all <;> omega
      obtain ⟨n, s⟩ := x
      obtain ⟨ao, cap, rfl, hcap, hcm, hop⟩ := hl.open_
      simp only at hz h0
      have hzn : Hd (n = false → z = valL l) := hd_ fun e => by rw [hz, e]; rfl
      have hzp : Hd (n = true → z = - valL l) := hd_ fun e => by rw [hz, e]; rfl
      have HB := hd_ (show z ≤ 9223372036854775807 by omega)
      replace hz := hd_ hz
      replace hva := hd_ hva
      clear h0 hs h1 h2
      go_enter Try.func13, Try.ntmps13
      go_wp2
      go_region_held3 (fun w' => Ext (w.alloc (Obj.cells #[Value.bool n, Value.slice ao l.length cap] 31)) w' ∧ (∀ b o, b < (w.alloc (Obj.cells #[Value.bool n, Value.slice ao l.length cap] 31)).heap.size → w'.cell? ⟨b, o, none⟩ = (w.alloc (Obj.cells #[Value.bool n, Value.slice ao l.length cap] 31)).cell? ⟨b, o, none⟩)) (first | assumption | exact held_of (Ext.rf _).dr | exact held_of (Ext.tr (held_ext (by assumption)) hx)) (first | (go_at_call 17; ((with_reducible refine (of_any (-9223372036854775808) _ (by omega)).mono ?_); rintro e w' ⟨y1, rfl, hy1, hx⟩)) | (go_at_call 17; ((with_reducible refine (of_any 9223372036854775807 _ (by omega)).mono ?_); rintro e w' ⟨y1, rfl, hy1, hx⟩)) | (go_at_call 29; ((with_reducible refine (cmp_any ⟨n, ⟨ao, l.length, cap⟩⟩ y1 z (-9223372036854775808) _ (HX.out.keep (held_ext (by assumption))) hy1 s1.out).mono ?_); rintro e w' ⟨rfl, hx⟩)) | (go_at_call 29; ((with_reducible refine (cmp_any ⟨n, ⟨ao, l.length, cap⟩⟩ y1 z 9223372036854775807 _ (HX.out.keep (held_ext (by assumption))) hy1 s2.out).mono ?_); rintro e w' ⟨rfl, hx⟩)))
      have hX : Ext (w.alloc (Obj.cells #[Value.bool n, Value.slice ao l.length cap] 31)) w' := held_ext (by assumption)
      have b0 : w'.cell? ⟨w.heap.size, 0, none⟩ = some (Value.bool n) := cell_later hX (by simp)
      have b1 : w'.cell? ⟨w.heap.size, 1, none⟩ = some (Value.slice ao l.length cap) := cell_later hX (by simp)
      have hXw := he0.tr hX
      clear HX c1 c2 s1 s2
      go_wp2
      go_loop [4, 5] (fun nv iv => ∃ k : Nat, k ≤ l.length ∧ iv = .int .i64 ((k : Int) - 1) ∧ nv = .int .i64 (- valL (l.drop k))) (fun _ iv => (intOf iv + 1).toNat)
      case atStart => exact ⟨l.length, Nat.le_refl _, rfl, by rw [List.drop_of_length_le (Nat.le_refl _)]; rfl⟩
      case round =>
        obtain ⟨k, hk, rfl, rfl⟩ := hrel
        match k, hk with
        | 0, hk =>
          rw [List.drop_zero]
          have hv0 := valL_nonneg hd
          have hva := hva.out
          cases n
          · have hzn := hd_ (hzn.out (by trivial))
            have hvb : valL l ≤ 9223372036854775807 := by have := HB.out; have := hzn.out; omega
            go_wp2
            go_ret2
            exact ⟨ret2_ib (by rw [H.out.2, hzn.out]; omega) H.out.1.symm, hXw⟩
          · have hq2 := hd_ (show z = - valL l from hzp.out (by trivial))
            go_wp2
            go_ret2
            exact ⟨ret2_ib (by rw [H.out.2]; exact hq2.out.symm) H.out.1.symm, hXw⟩
        | k + 1, hk =>
          rw [show ((k + 1 : Nat) : Int) - 1 = (k : Int) by omega]
          obtain ⟨ba, oa, rfl, hba, ga⟩ := hop (by omega)
          have gc := (hXw.cell (p := ⟨ba, oa + k, none⟩) hba.lt).trans (ga k hk)
          have fa := hd.at_ k
          obtain ⟨q1, q2, q3⟩ := small_step hd hk hva.out
          replace q3 := hd_ q3
          go_wp2
          go_round
          case rel => exact ⟨k, by omega, rfl, by rw [q3.out]; congr 1; omega⟩
          case measure => first | (simp [intOf]; done) | (simp [intOf]; omega)

end Go.Proofs.Ytbbidekjbgjooaa.Z4
