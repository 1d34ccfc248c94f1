/- Bezout: the walk. -/
import Derived.Test.YtbbidekjbgjooaaVs
import Derived.Deep.DeepCutAuto
import Derived.Deep.LoopGhost
import Derived.Test.YtbbidekjbgjooaaZGcd
namespace Go.Proofs.Ytbbidekjbgjooaa
open Go.RowKit

theorem madeAbs_any (x : IV) (z : Int) (w : World) (h : IsI w x z) : Calls Try.prog 64 #[.bool false, .slice x.s.a x.s.len x.s.cap] w (RetI w (z.natAbs : Int)) := by
  obtain ⟨l, hl, hv, hs⟩ := isI_abs h
  have := made_any false x.s l w hl hs
  rw [hv] at this
  exact this

theorem gcd_ne {a b : Int} (h : b ≠ 0) : (Int.gcd a b : Int) ≠ 0 := by
  intro e
  have : Int.gcd a b = 0 := by omega
  exact h (Int.gcd_eq_zero_iff.1 this).2

theorem sgnZ_i64 (a : Int) : -9223372036854775808 ≤ sgnZ a ∧ sgnZ a ≤ 9223372036854775807 := by unfold sgnZ; (repeat' split) <;> omega

/-- What Bezout answers. -/
def RetBez (w : World) (a b : Int) (e : Ending) (w' : World) : Prop :=
  ∃ (g u v : IV) (zu zv : Int), e = .returned (.tuple #[.agg #[.bool g.n, .slice g.s.a g.s.len g.s.cap], .agg #[.bool u.n, .slice u.s.a u.s.len u.s.cap], .agg #[.bool v.n, .slice v.s.a v.s.len v.s.cap]]) ∧
    IsI w' g (Int.gcd a b : Int) ∧ IsI w' u zu ∧ IsI w' v zv ∧ Ext w w' ∧ (b = 0 → zu = sgnZ a ∧ zv = 0) ∧
    (b ≠ 0 → 0 ≤ zu ∧ zu < (b.natAbs : Int) / (Int.gcd a b : Int) ∧ zu * a + zv * b = Int.gcd a b)

set_option maxRecDepth 100000 in
set_option maxHeartbeats 8000000 in
theorem bezout_any (x y : IV) (a b : Int) (n : Nat) (w : World) (hx : IsI w x a) (hy : IsI w y b) (ha : Bt a n) (hb : Bt b n) (hn : n ≤ 1000000000) :
    Calls Try.prog 34 #[.agg #[.bool x.n, .slice x.s.a x.s.len x.s.cap], .agg #[.bool y.n, .slice y.s.a y.s.len y.s.cap]] w (RetBez w a b) := by
  have V0 := ((((((Vs.nil w).add' (n := w.heap.size) (vs := #[Value.bool x.n, Value.slice x.s.a x.s.len x.s.cap]) (T := 24) (by simp)).add' (n := w.heap.size + 1) (vs := #[Value.bool y.n, Value.slice y.s.a y.s.len y.s.cap]) (T := 24) (by simp)).add' (n := w.heap.size + 1 + 1) (vs := #[Value.bool false, Value.slice none 0 0]) (T := 24) (by simp)).add' (n := w.heap.size + 1 + 1 + 1) (vs := #[Value.bool false, Value.slice none 0 0]) (T := 24) (by simp)).add' (n := w.heap.size + 1 + 1 + 1 + 1) (vs := #[Value.bool false, Value.slice none 0 0]) (T := 24) (by simp))
  replace hx := hx.keep V0.ext
  replace hy := hy.keep V0.ext
  go_enter Try.func34, Try.ntmps34
  go_upto_region 1 with fail
  generalize (((((w.alloc (Obj.cells #[Value.bool x.n, Value.slice x.s.a x.s.len x.s.cap] 24)).alloc (Obj.cells #[Value.bool y.n, Value.slice y.s.a y.s.len y.s.cap] 24)).alloc (Obj.cells #[Value.bool false, Value.slice none 0 0] 24)).alloc (Obj.cells #[Value.bool false, Value.slice none 0 0] 24)).alloc (Obj.cells #[Value.bool false, Value.slice none 0 0] 24)) = W0 at *
  obtain ⟨c2_0, c2_1, c2_2, c2_3⟩ := V0.facts 4 rfl
  obtain ⟨c3_0, c3_1, c3_2, c3_3⟩ := V0.facts 3 rfl
  go_wp2_with fail
  (with_reducible refine (gcd_any x y a b _ (hx) (hy)).mono ?_)
  rintro e W1 ⟨y1, rfl, hy1, hxx⟩
  replace hx := hx.keep hxx
  replace hy := hy.keep hxx
  clear c2_0 c2_1 c2_2 c2_3 c3_0 c3_1 c3_2 c3_3
  have V1 := V0.keep hxx
  clear V0 hxx
  go_upto_region 2 with fail
  replace V1 := V1.add' (n := W1.heap.size) (vs := #[Value.bool y1.n, Value.slice y1.s.a y1.s.len y1.s.cap]) (T := 24) (by simp)
  replace hx := hx.keep ((Ext.rf _).al (Obj.cells #[Value.bool y1.n, Value.slice y1.s.a y1.s.len y1.s.cap] 24))
  replace hy := hy.keep ((Ext.rf _).al (Obj.cells #[Value.bool y1.n, Value.slice y1.s.a y1.s.len y1.s.cap] 24))
  replace hy1 := hy1.keep ((Ext.rf _).al (Obj.cells #[Value.bool y1.n, Value.slice y1.s.a y1.s.len y1.s.cap] 24))
  generalize (W1.alloc (Obj.cells #[Value.bool y1.n, Value.slice y1.s.a y1.s.len y1.s.cap] 24)) = W2 at *
  have V2 := V1
  clear V1
  obtain ⟨c3_0, c3_1, c3_2, c3_3⟩ := V2.facts 4 rfl
  go_wp2_with fail
  (with_reducible refine (sign_any y b _ (hy)).mono ?_)
  rintro e W3 ⟨rfl, hxx⟩
  replace hx := hx.keep hxx
  replace hy := hy.keep hxx
  replace hy1 := hy1.keep hxx
  clear c3_0 c3_1 c3_2 c3_3
  have V3 := V2.keep hxx
  clear V2 hxx
  go_upto_if 29 with fail
  -- skip
  by_cases hb0 : b = 0
  · have hs0 : (sgnZ b == 0) = true := by rw [hb0]; rfl
    go_upto_region 3 with fail
    clear hs0
    (try go_upto_region 3 with fail)
    obtain ⟨c7_0, c7_1, c7_2, c7_3⟩ := V3.facts 0 rfl
    obtain ⟨c2_0, c2_1, c2_2, c2_3⟩ := V3.facts 5 rfl
    have HS := hd_ (show ∀ W', Ext W3 W' → Cs W' [(W1.heap.size, 0, Value.bool y1.n), (W1.heap.size, 1, Value.slice y1.s.a y1.s.len y1.s.cap), (w.heap.size, 0, Value.bool x.n), (w.heap.size, 1, Value.slice x.s.a x.s.len x.s.cap)] from fun W' hW => by simp only [cs_cons, cs_nil]; exact ⟨cell_later hW c7_0, cell_later hW c7_1, cell_later hW c2_0, cell_later hW c2_1, trivial⟩)
    clear c7_0 c7_1 c7_2 c7_3 c2_0 c2_1 c2_2 c2_3
    refine wpG_begin (S := (fun w' => Cs w' [(W1.heap.size, 0, Value.bool y1.n), (W1.heap.size, 1, Value.slice y1.s.a y1.s.len y1.s.cap), (w.heap.size, 0, Value.bool x.n), (w.heap.size, 1, Value.slice x.s.a x.s.len x.s.cap)])) (fun _ => True) (fun _ => True) 99 98 (by kernel_rfl) (fun W3 hW3 => ?_) (fun W3 hW3 hHeld => ?_)
    · exact ⟨HS.out _ hW3, trivial, trivial⟩
    have hE := hW3
    refine wpG_take (i := 0) (oi := _) (v := ?_) rfl (by kernel_rfl) (by kernel_rfl) (by kernel_rfl) (by decide) (by decide) (fun _ _ _ h => h) (Or.inl ⟨by rfl, ?_⟩) hHeld ?_
    rotate_left
    · intro w hSw; (try dsimp only at hSw); (try simp only [cs_cons, cs_nil, and_true] at hSw); go_simp; (try with_reducible rfl)
    (try dsimp only [List.getElem_toArray, List.getElem_cons_zero, List.getElem_cons_succ]); (try simp only [Act.put, List.setIfInBounds_toArray, List.set_cons_zero, List.set_cons_succ])
    replace hHeld := hHeld.more 0
    refine wpG_take (i := 1) (oi := _) (v := ?_) rfl (by kernel_rfl) (by kernel_rfl) (by kernel_rfl) (by decide) (by decide) (fun _ _ _ h => h) (Or.inl ⟨by rfl, ?_⟩) hHeld ?_
    rotate_left
    · intro w hSw; (try dsimp only at hSw); (try simp only [cs_cons, cs_nil, and_true] at hSw); go_simp; (try with_reducible rfl)
    (try dsimp only [List.getElem_toArray, List.getElem_cons_zero, List.getElem_cons_succ]); (try simp only [Act.put, List.setIfInBounds_toArray, List.set_cons_zero, List.set_cons_succ])
    replace hHeld := hHeld.more 1
    refine wpG_take (i := 4) (oi := _) (v := ?_) rfl (by kernel_rfl) (by kernel_rfl) (by kernel_rfl) (by decide) (by decide) (fun _ _ _ h => h) (Or.inl ⟨by rfl, ?_⟩) hHeld ?_
    rotate_left
    · intro w hSw; (try dsimp only at hSw); (try simp only [cs_cons, cs_nil, and_true] at hSw); go_simp; (try with_reducible rfl)
    (try dsimp only [List.getElem_toArray, List.getElem_cons_zero, List.getElem_cons_succ]); (try simp only [Act.put, List.setIfInBounds_toArray, List.set_cons_zero, List.set_cons_succ])
    replace hHeld := hHeld.more 4
    refine wpG_step (i := 2) (o := _) (by kernel_rfl) rfl (fun K hK => ?_)
    go_simp
    (go_at_call 18; ((with_reducible refine (sign_any x a _ (hx.keep hE)).mono ?_); rintro e w' ⟨rfl, hxx⟩))
    replace hE := hE.tr hxx
    (try go_wp2_with fail)
    refine hK.out _ _ ⟨HS.out _ hE, fun _ => trivial, fun _ => trivial⟩ (fun hHeld' => ?_)
    clear hHeld
    have hHeld := hHeld'
    clear hHeld'
    clear hK K
    (try dsimp only [List.getElem_toArray, List.getElem_cons_zero, List.getElem_cons_succ]); (try simp only [Act.put, List.setIfInBounds_toArray, List.set_cons_zero, List.set_cons_succ])
    refine wpG_step (i := 3) (o := _) (by kernel_rfl) rfl (fun K hK => ?_)
    go_simp
    (go_at_call 16; ((with_reducible refine (of_any (sgnZ a) _ (sgnZ_i64 a)).mono ?_); rintro e w' ⟨us, rfl, hus, hxx⟩))
    replace hE := hE.tr hxx
    obtain ⟨s4_0, s4_1, s4_2, s4_3⟩ := (V3.keep hE).facts 3 rfl
    obtain ⟨s5_0, s5_1, s5_2, s5_3⟩ := (V3.keep hE).facts 2 rfl
    obtain ⟨s6_0, s6_1, s6_2, s6_3⟩ := (V3.keep hE).facts 1 rfl
    (try go_wp2_with fail)
    refine hK.out _ _ ⟨HS.out _ hE, fun _ => trivial, fun _ => trivial⟩ (fun hHeld' => ?_)
    clear hHeld
    have hHeld := hHeld'
    clear hHeld'
    clear hK K
    (try dsimp only [List.getElem_toArray, List.getElem_cons_zero, List.getElem_cons_succ]); (try simp only [Act.put, List.setIfInBounds_toArray, List.set_cons_zero, List.set_cons_succ])
    refine wpG_step (i := 5) (o := _) (by kernel_rfl) rfl (fun K hK => ?_)
    have ne4_5 := V3.ne 3 2 rfl rfl (by decide)
    have ne4_6 := V3.ne 3 1 rfl rfl (by decide)
    have ne5_4 := V3.ne 2 3 rfl rfl (by decide)
    have ne5_6 := V3.ne 2 1 rfl rfl (by decide)
    have ne6_4 := V3.ne 1 3 rfl rfl (by decide)
    have ne6_5 := V3.ne 1 2 rfl rfl (by decide)
    go_simp
    refine hK.out _ _ ⟨(hHeld.s).st2 ⟨V3.ne 3 0 rfl rfl (by decide), V3.ne 3 0 rfl rfl (by decide), V3.ne 3 5 rfl rfl (by decide), V3.ne 3 5 rfl rfl (by decide), trivial⟩ _ _, fun _ => trivial, fun _ => trivial⟩ (fun hHeld' => ?_)
    clear hHeld
    have hHeld := hHeld'
    clear hHeld'
    clear hK K
    (try dsimp only [List.getElem_toArray, List.getElem_cons_zero, List.getElem_cons_succ]); (try simp only [Act.put, List.setIfInBounds_toArray, List.set_cons_zero, List.set_cons_succ])
    refine wpG_step (i := 6) (o := _) (by kernel_rfl) rfl (fun K hK => ?_)
    go_simp
    refine hK.out _ _ ⟨(hHeld.s).st2 ⟨V3.ne 2 0 rfl rfl (by decide), V3.ne 2 0 rfl rfl (by decide), V3.ne 2 5 rfl rfl (by decide), V3.ne 2 5 rfl rfl (by decide), trivial⟩ _ _, fun _ => trivial, fun _ => trivial⟩ (fun hHeld' => ?_)
    clear hHeld
    have hHeld := hHeld'
    clear hHeld'
    clear hK K
    (try dsimp only [List.getElem_toArray, List.getElem_cons_zero, List.getElem_cons_succ]); (try simp only [Act.put, List.setIfInBounds_toArray, List.set_cons_zero, List.set_cons_succ])
    refine wpG_step (i := 7) (o := _) (by kernel_rfl) rfl (fun K hK => ?_)
    go_simp
    refine hK.out _ _ ⟨(hHeld.s).st2 ⟨V3.ne 1 0 rfl rfl (by decide), V3.ne 1 0 rfl rfl (by decide), V3.ne 1 5 rfl rfl (by decide), V3.ne 1 5 rfl rfl (by decide), trivial⟩ _ _, fun _ => trivial, fun _ => trivial⟩ (fun hHeld' => ?_)
    clear hHeld
    have hHeld := hHeld'
    clear hHeld'
    clear hK K
    (try dsimp only [List.getElem_toArray, List.getElem_cons_zero, List.getElem_cons_succ]); (try simp only [Act.put, List.setIfInBounds_toArray, List.set_cons_zero, List.set_cons_succ])
    refine wpG_done (by kernel_rfl) ?_ _
    clear hHeld HS
    have V4 := V3.keep hE
    clear V3
    replace hx := hx.keep hE
    replace hy := hy.keep hE
    replace hy1 := hy1.keep hE
    have KI := V4.kept2 (U := 93) 3 rfl (by decide) (Value.bool y1.n) (Value.slice y1.s.a y1.s.len y1.s.cap)
    replace hx := hx.kept KI
    replace hy := hy.kept KI
    replace hy1 := hy1.kept KI
    replace hus := hus.kept KI
    clear KI
    replace V4 := V4.set2 3 rfl (Value.bool y1.n) (Value.slice y1.s.a y1.s.len y1.s.cap)
    dsimp only [List.set] at V4
    have KI := V4.kept2 (U := 93) 2 rfl (by decide) (Value.bool us.n) (Value.slice us.s.a us.s.len us.s.cap)
    replace hx := hx.kept KI
    replace hy := hy.kept KI
    replace hy1 := hy1.kept KI
    replace hus := hus.kept KI
    clear KI
    replace V4 := V4.set2 2 rfl (Value.bool us.n) (Value.slice us.s.a us.s.len us.s.cap)
    dsimp only [List.set] at V4
    have KI := V4.kept2 (U := 93) 1 rfl (by decide) (Value.bool false) (Value.slice none 0 0)
    replace hx := hx.kept KI
    replace hy := hy.kept KI
    replace hy1 := hy1.kept KI
    replace hus := hus.kept KI
    clear KI
    replace V4 := V4.set2 1 rfl (Value.bool false) (Value.slice none 0 0)
    dsimp only [List.set] at V4
    clear s4_0 s4_1 s4_2 s4_3 s5_0 s5_1 s5_2 s5_3 s6_0 s6_1 s6_2 s6_3 ne4_5 ne4_6 ne5_4 ne5_6 ne6_4 ne6_5
    clear hE
    (try clear hxx)
    (try clear hW3)
    generalize ((((((w'.setCell ⟨w.heap.size + 1 + 1, 0, none⟩ (Value.bool y1.n)).setCell ⟨w.heap.size + 1 + 1, 1, none⟩ (Value.slice y1.s.a y1.s.len y1.s.cap)).setCell ⟨w.heap.size + 1 + 1 + 1, 0, none⟩ (Value.bool us.n)).setCell ⟨w.heap.size + 1 + 1 + 1, 1, none⟩ (Value.slice us.s.a us.s.len us.s.cap)).setCell ⟨w.heap.size + 1 + 1 + 1 + 1, 0, none⟩ (Value.bool false)).setCell ⟨w.heap.size + 1 + 1 + 1 + 1, 1, none⟩ (Value.slice none 0 0)) = W4 at *
    obtain ⟨r4_0, r4_1, r4_2, r4_3⟩ := V4.facts 3 rfl
    obtain ⟨r5_0, r5_1, r5_2, r5_3⟩ := V4.facts 2 rfl
    obtain ⟨r6_0, r6_1, r6_2, r6_3⟩ := V4.facts 1 rfl
    go_wp2
    refine bodyPost_ret (v := .tuple #[.agg #[Value.bool y1.n, Value.slice y1.s.a y1.s.len y1.s.cap], .agg #[Value.bool us.n, Value.slice us.s.a us.s.len us.s.cap], .agg #[Value.bool false, Value.slice none 0 0]]) (by simp [results, Try.results34, go_sem, r4_0, r4_1, r5_0, r5_1, r6_0, r6_1]) rfl ?_
    exact ⟨y1, us, zI, _, _, rfl, hy1, hus, isI_zero _, V4.ext, fun _ => ⟨rfl, rfl⟩, fun h => absurd hb0 h⟩
  · -- skip
    have hs0 : (sgnZ b == 0) = false := by rw [beq_eq_false_iff_ne]; unfold sgnZ; (repeat' split) <;> omega
    go_upto_region 4 with fail
    clear hs0
    (try go_upto_region 4 with fail)
    obtain ⟨c3_0, c3_1, c3_2, c3_3⟩ := V3.facts 4 rfl
    obtain ⟨c7_0, c7_1, c7_2, c7_3⟩ := V3.facts 0 rfl
    have HL := hd_ (show ∀ W', Ext W3 W' → Cs W' [(w.heap.size + 1, 1, Value.slice y.s.a y.s.len y.s.cap), (W1.heap.size, 0, Value.bool y1.n), (W1.heap.size, 1, Value.slice y1.s.a y1.s.len y1.s.cap)] from fun W' hW => by simp only [cs_cons, cs_nil]; exact ⟨cell_later hW c3_1, cell_later hW c7_0, cell_later hW c7_1, trivial⟩)
    clear c3_0 c3_1 c3_2 c3_3 c7_0 c7_1 c7_2 c7_3
    have HSS := hd_ (show ∀ w', Ext W3 w' → ((fun _ => True) w') ∧ ((fun _ => True : World → Prop) w') ∧ ((fun _ => True : World → Prop) w') from fun w' hw' => ⟨trivial, trivial, trivial⟩)
    refine wpE_begin (S := (fun _ => True)) [(9, 24, #[Value.bool false, Value.slice none 0 0]), (10, 24, #[Value.bool false, Value.slice none 0 0]), (11, 26, #[Value.int .i64 0, Value.int .i64 0])] [12, 13, 14] [0, 1, 2, 3, 4, 5, 6] (fun _ => True) (fun _ => True) 99 99 12 (by kernel_rfl) (by kernel_rfl) (by kernel_rfl) (by kernel_rfl) (fun _ _ d _ _ h => by cases d <;> exact h) (by kernel_rfl) rfl (by kernel_rfl) (by kernel_rfl) HSS.out (fun W3 hW3 => ?_)
    have hE := hW3
    have hEW := Ext.rf W3
    refine wpE_take (i := 0) (oi := _) (v := ?_) rfl (by kernel_rfl) (by kernel_rfl) (by kernel_rfl) (by kernel_rfl) (by kernel_rfl) (fun _ _ _ h => h) (Or.inl ⟨by rfl, ?_⟩) hEW ?_
    rotate_left
    · intro w hSw; (replace hSw := HL.out _ (hW3.tr hSw)); (try simp only [cs_cons, cs_nil, and_true] at hSw); go_simp; (try with_reducible rfl)
    (try dsimp only [List.getElem_toArray, List.getElem_cons_zero, List.getElem_cons_succ]); (try simp only [Act.put, List.setIfInBounds_toArray, List.set_cons_zero, List.set_cons_succ])
    refine wpE_take (i := 1) (oi := _) (v := ?_) rfl (by kernel_rfl) (by kernel_rfl) (by kernel_rfl) (by kernel_rfl) (by kernel_rfl) (fun _ _ _ h => h) (Or.inl ⟨by rfl, ?_⟩) hEW ?_
    rotate_left
    · intro w hSw; (replace hSw := HL.out _ (hW3.tr hSw)); (try simp only [cs_cons, cs_nil, and_true] at hSw); go_simp; (try with_reducible rfl)
    (try dsimp only [List.getElem_toArray, List.getElem_cons_zero, List.getElem_cons_succ]); (try simp only [Act.put, List.setIfInBounds_toArray, List.set_cons_zero, List.set_cons_succ])
    refine wpE_take (i := 3) (oi := _) (v := ?_) rfl (by kernel_rfl) (by kernel_rfl) (by kernel_rfl) (by kernel_rfl) (by kernel_rfl) (fun _ _ _ h => h) (Or.inl ⟨by rfl, ?_⟩) hEW ?_
    rotate_left
    · intro w hSw; (replace hSw := HL.out _ (hW3.tr hSw)); (try simp only [cs_cons, cs_nil, and_true] at hSw); go_simp; (try with_reducible rfl)
    (try dsimp only [List.getElem_toArray, List.getElem_cons_zero, List.getElem_cons_succ]); (try simp only [Act.put, List.setIfInBounds_toArray, List.set_cons_zero, List.set_cons_succ])
    refine wpE_step (i := 2) (o := _) (by kernel_rfl) (by kernel_rfl) rfl (fun w4 hw4 K hK => ?_)
    replace hE := hE.tr hw4
    replace hEW := hEW.tr hw4
    go_simp
    (go_at_call 64; ((with_reducible refine (madeAbs_any y b _ (hy.keep hE)).mono ?_); rintro e w' ⟨y2, rfl, hy2, hxx⟩))
    replace hE := hE.tr hxx
    replace hEW := hEW.tr hxx
    (try go_wp2_with fail)
    refine hK.out _ _ hxx ?_
    clear hK K hxx
    (try dsimp only [List.getElem_toArray, List.getElem_cons_zero, List.getElem_cons_succ]); (try simp only [Act.put, List.setIfInBounds_toArray, List.set_cons_zero, List.set_cons_succ])
    refine wpE_step (i := 4) (o := _) (by kernel_rfl) (by kernel_rfl) rfl (fun w4 hw4 K hK => ?_)
    replace hy2 := hy2.keep hw4
    replace hE := hE.tr hw4
    replace hEW := hEW.tr hw4
    go_simp
    (go_at_call 31; ((with_reducible refine (div_any y2 y1 (b.natAbs : Int) (Int.gcd a b : Int) _ hy2 (hy1.keep hE) (gcd_ne hb0)).mono ?_); rintro e w' ⟨m, m0, rfl, hm, hm0, hxx⟩))
    replace hy2 := hy2.keep hxx
    replace hE := hE.tr hxx
    replace hEW := hEW.tr hxx
    (try go_wp2_with fail)
    refine hK.out _ _ hxx ?_
    clear hK K hxx
    (try dsimp only [List.getElem_toArray, List.getElem_cons_zero, List.getElem_cons_succ]); (try simp only [Act.put, List.setIfInBounds_toArray, List.set_cons_zero, List.set_cons_succ])
    refine wpE_take (i := 5) (oi := _) (v := ?_) rfl (by kernel_rfl) (by kernel_rfl) (by kernel_rfl) (by kernel_rfl) (by kernel_rfl) (fun _ _ _ h => h) (Or.inl ⟨by rfl, ?_⟩) hEW ?_
    rotate_left
    · intro w hSw; (replace hSw := HL.out _ (hW3.tr hSw)); (try simp only [cs_cons, cs_nil, and_true] at hSw); go_simp; (try with_reducible rfl)
    (try dsimp only [List.getElem_toArray, List.getElem_cons_zero, List.getElem_cons_succ]); (try simp only [Act.put, List.setIfInBounds_toArray, List.set_cons_zero, List.set_cons_succ])
    refine wpE_take (i := 6) (oi := _) (v := ?_) rfl (by kernel_rfl) (by kernel_rfl) (by kernel_rfl) (by kernel_rfl) (by kernel_rfl) (fun _ _ _ h => h) (Or.inl ⟨by rfl, ?_⟩) hEW ?_
    rotate_left
    · intro w hSw; (replace hSw := HL.out _ (hW3.tr hSw)); (try simp only [cs_cons, cs_nil, and_true] at hSw); go_simp; (try with_reducible rfl)
    (try dsimp only [List.getElem_toArray, List.getElem_cons_zero, List.getElem_cons_succ]); (try simp only [Act.put, List.setIfInBounds_toArray, List.set_cons_zero, List.set_cons_succ])
    refine wpE_takeS (i := 7) (oi := _) (v := ?_) rfl (by kernel_rfl) (by kernel_rfl) (by kernel_rfl) (by kernel_rfl) (by kernel_rfl) (by decide) (by decide) (fun w' hw' => HSS.out w' (hW3.tr hw')) (fun _ _ _ h => h) (Or.inl ⟨by rfl, ?_⟩) hEW ?_
    rotate_left
    · intro w hSw; (try dsimp only at hSw); (try simp only [cs_cons, cs_nil, and_true] at hSw); go_simp; (try with_reducible rfl)
    (try dsimp only [List.getElem_toArray, List.getElem_cons_zero, List.getElem_cons_succ]); (try simp only [Act.put, List.setIfInBounds_toArray, List.set_cons_zero, List.set_cons_succ])
    refine wpE_takeS (i := 8) (oi := _) (v := ?_) rfl (by kernel_rfl) (by kernel_rfl) (by kernel_rfl) (by kernel_rfl) (by kernel_rfl) (by decide) (by decide) (fun w' hw' => HSS.out w' (hW3.tr hw')) (fun _ _ _ h => h) (Or.inl ⟨by rfl, ?_⟩) hEW ?_
    rotate_left
    · intro w hSw; (try dsimp only at hSw); (try simp only [cs_cons, cs_nil, and_true] at hSw); go_simp; (try with_reducible rfl)
    (try dsimp only [List.getElem_toArray, List.getElem_cons_zero, List.getElem_cons_succ]); (try simp only [Act.put, List.setIfInBounds_toArray, List.set_cons_zero, List.set_cons_succ])
    refine wpE_stores [9, 10, 11] [8, 9, 10] rfl (by kernel_rfl) (by kernel_rfl) (by kernel_rfl) (fun w' hw' => HSS.out w' (hE.tr hw')) (fun w5 ns hw5 hn1 hn2 hn3 hn4 hHeld => ?_)
    replace hy2 := hy2.keep hw5
    replace hm := hm.keep hw5
    replace hm0 := hm0.keep hw5
    replace hE := hE.tr hw5
    replace hEW := hEW.tr hw5
    obtain ⟨n4_8, n4_9, n4_10, rfl⟩ : ∃ n4_8 n4_9 n4_10, ns = [n4_8, n4_9, n4_10] := by match ns, hn1 with | [a0, a1, a2], _ => exact ⟨a0, a1, a2, rfl⟩
    obtain ⟨m1, m2, m3⟩ := more_of hn1 hn2 hn3 hn4
    have V4 : Vs w w5 [(n4_8, 24, #[Value.bool false, Value.slice none 0 0]), (n4_9, 24, #[Value.bool false, Value.slice none 0 0]), (n4_10, 26, #[Value.int .i64 0, Value.int .i64 0]), (W1.heap.size, 24, #[Value.bool y1.n, Value.slice y1.s.a y1.s.len y1.s.cap]), (w.heap.size + 1 + 1 + 1 + 1, 24, #[Value.bool false, Value.slice none 0 0]), (w.heap.size + 1 + 1 + 1, 24, #[Value.bool false, Value.slice none 0 0]), (w.heap.size + 1 + 1, 24, #[Value.bool false, Value.slice none 0 0]), (w.heap.size + 1, 24, #[Value.bool y.n, Value.slice y.s.a y.s.len y.s.cap]), (w.heap.size, 24, #[Value.bool x.n, Value.slice x.s.a x.s.len x.s.cap])] := (V3.keep hW3).more hEW m1 m2 m3
    clear hn1 hn2 hn3 hn4 m1 m2 m3
    obtain ⟨s8_0, s8_1, s8_2, s8_3⟩ := V4.facts 0 rfl
    obtain ⟨s9_0, s9_1, s9_2, s9_3⟩ := V4.facts 1 rfl
    obtain ⟨s10_0, s10_1, s10_2, s10_3⟩ := V4.facts 2 rfl
    have ne8_9 := V4.ne 0 1 rfl rfl (by decide)
    have ne8_10 := V4.ne 0 2 rfl rfl (by decide)
    have ne9_8 := V4.ne 1 0 rfl rfl (by decide)
    have ne9_10 := V4.ne 1 2 rfl rfl (by decide)
    have ne10_8 := V4.ne 2 0 rfl rfl (by decide)
    have ne10_9 := V4.ne 2 1 rfl rfl (by decide)
    dsimp only [putN, markI] at hHeld ⊢
    (try dsimp only [List.getElem_toArray, List.getElem_cons_zero, List.getElem_cons_succ]); (try simp only [Act.put, List.setIfInBounds_toArray, List.set_cons_zero, List.set_cons_succ])
    refine wpG_step (i := 12) (o := _) (by kernel_rfl) rfl (fun K hK => ?_)
    go_simp
    refine hK.out _ _ ⟨trivial, fun _ => trivial, fun _ => trivial⟩ (fun hHeld' => ?_)
    clear hHeld
    have hHeld := hHeld'
    clear hHeld'
    clear hK K
    (try dsimp only [List.getElem_toArray, List.getElem_cons_zero, List.getElem_cons_succ]); (try simp only [Act.put, List.setIfInBounds_toArray, List.set_cons_zero, List.set_cons_succ])
    refine wpG_step (i := 13) (o := _) (by kernel_rfl) rfl (fun K hK => ?_)
    go_simp
    refine hK.out _ _ ⟨trivial, fun _ => trivial, fun _ => trivial⟩ (fun hHeld' => ?_)
    clear hHeld
    have hHeld := hHeld'
    clear hHeld'
    clear hK K
    (try dsimp only [List.getElem_toArray, List.getElem_cons_zero, List.getElem_cons_succ]); (try simp only [Act.put, List.setIfInBounds_toArray, List.set_cons_zero, List.set_cons_succ])
    refine wpG_step (i := 14) (o := _) (by kernel_rfl) rfl (fun K hK => ?_)
    go_simp
    refine hK.out _ _ ⟨trivial, fun _ => trivial, fun _ => trivial⟩ (fun hHeld' => ?_)
    clear hHeld
    have hHeld := hHeld'
    clear hHeld'
    clear hK K
    (try dsimp only [List.getElem_toArray, List.getElem_cons_zero, List.getElem_cons_succ]); (try simp only [Act.put, List.setIfInBounds_toArray, List.set_cons_zero, List.set_cons_succ])
    refine wpG_done (by kernel_rfl) ?_ _
    clear hHeld HL HSS hEW
    replace hx := hx.keep hE
    replace hy := hy.keep hE
    replace hy1 := hy1.keep hE
    have KI := V4.kept2 (U := 93) 0 rfl (by decide) (Value.bool m.n) (Value.slice m.s.a m.s.len m.s.cap)
    replace hx := hx.kept KI
    replace hy := hy.kept KI
    replace hy1 := hy1.kept KI
    replace hy2 := hy2.kept KI
    replace hm := hm.kept KI
    replace hm0 := hm0.kept KI
    clear KI
    replace V4 := V4.set2 0 rfl (Value.bool m.n) (Value.slice m.s.a m.s.len m.s.cap)
    dsimp only [List.set] at V4
    have KI := V4.kept2 (U := 93) 1 rfl (by decide) (Value.bool m0.n) (Value.slice m0.s.a m0.s.len m0.s.cap)
    replace hx := hx.kept KI
    replace hy := hy.kept KI
    replace hy1 := hy1.kept KI
    replace hy2 := hy2.kept KI
    replace hm := hm.kept KI
    replace hm0 := hm0.kept KI
    clear KI
    replace V4 := V4.set2 1 rfl (Value.bool m0.n) (Value.slice m0.s.a m0.s.len m0.s.cap)
    dsimp only [List.set] at V4
    have KI := V4.kept2 (U := 93) 2 rfl (by decide) (Value.int .i64 0) (Value.int .i64 0)
    replace hx := hx.kept KI
    replace hy := hy.kept KI
    replace hy1 := hy1.kept KI
    replace hy2 := hy2.kept KI
    replace hm := hm.kept KI
    replace hm0 := hm0.kept KI
    clear KI
    replace V4 := V4.set2 2 rfl (Value.int .i64 0) (Value.int .i64 0)
    dsimp only [List.set] at V4
    clear s8_0 s8_1 s8_2 s8_3 s9_0 s9_1 s9_2 s9_3 s10_0 s10_1 s10_2 s10_3 ne8_9 ne8_10 ne9_8 ne9_10 ne10_8 ne10_9
    clear hE
    (try clear hxx)
    (try clear hW3)
    generalize ((((((w5.setCell ⟨n4_8, 0, none⟩ (Value.bool m.n)).setCell ⟨n4_8, 1, none⟩ (Value.slice m.s.a m.s.len m.s.cap)).setCell ⟨n4_9, 0, none⟩ (Value.bool m0.n)).setCell ⟨n4_9, 1, none⟩ (Value.slice m0.s.a m0.s.len m0.s.cap)).setCell ⟨n4_10, 0, none⟩ (Value.int .i64 0)).setCell ⟨n4_10, 1, none⟩ (Value.int .i64 0)) = W4 at *
    clear hy2
    (try go_upto_region 5 with fail)
    obtain ⟨c2_0, c2_1, c2_2, c2_3⟩ := V4.facts 8 rfl
    obtain ⟨c3_0, c3_1, c3_2, c3_3⟩ := V4.facts 7 rfl
    have HL := hd_ (show ∀ W', Ext W4 W' → Cs W' [(w.heap.size, 0, Value.bool x.n), (w.heap.size, 1, Value.slice x.s.a x.s.len x.s.cap), (w.heap.size + 1, 0, Value.bool y.n), (w.heap.size + 1, 1, Value.slice y.s.a y.s.len y.s.cap)] from fun W' hW => by simp only [cs_cons, cs_nil]; exact ⟨cell_later hW c2_0, cell_later hW c2_1, cell_later hW c3_0, cell_later hW c3_1, trivial⟩)
    have HS := hd_ (show ∀ W', Ext W4 W' → Cs W' [(w.heap.size + 1, 0, Value.bool y.n), (w.heap.size + 1, 1, Value.slice y.s.a y.s.len y.s.cap)] from fun W' hW => by simp only [cs_cons, cs_nil]; exact ⟨cell_later hW c3_0, cell_later hW c3_1, trivial⟩)
    clear c2_0 c2_1 c2_2 c2_3 c3_0 c3_1 c3_2 c3_3
    have HSS := hd_ (show ∀ w', Ext W4 w' → ((fun w' => Cs w' [(w.heap.size + 1, 0, Value.bool y.n), (w.heap.size + 1, 1, Value.slice y.s.a y.s.len y.s.cap)]) w') ∧ ((fun _ => True : World → Prop) w') ∧ ((fun _ => True : World → Prop) w') from fun w' hw' => ⟨HS.out _ hw', trivial, trivial⟩)
    refine wpE_begin (S := (fun w' => Cs w' [(w.heap.size + 1, 0, Value.bool y.n), (w.heap.size + 1, 1, Value.slice y.s.a y.s.len y.s.cap)])) [(4, 24, #[Value.bool false, Value.slice none 0 0]), (5, 24, #[Value.bool false, Value.slice none 0 0]), (6, 24, #[Value.bool false, Value.slice none 0 0]), (7, 24, #[Value.bool false, Value.slice none 0 0])] [8, 9, 10, 11] [0, 2] (fun _ => True) (fun _ => True) 99 99 8 (by kernel_rfl) (by kernel_rfl) (by kernel_rfl) (by kernel_rfl) (fun _ _ d _ _ h => by cases d <;> exact h) (by kernel_rfl) rfl (by kernel_rfl) (by kernel_rfl) HSS.out (fun W3 hW3 => ?_)
    have hE := hW3
    have hEW := Ext.rf W3
    refine wpE_take (i := 0) (oi := _) (v := ?_) rfl (by kernel_rfl) (by kernel_rfl) (by kernel_rfl) (by kernel_rfl) (by kernel_rfl) (fun _ _ _ h => h) (Or.inl ⟨by rfl, ?_⟩) hEW ?_
    rotate_left
    · intro w hSw; (replace hSw := HL.out _ (hW3.tr hSw)); (try simp only [cs_cons, cs_nil, and_true] at hSw); go_simp; (try with_reducible rfl)
    (try dsimp only [List.getElem_toArray, List.getElem_cons_zero, List.getElem_cons_succ]); (try simp only [Act.put, List.setIfInBounds_toArray, List.set_cons_zero, List.set_cons_succ])
    refine wpE_takeS (i := 1) (oi := _) (v := ?_) rfl (by kernel_rfl) (by kernel_rfl) (by kernel_rfl) (by kernel_rfl) (by kernel_rfl) (by decide) (by decide) (fun w' hw' => HSS.out w' (hW3.tr hw')) (fun _ _ _ h => h) (Or.inl ⟨by rfl, ?_⟩) hEW ?_
    rotate_left
    · intro w hSw; (try dsimp only at hSw); (try simp only [cs_cons, cs_nil, and_true] at hSw); go_simp; (try with_reducible rfl)
    (try dsimp only [List.getElem_toArray, List.getElem_cons_zero, List.getElem_cons_succ]); (try simp only [Act.put, List.setIfInBounds_toArray, List.set_cons_zero, List.set_cons_succ])
    refine wpE_takeS (i := 3) (oi := _) (v := ?_) rfl (by kernel_rfl) (by kernel_rfl) (by kernel_rfl) (by kernel_rfl) (by kernel_rfl) (by decide) (by decide) (fun w' hw' => HSS.out w' (hW3.tr hw')) (fun _ _ _ h => h) (Or.inl ⟨by rfl, ?_⟩) hEW ?_
    rotate_left
    · intro w hSw; (try dsimp only at hSw); (try simp only [cs_cons, cs_nil, and_true] at hSw); go_simp; (try with_reducible rfl)
    (try dsimp only [List.getElem_toArray, List.getElem_cons_zero, List.getElem_cons_succ]); (try simp only [Act.put, List.setIfInBounds_toArray, List.set_cons_zero, List.set_cons_succ])
    refine wpE_step (i := 2) (o := _) (by kernel_rfl) (by kernel_rfl) rfl (fun w4 hw4 K hK => ?_)
    replace hE := hE.tr hw4
    replace hEW := hEW.tr hw4
    go_simp
    (go_at_call 16; ((with_reducible refine (of_any 1 _ (by omega)).mono ?_); rintro e w' ⟨one, rfl, hone, hxx⟩))
    replace hE := hE.tr hxx
    replace hEW := hEW.tr hxx
    (try go_wp2_with fail)
    refine hK.out _ _ hxx ?_
    clear hK K hxx
    (try dsimp only [List.getElem_toArray, List.getElem_cons_zero, List.getElem_cons_succ]); (try simp only [Act.put, List.setIfInBounds_toArray, List.set_cons_zero, List.set_cons_succ])
    refine wpE_stores [4, 5, 6, 7] [11, 12, 13, 14] rfl (by kernel_rfl) (by kernel_rfl) (by kernel_rfl) (fun w' hw' => HSS.out w' (hE.tr hw')) (fun w5 ns hw5 hn1 hn2 hn3 hn4 hHeld => ?_)
    replace hone := hone.keep hw5
    replace hE := hE.tr hw5
    replace hEW := hEW.tr hw5
    obtain ⟨n5_11, n5_12, n5_13, n5_14, rfl⟩ : ∃ n5_11 n5_12 n5_13 n5_14, ns = [n5_11, n5_12, n5_13, n5_14] := by match ns, hn1 with | [a0, a1, a2, a3], _ => exact ⟨a0, a1, a2, a3, rfl⟩
    obtain ⟨m1, m2, m3⟩ := more_of hn1 hn2 hn3 hn4
    have V5 : Vs w w5 [(n5_11, 24, #[Value.bool false, Value.slice none 0 0]), (n5_12, 24, #[Value.bool false, Value.slice none 0 0]), (n5_13, 24, #[Value.bool false, Value.slice none 0 0]), (n5_14, 24, #[Value.bool false, Value.slice none 0 0]), (n4_8, 24, #[Value.bool m.n, Value.slice m.s.a m.s.len m.s.cap]), (n4_9, 24, #[Value.bool m0.n, Value.slice m0.s.a m0.s.len m0.s.cap]), (n4_10, 26, #[Value.int .i64 0, Value.int .i64 0]), (W1.heap.size, 24, #[Value.bool y1.n, Value.slice y1.s.a y1.s.len y1.s.cap]), (w.heap.size + 1 + 1 + 1 + 1, 24, #[Value.bool false, Value.slice none 0 0]), (w.heap.size + 1 + 1 + 1, 24, #[Value.bool false, Value.slice none 0 0]), (w.heap.size + 1 + 1, 24, #[Value.bool false, Value.slice none 0 0]), (w.heap.size + 1, 24, #[Value.bool y.n, Value.slice y.s.a y.s.len y.s.cap]), (w.heap.size, 24, #[Value.bool x.n, Value.slice x.s.a x.s.len x.s.cap])] := (V4.keep hW3).more hEW m1 m2 m3
    clear hn1 hn2 hn3 hn4 m1 m2 m3
    obtain ⟨s11_0, s11_1, s11_2, s11_3⟩ := V5.facts 0 rfl
    obtain ⟨s12_0, s12_1, s12_2, s12_3⟩ := V5.facts 1 rfl
    obtain ⟨s13_0, s13_1, s13_2, s13_3⟩ := V5.facts 2 rfl
    obtain ⟨s14_0, s14_1, s14_2, s14_3⟩ := V5.facts 3 rfl
    have ne11_12 := V5.ne 0 1 rfl rfl (by decide)
    have ne11_13 := V5.ne 0 2 rfl rfl (by decide)
    have ne11_14 := V5.ne 0 3 rfl rfl (by decide)
    have ne12_11 := V5.ne 1 0 rfl rfl (by decide)
    have ne12_13 := V5.ne 1 2 rfl rfl (by decide)
    have ne12_14 := V5.ne 1 3 rfl rfl (by decide)
    have ne13_11 := V5.ne 2 0 rfl rfl (by decide)
    have ne13_12 := V5.ne 2 1 rfl rfl (by decide)
    have ne13_14 := V5.ne 2 3 rfl rfl (by decide)
    have ne14_11 := V5.ne 3 0 rfl rfl (by decide)
    have ne14_12 := V5.ne 3 1 rfl rfl (by decide)
    have ne14_13 := V5.ne 3 2 rfl rfl (by decide)
    dsimp only [putN, markI] at hHeld ⊢
    (try dsimp only [List.getElem_toArray, List.getElem_cons_zero, List.getElem_cons_succ]); (try simp only [Act.put, List.setIfInBounds_toArray, List.set_cons_zero, List.set_cons_succ])
    refine wpG_step (i := 8) (o := _) (by kernel_rfl) rfl (fun K hK => ?_)
    go_simp
    refine hK.out _ _ ⟨hHeld.s.st2 ⟨V5.ne 0 11 rfl rfl (by decide), V5.ne 0 11 rfl rfl (by decide), trivial⟩ _ _, fun _ => trivial, fun _ => trivial⟩ (fun hHeld' => ?_)
    clear hHeld
    have hHeld := hHeld'
    clear hHeld'
    clear hK K
    (try dsimp only [List.getElem_toArray, List.getElem_cons_zero, List.getElem_cons_succ]); (try simp only [Act.put, List.setIfInBounds_toArray, List.set_cons_zero, List.set_cons_succ])
    refine wpG_step (i := 9) (o := _) (by kernel_rfl) rfl (fun K hK => ?_)
    go_simp
    refine hK.out _ _ ⟨hHeld.s.st2 ⟨V5.ne 1 11 rfl rfl (by decide), V5.ne 1 11 rfl rfl (by decide), trivial⟩ _ _, fun _ => trivial, fun _ => trivial⟩ (fun hHeld' => ?_)
    clear hHeld
    have hHeld := hHeld'
    clear hHeld'
    clear hK K
    (try dsimp only [List.getElem_toArray, List.getElem_cons_zero, List.getElem_cons_succ]); (try simp only [Act.put, List.setIfInBounds_toArray, List.set_cons_zero, List.set_cons_succ])
    refine wpG_step (i := 10) (o := _) (by kernel_rfl) rfl (fun K hK => ?_)
    go_simp
    refine hK.out _ _ ⟨hHeld.s.st2 ⟨V5.ne 2 11 rfl rfl (by decide), V5.ne 2 11 rfl rfl (by decide), trivial⟩ _ _, fun _ => trivial, fun _ => trivial⟩ (fun hHeld' => ?_)
    clear hHeld
    have hHeld := hHeld'
    clear hHeld'
    clear hK K
    (try dsimp only [List.getElem_toArray, List.getElem_cons_zero, List.getElem_cons_succ]); (try simp only [Act.put, List.setIfInBounds_toArray, List.set_cons_zero, List.set_cons_succ])
    refine wpG_step (i := 11) (o := _) (by kernel_rfl) rfl (fun K hK => ?_)
    go_simp
    refine hK.out _ _ ⟨hHeld.s.st2 ⟨V5.ne 3 11 rfl rfl (by decide), V5.ne 3 11 rfl rfl (by decide), trivial⟩ _ _, fun _ => trivial, fun _ => trivial⟩ (fun hHeld' => ?_)
    clear hHeld
    have hHeld := hHeld'
    clear hHeld'
    clear hK K
    (try dsimp only [List.getElem_toArray, List.getElem_cons_zero, List.getElem_cons_succ]); (try simp only [Act.put, List.setIfInBounds_toArray, List.set_cons_zero, List.set_cons_succ])
    refine wpG_done (by kernel_rfl) ?_ _
    clear hHeld HL HSS hEW HS
    replace hx := hx.keep hE
    replace hy := hy.keep hE
    replace hy1 := hy1.keep hE
    replace hm := hm.keep hE
    replace hm0 := hm0.keep hE
    have KI := V5.kept2 (U := 93) 0 rfl (by decide) (Value.bool x.n) (Value.slice x.s.a x.s.len x.s.cap)
    replace hx := hx.kept KI
    replace hy := hy.kept KI
    replace hy1 := hy1.kept KI
    replace hm := hm.kept KI
    replace hm0 := hm0.kept KI
    replace hone := hone.kept KI
    clear KI
    replace V5 := V5.set2 0 rfl (Value.bool x.n) (Value.slice x.s.a x.s.len x.s.cap)
    dsimp only [List.set] at V5
    have KI := V5.kept2 (U := 93) 1 rfl (by decide) (Value.bool y.n) (Value.slice y.s.a y.s.len y.s.cap)
    replace hx := hx.kept KI
    replace hy := hy.kept KI
    replace hy1 := hy1.kept KI
    replace hm := hm.kept KI
    replace hm0 := hm0.kept KI
    replace hone := hone.kept KI
    clear KI
    replace V5 := V5.set2 1 rfl (Value.bool y.n) (Value.slice y.s.a y.s.len y.s.cap)
    dsimp only [List.set] at V5
    have KI := V5.kept2 (U := 93) 2 rfl (by decide) (Value.bool one.n) (Value.slice one.s.a one.s.len one.s.cap)
    replace hx := hx.kept KI
    replace hy := hy.kept KI
    replace hy1 := hy1.kept KI
    replace hm := hm.kept KI
    replace hm0 := hm0.kept KI
    replace hone := hone.kept KI
    clear KI
    replace V5 := V5.set2 2 rfl (Value.bool one.n) (Value.slice one.s.a one.s.len one.s.cap)
    dsimp only [List.set] at V5
    have KI := V5.kept2 (U := 93) 3 rfl (by decide) (Value.bool false) (Value.slice none 0 0)
    replace hx := hx.kept KI
    replace hy := hy.kept KI
    replace hy1 := hy1.kept KI
    replace hm := hm.kept KI
    replace hm0 := hm0.kept KI
    replace hone := hone.kept KI
    clear KI
    replace V5 := V5.set2 3 rfl (Value.bool false) (Value.slice none 0 0)
    dsimp only [List.set] at V5
    clear s11_0 s11_1 s11_2 s11_3 s12_0 s12_1 s12_2 s12_3 s13_0 s13_1 s13_2 s13_3 s14_0 s14_1 s14_2 s14_3 ne11_12 ne11_13 ne11_14 ne12_11 ne12_13 ne12_14 ne13_11 ne13_12 ne13_14 ne14_11 ne14_12 ne14_13
    clear hE
    (try clear hxx)
    (try clear hW3)
    generalize ((((((((w5.setCell ⟨n5_11, 0, none⟩ (Value.bool x.n)).setCell ⟨n5_11, 1, none⟩ (Value.slice x.s.a x.s.len x.s.cap)).setCell ⟨n5_12, 0, none⟩ (Value.bool y.n)).setCell ⟨n5_12, 1, none⟩ (Value.slice y.s.a y.s.len y.s.cap)).setCell ⟨n5_13, 0, none⟩ (Value.bool one.n)).setCell ⟨n5_13, 1, none⟩ (Value.slice one.s.a one.s.len one.s.cap)).setCell ⟨n5_14, 0, none⟩ (Value.bool false)).setCell ⟨n5_14, 1, none⟩ (Value.slice none 0 0)) = W5 at *
    go_wp2
    go_loopg [48] b.natAbs (fun g s48 wr => ∃ (x0 x1 z0 z1 : IV) (r0 r1 u0 u1 : Int), Vs w wr [(n5_11, 24, #[Value.bool x0.n, Value.slice x0.s.a x0.s.len x0.s.cap]), (n5_12, 24, #[Value.bool x1.n, Value.slice x1.s.a x1.s.len x1.s.cap]), (n5_13, 24, #[Value.bool z0.n, Value.slice z0.s.a z0.s.len z0.s.cap]), (n5_14, 24, #[Value.bool z1.n, Value.slice z1.s.a z1.s.len z1.s.cap]), (n4_8, 24, #[Value.bool m.n, Value.slice m.s.a m.s.len m.s.cap]), (n4_9, 24, #[Value.bool m0.n, Value.slice m0.s.a m0.s.len m0.s.cap]), (n4_10, 26, #[Value.int .i64 0, Value.int .i64 0]), (W1.heap.size, 24, #[Value.bool y1.n, Value.slice y1.s.a y1.s.len y1.s.cap]), (w.heap.size + 1 + 1 + 1 + 1, 24, #[Value.bool false, Value.slice none 0 0]), (w.heap.size + 1 + 1 + 1, 24, #[Value.bool false, Value.slice none 0 0]), (w.heap.size + 1 + 1, 24, #[Value.bool false, Value.slice none 0 0]), (w.heap.size + 1, 24, #[Value.bool y.n, Value.slice y.s.a y.s.len y.s.cap]), (w.heap.size, 24, #[Value.bool x.n, Value.slice x.s.a x.s.len x.s.cap])] ∧ IsI wr x0 r0 ∧ IsI wr x1 r1 ∧ IsI wr z0 u0 ∧ IsI wr z1 u1 ∧ IsI wr x a ∧ IsI wr y b ∧ IsI wr y1 (Int.gcd a b : Int) ∧ IsI wr m ((b.natAbs : Int) / (Int.gcd a b : Int)) ∧
      BezI a b r0 r1 u0 u1 ∧ Bt r0 n ∧ Bt r1 n ∧ r1.natAbs = g)
    case atStart => exact ⟨x, y, one, zI, a, b, 1, 0, V5, hx, hy, hone, isI_zero _, hx, hy, hy1, hm, bez_start hb0, ha, hb, rfl⟩
    case round =>
      clear hx hy hy1 hm hm0 hone V5
      obtain ⟨x0, x1, z0, z1, r0, r1, u0, u1, VL, hx0, hx1, hz0, hz1, hx, hy, hy1, hm, hI, br0, br1, rfl⟩ := hrel
      have bu := bezI_bits hI hb
      replace hI := hd_ hI
      obtain ⟨bu0, bu1⟩ := bu
      -- skip
      obtain ⟨c12_0, c12_1, c12_2, c12_3⟩ := VL.facts 1 rfl
      go_wp2_with fail
      (with_reducible refine (sign_any x1 r1 _ (hx1)).mono ?_)
      rintro e W6 ⟨rfl, hxx⟩
      replace hx := hx.keep hxx
      replace hy := hy.keep hxx
      replace hy1 := hy1.keep hxx
      replace hm := hm.keep hxx
      replace hx0 := hx0.keep hxx
      replace hx1 := hx1.keep hxx
      replace hz0 := hz0.keep hxx
      replace hz1 := hz1.keep hxx
      clear c12_0 c12_1 c12_2 c12_3
      have V6 := VL.keep hxx
      clear VL hxx
      go_upto_if 50 with fail
      -- skip
      by_cases hnr : r1 = 0
      · have hs1 : (sgnZ r1 == 0) = true := by rw [hnr]; rfl
        obtain ⟨v0, hv0⟩ : ∃ v0, v0 = if r0 < 0 then -u0 else u0 := ⟨_, rfl⟩
        have bv0 : Bt v0 (n + 2) := by rw [hv0]; split <;> first | exact bu0.neg | exact bu0
        have hE0 := bez_end (by have := hI.out; rw [hnr] at this; exact this)
        rw [← hv0] at hE0
        have hUV := bez_uv hb0 hE0
        have hmp := hUV.1
        replace hUV := hd_ hUV
        replace hv0 := hd_ hv0
        clear hE0 hI
        go_upto_region 10 with fail
        clear hs1
        obtain ⟨c11_0, c11_1, c11_2, c11_3⟩ := V6.facts 0 rfl
        go_wp2_with fail
        (with_reducible refine (sign_any x0 r0 _ (hx0)).mono ?_)
        rintro e W7 ⟨rfl, hxx⟩
        replace hx := hx.keep hxx
        replace hy := hy.keep hxx
        replace hy1 := hy1.keep hxx
        replace hm := hm.keep hxx
        replace hx0 := hx0.keep hxx
        replace hx1 := hx1.keep hxx
        replace hz0 := hz0.keep hxx
        replace hz1 := hz1.keep hxx
        clear c11_0 c11_1 c11_2 c11_3
        have V7 := V6.keep hxx
        clear V6 hxx
        go_upto_if 68 with fail
        -- skip
        go_cut [] (fun wc => ∃ z2 : IV, Vs w wc [(n5_11, 24, #[Value.bool x0.n, Value.slice x0.s.a x0.s.len x0.s.cap]), (n5_12, 24, #[Value.bool x1.n, Value.slice x1.s.a x1.s.len x1.s.cap]), (n5_13, 24, #[Value.bool z2.n, Value.slice z2.s.a z2.s.len z2.s.cap]), (n5_14, 24, #[Value.bool z1.n, Value.slice z1.s.a z1.s.len z1.s.cap]), (n4_8, 24, #[Value.bool m.n, Value.slice m.s.a m.s.len m.s.cap]), (n4_9, 24, #[Value.bool m0.n, Value.slice m0.s.a m0.s.len m0.s.cap]), (n4_10, 26, #[Value.int .i64 0, Value.int .i64 0]), (W1.heap.size, 24, #[Value.bool y1.n, Value.slice y1.s.a y1.s.len y1.s.cap]), (w.heap.size + 1 + 1 + 1 + 1, 24, #[Value.bool false, Value.slice none 0 0]), (w.heap.size + 1 + 1 + 1, 24, #[Value.bool false, Value.slice none 0 0]), (w.heap.size + 1 + 1, 24, #[Value.bool false, Value.slice none 0 0]), (w.heap.size + 1, 24, #[Value.bool y.n, Value.slice y.s.a y.s.len y.s.cap]), (w.heap.size, 24, #[Value.bool x.n, Value.slice x.s.a x.s.len x.s.cap])] ∧ IsI wc z2 v0 ∧ IsI wc x a ∧ IsI wc y b ∧ IsI wc y1 (Int.gcd a b : Int) ∧ IsI wc m ((b.natAbs : Int) / (Int.gcd a b : Int)))
        case first =>
          by_cases hneg : r0 < 0
          · have hs2 : sgnZ r0 < 0 := by unfold sgnZ; rw [if_pos hneg]; omega
            have hv1 := hd_ (show -u0 = v0 by rw [hv0.out, if_pos hneg])
            replace hneg := hd_ hneg
            go_upto_region 11 with fail
            clear hs2
            obtain ⟨c13_0, c13_1, c13_2, c13_3⟩ := V7.facts 2 rfl
            go_wp2_with fail
            (with_reducible refine (neg_any z0 u0 _ (hz0)).mono ?_)
            rintro e W8 ⟨z2, rfl, hz2, hxx⟩
            replace hx := hx.keep hxx
            replace hy := hy.keep hxx
            replace hy1 := hy1.keep hxx
            replace hm := hm.keep hxx
            replace hx0 := hx0.keep hxx
            replace hx1 := hx1.keep hxx
            replace hz0 := hz0.keep hxx
            replace hz1 := hz1.keep hxx
            clear c13_0 c13_1 c13_2 c13_3
            have V8 := V7.keep hxx
            clear V7 hxx
            obtain ⟨c13_0, c13_1, c13_2, c13_3⟩ := V8.facts 2 rfl
            go_wp2
            clear c13_0 c13_1 c13_2 c13_3
            have KI := V8.kept2 (U := 93) 2 rfl (by decide) (Value.bool z2.n) (Value.slice z2.s.a z2.s.len z2.s.cap)
            replace hx := hx.kept KI
            replace hy := hy.kept KI
            replace hy1 := hy1.kept KI
            replace hm := hm.kept KI
            replace hx0 := hx0.kept KI
            replace hx1 := hx1.kept KI
            replace hz0 := hz0.kept KI
            replace hz1 := hz1.kept KI
            replace hz2 := hz2.kept KI
            clear KI
            replace V8 := V8.set2 2 rfl (Value.bool z2.n) (Value.slice z2.s.a z2.s.len z2.s.cap)
            dsimp only [List.set] at V8
            generalize ((W8.setCell ⟨n5_13, 0, none⟩ (Value.bool z2.n)).setCell ⟨n5_13, 1, none⟩ (Value.slice z2.s.a z2.s.len z2.s.cap)) = W9 at *
            have V9 := V8
            clear V8
            clear hz0
            go_meet
            case rel =>
              rw [hv1.out] at hz2
              exact ⟨z2, V9, hz2, hx, hy, hy1, hm⟩
          · -- skip
            have hs2 : ¬ sgnZ r0 < 0 := by unfold sgnZ; rw [if_neg hneg]; split <;> omega
            have hv1 := hd_ (show u0 = v0 by rw [hv0.out, if_neg hneg])
            replace hneg := hd_ hneg
            go_wp2
            go_meet
            case rel =>
              rw [hv1.out] at hz0
              exact ⟨z0, V7, hz0, hx, hy, hy1, hm⟩
        case rest =>
          clear hx hy hy1 hm hx0 hx1 hz0 hz1 V7
          obtain ⟨z2, VC, hz2, hx, hy, hy1, hm⟩ := hcut
          rename_i wC
          -- skip skip
          obtain ⟨c13_0, c13_1, c13_2, c13_3⟩ := VC.facts 2 rfl
          obtain ⟨c8_0, c8_1, c8_2, c8_3⟩ := VC.facts 4 rfl
          go_wp2_with fail
          (with_reducible refine (div_any z2 m v0 ((b.natAbs : Int) / (Int.gcd a b : Int)) _ (hz2) (hm) (by omega)).mono ?_)
          rintro e W8 ⟨qq, u, rfl, hqq, hu, hxx⟩
          replace hx := hx.keep hxx
          replace hy := hy.keep hxx
          replace hy1 := hy1.keep hxx
          replace hm := hm.keep hxx
          replace hz2 := hz2.keep hxx
          clear c13_0 c13_1 c13_2 c13_3 c8_0 c8_1 c8_2 c8_3
          have V8 := VC.keep hxx
          clear VC hxx
          go_upto_region 13 with fail
          replace V8 := V8.add' (n := W8.heap.size) (vs := #[Value.bool qq.n, Value.slice qq.s.a qq.s.len qq.s.cap]) (T := 24) (by simp)
          replace hx := hx.keep ((Ext.rf _).al (Obj.cells #[Value.bool qq.n, Value.slice qq.s.a qq.s.len qq.s.cap] 24))
          replace hy := hy.keep ((Ext.rf _).al (Obj.cells #[Value.bool qq.n, Value.slice qq.s.a qq.s.len qq.s.cap] 24))
          replace hy1 := hy1.keep ((Ext.rf _).al (Obj.cells #[Value.bool qq.n, Value.slice qq.s.a qq.s.len qq.s.cap] 24))
          replace hm := hm.keep ((Ext.rf _).al (Obj.cells #[Value.bool qq.n, Value.slice qq.s.a qq.s.len qq.s.cap] 24))
          replace hz2 := hz2.keep ((Ext.rf _).al (Obj.cells #[Value.bool qq.n, Value.slice qq.s.a qq.s.len qq.s.cap] 24))
          replace hqq := hqq.keep ((Ext.rf _).al (Obj.cells #[Value.bool qq.n, Value.slice qq.s.a qq.s.len qq.s.cap] 24))
          replace hu := hu.keep ((Ext.rf _).al (Obj.cells #[Value.bool qq.n, Value.slice qq.s.a qq.s.len qq.s.cap] 24))
          replace V8 := V8.add' (n := W8.heap.size + 1) (vs := #[Value.bool u.n, Value.slice u.s.a u.s.len u.s.cap]) (T := 24) (by simp)
          replace hx := hx.keep ((Ext.rf _).al (Obj.cells #[Value.bool u.n, Value.slice u.s.a u.s.len u.s.cap] 24))
          replace hy := hy.keep ((Ext.rf _).al (Obj.cells #[Value.bool u.n, Value.slice u.s.a u.s.len u.s.cap] 24))
          replace hy1 := hy1.keep ((Ext.rf _).al (Obj.cells #[Value.bool u.n, Value.slice u.s.a u.s.len u.s.cap] 24))
          replace hm := hm.keep ((Ext.rf _).al (Obj.cells #[Value.bool u.n, Value.slice u.s.a u.s.len u.s.cap] 24))
          replace hz2 := hz2.keep ((Ext.rf _).al (Obj.cells #[Value.bool u.n, Value.slice u.s.a u.s.len u.s.cap] 24))
          replace hqq := hqq.keep ((Ext.rf _).al (Obj.cells #[Value.bool u.n, Value.slice u.s.a u.s.len u.s.cap] 24))
          replace hu := hu.keep ((Ext.rf _).al (Obj.cells #[Value.bool u.n, Value.slice u.s.a u.s.len u.s.cap] 24))
          replace V8 := V8.add' (n := W8.heap.size + 1 + 1) (vs := #[Value.int .i64 0, Value.int .i64 0]) (T := 26) (by simp)
          replace hx := hx.keep ((Ext.rf _).al (Obj.cells #[Value.int .i64 0, Value.int .i64 0] 26))
          replace hy := hy.keep ((Ext.rf _).al (Obj.cells #[Value.int .i64 0, Value.int .i64 0] 26))
          replace hy1 := hy1.keep ((Ext.rf _).al (Obj.cells #[Value.int .i64 0, Value.int .i64 0] 26))
          replace hm := hm.keep ((Ext.rf _).al (Obj.cells #[Value.int .i64 0, Value.int .i64 0] 26))
          replace hz2 := hz2.keep ((Ext.rf _).al (Obj.cells #[Value.int .i64 0, Value.int .i64 0] 26))
          replace hqq := hqq.keep ((Ext.rf _).al (Obj.cells #[Value.int .i64 0, Value.int .i64 0] 26))
          replace hu := hu.keep ((Ext.rf _).al (Obj.cells #[Value.int .i64 0, Value.int .i64 0] 26))
          generalize (((W8.alloc (Obj.cells #[Value.bool qq.n, Value.slice qq.s.a qq.s.len qq.s.cap] 24)).alloc (Obj.cells #[Value.bool u.n, Value.slice u.s.a u.s.len u.s.cap] 24)).alloc (Obj.cells #[Value.int .i64 0, Value.int .i64 0] 26)) = W9 at *
          have V9 := V8
          clear V8
          (try go_upto_region 13 with fail)
          obtain ⟨c7_0, c7_1, c7_2, c7_3⟩ := V9.facts 10 rfl
          obtain ⟨c19_0, c19_1, c19_2, c19_3⟩ := V9.facts 1 rfl
          obtain ⟨c2_0, c2_1, c2_2, c2_3⟩ := V9.facts 15 rfl
          obtain ⟨c3_0, c3_1, c3_2, c3_3⟩ := V9.facts 14 rfl
          have HL := hd_ (show ∀ W', Ext W9 W' → Cs W' [(W1.heap.size, 0, Value.bool y1.n), (W1.heap.size, 1, Value.slice y1.s.a y1.s.len y1.s.cap), (W8.heap.size + 1, 0, Value.bool u.n), (W8.heap.size + 1, 1, Value.slice u.s.a u.s.len u.s.cap), (w.heap.size, 0, Value.bool x.n), (w.heap.size, 1, Value.slice x.s.a x.s.len x.s.cap), (w.heap.size + 1, 0, Value.bool y.n), (w.heap.size + 1, 1, Value.slice y.s.a y.s.len y.s.cap)] from fun W' hW => by simp only [cs_cons, cs_nil]; exact ⟨cell_later hW c7_0, cell_later hW c7_1, cell_later hW c19_0, cell_later hW c19_1, cell_later hW c2_0, cell_later hW c2_1, cell_later hW c3_0, cell_later hW c3_1, trivial⟩)
          clear c7_0 c7_1 c7_2 c7_3 c19_0 c19_1 c19_2 c19_3 c2_0 c2_1 c2_2 c2_3 c3_0 c3_1 c3_2 c3_3
          have HSS := hd_ (show ∀ w', Ext W9 w' → ((fun _ => True) w') ∧ ((fun _ => True : World → Prop) w') ∧ ((fun _ => True : World → Prop) w') from fun w' hw' => ⟨trivial, trivial, trivial⟩)
          refine wpE_begin (S := (fun _ => True)) [(11, 24, #[Value.bool false, Value.slice none 0 0]), (12, 24, #[Value.bool false, Value.slice none 0 0]), (13, 26, #[Value.int .i64 0, Value.int .i64 0])] [14, 15, 16] [0, 1, 2, 3, 4, 5, 6, 7, 8] (fun _ => True) (fun _ => True) 99 99 14 (by kernel_rfl) (by kernel_rfl) (by kernel_rfl) (by kernel_rfl) (fun _ _ d _ _ h => by cases d <;> exact h) (by kernel_rfl) rfl (by kernel_rfl) (by kernel_rfl) HSS.out (fun W3 hW3 => ?_)
          have hE := hW3
          have hEW := Ext.rf W3
          refine wpE_take (i := 0) (oi := _) (v := ?_) rfl (by kernel_rfl) (by kernel_rfl) (by kernel_rfl) (by kernel_rfl) (by kernel_rfl) (fun _ _ _ h => h) (Or.inl ⟨by rfl, ?_⟩) hEW ?_
          rotate_left
          · intro w hSw; (replace hSw := HL.out _ (hW3.tr hSw)); (try simp only [cs_cons, cs_nil, and_true] at hSw); go_simp; (try with_reducible rfl)
          (try dsimp only [List.getElem_toArray, List.getElem_cons_zero, List.getElem_cons_succ]); (try simp only [Act.put, List.setIfInBounds_toArray, List.set_cons_zero, List.set_cons_succ])
          refine wpE_take (i := 1) (oi := _) (v := ?_) rfl (by kernel_rfl) (by kernel_rfl) (by kernel_rfl) (by kernel_rfl) (by kernel_rfl) (fun _ _ _ h => h) (Or.inl ⟨by rfl, ?_⟩) hEW ?_
          rotate_left
          · intro w hSw; (replace hSw := HL.out _ (hW3.tr hSw)); (try simp only [cs_cons, cs_nil, and_true] at hSw); go_simp; (try with_reducible rfl)
          (try dsimp only [List.getElem_toArray, List.getElem_cons_zero, List.getElem_cons_succ]); (try simp only [Act.put, List.setIfInBounds_toArray, List.set_cons_zero, List.set_cons_succ])
          refine wpE_take (i := 2) (oi := _) (v := ?_) rfl (by kernel_rfl) (by kernel_rfl) (by kernel_rfl) (by kernel_rfl) (by kernel_rfl) (fun _ _ _ h => h) (Or.inl ⟨by rfl, ?_⟩) hEW ?_
          rotate_left
          · intro w hSw; (replace hSw := HL.out _ (hW3.tr hSw)); (try simp only [cs_cons, cs_nil, and_true] at hSw); go_simp; (try with_reducible rfl)
          (try dsimp only [List.getElem_toArray, List.getElem_cons_zero, List.getElem_cons_succ]); (try simp only [Act.put, List.setIfInBounds_toArray, List.set_cons_zero, List.set_cons_succ])
          refine wpE_take (i := 5) (oi := _) (v := ?_) rfl (by kernel_rfl) (by kernel_rfl) (by kernel_rfl) (by kernel_rfl) (by kernel_rfl) (fun _ _ _ h => h) (Or.inl ⟨by rfl, ?_⟩) hEW ?_
          rotate_left
          · intro w hSw; (replace hSw := HL.out _ (hW3.tr hSw)); (try simp only [cs_cons, cs_nil, and_true] at hSw); go_simp; (try with_reducible rfl)
          (try dsimp only [List.getElem_toArray, List.getElem_cons_zero, List.getElem_cons_succ]); (try simp only [Act.put, List.setIfInBounds_toArray, List.set_cons_zero, List.set_cons_succ])
          refine wpE_step (i := 3) (o := _) (by kernel_rfl) (by kernel_rfl) rfl (fun w4 hw4 K hK => ?_)
          replace hE := hE.tr hw4
          replace hEW := hEW.tr hw4
          go_simp
          (go_at_call 26; ((with_reducible refine (mul_any u x (v0 % ((b.natAbs : Int) / (Int.gcd a b : Int))) a _ (hu.keep hE) (hx.keep hE) (((bt_emod (by omega) (bt_ediv (Int.gcd a b : Int) (bt_natAbs hb))).mul ha).sm (by omega))).mono ?_); rintro e w' ⟨ua, rfl, hua, hxx⟩))
          replace hE := hE.tr hxx
          replace hEW := hEW.tr hxx
          (try go_wp2_with fail)
          refine hK.out _ _ hxx ?_
          clear hK K hxx
          (try dsimp only [List.getElem_toArray, List.getElem_cons_zero, List.getElem_cons_succ]); (try simp only [Act.put, List.setIfInBounds_toArray, List.set_cons_zero, List.set_cons_succ])
          refine wpE_step (i := 4) (o := _) (by kernel_rfl) (by kernel_rfl) rfl (fun w4 hw4 K hK => ?_)
          replace hua := hua.keep hw4
          replace hE := hE.tr hw4
          replace hEW := hEW.tr hw4
          go_simp
          (go_at_call 24; ((with_reducible refine (sub_any y1 ua (Int.gcd a b : Int) ((v0 % ((b.natAbs : Int) / (Int.gcd a b : Int))) * a) _ (hy1.keep hE) hua ((((bt_gcd ha hb).mono (show n ≤ (n + n) by omega)).sub ((bt_emod (by omega) (bt_ediv (Int.gcd a b : Int) (bt_natAbs hb))).mul ha)).sm (by omega))).mono ?_); rintro e w' ⟨dd, rfl, hdd, hxx⟩))
          replace hua := hua.keep hxx
          replace hE := hE.tr hxx
          replace hEW := hEW.tr hxx
          (try go_wp2_with fail)
          refine hK.out _ _ hxx ?_
          clear hK K hxx
          (try dsimp only [List.getElem_toArray, List.getElem_cons_zero, List.getElem_cons_succ]); (try simp only [Act.put, List.setIfInBounds_toArray, List.set_cons_zero, List.set_cons_succ])
          refine wpE_step (i := 6) (o := _) (by kernel_rfl) (by kernel_rfl) rfl (fun w4 hw4 K hK => ?_)
          replace hua := hua.keep hw4
          replace hdd := hdd.keep hw4
          replace hE := hE.tr hw4
          replace hEW := hEW.tr hw4
          go_simp
          (go_at_call 31; ((with_reducible refine (div_any dd y ((Int.gcd a b : Int) - ((v0 % ((b.natAbs : Int) / (Int.gcd a b : Int))) * a)) b _ hdd (hy.keep hE) hb0).mono ?_); rintro e w' ⟨vv, v9, rfl, hvv, hv9, hxx⟩))
          replace hua := hua.keep hxx
          replace hdd := hdd.keep hxx
          replace hE := hE.tr hxx
          replace hEW := hEW.tr hxx
          (try go_wp2_with fail)
          refine hK.out _ _ hxx ?_
          clear hK K hxx
          (try dsimp only [List.getElem_toArray, List.getElem_cons_zero, List.getElem_cons_succ]); (try simp only [Act.put, List.setIfInBounds_toArray, List.set_cons_zero, List.set_cons_succ])
          refine wpE_take (i := 7) (oi := _) (v := ?_) rfl (by kernel_rfl) (by kernel_rfl) (by kernel_rfl) (by kernel_rfl) (by kernel_rfl) (fun _ _ _ h => h) (Or.inl ⟨by rfl, ?_⟩) hEW ?_
          rotate_left
          · intro w hSw; (replace hSw := HL.out _ (hW3.tr hSw)); (try simp only [cs_cons, cs_nil, and_true] at hSw); go_simp; (try with_reducible rfl)
          (try dsimp only [List.getElem_toArray, List.getElem_cons_zero, List.getElem_cons_succ]); (try simp only [Act.put, List.setIfInBounds_toArray, List.set_cons_zero, List.set_cons_succ])
          refine wpE_take (i := 8) (oi := _) (v := ?_) rfl (by kernel_rfl) (by kernel_rfl) (by kernel_rfl) (by kernel_rfl) (by kernel_rfl) (fun _ _ _ h => h) (Or.inl ⟨by rfl, ?_⟩) hEW ?_
          rotate_left
          · intro w hSw; (replace hSw := HL.out _ (hW3.tr hSw)); (try simp only [cs_cons, cs_nil, and_true] at hSw); go_simp; (try with_reducible rfl)
          (try dsimp only [List.getElem_toArray, List.getElem_cons_zero, List.getElem_cons_succ]); (try simp only [Act.put, List.setIfInBounds_toArray, List.set_cons_zero, List.set_cons_succ])
          refine wpE_takeS (i := 9) (oi := _) (v := ?_) rfl (by kernel_rfl) (by kernel_rfl) (by kernel_rfl) (by kernel_rfl) (by kernel_rfl) (by decide) (by decide) (fun w' hw' => HSS.out w' (hW3.tr hw')) (fun _ _ _ h => h) (Or.inl ⟨by rfl, ?_⟩) hEW ?_
          rotate_left
          · intro w hSw; (try dsimp only at hSw); (try simp only [cs_cons, cs_nil, and_true] at hSw); go_simp; (try with_reducible rfl)
          (try dsimp only [List.getElem_toArray, List.getElem_cons_zero, List.getElem_cons_succ]); (try simp only [Act.put, List.setIfInBounds_toArray, List.set_cons_zero, List.set_cons_succ])
          refine wpE_takeS (i := 10) (oi := _) (v := ?_) rfl (by kernel_rfl) (by kernel_rfl) (by kernel_rfl) (by kernel_rfl) (by kernel_rfl) (by decide) (by decide) (fun w' hw' => HSS.out w' (hW3.tr hw')) (fun _ _ _ h => h) (Or.inl ⟨by rfl, ?_⟩) hEW ?_
          rotate_left
          · intro w hSw; (try dsimp only at hSw); (try simp only [cs_cons, cs_nil, and_true] at hSw); go_simp; (try with_reducible rfl)
          (try dsimp only [List.getElem_toArray, List.getElem_cons_zero, List.getElem_cons_succ]); (try simp only [Act.put, List.setIfInBounds_toArray, List.set_cons_zero, List.set_cons_succ])
          refine wpE_stores [11, 12, 13] [21, 22, 23] rfl (by kernel_rfl) (by kernel_rfl) (by kernel_rfl) (fun w' hw' => HSS.out w' (hE.tr hw')) (fun w5 ns hw5 hn1 hn2 hn3 hn4 hHeld => ?_)
          replace hua := hua.keep hw5
          replace hdd := hdd.keep hw5
          replace hvv := hvv.keep hw5
          replace hv9 := hv9.keep hw5
          replace hE := hE.tr hw5
          replace hEW := hEW.tr hw5
          obtain ⟨n10_21, n10_22, n10_23, rfl⟩ : ∃ n10_21 n10_22 n10_23, ns = [n10_21, n10_22, n10_23] := by match ns, hn1 with | [a0, a1, a2], _ => exact ⟨a0, a1, a2, rfl⟩
          obtain ⟨m1, m2, m3⟩ := more_of hn1 hn2 hn3 hn4
          have V10 : Vs w w5 [(n10_21, 24, #[Value.bool false, Value.slice none 0 0]), (n10_22, 24, #[Value.bool false, Value.slice none 0 0]), (n10_23, 26, #[Value.int .i64 0, Value.int .i64 0]), (W8.heap.size + 1 + 1, 26, #[Value.int .i64 0, Value.int .i64 0]), (W8.heap.size + 1, 24, #[Value.bool u.n, Value.slice u.s.a u.s.len u.s.cap]), (W8.heap.size, 24, #[Value.bool qq.n, Value.slice qq.s.a qq.s.len qq.s.cap]), (n5_11, 24, #[Value.bool x0.n, Value.slice x0.s.a x0.s.len x0.s.cap]), (n5_12, 24, #[Value.bool x1.n, Value.slice x1.s.a x1.s.len x1.s.cap]), (n5_13, 24, #[Value.bool z2.n, Value.slice z2.s.a z2.s.len z2.s.cap]), (n5_14, 24, #[Value.bool z1.n, Value.slice z1.s.a z1.s.len z1.s.cap]), (n4_8, 24, #[Value.bool m.n, Value.slice m.s.a m.s.len m.s.cap]), (n4_9, 24, #[Value.bool m0.n, Value.slice m0.s.a m0.s.len m0.s.cap]), (n4_10, 26, #[Value.int .i64 0, Value.int .i64 0]), (W1.heap.size, 24, #[Value.bool y1.n, Value.slice y1.s.a y1.s.len y1.s.cap]), (w.heap.size + 1 + 1 + 1 + 1, 24, #[Value.bool false, Value.slice none 0 0]), (w.heap.size + 1 + 1 + 1, 24, #[Value.bool false, Value.slice none 0 0]), (w.heap.size + 1 + 1, 24, #[Value.bool false, Value.slice none 0 0]), (w.heap.size + 1, 24, #[Value.bool y.n, Value.slice y.s.a y.s.len y.s.cap]), (w.heap.size, 24, #[Value.bool x.n, Value.slice x.s.a x.s.len x.s.cap])] := (V9.keep hW3).more hEW m1 m2 m3
          clear hn1 hn2 hn3 hn4 m1 m2 m3
          obtain ⟨s21_0, s21_1, s21_2, s21_3⟩ := V10.facts 0 rfl
          obtain ⟨s22_0, s22_1, s22_2, s22_3⟩ := V10.facts 1 rfl
          obtain ⟨s23_0, s23_1, s23_2, s23_3⟩ := V10.facts 2 rfl
          have ne21_22 := V10.ne 0 1 rfl rfl (by decide)
          have ne21_23 := V10.ne 0 2 rfl rfl (by decide)
          have ne22_21 := V10.ne 1 0 rfl rfl (by decide)
          have ne22_23 := V10.ne 1 2 rfl rfl (by decide)
          have ne23_21 := V10.ne 2 0 rfl rfl (by decide)
          have ne23_22 := V10.ne 2 1 rfl rfl (by decide)
          dsimp only [putN, markI] at hHeld ⊢
          (try dsimp only [List.getElem_toArray, List.getElem_cons_zero, List.getElem_cons_succ]); (try simp only [Act.put, List.setIfInBounds_toArray, List.set_cons_zero, List.set_cons_succ])
          refine wpG_step (i := 14) (o := _) (by kernel_rfl) rfl (fun K hK => ?_)
          go_simp
          refine hK.out _ _ ⟨trivial, fun _ => trivial, fun _ => trivial⟩ (fun hHeld' => ?_)
          clear hHeld
          have hHeld := hHeld'
          clear hHeld'
          clear hK K
          (try dsimp only [List.getElem_toArray, List.getElem_cons_zero, List.getElem_cons_succ]); (try simp only [Act.put, List.setIfInBounds_toArray, List.set_cons_zero, List.set_cons_succ])
          refine wpG_step (i := 15) (o := _) (by kernel_rfl) rfl (fun K hK => ?_)
          go_simp
          refine hK.out _ _ ⟨trivial, fun _ => trivial, fun _ => trivial⟩ (fun hHeld' => ?_)
          clear hHeld
          have hHeld := hHeld'
          clear hHeld'
          clear hK K
          (try dsimp only [List.getElem_toArray, List.getElem_cons_zero, List.getElem_cons_succ]); (try simp only [Act.put, List.setIfInBounds_toArray, List.set_cons_zero, List.set_cons_succ])
          refine wpG_step (i := 16) (o := _) (by kernel_rfl) rfl (fun K hK => ?_)
          go_simp
          refine hK.out _ _ ⟨trivial, fun _ => trivial, fun _ => trivial⟩ (fun hHeld' => ?_)
          clear hHeld
          have hHeld := hHeld'
          clear hHeld'
          clear hK K
          (try dsimp only [List.getElem_toArray, List.getElem_cons_zero, List.getElem_cons_succ]); (try simp only [Act.put, List.setIfInBounds_toArray, List.set_cons_zero, List.set_cons_succ])
          refine wpG_done (by kernel_rfl) ?_ _
          clear hHeld HL HSS hEW
          replace hx := hx.keep hE
          replace hy := hy.keep hE
          replace hy1 := hy1.keep hE
          replace hm := hm.keep hE
          replace hz2 := hz2.keep hE
          replace hqq := hqq.keep hE
          replace hu := hu.keep hE
          have KI := V10.kept2 (U := 93) 0 rfl (by decide) (Value.bool vv.n) (Value.slice vv.s.a vv.s.len vv.s.cap)
          replace hx := hx.kept KI
          replace hy := hy.kept KI
          replace hy1 := hy1.kept KI
          replace hm := hm.kept KI
          replace hz2 := hz2.kept KI
          replace hqq := hqq.kept KI
          replace hu := hu.kept KI
          replace hua := hua.kept KI
          replace hdd := hdd.kept KI
          replace hvv := hvv.kept KI
          replace hv9 := hv9.kept KI
          clear KI
          replace V10 := V10.set2 0 rfl (Value.bool vv.n) (Value.slice vv.s.a vv.s.len vv.s.cap)
          dsimp only [List.set] at V10
          have KI := V10.kept2 (U := 93) 1 rfl (by decide) (Value.bool v9.n) (Value.slice v9.s.a v9.s.len v9.s.cap)
          replace hx := hx.kept KI
          replace hy := hy.kept KI
          replace hy1 := hy1.kept KI
          replace hm := hm.kept KI
          replace hz2 := hz2.kept KI
          replace hqq := hqq.kept KI
          replace hu := hu.kept KI
          replace hua := hua.kept KI
          replace hdd := hdd.kept KI
          replace hvv := hvv.kept KI
          replace hv9 := hv9.kept KI
          clear KI
          replace V10 := V10.set2 1 rfl (Value.bool v9.n) (Value.slice v9.s.a v9.s.len v9.s.cap)
          dsimp only [List.set] at V10
          have KI := V10.kept2 (U := 93) 2 rfl (by decide) (Value.int .i64 0) (Value.int .i64 0)
          replace hx := hx.kept KI
          replace hy := hy.kept KI
          replace hy1 := hy1.kept KI
          replace hm := hm.kept KI
          replace hz2 := hz2.kept KI
          replace hqq := hqq.kept KI
          replace hu := hu.kept KI
          replace hua := hua.kept KI
          replace hdd := hdd.kept KI
          replace hvv := hvv.kept KI
          replace hv9 := hv9.kept KI
          clear KI
          replace V10 := V10.set2 2 rfl (Value.int .i64 0) (Value.int .i64 0)
          dsimp only [List.set] at V10
          clear s21_0 s21_1 s21_2 s21_3 s22_0 s22_1 s22_2 s22_3 s23_0 s23_1 s23_2 s23_3 ne21_22 ne21_23 ne22_21 ne22_23 ne23_21 ne23_22
          clear hE
          (try clear hxx)
          (try clear hW3)
          generalize ((((((w5.setCell ⟨n10_21, 0, none⟩ (Value.bool vv.n)).setCell ⟨n10_21, 1, none⟩ (Value.slice vv.s.a vv.s.len vv.s.cap)).setCell ⟨n10_22, 0, none⟩ (Value.bool v9.n)).setCell ⟨n10_22, 1, none⟩ (Value.slice v9.s.a v9.s.len v9.s.cap)).setCell ⟨n10_23, 0, none⟩ (Value.int .i64 0)).setCell ⟨n10_23, 1, none⟩ (Value.int .i64 0)) = W10 at *
          clear hua
          clear hdd
          (try go_upto_region 14 with fail)
          obtain ⟨c7_0, c7_1, c7_2, c7_3⟩ := V10.facts 13 rfl
          obtain ⟨c19_0, c19_1, c19_2, c19_3⟩ := V10.facts 4 rfl
          obtain ⟨c21_0, c21_1, c21_2, c21_3⟩ := V10.facts 0 rfl
          have HS := hd_ (show ∀ W', Ext W10 W' → Cs W' [(W1.heap.size, 0, Value.bool y1.n), (W1.heap.size, 1, Value.slice y1.s.a y1.s.len y1.s.cap), (W8.heap.size + 1, 0, Value.bool u.n), (W8.heap.size + 1, 1, Value.slice u.s.a u.s.len u.s.cap), (n10_21, 0, Value.bool vv.n), (n10_21, 1, Value.slice vv.s.a vv.s.len vv.s.cap)] from fun W' hW => by simp only [cs_cons, cs_nil]; exact ⟨cell_later hW c7_0, cell_later hW c7_1, cell_later hW c19_0, cell_later hW c19_1, cell_later hW c21_0, cell_later hW c21_1, trivial⟩)
          clear c7_0 c7_1 c7_2 c7_3 c19_0 c19_1 c19_2 c19_3 c21_0 c21_1 c21_2 c21_3
          refine wpG_begin (S := (fun w' => Cs w' [(W1.heap.size, 0, Value.bool y1.n), (W1.heap.size, 1, Value.slice y1.s.a y1.s.len y1.s.cap), (W8.heap.size + 1, 0, Value.bool u.n), (W8.heap.size + 1, 1, Value.slice u.s.a u.s.len u.s.cap), (n10_21, 0, Value.bool vv.n), (n10_21, 1, Value.slice vv.s.a vv.s.len vv.s.cap)])) (fun _ => True) (fun _ => True) 99 98 (by kernel_rfl) (fun W3 hW3 => ?_) (fun W3 hW3 hHeld => ?_)
          · exact ⟨HS.out _ hW3, trivial, trivial⟩
          have hE := hW3
          refine wpG_take (i := 0) (oi := _) (v := ?_) rfl (by kernel_rfl) (by kernel_rfl) (by kernel_rfl) (by decide) (by decide) (fun _ _ _ h => h) (Or.inl ⟨by rfl, ?_⟩) hHeld ?_
          rotate_left
          · intro w hSw; (try dsimp only at hSw); (try simp only [cs_cons, cs_nil, and_true] at hSw); go_simp; (try with_reducible rfl)
          (try dsimp only [List.getElem_toArray, List.getElem_cons_zero, List.getElem_cons_succ]); (try simp only [Act.put, List.setIfInBounds_toArray, List.set_cons_zero, List.set_cons_succ])
          replace hHeld := hHeld.more 0
          refine wpG_take (i := 1) (oi := _) (v := ?_) rfl (by kernel_rfl) (by kernel_rfl) (by kernel_rfl) (by decide) (by decide) (fun _ _ _ h => h) (Or.inl ⟨by rfl, ?_⟩) hHeld ?_
          rotate_left
          · intro w hSw; (try dsimp only at hSw); (try simp only [cs_cons, cs_nil, and_true] at hSw); go_simp; (try with_reducible rfl)
          (try dsimp only [List.getElem_toArray, List.getElem_cons_zero, List.getElem_cons_succ]); (try simp only [Act.put, List.setIfInBounds_toArray, List.set_cons_zero, List.set_cons_succ])
          replace hHeld := hHeld.more 1
          refine wpG_take (i := 2) (oi := _) (v := ?_) rfl (by kernel_rfl) (by kernel_rfl) (by kernel_rfl) (by decide) (by decide) (fun _ _ _ h => h) (Or.inl ⟨by rfl, ?_⟩) hHeld ?_
          rotate_left
          · intro w hSw; (try dsimp only at hSw); (try simp only [cs_cons, cs_nil, and_true] at hSw); go_simp; (try with_reducible rfl)
          (try dsimp only [List.getElem_toArray, List.getElem_cons_zero, List.getElem_cons_succ]); (try simp only [Act.put, List.setIfInBounds_toArray, List.set_cons_zero, List.set_cons_succ])
          replace hHeld := hHeld.more 2
          refine wpG_step (i := 3) (o := _) (by kernel_rfl) rfl (fun K hK => ?_)
          obtain ⟨s4_0, s4_1, s4_2, s4_3⟩ := (V10.keep hE).facts 16 rfl
          obtain ⟨s5_0, s5_1, s5_2, s5_3⟩ := (V10.keep hE).facts 15 rfl
          obtain ⟨s6_0, s6_1, s6_2, s6_3⟩ := (V10.keep hE).facts 14 rfl
          have ne4_5 := V10.ne 16 15 rfl rfl (by decide)
          have ne4_6 := V10.ne 16 14 rfl rfl (by decide)
          have ne5_4 := V10.ne 15 16 rfl rfl (by decide)
          have ne5_6 := V10.ne 15 14 rfl rfl (by decide)
          have ne6_4 := V10.ne 14 16 rfl rfl (by decide)
          have ne6_5 := V10.ne 14 15 rfl rfl (by decide)
          go_simp
          refine hK.out _ _ ⟨(hHeld.s).st2 ⟨V10.ne 16 13 rfl rfl (by decide), V10.ne 16 13 rfl rfl (by decide), V10.ne 16 4 rfl rfl (by decide), V10.ne 16 4 rfl rfl (by decide), V10.ne 16 0 rfl rfl (by decide), V10.ne 16 0 rfl rfl (by decide), trivial⟩ _ _, fun _ => trivial, fun _ => trivial⟩ (fun hHeld' => ?_)
          clear hHeld
          have hHeld := hHeld'
          clear hHeld'
          clear hK K
          (try dsimp only [List.getElem_toArray, List.getElem_cons_zero, List.getElem_cons_succ]); (try simp only [Act.put, List.setIfInBounds_toArray, List.set_cons_zero, List.set_cons_succ])
          refine wpG_step (i := 4) (o := _) (by kernel_rfl) rfl (fun K hK => ?_)
          go_simp
          refine hK.out _ _ ⟨(hHeld.s).st2 ⟨V10.ne 15 13 rfl rfl (by decide), V10.ne 15 13 rfl rfl (by decide), V10.ne 15 4 rfl rfl (by decide), V10.ne 15 4 rfl rfl (by decide), V10.ne 15 0 rfl rfl (by decide), V10.ne 15 0 rfl rfl (by decide), trivial⟩ _ _, fun _ => trivial, fun _ => trivial⟩ (fun hHeld' => ?_)
          clear hHeld
          have hHeld := hHeld'
          clear hHeld'
          clear hK K
          (try dsimp only [List.getElem_toArray, List.getElem_cons_zero, List.getElem_cons_succ]); (try simp only [Act.put, List.setIfInBounds_toArray, List.set_cons_zero, List.set_cons_succ])
          refine wpG_step (i := 5) (o := _) (by kernel_rfl) rfl (fun K hK => ?_)
          go_simp
          refine hK.out _ _ ⟨(hHeld.s).st2 ⟨V10.ne 14 13 rfl rfl (by decide), V10.ne 14 13 rfl rfl (by decide), V10.ne 14 4 rfl rfl (by decide), V10.ne 14 4 rfl rfl (by decide), V10.ne 14 0 rfl rfl (by decide), V10.ne 14 0 rfl rfl (by decide), trivial⟩ _ _, fun _ => trivial, fun _ => trivial⟩ (fun hHeld' => ?_)
          clear hHeld
          have hHeld := hHeld'
          clear hHeld'
          clear hK K
          (try dsimp only [List.getElem_toArray, List.getElem_cons_zero, List.getElem_cons_succ]); (try simp only [Act.put, List.setIfInBounds_toArray, List.set_cons_zero, List.set_cons_succ])
          refine wpG_done (by kernel_rfl) ?_ _
          clear hHeld HS
          have V11 := V10.keep hE
          clear V10
          replace hx := hx.keep hE
          replace hy := hy.keep hE
          replace hy1 := hy1.keep hE
          replace hm := hm.keep hE
          replace hz2 := hz2.keep hE
          replace hqq := hqq.keep hE
          replace hu := hu.keep hE
          replace hvv := hvv.keep hE
          replace hv9 := hv9.keep hE
          have KI := V11.kept2 (U := 93) 16 rfl (by decide) (Value.bool y1.n) (Value.slice y1.s.a y1.s.len y1.s.cap)
          replace hx := hx.kept KI
          replace hy := hy.kept KI
          replace hy1 := hy1.kept KI
          replace hm := hm.kept KI
          replace hz2 := hz2.kept KI
          replace hqq := hqq.kept KI
          replace hu := hu.kept KI
          replace hvv := hvv.kept KI
          replace hv9 := hv9.kept KI
          clear KI
          replace V11 := V11.set2 16 rfl (Value.bool y1.n) (Value.slice y1.s.a y1.s.len y1.s.cap)
          dsimp only [List.set] at V11
          have KI := V11.kept2 (U := 93) 15 rfl (by decide) (Value.bool u.n) (Value.slice u.s.a u.s.len u.s.cap)
          replace hx := hx.kept KI
          replace hy := hy.kept KI
          replace hy1 := hy1.kept KI
          replace hm := hm.kept KI
          replace hz2 := hz2.kept KI
          replace hqq := hqq.kept KI
          replace hu := hu.kept KI
          replace hvv := hvv.kept KI
          replace hv9 := hv9.kept KI
          clear KI
          replace V11 := V11.set2 15 rfl (Value.bool u.n) (Value.slice u.s.a u.s.len u.s.cap)
          dsimp only [List.set] at V11
          have KI := V11.kept2 (U := 93) 14 rfl (by decide) (Value.bool vv.n) (Value.slice vv.s.a vv.s.len vv.s.cap)
          replace hx := hx.kept KI
          replace hy := hy.kept KI
          replace hy1 := hy1.kept KI
          replace hm := hm.kept KI
          replace hz2 := hz2.kept KI
          replace hqq := hqq.kept KI
          replace hu := hu.kept KI
          replace hvv := hvv.kept KI
          replace hv9 := hv9.kept KI
          clear KI
          replace V11 := V11.set2 14 rfl (Value.bool vv.n) (Value.slice vv.s.a vv.s.len vv.s.cap)
          dsimp only [List.set] at V11
          clear s4_0 s4_1 s4_2 s4_3 s5_0 s5_1 s5_2 s5_3 s6_0 s6_1 s6_2 s6_3 ne4_5 ne4_6 ne5_4 ne5_6 ne6_4 ne6_5
          clear hE
          (try clear hxx)
          (try clear hW3)
          generalize ((((((W3.setCell ⟨w.heap.size + 1 + 1, 0, none⟩ (Value.bool y1.n)).setCell ⟨w.heap.size + 1 + 1, 1, none⟩ (Value.slice y1.s.a y1.s.len y1.s.cap)).setCell ⟨w.heap.size + 1 + 1 + 1, 0, none⟩ (Value.bool u.n)).setCell ⟨w.heap.size + 1 + 1 + 1, 1, none⟩ (Value.slice u.s.a u.s.len u.s.cap)).setCell ⟨w.heap.size + 1 + 1 + 1 + 1, 0, none⟩ (Value.bool vv.n)).setCell ⟨w.heap.size + 1 + 1 + 1 + 1, 1, none⟩ (Value.slice vv.s.a vv.s.len vv.s.cap)) = W11 at *
          obtain ⟨r4_0, r4_1, r4_2, r4_3⟩ := V11.facts 16 rfl
          obtain ⟨r5_0, r5_1, r5_2, r5_3⟩ := V11.facts 15 rfl
          obtain ⟨r6_0, r6_1, r6_2, r6_3⟩ := V11.facts 14 rfl
          go_wp2
          refine bodyPost_ret (v := .tuple #[.agg #[Value.bool y1.n, Value.slice y1.s.a y1.s.len y1.s.cap], .agg #[Value.bool u.n, Value.slice u.s.a u.s.len u.s.cap], .agg #[Value.bool vv.n, Value.slice vv.s.a vv.s.len vv.s.cap]]) (by simp [results, Try.results34, go_sem, r4_0, r4_1, r5_0, r5_1, r6_0, r6_1]) rfl ?_
          exact ⟨y1, u, vv, _, _, rfl, hy1, hu, hvv, V11.ext, fun h => absurd h hb0, fun _ => ⟨hUV.out.2.1, hUV.out.2.2.1, hUV.out.2.2.2⟩⟩
      · -- skip
        have hs1 : (sgnZ r1 == 0) = false := by rw [beq_eq_false_iff_ne]; unfold sgnZ; (repeat' split) <;> omega
        go_upto_region 7 with fail
        clear hs1
        obtain ⟨c11_0, c11_1, c11_2, c11_3⟩ := V6.facts 0 rfl
        obtain ⟨c12_0, c12_1, c12_2, c12_3⟩ := V6.facts 1 rfl
        go_wp2_with fail
        (with_reducible refine (div_any x0 x1 r0 r1 _ (hx0) (hx1) hnr).mono ?_)
        rintro e W7 ⟨q, r, rfl, hq, hr, hxx⟩
        replace hx := hx.keep hxx
        replace hy := hy.keep hxx
        replace hy1 := hy1.keep hxx
        replace hm := hm.keep hxx
        replace hx0 := hx0.keep hxx
        replace hx1 := hx1.keep hxx
        replace hz0 := hz0.keep hxx
        replace hz1 := hz1.keep hxx
        clear c11_0 c11_1 c11_2 c11_3 c12_0 c12_1 c12_2 c12_3
        have V7 := V6.keep hxx
        clear V6 hxx
        go_upto_region 8 with fail
        replace V7 := V7.add' (n := W7.heap.size) (vs := #[Value.bool q.n, Value.slice q.s.a q.s.len q.s.cap]) (T := 24) (by simp)
        replace hx := hx.keep ((Ext.rf _).al (Obj.cells #[Value.bool q.n, Value.slice q.s.a q.s.len q.s.cap] 24))
        replace hy := hy.keep ((Ext.rf _).al (Obj.cells #[Value.bool q.n, Value.slice q.s.a q.s.len q.s.cap] 24))
        replace hy1 := hy1.keep ((Ext.rf _).al (Obj.cells #[Value.bool q.n, Value.slice q.s.a q.s.len q.s.cap] 24))
        replace hm := hm.keep ((Ext.rf _).al (Obj.cells #[Value.bool q.n, Value.slice q.s.a q.s.len q.s.cap] 24))
        replace hx0 := hx0.keep ((Ext.rf _).al (Obj.cells #[Value.bool q.n, Value.slice q.s.a q.s.len q.s.cap] 24))
        replace hx1 := hx1.keep ((Ext.rf _).al (Obj.cells #[Value.bool q.n, Value.slice q.s.a q.s.len q.s.cap] 24))
        replace hz0 := hz0.keep ((Ext.rf _).al (Obj.cells #[Value.bool q.n, Value.slice q.s.a q.s.len q.s.cap] 24))
        replace hz1 := hz1.keep ((Ext.rf _).al (Obj.cells #[Value.bool q.n, Value.slice q.s.a q.s.len q.s.cap] 24))
        replace hq := hq.keep ((Ext.rf _).al (Obj.cells #[Value.bool q.n, Value.slice q.s.a q.s.len q.s.cap] 24))
        replace hr := hr.keep ((Ext.rf _).al (Obj.cells #[Value.bool q.n, Value.slice q.s.a q.s.len q.s.cap] 24))
        replace V7 := V7.add' (n := W7.heap.size + 1) (vs := #[Value.bool r.n, Value.slice r.s.a r.s.len r.s.cap]) (T := 24) (by simp)
        replace hx := hx.keep ((Ext.rf _).al (Obj.cells #[Value.bool r.n, Value.slice r.s.a r.s.len r.s.cap] 24))
        replace hy := hy.keep ((Ext.rf _).al (Obj.cells #[Value.bool r.n, Value.slice r.s.a r.s.len r.s.cap] 24))
        replace hy1 := hy1.keep ((Ext.rf _).al (Obj.cells #[Value.bool r.n, Value.slice r.s.a r.s.len r.s.cap] 24))
        replace hm := hm.keep ((Ext.rf _).al (Obj.cells #[Value.bool r.n, Value.slice r.s.a r.s.len r.s.cap] 24))
        replace hx0 := hx0.keep ((Ext.rf _).al (Obj.cells #[Value.bool r.n, Value.slice r.s.a r.s.len r.s.cap] 24))
        replace hx1 := hx1.keep ((Ext.rf _).al (Obj.cells #[Value.bool r.n, Value.slice r.s.a r.s.len r.s.cap] 24))
        replace hz0 := hz0.keep ((Ext.rf _).al (Obj.cells #[Value.bool r.n, Value.slice r.s.a r.s.len r.s.cap] 24))
        replace hz1 := hz1.keep ((Ext.rf _).al (Obj.cells #[Value.bool r.n, Value.slice r.s.a r.s.len r.s.cap] 24))
        replace hq := hq.keep ((Ext.rf _).al (Obj.cells #[Value.bool r.n, Value.slice r.s.a r.s.len r.s.cap] 24))
        replace hr := hr.keep ((Ext.rf _).al (Obj.cells #[Value.bool r.n, Value.slice r.s.a r.s.len r.s.cap] 24))
        replace V7 := V7.add' (n := W7.heap.size + 1 + 1) (vs := #[Value.int .i64 0, Value.int .i64 0]) (T := 26) (by simp)
        replace hx := hx.keep ((Ext.rf _).al (Obj.cells #[Value.int .i64 0, Value.int .i64 0] 26))
        replace hy := hy.keep ((Ext.rf _).al (Obj.cells #[Value.int .i64 0, Value.int .i64 0] 26))
        replace hy1 := hy1.keep ((Ext.rf _).al (Obj.cells #[Value.int .i64 0, Value.int .i64 0] 26))
        replace hm := hm.keep ((Ext.rf _).al (Obj.cells #[Value.int .i64 0, Value.int .i64 0] 26))
        replace hx0 := hx0.keep ((Ext.rf _).al (Obj.cells #[Value.int .i64 0, Value.int .i64 0] 26))
        replace hx1 := hx1.keep ((Ext.rf _).al (Obj.cells #[Value.int .i64 0, Value.int .i64 0] 26))
        replace hz0 := hz0.keep ((Ext.rf _).al (Obj.cells #[Value.int .i64 0, Value.int .i64 0] 26))
        replace hz1 := hz1.keep ((Ext.rf _).al (Obj.cells #[Value.int .i64 0, Value.int .i64 0] 26))
        replace hq := hq.keep ((Ext.rf _).al (Obj.cells #[Value.int .i64 0, Value.int .i64 0] 26))
        replace hr := hr.keep ((Ext.rf _).al (Obj.cells #[Value.int .i64 0, Value.int .i64 0] 26))
        generalize (((W7.alloc (Obj.cells #[Value.bool q.n, Value.slice q.s.a q.s.len q.s.cap] 24)).alloc (Obj.cells #[Value.bool r.n, Value.slice r.s.a r.s.len r.s.cap] 24)).alloc (Obj.cells #[Value.int .i64 0, Value.int .i64 0] 26)) = W8 at *
        have V8 := V7
        clear V7
        (try go_upto_region 8 with fail)
        obtain ⟨c12_0, c12_1, c12_2, c12_3⟩ := V8.facts 4 rfl
        obtain ⟨c16_0, c16_1, c16_2, c16_3⟩ := V8.facts 1 rfl
        have HS := hd_ (show ∀ W', Ext W8 W' → Cs W' [(W7.heap.size + 1, 0, Value.bool r.n), (W7.heap.size + 1, 1, Value.slice r.s.a r.s.len r.s.cap)] from fun W' hW => by simp only [cs_cons, cs_nil]; exact ⟨cell_later hW c16_0, cell_later hW c16_1, trivial⟩)
        have HA := hd_ (show ∀ W', Ext W8 W' → Cs W' [(n5_12, 0, Value.bool x1.n), (n5_12, 1, Value.slice x1.s.a x1.s.len x1.s.cap)] from fun W' hW => by simp only [cs_cons, cs_nil]; exact ⟨cell_later hW c12_0, cell_later hW c12_1, trivial⟩)
        clear c12_0 c12_1 c12_2 c12_3 c16_0 c16_1 c16_2 c16_3
        refine wpG_begin (S := (fun w' => Cs w' [(W7.heap.size + 1, 0, Value.bool r.n), (W7.heap.size + 1, 1, Value.slice r.s.a r.s.len r.s.cap)])) (fun w' => Cs w' [(n5_12, 0, Value.bool x1.n), (n5_12, 1, Value.slice x1.s.a x1.s.len x1.s.cap)]) (fun _ => True) 3 99 (by kernel_rfl) (fun W3 hW3 => ?_) (fun W3 hW3 hHeld => ?_)
        · exact ⟨HS.out _ hW3, HA.out _ hW3, trivial⟩
        have hE := hW3
        refine wpG_takeA (i := 0) (oi := _) (v := ?_) rfl (by kernel_rfl) (by kernel_rfl) (by kernel_rfl) (by decide) (by decide) (by kernel_rfl) (by kernel_rfl) (fun _ _ _ h => h) (Or.inl ⟨by rfl, ?_⟩) hHeld ?_
        rotate_left
        · intro w hSw; (try dsimp only at hSw); (try simp only [cs_cons, cs_nil, and_true] at hSw); go_simp; (try with_reducible rfl)
        (try dsimp only [List.getElem_toArray, List.getElem_cons_zero, List.getElem_cons_succ]); (try simp only [Act.put, List.setIfInBounds_toArray, List.set_cons_zero, List.set_cons_succ])
        replace hHeld := hHeld.more 0
        refine wpG_take (i := 1) (oi := _) (v := ?_) rfl (by kernel_rfl) (by kernel_rfl) (by kernel_rfl) (by decide) (by decide) (fun _ _ _ h => h) (Or.inl ⟨by rfl, ?_⟩) hHeld ?_
        rotate_left
        · intro w hSw; (try dsimp only at hSw); (try simp only [cs_cons, cs_nil, and_true] at hSw); go_simp; (try with_reducible rfl)
        (try dsimp only [List.getElem_toArray, List.getElem_cons_zero, List.getElem_cons_succ]); (try simp only [Act.put, List.setIfInBounds_toArray, List.set_cons_zero, List.set_cons_succ])
        replace hHeld := hHeld.more 1
        refine wpG_step (i := 2) (o := _) (by kernel_rfl) rfl (fun K hK => ?_)
        obtain ⟨s11_0, s11_1, s11_2, s11_3⟩ := (V8.keep hE).facts 3 rfl
        obtain ⟨s12_0, s12_1, s12_2, s12_3⟩ := (V8.keep hE).facts 4 rfl
        have ne11_12 := V8.ne 3 4 rfl rfl (by decide)
        have ne12_11 := V8.ne 4 3 rfl rfl (by decide)
        go_simp
        refine hK.out _ _ ⟨(hHeld.s).st2 ⟨V8.ne 3 1 rfl rfl (by decide), V8.ne 3 1 rfl rfl (by decide), trivial⟩ _ _, fun _ => (hHeld.a (by kernel_rfl)).st2 ⟨V8.ne 3 4 rfl rfl (by decide), V8.ne 3 4 rfl rfl (by decide), trivial⟩ _ _, fun _ => trivial⟩ (fun hHeld' => ?_)
        clear hHeld
        have hHeld := hHeld'
        clear hHeld'
        clear hK K
        (try dsimp only [List.getElem_toArray, List.getElem_cons_zero, List.getElem_cons_succ]); (try simp only [Act.put, List.setIfInBounds_toArray, List.set_cons_zero, List.set_cons_succ])
        refine wpG_step (i := 3) (o := _) (by kernel_rfl) rfl (fun K hK => ?_)
        go_simp
        refine hK.out _ _ ⟨(hHeld.s).st2 ⟨V8.ne 4 1 rfl rfl (by decide), V8.ne 4 1 rfl rfl (by decide), trivial⟩ _ _, notF (by kernel_rfl), fun _ => trivial⟩ (fun hHeld' => ?_)
        clear hHeld
        have hHeld := hHeld'
        clear hHeld'
        clear hK K
        (try dsimp only [List.getElem_toArray, List.getElem_cons_zero, List.getElem_cons_succ]); (try simp only [Act.put, List.setIfInBounds_toArray, List.set_cons_zero, List.set_cons_succ])
        refine wpG_done (by kernel_rfl) ?_ _
        clear hHeld HS HA
        have V9 := V8.keep hE
        clear V8
        replace hx := hx.keep hE
        replace hy := hy.keep hE
        replace hy1 := hy1.keep hE
        replace hm := hm.keep hE
        replace hx0 := hx0.keep hE
        replace hx1 := hx1.keep hE
        replace hz0 := hz0.keep hE
        replace hz1 := hz1.keep hE
        replace hq := hq.keep hE
        replace hr := hr.keep hE
        have KI := V9.kept2 (U := 93) 3 rfl (by decide) (Value.bool x1.n) (Value.slice x1.s.a x1.s.len x1.s.cap)
        replace hx := hx.kept KI
        replace hy := hy.kept KI
        replace hy1 := hy1.kept KI
        replace hm := hm.kept KI
        replace hx0 := hx0.kept KI
        replace hx1 := hx1.kept KI
        replace hz0 := hz0.kept KI
        replace hz1 := hz1.kept KI
        replace hq := hq.kept KI
        replace hr := hr.kept KI
        clear KI
        replace V9 := V9.set2 3 rfl (Value.bool x1.n) (Value.slice x1.s.a x1.s.len x1.s.cap)
        dsimp only [List.set] at V9
        have KI := V9.kept2 (U := 93) 4 rfl (by decide) (Value.bool r.n) (Value.slice r.s.a r.s.len r.s.cap)
        replace hx := hx.kept KI
        replace hy := hy.kept KI
        replace hy1 := hy1.kept KI
        replace hm := hm.kept KI
        replace hx0 := hx0.kept KI
        replace hx1 := hx1.kept KI
        replace hz0 := hz0.kept KI
        replace hz1 := hz1.kept KI
        replace hq := hq.kept KI
        replace hr := hr.kept KI
        clear KI
        replace V9 := V9.set2 4 rfl (Value.bool r.n) (Value.slice r.s.a r.s.len r.s.cap)
        dsimp only [List.set] at V9
        clear s11_0 s11_1 s11_2 s11_3 s12_0 s12_1 s12_2 s12_3 ne11_12 ne12_11
        clear hE
        (try clear hxx)
        (try clear hW3)
        generalize ((((W3.setCell ⟨n5_11, 0, none⟩ (Value.bool x1.n)).setCell ⟨n5_11, 1, none⟩ (Value.slice x1.s.a x1.s.len x1.s.cap)).setCell ⟨n5_12, 0, none⟩ (Value.bool r.n)).setCell ⟨n5_12, 1, none⟩ (Value.slice r.s.a r.s.len r.s.cap)) = W9 at *
        clear hx0
        (try go_upto_region 9 with fail)
        obtain ⟨c14_0, c14_1, c14_2, c14_3⟩ := V9.facts 6 rfl
        obtain ⟨c13_0, c13_1, c13_2, c13_3⟩ := V9.facts 5 rfl
        obtain ⟨c15_0, c15_1, c15_2, c15_3⟩ := V9.facts 2 rfl
        have HS := hd_ (show ∀ W', Ext W9 W' → Cs W' [(W7.heap.size, 0, Value.bool q.n), (W7.heap.size, 1, Value.slice q.s.a q.s.len q.s.cap)] from fun W' hW => by simp only [cs_cons, cs_nil]; exact ⟨cell_later hW c15_0, cell_later hW c15_1, trivial⟩)
        have HA := hd_ (show ∀ W', Ext W9 W' → Cs W' [(n5_13, 0, Value.bool z0.n), (n5_13, 1, Value.slice z0.s.a z0.s.len z0.s.cap)] from fun W' hW => by simp only [cs_cons, cs_nil]; exact ⟨cell_later hW c13_0, cell_later hW c13_1, trivial⟩)
        have HB := hd_ (show ∀ W', Ext W9 W' → Cs W' [(n5_14, 0, Value.bool z1.n), (n5_14, 1, Value.slice z1.s.a z1.s.len z1.s.cap)] from fun W' hW => by simp only [cs_cons, cs_nil]; exact ⟨cell_later hW c14_0, cell_later hW c14_1, trivial⟩)
        clear c14_0 c14_1 c14_2 c14_3 c13_0 c13_1 c13_2 c13_3 c15_0 c15_1 c15_2 c15_3
        refine wpG_begin (S := (fun w' => Cs w' [(W7.heap.size, 0, Value.bool q.n), (W7.heap.size, 1, Value.slice q.s.a q.s.len q.s.cap)])) (fun w' => Cs w' [(n5_13, 0, Value.bool z0.n), (n5_13, 1, Value.slice z0.s.a z0.s.len z0.s.cap)]) (fun w' => Cs w' [(n5_14, 0, Value.bool z1.n), (n5_14, 1, Value.slice z1.s.a z1.s.len z1.s.cap)]) 6 7 (by kernel_rfl) (fun W3 hW3 => ?_) (fun W3 hW3 hHeld => ?_)
        · exact ⟨HS.out _ hW3, HA.out _ hW3, HB.out _ hW3⟩
        have hE := hW3
        refine wpG_takeB (i := 0) (oi := _) (v := ?_) rfl (by kernel_rfl) (by kernel_rfl) (by kernel_rfl) (by decide) (by decide) (by kernel_rfl) (by kernel_rfl) (fun _ _ _ h => h) (Or.inl ⟨by rfl, ?_⟩) hHeld ?_
        rotate_left
        · intro w hSw; (try dsimp only at hSw); (try simp only [cs_cons, cs_nil, and_true] at hSw); go_simp; (try with_reducible rfl)
        (try dsimp only [List.getElem_toArray, List.getElem_cons_zero, List.getElem_cons_succ]); (try simp only [Act.put, List.setIfInBounds_toArray, List.set_cons_zero, List.set_cons_succ])
        replace hHeld := hHeld.more 0
        refine wpG_takeA (i := 1) (oi := _) (v := ?_) rfl (by kernel_rfl) (by kernel_rfl) (by kernel_rfl) (by decide) (by decide) (by kernel_rfl) (by kernel_rfl) (fun _ _ _ h => h) (Or.inl ⟨by rfl, ?_⟩) hHeld ?_
        rotate_left
        · intro w hSw; (try dsimp only at hSw); (try simp only [cs_cons, cs_nil, and_true] at hSw); go_simp; (try with_reducible rfl)
        (try dsimp only [List.getElem_toArray, List.getElem_cons_zero, List.getElem_cons_succ]); (try simp only [Act.put, List.setIfInBounds_toArray, List.set_cons_zero, List.set_cons_succ])
        replace hHeld := hHeld.more 1
        refine wpG_take (i := 2) (oi := _) (v := ?_) rfl (by kernel_rfl) (by kernel_rfl) (by kernel_rfl) (by decide) (by decide) (fun _ _ _ h => h) (Or.inl ⟨by rfl, ?_⟩) hHeld ?_
        rotate_left
        · intro w hSw; (try dsimp only at hSw); (try simp only [cs_cons, cs_nil, and_true] at hSw); go_simp; (try with_reducible rfl)
        (try dsimp only [List.getElem_toArray, List.getElem_cons_zero, List.getElem_cons_succ]); (try simp only [Act.put, List.setIfInBounds_toArray, List.set_cons_zero, List.set_cons_succ])
        replace hHeld := hHeld.more 2
        refine wpG_takeB (i := 3) (oi := _) (v := ?_) rfl (by kernel_rfl) (by kernel_rfl) (by kernel_rfl) (by decide) (by decide) (by kernel_rfl) (by kernel_rfl) (fun _ _ _ h => h) (Or.inl ⟨by rfl, ?_⟩) hHeld ?_
        rotate_left
        · intro w hSw; (try dsimp only at hSw); (try simp only [cs_cons, cs_nil, and_true] at hSw); go_simp; (try with_reducible rfl)
        (try dsimp only [List.getElem_toArray, List.getElem_cons_zero, List.getElem_cons_succ]); (try simp only [Act.put, List.setIfInBounds_toArray, List.set_cons_zero, List.set_cons_succ])
        replace hHeld := hHeld.more 3
        refine wpG_step (i := 4) (o := _) (by kernel_rfl) rfl (fun K hK => ?_)
        go_simp
        (go_at_call 26; ((with_reducible refine (mul_any q z1 (r0 / r1) u1 _ (hq.keep hE) (hz1.keep hE) (((bt_ediv r1 br0).mul bu1).sm (by omega))).mono ?_); rintro e w' ⟨p, rfl, hp, hxx⟩))
        replace hE := hE.tr hxx
        (try go_wp2_with fail)
        refine hK.out _ _ ⟨HS.out _ hE, fun _ => HA.out _ hE, fun _ => HB.out _ hE⟩ (fun hHeld' => ?_)
        clear hHeld
        have hHeld := hHeld'
        clear hHeld'
        clear hK K
        (try dsimp only [List.getElem_toArray, List.getElem_cons_zero, List.getElem_cons_succ]); (try simp only [Act.put, List.setIfInBounds_toArray, List.set_cons_zero, List.set_cons_succ])
        refine wpG_step (i := 5) (o := _) (by kernel_rfl) rfl (fun K hK => ?_)
        go_simp
        (go_at_call 24; ((with_reducible refine (sub_any z0 p u0 ((r0 / r1) * u1) _ (hz0.keep hE) hp (((bu0.mono (show (n + 2) ≤ (n + (n + 2)) by omega)).sub ((bt_ediv r1 br0).mul bu1)).sm (by omega))).mono ?_); rintro e w' ⟨u2, rfl, hu2, hxx⟩))
        replace hp := hp.keep hxx
        replace hE := hE.tr hxx
        obtain ⟨s13_0, s13_1, s13_2, s13_3⟩ := (V9.keep hE).facts 5 rfl
        obtain ⟨s14_0, s14_1, s14_2, s14_3⟩ := (V9.keep hE).facts 6 rfl
        (try go_wp2_with fail)
        refine hK.out _ _ ⟨HS.out _ hE, fun _ => HA.out _ hE, fun _ => HB.out _ hE⟩ (fun hHeld' => ?_)
        clear hHeld
        have hHeld := hHeld'
        clear hHeld'
        clear hK K
        (try dsimp only [List.getElem_toArray, List.getElem_cons_zero, List.getElem_cons_succ]); (try simp only [Act.put, List.setIfInBounds_toArray, List.set_cons_zero, List.set_cons_succ])
        refine wpG_step (i := 6) (o := _) (by kernel_rfl) rfl (fun K hK => ?_)
        have ne13_14 := V9.ne 5 6 rfl rfl (by decide)
        have ne14_13 := V9.ne 6 5 rfl rfl (by decide)
        go_simp
        refine hK.out _ _ ⟨(hHeld.s).st2 ⟨V9.ne 5 2 rfl rfl (by decide), V9.ne 5 2 rfl rfl (by decide), trivial⟩ _ _, notF (by kernel_rfl), fun _ => (hHeld.b (by kernel_rfl)).st2 ⟨V9.ne 5 6 rfl rfl (by decide), V9.ne 5 6 rfl rfl (by decide), trivial⟩ _ _⟩ (fun hHeld' => ?_)
        clear hHeld
        have hHeld := hHeld'
        clear hHeld'
        clear hK K
        (try dsimp only [List.getElem_toArray, List.getElem_cons_zero, List.getElem_cons_succ]); (try simp only [Act.put, List.setIfInBounds_toArray, List.set_cons_zero, List.set_cons_succ])
        refine wpG_step (i := 7) (o := _) (by kernel_rfl) rfl (fun K hK => ?_)
        go_simp
        refine hK.out _ _ ⟨(hHeld.s).st2 ⟨V9.ne 6 2 rfl rfl (by decide), V9.ne 6 2 rfl rfl (by decide), trivial⟩ _ _, notF (by kernel_rfl), notF (by kernel_rfl)⟩ (fun hHeld' => ?_)
        clear hHeld
        have hHeld := hHeld'
        clear hHeld'
        clear hK K
        (try dsimp only [List.getElem_toArray, List.getElem_cons_zero, List.getElem_cons_succ]); (try simp only [Act.put, List.setIfInBounds_toArray, List.set_cons_zero, List.set_cons_succ])
        refine wpG_done (by kernel_rfl) ?_ _
        clear hHeld HS HA HB
        have V10 := V9.keep hE
        clear V9
        replace hx := hx.keep hE
        replace hy := hy.keep hE
        replace hy1 := hy1.keep hE
        replace hm := hm.keep hE
        replace hx1 := hx1.keep hE
        replace hz0 := hz0.keep hE
        replace hz1 := hz1.keep hE
        replace hq := hq.keep hE
        replace hr := hr.keep hE
        have KI := V10.kept2 (U := 93) 5 rfl (by decide) (Value.bool z1.n) (Value.slice z1.s.a z1.s.len z1.s.cap)
        replace hx := hx.kept KI
        replace hy := hy.kept KI
        replace hy1 := hy1.kept KI
        replace hm := hm.kept KI
        replace hx1 := hx1.kept KI
        replace hz0 := hz0.kept KI
        replace hz1 := hz1.kept KI
        replace hq := hq.kept KI
        replace hr := hr.kept KI
        replace hp := hp.kept KI
        replace hu2 := hu2.kept KI
        clear KI
        replace V10 := V10.set2 5 rfl (Value.bool z1.n) (Value.slice z1.s.a z1.s.len z1.s.cap)
        dsimp only [List.set] at V10
        have KI := V10.kept2 (U := 93) 6 rfl (by decide) (Value.bool u2.n) (Value.slice u2.s.a u2.s.len u2.s.cap)
        replace hx := hx.kept KI
        replace hy := hy.kept KI
        replace hy1 := hy1.kept KI
        replace hm := hm.kept KI
        replace hx1 := hx1.kept KI
        replace hz0 := hz0.kept KI
        replace hz1 := hz1.kept KI
        replace hq := hq.kept KI
        replace hr := hr.kept KI
        replace hp := hp.kept KI
        replace hu2 := hu2.kept KI
        clear KI
        replace V10 := V10.set2 6 rfl (Value.bool u2.n) (Value.slice u2.s.a u2.s.len u2.s.cap)
        dsimp only [List.set] at V10
        clear s13_0 s13_1 s13_2 s13_3 s14_0 s14_1 s14_2 s14_3 ne13_14 ne14_13
        clear hE
        (try clear hxx)
        (try clear hW3)
        generalize ((((w'.setCell ⟨n5_13, 0, none⟩ (Value.bool z1.n)).setCell ⟨n5_13, 1, none⟩ (Value.slice z1.s.a z1.s.len z1.s.cap)).setCell ⟨n5_14, 0, none⟩ (Value.bool u2.n)).setCell ⟨n5_14, 1, none⟩ (Value.slice u2.s.a u2.s.len u2.s.cap)) = W10 at *
        clear hz0
        clear hp
        have hI2 := hd_ (bez_step hb0 hI.out hnr)
        go_wp2
        go_roundg ((r0 % r1).natAbs)
        case rel => exact ⟨x1, r, z1, u2, r1, r0 % r1, u1, u0 - r0 / r1 * u1, V10.tl.tl.tl, hx1, hr, hz1, hu2, hx, hy, hy1, hm, hI2.out, br1, bt_emod hnr br1, rfl⟩
        case measure =>
          have h1 := Int.emod_nonneg r0 hnr
          have h2 := Int.emod_lt r0 hnr
          omega

end Go.Proofs.Ytbbidekjbgjooaa
