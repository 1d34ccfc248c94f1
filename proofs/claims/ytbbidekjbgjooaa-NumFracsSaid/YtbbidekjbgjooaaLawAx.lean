/- NumReckons: the walk. -/
import Derived.Test.YtbbidekjbgjooaaZMx
import Derived.Test.YtbbidekjbgjooaaK6
import Derived.Test.YtbbidekjbgjooaaZTx
namespace Go.Proofs.Ytbbidekjbgjooaa
open Go.RowKit

theorem rdec_70001 : rdec 70001 = [49, 48, 48, 48, 55] := by
  rw [rdec_pos (by omega), rdec_pos (by omega), rdec_pos (by omega), rdec_pos (by omega), rdec_pos (by omega)]
  simp only [Nat.reduceDiv, Nat.reduceMod]
  rw [rdec_zero]
  rfl
theorem dec_70001 : dec (-70001) = [45, 55, 48, 48, 48, 49] := by
  unfold dec decN
  rw [if_pos (by omega), if_neg (by omega), show (-70001 : Int).natAbs = 70001 from rfl, rdec_70001]
  rfl

set_option maxHeartbeats 400000 in
theorem begun_any (w : World) : Calls Try.prog 11 #[] w (fun e w' => e = .returned (.bool true) ∧ Ext w w') := by
  have hd := dec_70001
  go_enter Try.func11, Try.ntmps11
  go_wp2_with (first
    | (go_at_call 16; ((with_reducible refine (of_any _ _ (by omega)).mono ?_); rintro e w1 ⟨x, rfl, hx, h1⟩))
    | (go_at_call 14; ((with_reducible refine (text_any x _ _ hx).mono ?_); rintro e w2 ⟨rfl, h2⟩)))
  go_ret
  exact ⟨rfl, h1.tr h2⟩

set_option maxRecDepth 100000 in
set_option maxHeartbeats 4000000 in
theorem reckons_any (t u : List UInt8) (w : World) (ht : t.length ≤ 9223372036854775807) (hu : u.length ≤ 9223372036854775807) :
    Calls Try.prog 4 #[.string (bs t), .string (bs u)] w (fun e w' => e = .returned (.bool true) ∧ Ext w w') := by
  have hA := parseZ_bt t
  have hB := parseZ_bt u
  have sA := hd_ ((hA.add hB).sm (by omega))
  have sS := hd_ ((hA.sub hB).sm (by omega))
  have sS' := hd_ ((hB.sub hA).sm (by omega))
  have sM := hd_ ((hA.mul hB).sm (by omega))
  clear hA hB
  go_enter Try.func4, Try.ntmps4
  go_wp2_with fail
  refine (parse_any t _ ht).mono ?_
  rintro e w1 ⟨x, rfl, hx, h1⟩
  go_wp2_with fail
  refine (parse_any u _ hu).mono ?_
  rintro e w2 ⟨y, rfl, hy, h2⟩
  have z2 := h2.size
  simp only [World.size_alloc] at z2
  go_wp2_with fail
  refine (Z4.parse_any t _ ht).mono ?_
  rintro e w3 ⟨p, rfl, hp, h3⟩
  have z3 := h3.size
  simp only [World.size_alloc] at z3
  go_wp2_with fail
  refine (Z4.parse_any u _ hu).mono ?_
  rintro e w4 ⟨q, rfl, hq, h4⟩
  have z4 := h4.size
  simp only [World.size_alloc] at z4
  go_wp2_with fail
  refine (begun_any _).mono ?_
  rintro e w5 ⟨rfl, h5⟩
  have z5 := h5.size
  simp only [World.size_alloc] at z5
  have g4 := (((Ext.rf w4).al _).al _).tr h5
  have g3 := ((((Ext.rf w3).al _).al _).tr h4).tr g4
  have g2 := ((((Ext.rf w2).al _).al _).tr h3).tr g3
  have g1 := ((((Ext.rf w1).al _).al _).tr h2).tr g2
  have k1 : w5.cell? ⟨w1.heap.size, 0, none⟩ = some (Value.bool x.n) := cell_later (h2.tr g2) (by simp [go_sem])
  have k2 : w5.cell? ⟨w1.heap.size, 1, none⟩ = some (Value.slice x.s.a x.s.len x.s.cap) := cell_later (h2.tr g2) (by simp [go_sem])
  have k3 : w5.cell? ⟨w1.heap.size + 1, 0, none⟩ = some (Value.int .i64 (parseC t)) := cell_later (h2.tr g2) (by simp [go_sem])
  have k4 : w5.cell? ⟨w1.heap.size + 1, 1, none⟩ = some (Value.int .i64 (parseP t)) := cell_later (h2.tr g2) (by simp [go_sem])
  have k5 : w5.cell? ⟨w2.heap.size, 0, none⟩ = some (Value.bool y.n) := cell_later (h3.tr g3) (by simp [go_sem])
  have k6 : w5.cell? ⟨w2.heap.size, 1, none⟩ = some (Value.slice y.s.a y.s.len y.s.cap) := cell_later (h3.tr g3) (by simp [go_sem])
  have k7 : w5.cell? ⟨w2.heap.size + 1, 0, none⟩ = some (Value.int .i64 (parseC u)) := cell_later (h3.tr g3) (by simp [go_sem])
  have k8 : w5.cell? ⟨w2.heap.size + 1, 1, none⟩ = some (Value.int .i64 (parseP u)) := cell_later (h3.tr g3) (by simp [go_sem])
  have l1 : w5.cell? ⟨w3.heap.size, 0, none⟩ = some (Value.bool p.n) := cell_later (h4.tr g4) (by simp [go_sem])
  have l2 : w5.cell? ⟨w3.heap.size, 1, none⟩ = some (Value.slice p.s.a p.s.len p.s.cap) := cell_later (h4.tr g4) (by simp [go_sem])
  have l3 : w5.cell? ⟨w3.heap.size + 1, 0, none⟩ = some (Value.int .i64 (parseC t)) := cell_later (h4.tr g4) (by simp [go_sem])
  have l4 : w5.cell? ⟨w3.heap.size + 1, 1, none⟩ = some (Value.int .i64 (parseP t)) := cell_later (h4.tr g4) (by simp [go_sem])
  have l5 : w5.cell? ⟨w4.heap.size, 0, none⟩ = some (Value.bool q.n) := cell_later h5 (by simp [go_sem])
  have l6 : w5.cell? ⟨w4.heap.size, 1, none⟩ = some (Value.slice q.s.a q.s.len q.s.cap) := cell_later h5 (by simp [go_sem])
  have l7 : w5.cell? ⟨w4.heap.size + 1, 0, none⟩ = some (Value.int .i64 (parseC u)) := cell_later h5 (by simp [go_sem])
  have l8 : w5.cell? ⟨w4.heap.size + 1, 1, none⟩ = some (Value.int .i64 (parseP u)) := cell_later h5 (by simp [go_sem])
  have HX := hd_ (hx.keep g1)
  have HY := hd_ (hy.keep g2)
  have HP := hd_ (hp.keep g3)
  have HQ := hd_ (hq.keep g4)
  have G := hd_ (h1.tr g1)
  have b1 : w1.heap.size < w5.heap.size := by omega
  have b2 : w2.heap.size < w5.heap.size := by omega
  have b3 : w3.heap.size < w5.heap.size := by omega
  have b4 : w4.heap.size < w5.heap.size := by omega
  clear hx hy hp hq h1 h2 h3 h4 h5 g1 g2 g3 g4 z2 z3 z4 z5
  go_wp2
  go_region_held3 (fun w' => Ext w5 w' ∧ (∀ b o, b < w5.heap.size → w'.cell? ⟨b, o, none⟩ = w5.cell? ⟨b, o, none⟩)) (first | assumption | exact held_of (Ext.rf _).dr | exact held_of (Ext.tr (held_ext (by assumption)) hx)) (first | (go_at_call 22; ((with_reducible refine (add_any x y _ _ _ (HX.out.keep (held_ext (by assumption))) (HY.out.keep (held_ext (by assumption))) sA.out).mono ?_); rintro e w' ⟨y1, rfl, hy1, hx⟩)) | (go_at_call 14; ((with_reducible refine (text_any y1 _ _ hy1).mono ?_); rintro e w' ⟨rfl, hx⟩)) | (go_at_call 23; ((with_reducible refine (Z4.add_any p q _ _ _ (HP.out.keep (held_ext (by assumption))) (HQ.out.keep (held_ext (by assumption))) sA.out).mono ?_); rintro e w' ⟨y1, rfl, hy1, hx⟩)) | (go_at_call 15; ((with_reducible refine (Z4.text_any y1 _ _ hy1).mono ?_); rintro e w' ⟨rfl, hx⟩)) | (go_at_call 24; ((with_reducible refine (sub_any x y _ _ _ (HX.out.keep (held_ext (by assumption))) (HY.out.keep (held_ext (by assumption))) sS.out).mono ?_); rintro e w' ⟨y1, rfl, hy1, hx⟩)) | (go_at_call 25; ((with_reducible refine (Z4.sub_any p q _ _ _ (HP.out.keep (held_ext (by assumption))) (HQ.out.keep (held_ext (by assumption))) sS.out).mono ?_); rintro e w' ⟨y1, rfl, hy1, hx⟩)) | (go_at_call 26; ((with_reducible refine (mul_any x y _ _ _ (HX.out.keep (held_ext (by assumption))) (HY.out.keep (held_ext (by assumption))) sM.out).mono ?_); rintro e w' ⟨y1, rfl, hy1, hx⟩)) | (go_at_call 27; ((with_reducible refine (Z4.mul_any p q _ _ _ (HP.out.keep (held_ext (by assumption))) (HQ.out.keep (held_ext (by assumption))) sM.out).mono ?_); rintro e w' ⟨y1, rfl, hy1, hx⟩)))
  go_wp2
  go_region_held3 (fun w' => Ext w5 w' ∧ (∀ b o, b < w5.heap.size → w'.cell? ⟨b, o, none⟩ = w5.cell? ⟨b, o, none⟩)) (first | assumption | exact held_of (held_ext (by assumption)).dr | exact held_of (Ext.tr (held_ext (by assumption)) hx)) (first
    | (go_at_call 28; ((with_reducible refine (cmp_any x y _ _ _ (HX.out.keep (held_ext (by assumption))) (HY.out.keep (held_ext (by assumption)))).mono ?_); rintro e w' ⟨rfl, hx⟩))
    | (go_at_call 28; ((with_reducible refine (cmp_any y x _ _ _ (HY.out.keep (held_ext (by assumption))) (HX.out.keep (held_ext (by assumption)))).mono ?_); rintro e w' ⟨rfl, hx⟩))
    | (go_at_call 29; ((with_reducible refine (Z4.cmp_any p q _ _ _ (HP.out.keep (held_ext (by assumption))) (HQ.out.keep (held_ext (by assumption))) sS.out).mono ?_); rintro e w' ⟨rfl, hx⟩))
    | (go_at_call 29; ((with_reducible refine (Z4.cmp_any q p _ _ _ (HQ.out.keep (held_ext (by assumption))) (HP.out.keep (held_ext (by assumption))) sS'.out).mono ?_); rintro e w' ⟨rfl, hx⟩)))
  go_wp2
  go_ret
  exact ⟨ret_b (by simp), G.out.tr (held_ext (by assumption))⟩

end Go.Proofs.Ytbbidekjbgjooaa
