/- NumReads: the walk. -/
import Derived.Test.YtbbidekjbgjooaaLawAx
import Derived.Test.YtbbidekjbgjooaaZGx
namespace Go.Proofs.Ytbbidekjbgjooaa
open Go.RowKit

theorem parse_dec {t : List UInt8} (h : parseC t = 0) : dec (parseZ t) = t := by
  unfold parseC at h
  split at h
  · rename_i hok
    split at h
    · rename_i hl
      unfold parseZ
      rw [if_pos hok, if_pos hl]
      exact dec_numVal hok
    · omega
  · omega

set_option maxRecDepth 100000 in
set_option maxHeartbeats 4000000 in
theorem reads_any (t : List UInt8) (n : Int) (w : World) (ht : t.length ≤ 9223372036854775807) (hn : -9223372036854775808 ≤ n ∧ n ≤ 9223372036854775807) :
    Calls Try.prog 3 #[.string (bs t), .int .i64 n] w (fun e w' => e = .returned (.bool true) ∧ Ext w w') := by
  have hA := parseZ_bt t
  have hB : Hd (Bt (parseZ t) 17179869183) := hd_ (hA.mono (by omega))
  replace hn := hd_ hn
  clear hA
  go_enter Try.func3, Try.ntmps3
  go_wp2_with fail
  refine (parse_any t _ ht).mono ?_
  rintro e w1 ⟨x, rfl, hx, h1⟩
  go_wp2_with fail
  refine (Z4.parse_any t _ ht).mono ?_
  rintro e w2 ⟨p, rfl, hp, h2⟩
  have z2 := h2.size
  simp only [World.size_alloc] at z2
  go_wp2_with fail
  refine (begun_any _).mono ?_
  rintro e w3 ⟨rfl, h3⟩
  have z3 := h3.size
  simp only [World.size_alloc] at z3
  have g2 := (((Ext.rf w2).al _).al _).tr h3
  have g1 := ((((Ext.rf w1).al _).al _).tr h2).tr g2
  have k1 : w3.cell? ⟨w1.heap.size, 0, none⟩ = some (Value.bool x.n) := cell_later (h2.tr g2) (by simp [go_sem])
  have k2 : w3.cell? ⟨w1.heap.size, 1, none⟩ = some (Value.slice x.s.a x.s.len x.s.cap) := cell_later (h2.tr g2) (by simp [go_sem])
  have k3 : w3.cell? ⟨w1.heap.size + 1, 0, none⟩ = some (Value.int .i64 (parseC t)) := cell_later (h2.tr g2) (by simp [go_sem])
  have k4 : w3.cell? ⟨w1.heap.size + 1, 1, none⟩ = some (Value.int .i64 (parseP t)) := cell_later (h2.tr g2) (by simp [go_sem])
  have l1 : w3.cell? ⟨w2.heap.size, 0, none⟩ = some (Value.bool p.n) := cell_later h3 (by simp [go_sem])
  have l2 : w3.cell? ⟨w2.heap.size, 1, none⟩ = some (Value.slice p.s.a p.s.len p.s.cap) := cell_later h3 (by simp [go_sem])
  have l3 : w3.cell? ⟨w2.heap.size + 1, 0, none⟩ = some (Value.int .i64 (parseC t)) := cell_later h3 (by simp [go_sem])
  have l4 : w3.cell? ⟨w2.heap.size + 1, 1, none⟩ = some (Value.int .i64 (parseP t)) := cell_later h3 (by simp [go_sem])
  have HX := hd_ (hx.keep g1)
  have HP := hd_ (hp.keep g2)
  have G := hd_ (h1.tr g1)
  have b1 : w1.heap.size + 1 < w3.heap.size := by omega
  have b2 : w2.heap.size + 1 < w3.heap.size := by omega
  have b3 : w2.heap.size < w3.heap.size := by omega
  clear hx hp h1 h2 h3 g1 g2 z2 z3
  go_wp2_with fail
  refine (small_any x (parseZ t) _ HX.out).mono ?_
  rintro e w4 ⟨rfl, h4⟩
  obtain ⟨hc4, hf4⟩ := bcell h4
  go_wp2_with fail
  refine (Z4.small_any p (parseZ t) _ (HP.out.keep h4) hB.out).mono ?_
  rintro e w5 ⟨rfl, h5⟩
  have h35 := h4.tr h5
  clear hc4 hf4
  have k1 : w5.cell? ⟨w1.heap.size, 0, none⟩ = some (Value.bool x.n) := cell_later h35 k1
  have k2 : w5.cell? ⟨w1.heap.size, 1, none⟩ = some (Value.slice x.s.a x.s.len x.s.cap) := cell_later h35 k2
  have k3 : w5.cell? ⟨w1.heap.size + 1, 0, none⟩ = some (Value.int .i64 (parseC t)) := cell_later h35 k3
  have k4 : w5.cell? ⟨w1.heap.size + 1, 1, none⟩ = some (Value.int .i64 (parseP t)) := cell_later h35 k4
  have l1 : w5.cell? ⟨w2.heap.size, 0, none⟩ = some (Value.bool p.n) := cell_later h35 l1
  have l2 : w5.cell? ⟨w2.heap.size, 1, none⟩ = some (Value.slice p.s.a p.s.len p.s.cap) := cell_later h35 l2
  have l3 : w5.cell? ⟨w2.heap.size + 1, 0, none⟩ = some (Value.int .i64 (parseC t)) := cell_later h35 l3
  have l4 : w5.cell? ⟨w2.heap.size + 1, 1, none⟩ = some (Value.int .i64 (parseP t)) := cell_later h35 l4
  have z35 := h35.size
  have b1 : w1.heap.size + 1 < w5.heap.size := by omega
  have b2 : w2.heap.size + 1 < w5.heap.size := by omega
  have b4 : w1.heap.size < w5.heap.size := by omega
  have b5 : w2.heap.size < w5.heap.size := by omega
  replace HX := hd_ (HX.out.keep h35)
  replace HP := hd_ (HP.out.keep h35)
  replace G := hd_ (G.out.tr h35)
  clear h4 h5 h35 z35
  by_cases hc : parseC t = 0
  · have hd := parse_dec hc
    have hcb : (parseC t == 0) = true := by simpa using hc
    replace hc := hd_ hc
    go_wp2
    go_region_held3 (fun w' => Ext w5 w' ∧ (∀ b o, b < w5.heap.size → w'.cell? ⟨b, o, none⟩ = w5.cell? ⟨b, o, none⟩)) (first | assumption | exact held_of (Ext.rf _).dr | exact held_of (Ext.tr (held_ext (by assumption)) hx)) (first | (go_at_call 14; ((with_reducible refine (text_any x _ _ (HX.out.keep (held_ext (by assumption)))).mono ?_); rintro e w' ⟨rfl, hx⟩)) | (go_at_call 15; ((with_reducible refine (Z4.text_any p _ _ (HP.out.keep (held_ext (by assumption)))).mono ?_); rintro e w' ⟨rfl, hx⟩)) | (go_at_call 16; ((with_reducible refine (of_any n _ hn.out).mono ?_); rintro e w' ⟨y1, rfl, hy1, hx⟩)) | (go_at_call 17; ((with_reducible refine (Z4.of_any n _ hn.out).mono ?_); rintro e w' ⟨y1, rfl, hy1, hx⟩)) | (go_at_call 14; ((with_reducible refine (text_any y1 _ _ hy1).mono ?_); rintro e w' ⟨rfl, hx⟩)) | (go_at_call 15; ((with_reducible refine (Z4.text_any y1 _ _ hy1).mono ?_); rintro e w' ⟨rfl, hx⟩)))
    go_wp2
    go_region_held3 (fun w' => Ext w5 w' ∧ (∀ b o, b < w5.heap.size → w'.cell? ⟨b, o, none⟩ = w5.cell? ⟨b, o, none⟩)) (first | assumption | exact held_of (held_ext (by assumption)).dr | exact held_of (Ext.tr (held_ext (by assumption)) hx)) (first | (go_at_call 18; ((with_reducible refine (sign_any x _ _ (HX.out.keep (held_ext (by assumption)))).mono ?_); rintro e w' ⟨rfl, hx⟩)) | (go_at_call 19; ((with_reducible refine (Z4.Sign_any p _ _ (HP.out.keep (held_ext (by assumption)))).mono ?_); rintro e w' ⟨rfl, hx⟩)) | (go_at_call 20; ((with_reducible refine (neg_any x _ _ (HX.out.keep (held_ext (by assumption)))).mono ?_); rintro e w' ⟨y1, rfl, hy1, hx⟩)) | (go_at_call 21; ((with_reducible refine (Z4.neg_any p _ _ (HP.out.keep (held_ext (by assumption)))).mono ?_); rintro e w' ⟨y1, rfl, hy1, hx⟩)) | (go_at_call 14; ((with_reducible refine (text_any y1 _ _ hy1).mono ?_); rintro e w' ⟨rfl, hx⟩)) | (go_at_call 15; ((with_reducible refine (Z4.text_any y1 _ _ hy1).mono ?_); rintro e w' ⟨rfl, hx⟩)))
    go_wp2
    go_ret
    exact ⟨ret_b (by simp), G.out.tr (held_ext (by assumption))⟩
  · have hcb : (parseC t == 0) = false := by simpa using hc
    replace hc := hd_ hc
    go_wp2
    refine wp_region_held_drew (S := (fun w' => Ext w5 w' ∧ (∀ b o, b < w5.heap.size → w'.cell? ⟨b, o, none⟩ = w5.cell? ⟨b, o, none⟩))) (by kernel_rfl) ?_ (fun hHeld => ?_)
    · (try dsimp only)
      (first | assumption | exact held_of (Ext.rf _).dr | exact held_of (Ext.tr (held_ext (by assumption)) hx))
    refine wpAnyH_take (i := 0) (oi := _) (v := ?_) rfl (by kernel_rfl) (by kernel_rfl) (by kernel_rfl) (fun _ _ _ h => h) (Or.inl ⟨by rfl, ?_⟩) (by assumption) ?_
    rotate_left
    · intro w hSw; (try dsimp only at hSw); go_simp; (try with_reducible rfl)
    (try dsimp only [List.getElem_toArray, List.getElem_cons_zero, List.getElem_cons_succ]); (try simp only [Act.put, List.setIfInBounds_toArray, List.set_cons_zero, List.set_cons_succ])
    refine wpAnyH_take (i := 1) (oi := _) (v := ?_) rfl (by kernel_rfl) (by kernel_rfl) (by kernel_rfl) (fun _ _ _ h => h) (Or.inl ⟨by rfl, ?_⟩) (by assumption) ?_
    rotate_left
    · intro w hSw; (try dsimp only at hSw); go_simp; (try with_reducible rfl)
    (try dsimp only [List.getElem_toArray, List.getElem_cons_zero, List.getElem_cons_succ]); (try simp only [Act.put, List.setIfInBounds_toArray, List.set_cons_zero, List.set_cons_succ])
    refine wpAnyH_take (i := 2) (oi := _) (v := ?_) rfl (by kernel_rfl) (by kernel_rfl) (by kernel_rfl) (fun _ _ _ h => h) (Or.inl ⟨by rfl, ?_⟩) (by assumption) ?_
    rotate_left
    · intro w hSw; (try dsimp only at hSw); go_simp; (try with_reducible rfl)
    (try dsimp only [List.getElem_toArray, List.getElem_cons_zero, List.getElem_cons_succ]); (try simp only [Act.put, List.setIfInBounds_toArray, List.set_cons_zero, List.set_cons_succ])
    refine wpAnyH_take (i := 3) (oi := _) (v := ?_) rfl (by kernel_rfl) (by kernel_rfl) (by kernel_rfl) (fun _ _ _ h => h) (Or.inl ⟨by rfl, ?_⟩) (by assumption) ?_
    rotate_left
    · intro w hSw; (try dsimp only at hSw); go_simp; (try with_reducible rfl)
    (try dsimp only [List.getElem_toArray, List.getElem_cons_zero, List.getElem_cons_succ]); (try simp only [Act.put, List.setIfInBounds_toArray, List.set_cons_zero, List.set_cons_succ])
    refine wpAnyH_take (i := 4) (oi := _) (v := undef) rfl (by kernel_rfl) (by kernel_rfl) (by kernel_rfl) (fun _ _ _ h => h) (Or.inr ⟨by rfl, rfl⟩) (by assumption) ?_
    (try dsimp only [List.getElem_toArray, List.getElem_cons_zero, List.getElem_cons_succ]); (try simp only [Act.put, List.setIfInBounds_toArray, List.set_cons_zero, List.set_cons_succ])
    refine wpAnyH_take (i := 5) (oi := _) (v := undef) rfl (by kernel_rfl) (by kernel_rfl) (by kernel_rfl) (fun _ _ _ h => h) (Or.inr ⟨by rfl, rfl⟩) (by assumption) ?_
    (try dsimp only [List.getElem_toArray, List.getElem_cons_zero, List.getElem_cons_succ]); (try simp only [Act.put, List.setIfInBounds_toArray, List.set_cons_zero, List.set_cons_succ])
    refine wpAnyH_take (i := 6) (oi := _) (v := undef) rfl (by kernel_rfl) (by kernel_rfl) (by kernel_rfl) (fun _ _ _ h => h) (Or.inr ⟨by rfl, rfl⟩) (by assumption) ?_
    (try dsimp only [List.getElem_toArray, List.getElem_cons_zero, List.getElem_cons_succ]); (try simp only [Act.put, List.setIfInBounds_toArray, List.set_cons_zero, List.set_cons_succ])
    refine wpAnyH_take (i := 7) (oi := _) (v := undef) rfl (by kernel_rfl) (by kernel_rfl) (by kernel_rfl) (fun _ _ _ h => h) (Or.inr ⟨by rfl, rfl⟩) (by assumption) ?_
    (try dsimp only [List.getElem_toArray, List.getElem_cons_zero, List.getElem_cons_succ]); (try simp only [Act.put, List.setIfInBounds_toArray, List.set_cons_zero, List.set_cons_succ])
    refine wpAnyH_take (i := 8) (oi := _) (v := ?_) rfl (by kernel_rfl) (by kernel_rfl) (by kernel_rfl) (fun _ _ _ h => h) (Or.inl ⟨by rfl, ?_⟩) (by assumption) ?_
    rotate_left
    · intro w hSw; (try dsimp only at hSw); go_simp; (try with_reducible rfl)
    (try dsimp only [List.getElem_toArray, List.getElem_cons_zero, List.getElem_cons_succ]); (try simp only [Act.put, List.setIfInBounds_toArray, List.set_cons_zero, List.set_cons_succ])
    refine wpAnyH_take (i := 9) (oi := _) (v := ?_) rfl (by kernel_rfl) (by kernel_rfl) (by kernel_rfl) (fun _ _ _ h => h) (Or.inl ⟨by rfl, ?_⟩) (by assumption) ?_
    rotate_left
    · intro w hSw; (try dsimp only at hSw); go_simp; (try with_reducible rfl)
    (try dsimp only [List.getElem_toArray, List.getElem_cons_zero, List.getElem_cons_succ]); (try simp only [Act.put, List.setIfInBounds_toArray, List.set_cons_zero, List.set_cons_succ])
    refine wpAnyH_take (i := 10) (oi := _) (v := ?_) rfl (by kernel_rfl) (by kernel_rfl) (by kernel_rfl) (fun _ _ _ h => h) (Or.inl ⟨by rfl, ?_⟩) (by assumption) ?_
    rotate_left
    · intro w hSw; (try dsimp only at hSw); go_simp; (try with_reducible rfl)
    (try dsimp only [List.getElem_toArray, List.getElem_cons_zero, List.getElem_cons_succ]); (try simp only [Act.put, List.setIfInBounds_toArray, List.set_cons_zero, List.set_cons_succ])
    refine wpAnyH_take (i := 12) (oi := _) (v := ?_) rfl (by kernel_rfl) (by kernel_rfl) (by kernel_rfl) (fun _ _ _ h => h) (Or.inl ⟨by rfl, ?_⟩) (by assumption) ?_
    rotate_left
    · intro w hSw; (try dsimp only at hSw); go_simp; (try with_reducible rfl)
    (try dsimp only [List.getElem_toArray, List.getElem_cons_zero, List.getElem_cons_succ]); (try simp only [Act.put, List.setIfInBounds_toArray, List.set_cons_zero, List.set_cons_succ])
    refine wpAnyH_ready (rs := [11]) (by kernel_rfl) (by simp) ?_
    refine AllReadyH.cons (o := _) rfl (fun K hK => ?_) AllReadyH.nil
    go_simp
    (first | (go_at_call 14; ((with_reducible refine (text_any x _ _ (HX.out.keep (held_ext (by assumption)))).mono ?_); rintro e w' ⟨rfl, hx⟩)) | (go_at_call 15; ((with_reducible refine (Z4.text_any p _ _ (HP.out.keep (held_ext (by assumption)))).mono ?_); rintro e w' ⟨rfl, hx⟩)) | (go_at_call 16; ((with_reducible refine (of_any n _ hn.out).mono ?_); rintro e w' ⟨y1, rfl, hy1, hx⟩)) | (go_at_call 17; ((with_reducible refine (Z4.of_any n _ hn.out).mono ?_); rintro e w' ⟨y1, rfl, hy1, hx⟩)) | (go_at_call 14; ((with_reducible refine (text_any y1 _ _ hy1).mono ?_); rintro e w' ⟨rfl, hx⟩)) | (go_at_call 15; ((with_reducible refine (Z4.text_any y1 _ _ hy1).mono ?_); rintro e w' ⟨rfl, hx⟩)))
    (try go_wp2_with fail)
    refine hK.out _ _ ?_ (fun hHeld => ?_)
    · (try dsimp only)
      (first | assumption | exact held_of (Ext.rf _).dr | exact held_of (Ext.tr (held_ext (by assumption)) hx))
    clear hK K
    (try dsimp only [List.getElem_toArray, List.getElem_cons_zero, List.getElem_cons_succ]); (try simp only [Act.put, List.setIfInBounds_toArray, List.set_cons_zero, List.set_cons_succ])
    refine wpAnyH_ready (rs := [13]) (by kernel_rfl) (by simp) ?_
    refine AllReadyH.cons (o := _) rfl (fun K hK => ?_) AllReadyH.nil
    go_simp
    (first | (go_at_call 14; ((with_reducible refine (text_any x _ _ (HX.out.keep (held_ext (by assumption)))).mono ?_); rintro e w' ⟨rfl, hx⟩)) | (go_at_call 15; ((with_reducible refine (Z4.text_any p _ _ (HP.out.keep (held_ext (by assumption)))).mono ?_); rintro e w' ⟨rfl, hx⟩)) | (go_at_call 16; ((with_reducible refine (of_any n _ hn.out).mono ?_); rintro e w' ⟨y1, rfl, hy1, hx⟩)) | (go_at_call 17; ((with_reducible refine (Z4.of_any n _ hn.out).mono ?_); rintro e w' ⟨y1, rfl, hy1, hx⟩)) | (go_at_call 14; ((with_reducible refine (text_any y1 _ _ hy1).mono ?_); rintro e w' ⟨rfl, hx⟩)) | (go_at_call 15; ((with_reducible refine (Z4.text_any y1 _ _ hy1).mono ?_); rintro e w' ⟨rfl, hx⟩)))
    (try go_wp2_with fail)
    refine hK.out _ _ ?_ (fun hHeld => ?_)
    · (try dsimp only)
      (first | assumption | exact held_of (Ext.rf _).dr | exact held_of (Ext.tr (held_ext (by assumption)) hx))
    clear hK K
    (try dsimp only [List.getElem_toArray, List.getElem_cons_zero, List.getElem_cons_succ]); (try simp only [Act.put, List.setIfInBounds_toArray, List.set_cons_zero, List.set_cons_succ])
    refine wpAnyH_take (i := 14) (oi := _) (v := ?_) rfl (by kernel_rfl) (by kernel_rfl) (by kernel_rfl) (fun _ _ _ h => h) (Or.inl ⟨by rfl, ?_⟩) (by assumption) ?_
    rotate_left
    · intro w hSw; (try dsimp only at hSw); go_simp; (try with_reducible rfl)
    (try dsimp only [List.getElem_toArray, List.getElem_cons_zero, List.getElem_cons_succ]); (try simp only [Act.put, List.setIfInBounds_toArray, List.set_cons_zero, List.set_cons_succ])
    refine wpAnyH_take (i := 15) (oi := _) (v := ?_) rfl (by kernel_rfl) (by kernel_rfl) (by kernel_rfl) (fun _ _ _ h => h) (Or.inl ⟨by rfl, ?_⟩) (by assumption) ?_
    rotate_left
    · intro w hSw; (try dsimp only at hSw); go_simp; (try with_reducible rfl)
    (try dsimp only [List.getElem_toArray, List.getElem_cons_zero, List.getElem_cons_succ]); (try simp only [Act.put, List.setIfInBounds_toArray, List.set_cons_zero, List.set_cons_succ])
    refine wpAnyH_take (i := 16) (oi := _) (v := ?_) rfl (by kernel_rfl) (by kernel_rfl) (by kernel_rfl) (fun _ _ _ h => h) (Or.inl ⟨by rfl, ?_⟩) (by assumption) ?_
    rotate_left
    · intro w hSw; (try dsimp only at hSw); go_simp; (try with_reducible rfl)
    (try dsimp only [List.getElem_toArray, List.getElem_cons_zero, List.getElem_cons_succ]); (try simp only [Act.put, List.setIfInBounds_toArray, List.set_cons_zero, List.set_cons_succ])
    refine wpAnyH_take (i := 17) (oi := _) (v := ?_) rfl (by kernel_rfl) (by kernel_rfl) (by kernel_rfl) (fun _ _ _ h => h) (Or.inl ⟨by rfl, ?_⟩) (by assumption) ?_
    rotate_left
    · intro w hSw; (try dsimp only at hSw); go_simp; (try with_reducible rfl)
    (try dsimp only [List.getElem_toArray, List.getElem_cons_zero, List.getElem_cons_succ]); (try simp only [Act.put, List.setIfInBounds_toArray, List.set_cons_zero, List.set_cons_succ])
    refine wpAnyH_take (i := 20) (oi := _) (v := ?_) rfl (by kernel_rfl) (by kernel_rfl) (by kernel_rfl) (fun _ _ _ h => h) (Or.inl ⟨by rfl, ?_⟩) (by assumption) ?_
    rotate_left
    · intro w hSw; (try dsimp only at hSw); go_simp; (try with_reducible rfl)
    (try dsimp only [List.getElem_toArray, List.getElem_cons_zero, List.getElem_cons_succ]); (try simp only [Act.put, List.setIfInBounds_toArray, List.set_cons_zero, List.set_cons_succ])
    refine wpAnyH_ready (rs := [18]) (by kernel_rfl) (by simp) ?_
    refine AllReadyH.cons (o := _) rfl (fun K hK => ?_) AllReadyH.nil
    go_simp
    (first | (go_at_call 14; ((with_reducible refine (text_any x _ _ (HX.out.keep (held_ext (by assumption)))).mono ?_); rintro e w' ⟨rfl, hx⟩)) | (go_at_call 15; ((with_reducible refine (Z4.text_any p _ _ (HP.out.keep (held_ext (by assumption)))).mono ?_); rintro e w' ⟨rfl, hx⟩)) | (go_at_call 16; ((with_reducible refine (of_any n _ hn.out).mono ?_); rintro e w' ⟨y1, rfl, hy1, hx⟩)) | (go_at_call 17; ((with_reducible refine (Z4.of_any n _ hn.out).mono ?_); rintro e w' ⟨y1, rfl, hy1, hx⟩)) | (go_at_call 14; ((with_reducible refine (text_any y1 _ _ hy1).mono ?_); rintro e w' ⟨rfl, hx⟩)) | (go_at_call 15; ((with_reducible refine (Z4.text_any y1 _ _ hy1).mono ?_); rintro e w' ⟨rfl, hx⟩)))
    (try go_wp2_with fail)
    refine hK.out _ _ ?_ (fun hHeld => ?_)
    · (try dsimp only)
      (first | assumption | exact held_of (Ext.rf _).dr | exact held_of (Ext.tr (held_ext (by assumption)) hx))
    clear hK K
    (try dsimp only [List.getElem_toArray, List.getElem_cons_zero, List.getElem_cons_succ]); (try simp only [Act.put, List.setIfInBounds_toArray, List.set_cons_zero, List.set_cons_succ])
    refine wpAnyH_ready (rs := [19]) (by kernel_rfl) (by simp) ?_
    refine AllReadyH.cons (o := _) rfl (fun K hK => ?_) AllReadyH.nil
    go_simp
    (first | (go_at_call 14; ((with_reducible refine (text_any x _ _ (HX.out.keep (held_ext (by assumption)))).mono ?_); rintro e w' ⟨rfl, hx⟩)) | (go_at_call 15; ((with_reducible refine (Z4.text_any p _ _ (HP.out.keep (held_ext (by assumption)))).mono ?_); rintro e w' ⟨rfl, hx⟩)) | (go_at_call 16; ((with_reducible refine (of_any n _ hn.out).mono ?_); rintro e w' ⟨y1, rfl, hy1, hx⟩)) | (go_at_call 17; ((with_reducible refine (Z4.of_any n _ hn.out).mono ?_); rintro e w' ⟨y1, rfl, hy1, hx⟩)) | (go_at_call 14; ((with_reducible refine (text_any y1 _ _ hy1).mono ?_); rintro e w' ⟨rfl, hx⟩)) | (go_at_call 15; ((with_reducible refine (Z4.text_any y1 _ _ hy1).mono ?_); rintro e w' ⟨rfl, hx⟩)))
    (try go_wp2_with fail)
    refine hK.out _ _ ?_ (fun hHeld => ?_)
    · (try dsimp only)
      (first | assumption | exact held_of (Ext.rf _).dr | exact held_of (Ext.tr (held_ext (by assumption)) hx))
    clear hK K
    (try dsimp only [List.getElem_toArray, List.getElem_cons_zero, List.getElem_cons_succ]); (try simp only [Act.put, List.setIfInBounds_toArray, List.set_cons_zero, List.set_cons_succ])
    refine wpAnyH_ready (rs := [21]) (by kernel_rfl) (by simp) ?_
    refine AllReadyH.cons (o := _) rfl (fun K hK => ?_) AllReadyH.nil
    go_simp
    (first | (go_at_call 14; ((with_reducible refine (text_any x _ _ (HX.out.keep (held_ext (by assumption)))).mono ?_); rintro e w' ⟨rfl, hx⟩)) | (go_at_call 15; ((with_reducible refine (Z4.text_any p _ _ (HP.out.keep (held_ext (by assumption)))).mono ?_); rintro e w' ⟨rfl, hx⟩)) | (go_at_call 16; ((with_reducible refine (of_any n _ hn.out).mono ?_); rintro e w' ⟨y1, rfl, hy1, hx⟩)) | (go_at_call 17; ((with_reducible refine (Z4.of_any n _ hn.out).mono ?_); rintro e w' ⟨y1, rfl, hy1, hx⟩)) | (go_at_call 14; ((with_reducible refine (text_any y1 _ _ hy1).mono ?_); rintro e w' ⟨rfl, hx⟩)) | (go_at_call 15; ((with_reducible refine (Z4.text_any y1 _ _ hy1).mono ?_); rintro e w' ⟨rfl, hx⟩)))
    (try go_wp2_with fail)
    refine hK.out _ _ ?_ (fun hHeld => ?_)
    · (try dsimp only)
      (first | assumption | exact held_of (Ext.rf _).dr | exact held_of (Ext.tr (held_ext (by assumption)) hx))
    clear hK K
    (try dsimp only [List.getElem_toArray, List.getElem_cons_zero, List.getElem_cons_succ]); (try simp only [Act.put, List.setIfInBounds_toArray, List.set_cons_zero, List.set_cons_succ])
    refine wpAnyH_ready (rs := [22]) (by kernel_rfl) (by simp) ?_
    refine AllReadyH.cons (o := _) rfl (fun K hK => ?_) AllReadyH.nil
    go_simp
    (first | (go_at_call 14; ((with_reducible refine (text_any x _ _ (HX.out.keep (held_ext (by assumption)))).mono ?_); rintro e w' ⟨rfl, hx⟩)) | (go_at_call 15; ((with_reducible refine (Z4.text_any p _ _ (HP.out.keep (held_ext (by assumption)))).mono ?_); rintro e w' ⟨rfl, hx⟩)) | (go_at_call 16; ((with_reducible refine (of_any n _ hn.out).mono ?_); rintro e w' ⟨y1, rfl, hy1, hx⟩)) | (go_at_call 17; ((with_reducible refine (Z4.of_any n _ hn.out).mono ?_); rintro e w' ⟨y1, rfl, hy1, hx⟩)) | (go_at_call 14; ((with_reducible refine (text_any y1 _ _ hy1).mono ?_); rintro e w' ⟨rfl, hx⟩)) | (go_at_call 15; ((with_reducible refine (Z4.text_any y1 _ _ hy1).mono ?_); rintro e w' ⟨rfl, hx⟩)))
    (try go_wp2_with fail)
    refine hK.out _ _ ?_ (fun hHeld => ?_)
    · (try dsimp only)
      (first | assumption | exact held_of (Ext.rf _).dr | exact held_of (Ext.tr (held_ext (by assumption)) hx))
    clear hK K
    (try dsimp only [List.getElem_toArray, List.getElem_cons_zero, List.getElem_cons_succ]); (try simp only [Act.put, List.setIfInBounds_toArray, List.set_cons_zero, List.set_cons_succ])
    refine wpAnyH_take (i := 23) (oi := _) (v := ?_) rfl (by kernel_rfl) (by kernel_rfl) (by kernel_rfl) (fun _ _ _ h => h) (Or.inl ⟨by rfl, ?_⟩) (by assumption) ?_
    rotate_left
    · intro w hSw; (try dsimp only at hSw); go_simp; (try with_reducible rfl)
    (try dsimp only [List.getElem_toArray, List.getElem_cons_zero, List.getElem_cons_succ]); (try simp only [Act.put, List.setIfInBounds_toArray, List.set_cons_zero, List.set_cons_succ])
    refine wpAnyH_take (i := 24) (oi := _) (v := ?_) rfl (by kernel_rfl) (by kernel_rfl) (by kernel_rfl) (fun _ _ _ h => h) (Or.inl ⟨by rfl, ?_⟩) (by assumption) ?_
    rotate_left
    · intro w hSw; (try dsimp only at hSw); go_simp; (try with_reducible rfl)
    (try dsimp only [List.getElem_toArray, List.getElem_cons_zero, List.getElem_cons_succ]); (try simp only [Act.put, List.setIfInBounds_toArray, List.set_cons_zero, List.set_cons_succ])
    refine wpAnyH_done (by kernel_rfl) ?_ _
    go_wp2
    go_region_held3 (fun w' => Ext w5 w' ∧ (∀ b o, b < w5.heap.size → w'.cell? ⟨b, o, none⟩ = w5.cell? ⟨b, o, none⟩)) (first | assumption | exact held_of (held_ext (by assumption)).dr | exact held_of (Ext.tr (held_ext (by assumption)) hx)) (first | (go_at_call 18; ((with_reducible refine (sign_any x _ _ (HX.out.keep (held_ext (by assumption)))).mono ?_); rintro e w' ⟨rfl, hx⟩)) | (go_at_call 19; ((with_reducible refine (Z4.Sign_any p _ _ (HP.out.keep (held_ext (by assumption)))).mono ?_); rintro e w' ⟨rfl, hx⟩)) | (go_at_call 20; ((with_reducible refine (neg_any x _ _ (HX.out.keep (held_ext (by assumption)))).mono ?_); rintro e w' ⟨y1, rfl, hy1, hx⟩)) | (go_at_call 21; ((with_reducible refine (Z4.neg_any p _ _ (HP.out.keep (held_ext (by assumption)))).mono ?_); rintro e w' ⟨y1, rfl, hy1, hx⟩)) | (go_at_call 14; ((with_reducible refine (text_any y1 _ _ hy1).mono ?_); rintro e w' ⟨rfl, hx⟩)) | (go_at_call 15; ((with_reducible refine (Z4.text_any y1 _ _ hy1).mono ?_); rintro e w' ⟨rfl, hx⟩)))
    go_wp2
    go_ret
    exact ⟨ret_b (by simp), G.out.tr (held_ext (by assumption))⟩

end Go.Proofs.Ytbbidekjbgjooaa
