/- The reference's ZParse. -/
import Derived.Test.YtbbidekjbgjooaaZR
namespace Go.Proofs.Ytbbidekjbgjooaa.Z4
open Go.RowKit

/-- The call answers a number and a fault. -/
def RetZF (w : World) (z c p : Int) (e : Ending) (w' : World) : Prop :=
  ∃ x : IV, e = .returned (.tuple #[.agg #[.bool x.n, .slice x.s.a x.s.len x.s.cap], .agg #[.int .i64 c, .int .i64 p]]) ∧ IsZ w' x z ∧ Ext w w'

set_option maxRecDepth 100000 in
set_option maxHeartbeats 1000000 in
theorem parse_any (t : List UInt8) (w : World) (hs : t.length ≤ 9223372036854775807) :
    Calls Try.prog 10 #[.string (bs t)] w (RetZF w (parseZ t) (parseC t) (parseP t)) := by
  have hle := numLen_le true t
  have he0 := ((Ext.rf w).al (Obj.cells #[Value.bool false, Value.slice none 0 0] 31)).al (Obj.cells #[Value.int .i64 0, Value.int .i64 0] 26)
  by_cases h1 : (numLen true t).2 = true
  · by_cases h2 : (numLen true t).1 < t.length
    · have hok : numOk t = false := by simp [numOk]; intro _; omega
      have HZ : Hd (parseZ t = 0) := hd_ (by simp [parseZ, hok])
      have HC : Hd (parseC t = 1) := hd_ (by simp [parseC, hok])
      have HP : Hd (parseP t = (numLen true t).1) := hd_ (by simp [parseP, hok])
      clear hok
      go_enter Try.func10, Try.ntmps10
      go_wp2_with (go_at_call 66; ((with_reducible refine (word_any _ _ _ hs).mono ?_); rintro e w1 ⟨rfl, hx⟩; obtain ⟨hc1, hf1⟩ := bcell hx))
      have k0 : w1.cell? ⟨w.heap.size, 0, none⟩ = some (Value.bool false) := cell_later hx (by simp [go_sem])
      have k1 : w1.cell? ⟨w.heap.size, 1, none⟩ = some (Value.slice none 0 0) := cell_later hx (by simp [go_sem])
      have k2 : w1.cell? ⟨w.heap.size + 1, 0, none⟩ = some (Value.int .i64 0) := cell_later hx (by simp [go_sem])
      have k3 : w1.cell? ⟨w.heap.size + 1, 1, none⟩ = some (Value.int .i64 0) := cell_later hx (by simp [go_sem])
      refine bodyPost_ret (v := .tuple #[.agg #[.bool false, .slice none 0 0], .agg #[.int .i64 1, .int .i64 ((numLen true t).1 : Int)]]) (by simp [results, Try.results10, go_sem, k0, k1, k2, k3]) rfl ?_
      rw [HC.out, HP.out, HZ.out]
      exact ⟨⟨false, ⟨none, 0, 0⟩⟩, rfl, isZ_zero _, (((he0.tr hx).st2 (by simp) _ _).st2 (by simp) _ _)⟩
    · have hok : numOk t = true := by simp [numOk, h1]; omega
      have hcan := (numOk_canon hok).1
      have hbl := body_length t
      by_cases h3 : (body t).length ≤ 1000
      · have HZ : Hd (parseZ t = numVal t) := hd_ (by simp [parseZ, hok, h3])
        have HC : Hd (parseC t = 0) := hd_ (by simp [parseC, hok, h3])
        have HP : Hd (parseP t = 0) := hd_ (by simp [parseP, hok])
        have HS : Hd (Sm (numVal t)) := hd_ ((numVal_bt hok).sm (by omega))
        have htl : t.length ≤ 1001 := by rw [hbl] at h3; split at h3 <;> omega
        replace hcan := hd_ hcan
        clear hok hbl
        go_enter Try.func10, Try.ntmps10
        go_wp2_with (first
          | (go_at_call 66; ((with_reducible refine (word_any _ _ _ hs).mono ?_); rintro e w1 ⟨rfl, hx⟩; obtain ⟨hc1, hf1⟩ := bcell hx))
          | (go_at_call 67; ((with_reducible refine (digitsOf_any _ _ hs).mono ?_); rintro e w2 ⟨rfl, hx2⟩; replace hx := hx.tr hx2; clear hc1 hf1; obtain ⟨hc1, hf1⟩ := bcell hx))
          | (go_at_call 68; ((with_reducible refine (zread_any t _ (by omega) hcan.out.digs HS.out).mono ?_); rintro e w3 ⟨y, rfl, hy, hx3⟩; replace hx := hx.tr hx3; clear hc1 hf1; obtain ⟨hc1, hf1⟩ := bcell hx; obtain ⟨w1, rfl⟩ : ∃ w1, w1 = w3 := ⟨_, rfl⟩)))
        have k0 : w1.cell? ⟨w.heap.size, 0, none⟩ = some (Value.bool false) := cell_later hx (by simp [go_sem])
        have k1 : w1.cell? ⟨w.heap.size, 1, none⟩ = some (Value.slice none 0 0) := cell_later hx (by simp [go_sem])
        have k2 : w1.cell? ⟨w.heap.size + 1, 0, none⟩ = some (Value.int .i64 0) := cell_later hx (by simp [go_sem])
        have k3 : w1.cell? ⟨w.heap.size + 1, 1, none⟩ = some (Value.int .i64 0) := cell_later hx (by simp [go_sem])
        refine bodyPost_ret (v := .tuple #[.agg #[.bool y.n, .slice y.s.a y.s.len y.s.cap], .agg #[.int .i64 0, .int .i64 0]]) (by simp [results, Try.results10, go_sem, k0, k1, k2, k3]) rfl ?_
        rw [HC.out, HP.out, HZ.out]
        exact ⟨y, rfl, hy.kept ((((Kept.rf _ _).st2 (T' := 31) (Ty.keep ((Ty.new' (by simp)).al _) hx) (by decide) _ _)).st2 (T' := 26) (((Ty.keep (Ty.new' (by simp)) hx).st _ _).st _ _) (by decide) _ _), (((he0.tr hx).st2 (by simp) _ _).st2 (by simp) _ _)⟩
      · have HZ : Hd (parseZ t = 0) := hd_ (by simp [parseZ, hok, h3])
        have HC : Hd (parseC t = 2) := hd_ (by simp [parseC, hok, h3])
        have HP : Hd (parseP t = 0) := hd_ (by simp [parseP, hok])
        clear hok hcan hbl
        go_enter Try.func10, Try.ntmps10
        go_wp2_with (first
          | (go_at_call 66; ((with_reducible refine (word_any _ _ _ hs).mono ?_); rintro e w1 ⟨rfl, hx⟩; obtain ⟨hc1, hf1⟩ := bcell hx))
          | (go_at_call 67; ((with_reducible refine (digitsOf_any _ _ hs).mono ?_); rintro e w2 ⟨rfl, hx2⟩; replace hx := hx.tr hx2; clear hc1 hf1; obtain ⟨hc1, hf1⟩ := bcell hx); obtain ⟨w1, rfl⟩ : ∃ w1, w1 = w2 := ⟨_, rfl⟩))
        have k0 : w1.cell? ⟨w.heap.size, 0, none⟩ = some (Value.bool false) := cell_later hx (by simp [go_sem])
        have k1 : w1.cell? ⟨w.heap.size, 1, none⟩ = some (Value.slice none 0 0) := cell_later hx (by simp [go_sem])
        have k2 : w1.cell? ⟨w.heap.size + 1, 0, none⟩ = some (Value.int .i64 0) := cell_later hx (by simp [go_sem])
        have k3 : w1.cell? ⟨w.heap.size + 1, 1, none⟩ = some (Value.int .i64 0) := cell_later hx (by simp [go_sem])
        refine bodyPost_ret (v := .tuple #[.agg #[.bool false, .slice none 0 0], .agg #[.int .i64 2, .int .i64 0]]) (by simp [results, Try.results10, go_sem, k0, k1, k2, k3]) rfl ?_
        rw [HC.out, HP.out, HZ.out]
        exact ⟨⟨false, ⟨none, 0, 0⟩⟩, rfl, isZ_zero _, (((he0.tr hx).st2 (by simp) _ _).st2 (by simp) _ _)⟩
  · have hok : numOk t = false := by simp [numOk, h1]
    have HZ : Hd (parseZ t = 0) := hd_ (by simp [parseZ, hok])
    have HC : Hd (parseC t = 1) := hd_ (by simp [parseC, hok])
    have HP : Hd (parseP t = (numLen true t).1) := hd_ (by simp [parseP, hok])
    replace h1 : (numLen true t).2 = false := by simpa using h1
    clear hok
    go_enter Try.func10, Try.ntmps10
    go_wp2_with (go_at_call 66; ((with_reducible refine (word_any _ _ _ hs).mono ?_); rintro e w1 ⟨rfl, hx⟩; obtain ⟨hc1, hf1⟩ := bcell hx))
    have k0 : w1.cell? ⟨w.heap.size, 0, none⟩ = some (Value.bool false) := cell_later hx (by simp [go_sem])
    have k1 : w1.cell? ⟨w.heap.size, 1, none⟩ = some (Value.slice none 0 0) := cell_later hx (by simp [go_sem])
    have k2 : w1.cell? ⟨w.heap.size + 1, 0, none⟩ = some (Value.int .i64 0) := cell_later hx (by simp [go_sem])
    have k3 : w1.cell? ⟨w.heap.size + 1, 1, none⟩ = some (Value.int .i64 0) := cell_later hx (by simp [go_sem])
    refine bodyPost_ret (v := .tuple #[.agg #[.bool false, .slice none 0 0], .agg #[.int .i64 1, .int .i64 ((numLen true t).1 : Int)]]) (by simp [results, Try.results10, go_sem, k0, k1, k2, k3]) rfl ?_
    rw [HC.out, HP.out, HZ.out]
    exact ⟨⟨false, ⟨none, 0, 0⟩⟩, rfl, isZ_zero _, (((he0.tr hx).st2 (by simp) _ _).st2 (by simp) _ _)⟩

end Go.Proofs.Ytbbidekjbgjooaa.Z4
