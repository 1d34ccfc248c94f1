/- Numbers of the program: made. -/
import Derived.Test.YtbbidekjbgjooaaNumP
namespace Go.Proofs.Ytbbidekjbgjooaa
open Go.RowKit

/-- An Int: its sign, its places. -/
structure IV where
  n : Bool
  s : SV

/-- The value reads as the number z. -/
def IsI (w : World) (x : IV) (z : Int) : Prop :=
  ∃ l, IsL w x.s .u32 l ∧ Norm l ∧ z = sg x.n (valL l) ∧ (l = [] → x.n = false) ∧ Sm z

theorem IsI.keep {w w' : World} {x : IV} {z : Int} (h : IsI w x z) (e : Ext w w') : IsI w' x z := by
  obtain ⟨l, h1, h2⟩ := h
  exact ⟨l, h1.keep e, h2⟩

theorem IsI.kept {w w' : World} {x : IV} {z : Int} (h : IsI w x z) (e : Kept 93 w w') : IsI w' x z := by
  obtain ⟨l, h1, h2⟩ := h
  exact ⟨l, h1.kept e, h2⟩

theorem isI_zero (w : World) : IsI w ⟨false, ⟨none, 0, 0⟩⟩ 0 := ⟨[], isL_nil w _, .inl rfl, by simp [sg, valL], fun _ => rfl, sm_zero⟩

/-- The call answers the number z. -/
def RetI (w : World) (z : Int) (e : Ending) (w' : World) : Prop :=
  ∃ x : IV, e = .returned (.agg #[.bool x.n, .slice x.s.a x.s.len x.s.cap]) ∧ IsI w' x z ∧ Ext w w'

theorem isI_made {w : World} {neg : Bool} {ao : Option Addr} {cap k : Nat} {l : List Int} (h : IsL w ⟨ao, l.length, cap⟩ .u32 l) (hk : k + 1 ≤ l.length)
    (hz : ∀ j, k + 1 ≤ j → at_ l j = 0) (hne : at_ l k ≠ 0) (hcm : cap ≤ 9223372036854775807) (hs : Sm (sg neg (valL l))) : IsI w ⟨neg, ⟨ao, k + 1, k + 1⟩⟩ (sg neg (valL l)) := by
  have hcap : l.length ≤ cap := h.1.2.1
  refine ⟨l.take (k + 1), h.take hk (Nat.le_refl _) (by omega), .inr ?_, by rw [valL_take hz], fun e => ?_, hs⟩
  · have : (l.take (k + 1)).length - 1 = k := by simp; omega
    rw [this]
    simpa [at_] using hne
  · have := congrArg List.length e
    rw [List.length_take, List.length_nil] at this
    omega

set_option maxHeartbeats 400000 in
theorem made_any (neg : Bool) (s : SV) (l : List Int) (w : World) (h : IsL w s .u32 l) (hs : Sm (sg neg (valL l))) :
    Calls Try.prog 64 #[.bool neg, .slice s.a s.len s.cap] w (RetI w (sg neg (valL l))) := by
  obtain ⟨ao, cap, rfl, hcap, hcm, hop⟩ := h.open_
  replace hs := hd_ hs
  go_enter Try.func64, Try.ntmps64
  go_wp2
  go_loop [5] (fun n => ∃ k : Nat, k ≤ l.length ∧ n = .int .i64 k ∧ (∀ j, k ≤ j → at_ l j = 0)) (fun n => (intOf n).toNat)
  case atStart => exact ⟨l.length, Nat.le_refl _, rfl, fun j hj => at_ge hj⟩
  case round =>
    obtain ⟨k, hk, rfl, hz⟩ := hrel
    match k, hk, hz with
    | 0, hk, hz =>
      have H0 := hd_ (valL_zero (fun j => hz j (by omega)))
      clear hz
      go_wp2
      refine bodyPost_ret (v := .agg #[.bool false, .slice none 0 0]) (by simp [results, Try.results64, go_sem]) rfl ⟨⟨false, ⟨none, 0, 0⟩⟩, rfl, ?_, (Ext.rf _).al _⟩
      rw [H0.out]
      cases neg <;> exact isI_zero _
    | k + 1, hk, hz =>
      have Hz := hd_ hz; clear hz
      obtain ⟨b, off, rfl, hb, hc⟩ := hop (by omega)
      have hbl := hb.lt
      have hc := hc k (by omega)
      have hf := h.fit (i := k) (by omega)
      by_cases h0 : at_ l k = 0
      · have h0' : (at_ l k == 0) = true := by simp [h0]
        have H0 := hd_ h0; clear h0
        go_wp2
        go_round
        case rel => exact ⟨k, by omega, by go_num, fun j hj => if e : j = k then by rw [e]; exact H0.out else Hz.out j (by omega)⟩
        case measure => first | (simp [intOf]; done) | (simp [intOf]; omega)
      · have h0' : (at_ l k == 0) = false := by simp [h0]
        go_wp2
        refine bodyPost_ret (v := .agg #[.bool neg, .slice (some ⟨b, off, none⟩) (k + 1) (k + 1)]) (by simp [results, Try.results64, go_sem]) rfl ⟨⟨neg, ⟨some ⟨b, off, none⟩, k + 1, k + 1⟩⟩, rfl, ?_, ?_⟩
        · exact (isI_made h hk Hz.out h0 hcm hs.out).keep (((Ext.rf _).al _))
        · exact (Ext.rf _).al _

/-- A number opened: its sign, its places. -/
theorem IsI.open_ {w : World} {x : IV} {z : Int} (h : IsI w x z) : ∃ l, IsL w x.s .u32 l ∧ Norm l ∧ Dig l ∧ l.length ≤ 536870913 ∧ z = sg x.n (valL l) ∧ (l = [] → x.n = false) ∧ Sm z := by
  obtain ⟨l, h1, h2, h3, h4, h5⟩ := h
  refine ⟨l, h1, h2, h1.2, ?_, h3, h4, h5⟩
  have hb : Bt (valL l) maxBits := by
    rw [h3] at h5
    exact h5.bt.le (by rw [natAbs_sg]; exact Nat.le_refl _)
  have := len_of_bt h1.2 h2 hb
  rw [maxBits_eq] at this
  omega

theorem IsI.sm {w : World} {x : IV} {z : Int} (h : IsI w x z) : Sm z := by obtain ⟨_, _, _, _, _, h⟩ := h; exact h

end Go.Proofs.Ytbbidekjbgjooaa
