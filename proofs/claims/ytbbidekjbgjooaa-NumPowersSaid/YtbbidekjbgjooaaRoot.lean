/- Root: the walk. -/
import Derived.Test.YtbbidekjbgjooaaPow
import Derived.Test.YtbbidekjbgjooaaDivA
import Derived.Deep.LoopGhost
namespace Go.Proofs.Ytbbidekjbgjooaa
open Go.RowKit

theorem isI_neg_iff {w : World} {x : IV} {z : Int} (h : IsI w x z) : z < 0 ↔ x.n = true := by
  obtain ⟨l, hl, hn, hd, _, hz, h0, _⟩ := h.open_
  rw [hz]
  exact neg_iff hd hn h0

/-- The lengths, and a power of 2 that is above. -/
theorem root_top {A len k : Nat} (hA : A < 2 ^ (32 * len)) (hk : 0 < k) : A < (2 ^ (32 * len / k + 1)) ^ k := by
  rw [← Nat.pow_mul]
  refine Nat.lt_of_lt_of_le hA (Nat.pow_le_pow_right (by omega) ?_)
  have h1 := Nat.lt_mul_div_succ (32 * len) hk
  have h2 : k * (32 * len / k + 1) = (32 * len / k + 1) * k := Nat.mul_comm ..
  omega

theorem isI_len {w : World} {x : IV} {z : Int} {N : Nat} (h : IsI w x z) (hz : Bt z N) : 32 * x.s.len ≤ N + 32 ∧ z.natAbs < 2 ^ (32 * x.s.len) := by
  obtain ⟨l, hl, hn, hd, _, he, h0, _⟩ := h.open_
  have e : x.s.len = l.length := hl.1.1
  have hv : (valL l).natAbs = z.natAbs := by rw [he, natAbs_sg]
  have h1 := len_of_bt hd hn (hz.le (by omega))
  refine ⟨by omega, ?_⟩
  have h2 := valL_lt hd
  rw [pow32] at h2
  have h3 := valL_nonneg hd
  rw [e]
  generalize 2 ^ (32 * l.length) = p at *
  omega

theorem two_split (L : Nat) : valL [1] * 2 ^ (L % 32) * 4294967296 ^ (L / 32) = ((2 ^ L : Nat) : Int) := by
  rw [pow32]
  have e : (2 : Int) ^ (L % 32) = ((2 ^ (L % 32) : Nat) : Int) := by rw [Int.natCast_pow]; rfl
  rw [e, show valL [1] = 1 from by simp [valL], Int.one_mul, ← Int.natCast_mul, ← Nat.pow_add]
  congr 2
  omega
theorem bt_two {h L : Nat} (hh : h ≤ 2 ^ L) : Bt (h : Int) (L + 1) := by
  unfold Bt
  have := Nat.pow_lt_pow_right (a := 2) (by omega) (show L < L + 1 by omega)
  omega
theorem natPow (s k : Nat) : ((s : Int) ^ k) = ((s ^ k : Nat) : Int) := by rw [Int.natCast_pow]
theorem bt_sg {z : Int} {n : Nat} (m : Bool) (h : Bt z n) : Bt (sg m z) n := h.le (by rw [natAbs_sg]; exact Nat.le_refl _)

/-- What Root answers. -/
def RetRoot (w : World) (a : Int) (k : Nat) (e : Ending) (w' : World) : Prop :=
  ∃ (x : IV) (s : Nat), e = .returned (.tuple #[.agg #[.bool x.n, .slice x.s.a x.s.len x.s.cap], .agg #[.int .i64 0, .int .i64 0]]) ∧ IsI w' x (if a < 0 then -(s : Int) else s) ∧ s ^ k ≤ a.natAbs ∧ a.natAbs < (s + 1) ^ k ∧ Ext w w'

set_option maxRecDepth 100000 in
set_option maxHeartbeats 4000000 in
theorem root_bad (x : IV) (a k : Int) (w : World) (hx : IsI w x a) (hn : -9223372036854775808 ≤ k ∧ k ≤ 9223372036854775807) (hbad : k < 1 ∨ 200 < k) :
    Calls Try.prog 37 #[.agg #[.bool x.n, .slice x.s.a x.s.len x.s.cap], .int .i64 k] w (RetIF0 w 0 7) := by
  have hd : Bt a maxBits := hx.sm
  have V0 := ((((Vs.nil w).add' (n := w.heap.size) (vs := #[Value.bool x.n, Value.slice x.s.a x.s.len x.s.cap]) (T := 24) (by simp)).add' (n := w.heap.size + 1) (vs := #[Value.bool false, Value.slice none 0 0]) (T := 24) (by simp)).add' (n := w.heap.size + 1 + 1) (vs := #[Value.int .i64 0, Value.int .i64 0]) (T := 26) (by simp))
  replace hx := hx.keep V0.ext
  go_enter Try.func37, Try.ntmps37
  go_upto_region 1 with fail
  generalize (((w.alloc (Obj.cells #[Value.bool x.n, Value.slice x.s.a x.s.len x.s.cap] 24)).alloc (Obj.cells #[Value.bool false, Value.slice none 0 0] 24)).alloc (Obj.cells #[Value.int .i64 0, Value.int .i64 0] 26)) = W0 at *
  -- skip
  rcases hbad with hbad | hbad
  · go_upto_region 2 with fail
    obtain ⟨c4_0, c4_1, c4_2, c4_3⟩ := V0.facts 1 rfl
    obtain ⟨c5_0, c5_1, c5_2, c5_3⟩ := V0.facts 0 rfl
    go_wp2
    clear c4_0 c4_1 c4_2 c4_3 c5_0 c5_1 c5_2 c5_3
    have KI := V0.kept2 (U := 93) 1 rfl (by decide) (Value.bool false) (Value.slice none 0 0)
    replace hx := hx.kept KI
    clear KI
    replace V0 := V0.set2 1 rfl (Value.bool false) (Value.slice none 0 0)
    dsimp only [List.set] at V0
    have KI := V0.kept2 (U := 93) 0 rfl (by decide) (Value.int .i64 7) (Value.int .i64 0)
    replace hx := hx.kept KI
    clear KI
    replace V0 := V0.set2 0 rfl (Value.int .i64 7) (Value.int .i64 0)
    dsimp only [List.set] at V0
    generalize ((((W0.setCell ⟨w.heap.size + 1, 0, none⟩ (Value.bool false)).setCell ⟨w.heap.size + 1, 1, none⟩ (Value.slice none 0 0)).setCell ⟨w.heap.size + 1 + 1, 0, none⟩ (Value.int .i64 7)).setCell ⟨w.heap.size + 1 + 1, 1, none⟩ (Value.int .i64 0)) = W1 at *
    have V1 := V0
    clear V0
    obtain ⟨r4_0, r4_1, r4_2, r4_3⟩ := V1.facts 1 rfl
    obtain ⟨r5_0, r5_1, r5_2, r5_3⟩ := V1.facts 0 rfl
    go_wp2
    refine bodyPost_ret (v := .tuple #[.agg #[Value.bool false, Value.slice none 0 0], .agg #[Value.int .i64 7, Value.int .i64 0]]) (by simp [results, Try.results37, go_sem, r4_0, r4_1, r5_0, r5_1]) rfl ?_
    exact ⟨zI, rfl, isI_zero _, V1.ext⟩
  · -- skip
    have hn0 : ¬ k < 1 := by omega
    go_upto_region 2 with fail
    obtain ⟨c4_0, c4_1, c4_2, c4_3⟩ := V0.facts 1 rfl
    obtain ⟨c5_0, c5_1, c5_2, c5_3⟩ := V0.facts 0 rfl
    go_wp2
    clear c4_0 c4_1 c4_2 c4_3 c5_0 c5_1 c5_2 c5_3
    have KI := V0.kept2 (U := 93) 1 rfl (by decide) (Value.bool false) (Value.slice none 0 0)
    replace hx := hx.kept KI
    clear KI
    replace V0 := V0.set2 1 rfl (Value.bool false) (Value.slice none 0 0)
    dsimp only [List.set] at V0
    have KI := V0.kept2 (U := 93) 0 rfl (by decide) (Value.int .i64 7) (Value.int .i64 0)
    replace hx := hx.kept KI
    clear KI
    replace V0 := V0.set2 0 rfl (Value.int .i64 7) (Value.int .i64 0)
    dsimp only [List.set] at V0
    generalize ((((W0.setCell ⟨w.heap.size + 1, 0, none⟩ (Value.bool false)).setCell ⟨w.heap.size + 1, 1, none⟩ (Value.slice none 0 0)).setCell ⟨w.heap.size + 1 + 1, 0, none⟩ (Value.int .i64 7)).setCell ⟨w.heap.size + 1 + 1, 1, none⟩ (Value.int .i64 0)) = W1 at *
    have V1 := V0
    clear V0
    obtain ⟨r4_0, r4_1, r4_2, r4_3⟩ := V1.facts 1 rfl
    obtain ⟨r5_0, r5_1, r5_2, r5_3⟩ := V1.facts 0 rfl
    go_wp2
    refine bodyPost_ret (v := .tuple #[.agg #[Value.bool false, Value.slice none 0 0], .agg #[Value.int .i64 7, Value.int .i64 0]]) (by simp [results, Try.results37, go_sem, r4_0, r4_1, r5_0, r5_1]) rfl ?_
    exact ⟨zI, rfl, isI_zero _, V1.ext⟩

set_option maxRecDepth 100000 in
set_option maxHeartbeats 4000000 in
theorem root_none (x : IV) (a : Int) (k : Nat) (w : World) (hx : IsI w x a) (hk1 : 1 ≤ k) (hk : k ≤ 200) (ha : a < 0) (hev : k % 2 = 0) :
    Calls Try.prog 37 #[.agg #[.bool x.n, .slice x.s.a x.s.len x.s.cap], .int .i64 (k : Int)] w (RetIF0 w 0 5) := by
  have hd : Bt a maxBits := hx.sm
  have hs : decide (sgnZ a < 0) = true := by unfold sgnZ; rw [if_pos ha]; decide
  have he : ((k : Int) % 2 == 0) = true := by rw [beq_iff_eq]; omega
  replace ha := hd_ ha
  replace hev := hd_ hev
  have V0 := ((((Vs.nil w).add' (n := w.heap.size) (vs := #[Value.bool x.n, Value.slice x.s.a x.s.len x.s.cap]) (T := 24) (by simp)).add' (n := w.heap.size + 1) (vs := #[Value.bool false, Value.slice none 0 0]) (T := 24) (by simp)).add' (n := w.heap.size + 1 + 1) (vs := #[Value.int .i64 0, Value.int .i64 0]) (T := 26) (by simp))
  replace hx := hx.keep V0.ext
  go_enter Try.func37, Try.ntmps37
  go_upto_region 1 with fail
  generalize (((w.alloc (Obj.cells #[Value.bool x.n, Value.slice x.s.a x.s.len x.s.cap] 24)).alloc (Obj.cells #[Value.bool false, Value.slice none 0 0] 24)).alloc (Obj.cells #[Value.int .i64 0, Value.int .i64 0] 26)) = W0 at *
  go_upto_region 3 with fail
  obtain ⟨c2_0, c2_1, c2_2, c2_3⟩ := V0.facts 2 rfl
  go_wp2_with fail
  (with_reducible refine (sign_any x a _ (hx)).mono ?_)
  rintro e W1 ⟨rfl, hxx⟩
  replace hx := hx.keep hxx
  clear c2_0 c2_1 c2_2 c2_3
  have V1 := V0.keep hxx
  clear V0 hxx
  go_upto_region 4 with fail
  obtain ⟨c4_0, c4_1, c4_2, c4_3⟩ := V1.facts 1 rfl
  obtain ⟨c5_0, c5_1, c5_2, c5_3⟩ := V1.facts 0 rfl
  go_wp2
  clear c4_0 c4_1 c4_2 c4_3 c5_0 c5_1 c5_2 c5_3
  have KI := V1.kept2 (U := 93) 1 rfl (by decide) (Value.bool false) (Value.slice none 0 0)
  replace hx := hx.kept KI
  clear KI
  replace V1 := V1.set2 1 rfl (Value.bool false) (Value.slice none 0 0)
  dsimp only [List.set] at V1
  have KI := V1.kept2 (U := 93) 0 rfl (by decide) (Value.int .i64 5) (Value.int .i64 0)
  replace hx := hx.kept KI
  clear KI
  replace V1 := V1.set2 0 rfl (Value.int .i64 5) (Value.int .i64 0)
  dsimp only [List.set] at V1
  generalize ((((W1.setCell ⟨w.heap.size + 1, 0, none⟩ (Value.bool false)).setCell ⟨w.heap.size + 1, 1, none⟩ (Value.slice none 0 0)).setCell ⟨w.heap.size + 1 + 1, 0, none⟩ (Value.int .i64 5)).setCell ⟨w.heap.size + 1 + 1, 1, none⟩ (Value.int .i64 0)) = W2 at *
  have V2 := V1
  clear V1
  obtain ⟨r4_0, r4_1, r4_2, r4_3⟩ := V2.facts 1 rfl
  obtain ⟨r5_0, r5_1, r5_2, r5_3⟩ := V2.facts 0 rfl
  go_wp2
  refine bodyPost_ret (v := .tuple #[.agg #[Value.bool false, Value.slice none 0 0], .agg #[Value.int .i64 5, Value.int .i64 0]]) (by simp [results, Try.results37, go_sem, r4_0, r4_1, r5_0, r5_1]) rfl ?_
  exact ⟨zI, rfl, isI_zero _, V2.ext⟩

set_option maxRecDepth 100000 in
set_option maxHeartbeats 4000000 in
theorem root_any (x : IV) (a : Int) (k N : Nat) (w : World) (hx : IsI w x a) (ha : Bt a N) (hN : N ≤ 80000000) (hk1 : 1 ≤ k) (hk : k ≤ 200) (hpar : a < 0 → k % 2 = 1) :
    Calls Try.prog 37 #[.agg #[.bool x.n, .slice x.s.a x.s.len x.s.cap], .int .i64 (k : Int)] w (RetRoot w a k) := by
  obtain ⟨hl1, hl2⟩ := isI_len hx ha
  have hneg := isI_neg_iff hx
  have hlen : x.s.len ≤ 3000000 := by omega
  obtain ⟨L, hL⟩ : ∃ L, L = 32 * x.s.len / k + 1 := ⟨_, rfl⟩
  have htop := root_top (A := a.natAbs) (k := k) hl2 (by omega)
  rw [← hL] at htop
  have hLk : (L + 1) * k ≤ 16000000000 := by
    have h1 := Nat.div_mul_le_self (32 * x.s.len) k
    rw [hL, Nat.add_mul, Nat.add_mul]
    omega
  have hLb : L ≤ 96000001 := by
    have := Nat.div_le_self (32 * x.s.len) k
    omega
  have hLI : (32 * (x.s.len : Int) / (k : Int) + 1) = (L : Int) := by rw [hL]; rfl
  replace hL := hd_ hL
  replace hl1 := hd_ hl1; replace hl2 := hd_ hl2; replace htop := hd_ htop; replace hneg := hd_ hneg; replace hLk := hd_ hLk
  have V0 := ((((Vs.nil w).add' (n := w.heap.size) (vs := #[Value.bool x.n, Value.slice x.s.a x.s.len x.s.cap]) (T := 24) (by simp)).add' (n := w.heap.size + 1) (vs := #[Value.bool false, Value.slice none 0 0]) (T := 24) (by simp)).add' (n := w.heap.size + 1 + 1) (vs := #[Value.int .i64 0, Value.int .i64 0]) (T := 26) (by simp))
  replace hx := hx.keep V0.ext
  go_enter Try.func37, Try.ntmps37
  go_upto_region 1 with fail
  generalize (((w.alloc (Obj.cells #[Value.bool x.n, Value.slice x.s.a x.s.len x.s.cap] 24)).alloc (Obj.cells #[Value.bool false, Value.slice none 0 0] 24)).alloc (Obj.cells #[Value.int .i64 0, Value.int .i64 0] 26)) = W0 at *
  go_upto_region 3 with fail
  -- skip
  go_cut [29] (fun v wc => v = .bool false ∧ Vs w wc [(w.heap.size + 1 + 1, 26, #[Value.int .i64 0, Value.int .i64 0]), (w.heap.size + 1, 24, #[Value.bool false, Value.slice none 0 0]), (w.heap.size, 24, #[Value.bool x.n, Value.slice x.s.a x.s.len x.s.cap])] ∧ IsI wc x a)
  case first =>
    by_cases hlt : a < 0
    · have hs : decide (sgnZ a < 0) = true := by unfold sgnZ; rw [if_pos hlt]; decide
      have he : ((k : Int) % 2 == 0) = false := by rw [beq_eq_false_iff_ne]; have := hpar hlt; omega
      clear hpar
      replace hlt := hd_ hlt
      obtain ⟨c2_0, c2_1, c2_2, c2_3⟩ := V0.facts 2 rfl
      go_wp2_with fail
      (with_reducible refine (sign_any x a _ (hx)).mono ?_)
      rintro e W1 ⟨rfl, hxx⟩
      replace hx := hx.keep hxx
      clear c2_0 c2_1 c2_2 c2_3
      have V1 := V0.keep hxx
      clear V0 hxx
      go_wp2
      go_meet
      case rel => exact ⟨rfl, V1, hx⟩
    · -- skip
      have hs : decide (sgnZ a < 0) = false := by unfold sgnZ; rw [if_neg hlt]; split <;> decide
      clear hpar
      replace hlt := hd_ hlt
      obtain ⟨c2_0, c2_1, c2_2, c2_3⟩ := V0.facts 2 rfl
      go_wp2_with fail
      (with_reducible refine (sign_any x a _ (hx)).mono ?_)
      rintro e W1 ⟨rfl, hxx⟩
      replace hx := hx.keep hxx
      clear c2_0 c2_1 c2_2 c2_3
      have V1 := V0.keep hxx
      clear V0 hxx
      go_wp2
      go_meet
      case rel => exact ⟨rfl, V1, hx⟩
  case rest => -- skip
    clear hx V0 hpar
    obtain ⟨rfl, VC, hx⟩ := hcut
    -- skip
    go_upto_region 5 with fail
    obtain ⟨c2_0, c2_1, c2_2, c2_3⟩ := VC.facts 2 rfl
    have c2_4 := VC.lt 2 rfl
    go_wp2_with fail
    (with_reducible refine (madeAbs_any x a _ (hx)).mono ?_)
    rintro e W1 ⟨sz, rfl, hsz, hxx⟩
    replace hx := hx.keep hxx
    clear c2_0 c2_1 c2_2 c2_3 c2_4
    have V1 := VC.keep hxx
    clear VC hxx
    go_upto_region 6 with fail
    replace V1 := V1.add' (n := W1.heap.size) (vs := #[Value.bool sz.n, Value.slice sz.s.a sz.s.len sz.s.cap]) (T := 24) (by simp)
    replace hx := hx.keep ((Ext.rf _).al (Obj.cells #[Value.bool sz.n, Value.slice sz.s.a sz.s.len sz.s.cap] 24))
    replace hsz := hsz.keep ((Ext.rf _).al (Obj.cells #[Value.bool sz.n, Value.slice sz.s.a sz.s.len sz.s.cap] 24))
    generalize (W1.alloc (Obj.cells #[Value.bool sz.n, Value.slice sz.s.a sz.s.len sz.s.cap] 24)) = W2 at *
    have V2 := V1
    clear V1
    have hLI' := hLI
    obtain ⟨c2_0, c2_1, c2_2, c2_3⟩ := V2.facts 3 rfl
    have c2_4 := V2.lt 3 rfl
    go_wp2_with fail
    (refine (left_any ⟨some ⟨W2.heap.size, 0, none⟩, 1, 1⟩ [1] (L : Int) (L / 32) (L % 32) _ (isL_new rfl rfl rfl (by simp) (by intro v hv; simp only [List.mem_cons, List.not_mem_nil, or_false] at hv; subst hv; simp [Fit])) (by simp) (by omega) (by omega) (by omega)).mono ?_)
    rintro e W3 ⟨b9, l9, rfl, hown9, hlen9, hd9, hv9, hb9, hxx⟩
    replace hxx := ((Ext.rf W2).al (Obj.cells #[Value.int .u32 1] 93)).tr hxx
    replace hx := hx.keep hxx
    replace hsz := hsz.keep hxx
    (rw [two_split] at hv9; have hL9 := Own.isL hown9 (by rw [hlen9]; simp; omega) hd9; rw [hlen9] at hL9; replace hL9 := hd_ hL9; replace hv9 := hd_ hv9; clear hown9 hlen9 hd9 hb9)
    clear c2_0 c2_1 c2_2 c2_3 c2_4
    have V3 := V2.keep hxx
    clear V2 hxx
    go_wp2_with fail
    (refine (made_any false ⟨some ⟨b9, 0, none⟩, [1].length + L / 32 + 1, [1].length + L / 32 + 1⟩ l9 _ hL9.out (by rw [sg_false, hv9.out]; exact (bt_two (Nat.le_refl _)).sm (by omega))).mono ?_)
    rintro e W4 ⟨hi0, rfl, hhi0, hxx⟩
    replace hx := hx.keep hxx
    replace hsz := hsz.keep hxx
    (rw [sg_false, hv9.out] at hhi0)
    have V4 := V3.keep hxx
    clear V3 hxx
    go_wp2
    replace V4 := V4.add' (n := W4.heap.size) (vs := #[Value.bool false, Value.slice none 0 0]) (T := 24) (by simp)
    replace hx := hx.keep ((Ext.rf _).al (Obj.cells #[Value.bool false, Value.slice none 0 0] 24))
    replace hsz := hsz.keep ((Ext.rf _).al (Obj.cells #[Value.bool false, Value.slice none 0 0] 24))
    replace hhi0 := hhi0.keep ((Ext.rf _).al (Obj.cells #[Value.bool false, Value.slice none 0 0] 24))
    replace V4 := V4.add' (n := W4.heap.size + 1) (vs := #[Value.bool hi0.n, Value.slice hi0.s.a hi0.s.len hi0.s.cap]) (T := 24) (by simp)
    replace hx := hx.keep ((Ext.rf _).al (Obj.cells #[Value.bool hi0.n, Value.slice hi0.s.a hi0.s.len hi0.s.cap] 24))
    replace hsz := hsz.keep ((Ext.rf _).al (Obj.cells #[Value.bool hi0.n, Value.slice hi0.s.a hi0.s.len hi0.s.cap] 24))
    replace hhi0 := hhi0.keep ((Ext.rf _).al (Obj.cells #[Value.bool hi0.n, Value.slice hi0.s.a hi0.s.len hi0.s.cap] 24))
    generalize ((W4.alloc (Obj.cells #[Value.bool false, Value.slice none 0 0] 24)).alloc (Obj.cells #[Value.bool hi0.n, Value.slice hi0.s.a hi0.s.len hi0.s.cap] 24)) = W5 at *
    have V5 := V4
    clear V4
    clear hLI hLI'
    go_loopg [58] (2 ^ L) (fun g s58 wr => ∃ (xl xh : IV) (lo hi : Nat), Vs w wr [(W4.heap.size + 1, 24, #[Value.bool xh.n, Value.slice xh.s.a xh.s.len xh.s.cap]), (W4.heap.size, 24, #[Value.bool xl.n, Value.slice xl.s.a xl.s.len xl.s.cap]), (W1.heap.size, 24, #[Value.bool sz.n, Value.slice sz.s.a sz.s.len sz.s.cap]), (w.heap.size + 1 + 1, 26, #[Value.int .i64 0, Value.int .i64 0]), (w.heap.size + 1, 24, #[Value.bool false, Value.slice none 0 0]), (w.heap.size, 24, #[Value.bool x.n, Value.slice x.s.a x.s.len x.s.cap])] ∧ IsI wr xl (lo : Int) ∧ IsI wr xh (hi : Int) ∧ IsI wr x a ∧ IsI wr sz (a.natAbs : Int) ∧ lo < hi ∧ hi ≤ 2 ^ L ∧ lo ^ k ≤ a.natAbs ∧ a.natAbs < hi ^ k ∧ hi - lo = g)
    case atStart => exact ⟨zI, hi0, 0, 2 ^ L, V5, isI_zero _, hhi0, hx, hsz, Nat.pow_pos (by omega), Nat.le_refl _, by rw [Nat.zero_pow (by omega)]; omega, htop.out, Nat.sub_zero _⟩
    case round =>
      clear hx hsz hhi0 hL9 hv9 V5
      obtain ⟨xl, xh, lo, hi, VL, hxl, hxh, hx, hsz, hlh, hhL, hpl, hph, rfl⟩ := hrel
      have blo : Bt (lo : Int) (L + 1) := bt_two (by omega)
      have bhi : Bt (hi : Int) (L + 1) := bt_two hhL
      obtain ⟨md, hmd⟩ : ∃ md : Nat, md = (lo + hi) / 2 := ⟨_, rfl⟩
      have hmdI := hd_ (show ((lo : Int) + (hi : Int)) / 2 = (md : Int) by omega)
      have hm1 : lo ≤ md := by omega
      have hm2 : md < hi := by omega
      have hm3 : md = lo → hi = lo + 1 := by omega
      have bmd : Bt (md : Int) (L + 1) := bt_two (by omega)
      replace hmd := hd_ hmd; replace hpl := hd_ hpl; replace hph := hd_ hph; replace hhL := hd_ hhL; replace hm3 := hd_ hm3
      -- skip
      obtain ⟨c7_0, c7_1, c7_2, c7_3⟩ := VL.facts 1 rfl
      have c7_4 := VL.lt 1 rfl
      obtain ⟨c8_0, c8_1, c8_2, c8_3⟩ := VL.facts 0 rfl
      have c8_4 := VL.lt 0 rfl
      have c8_5 : W4.heap.size < wr.heap.size := by omega
      go_wp2_with fail
      (with_reducible refine (add_any xl xh (lo : Int) (hi : Int) _ (hxl) (hxh) ((blo.add bhi).sm (by omega))).mono ?_)
      rintro e W6 ⟨s7, rfl, hs7, hxx⟩
      replace hx := hx.keep hxx
      replace hsz := hsz.keep hxx
      replace hxl := hxl.keep hxx
      replace hxh := hxh.keep hxx
      clear c7_0 c7_1 c7_2 c7_3 c7_4 c8_0 c8_1 c8_2 c8_3 c8_4 c8_5
      have V6 := VL.keep hxx
      clear VL hxx
      go_wp2_with fail
      (with_reducible refine (of_any 2 _ (by omega)).mono ?_)
      rintro e W7 ⟨two, rfl, htwo, hxx⟩
      replace hx := hx.keep hxx
      replace hsz := hsz.keep hxx
      replace hxl := hxl.keep hxx
      replace hxh := hxh.keep hxx
      replace hs7 := hs7.keep hxx
      have V7 := V6.keep hxx
      clear V6 hxx
      go_wp2_with fail
      (with_reducible refine (div_any s7 two ((lo : Int) + (hi : Int)) 2 _ (hs7) (htwo) (by omega)).mono ?_)
      rintro e W8 ⟨mid, m9, rfl, hmid, hm9, hxx⟩
      replace hx := hx.keep hxx
      replace hsz := hsz.keep hxx
      replace hxl := hxl.keep hxx
      replace hxh := hxh.keep hxx
      replace hs7 := hs7.keep hxx
      replace htwo := htwo.keep hxx
      (try rw [hmdI.out] at hmid)
      have V8 := V7.keep hxx
      clear V7 hxx
      go_upto_region 8 with fail
      replace V8 := V8.add' (n := W8.heap.size) (vs := #[Value.bool mid.n, Value.slice mid.s.a mid.s.len mid.s.cap]) (T := 24) (by simp)
      replace hx := hx.keep ((Ext.rf _).al (Obj.cells #[Value.bool mid.n, Value.slice mid.s.a mid.s.len mid.s.cap] 24))
      replace hsz := hsz.keep ((Ext.rf _).al (Obj.cells #[Value.bool mid.n, Value.slice mid.s.a mid.s.len mid.s.cap] 24))
      replace hxl := hxl.keep ((Ext.rf _).al (Obj.cells #[Value.bool mid.n, Value.slice mid.s.a mid.s.len mid.s.cap] 24))
      replace hxh := hxh.keep ((Ext.rf _).al (Obj.cells #[Value.bool mid.n, Value.slice mid.s.a mid.s.len mid.s.cap] 24))
      replace hs7 := hs7.keep ((Ext.rf _).al (Obj.cells #[Value.bool mid.n, Value.slice mid.s.a mid.s.len mid.s.cap] 24))
      replace htwo := htwo.keep ((Ext.rf _).al (Obj.cells #[Value.bool mid.n, Value.slice mid.s.a mid.s.len mid.s.cap] 24))
      replace hmid := hmid.keep ((Ext.rf _).al (Obj.cells #[Value.bool mid.n, Value.slice mid.s.a mid.s.len mid.s.cap] 24))
      replace hm9 := hm9.keep ((Ext.rf _).al (Obj.cells #[Value.bool mid.n, Value.slice mid.s.a mid.s.len mid.s.cap] 24))
      replace V8 := V8.add' (n := W8.heap.size + 1) (vs := #[Value.bool m9.n, Value.slice m9.s.a m9.s.len m9.s.cap]) (T := 24) (by simp)
      replace hx := hx.keep ((Ext.rf _).al (Obj.cells #[Value.bool m9.n, Value.slice m9.s.a m9.s.len m9.s.cap] 24))
      replace hsz := hsz.keep ((Ext.rf _).al (Obj.cells #[Value.bool m9.n, Value.slice m9.s.a m9.s.len m9.s.cap] 24))
      replace hxl := hxl.keep ((Ext.rf _).al (Obj.cells #[Value.bool m9.n, Value.slice m9.s.a m9.s.len m9.s.cap] 24))
      replace hxh := hxh.keep ((Ext.rf _).al (Obj.cells #[Value.bool m9.n, Value.slice m9.s.a m9.s.len m9.s.cap] 24))
      replace hs7 := hs7.keep ((Ext.rf _).al (Obj.cells #[Value.bool m9.n, Value.slice m9.s.a m9.s.len m9.s.cap] 24))
      replace htwo := htwo.keep ((Ext.rf _).al (Obj.cells #[Value.bool m9.n, Value.slice m9.s.a m9.s.len m9.s.cap] 24))
      replace hmid := hmid.keep ((Ext.rf _).al (Obj.cells #[Value.bool m9.n, Value.slice m9.s.a m9.s.len m9.s.cap] 24))
      replace hm9 := hm9.keep ((Ext.rf _).al (Obj.cells #[Value.bool m9.n, Value.slice m9.s.a m9.s.len m9.s.cap] 24))
      replace V8 := V8.add' (n := W8.heap.size + 1 + 1) (vs := #[Value.int .i64 0, Value.int .i64 0]) (T := 26) (by simp)
      replace hx := hx.keep ((Ext.rf _).al (Obj.cells #[Value.int .i64 0, Value.int .i64 0] 26))
      replace hsz := hsz.keep ((Ext.rf _).al (Obj.cells #[Value.int .i64 0, Value.int .i64 0] 26))
      replace hxl := hxl.keep ((Ext.rf _).al (Obj.cells #[Value.int .i64 0, Value.int .i64 0] 26))
      replace hxh := hxh.keep ((Ext.rf _).al (Obj.cells #[Value.int .i64 0, Value.int .i64 0] 26))
      replace hs7 := hs7.keep ((Ext.rf _).al (Obj.cells #[Value.int .i64 0, Value.int .i64 0] 26))
      replace htwo := htwo.keep ((Ext.rf _).al (Obj.cells #[Value.int .i64 0, Value.int .i64 0] 26))
      replace hmid := hmid.keep ((Ext.rf _).al (Obj.cells #[Value.int .i64 0, Value.int .i64 0] 26))
      replace hm9 := hm9.keep ((Ext.rf _).al (Obj.cells #[Value.int .i64 0, Value.int .i64 0] 26))
      generalize (((W8.alloc (Obj.cells #[Value.bool mid.n, Value.slice mid.s.a mid.s.len mid.s.cap] 24)).alloc (Obj.cells #[Value.bool m9.n, Value.slice m9.s.a m9.s.len m9.s.cap] 24)).alloc (Obj.cells #[Value.int .i64 0, Value.int .i64 0] 26)) = W9 at *
      have V9 := V8
      clear V8
      clear hs7
      clear htwo
      obtain ⟨c9_0, c9_1, c9_2, c9_3⟩ := V9.facts 2 rfl
      obtain ⟨c7_0, c7_1, c7_2, c7_3⟩ := V9.facts 4 rfl
      go_wp2_with fail
      (with_reducible refine (cmp_any mid xl (md : Int) (lo : Int) _ (hmid) (hxl)).mono ?_)
      rintro e W10 ⟨rfl, hxx⟩
      replace hx := hx.keep hxx
      replace hsz := hsz.keep hxx
      replace hxl := hxl.keep hxx
      replace hxh := hxh.keep hxx
      replace hmid := hmid.keep hxx
      replace hm9 := hm9.keep hxx
      clear c9_0 c9_1 c9_2 c9_3 c7_0 c7_1 c7_2 c7_3
      have V10 := V9.keep hxx
      clear V9 hxx
      go_upto_if 58 with fail
      -- skip
      by_cases heq : md = lo
      · have hq : (cmpZ (md : Int) (lo : Int) == 0) = true := by rw [heq, cmpZ_eq rfl]; rfl
        have hhi := hd_ (hm3.out heq)
        replace heq := hd_ heq
        go_upto_region 9 with fail
        clear hq
        obtain ⟨c2_0, c2_1, c2_2, c2_3⟩ := V10.facts 8 rfl
        obtain ⟨c7_0, c7_1, c7_2, c7_3⟩ := V10.facts 4 rfl
        obtain ⟨c4_0, c4_1, c4_2, c4_3⟩ := V10.facts 7 rfl
        obtain ⟨c5_0, c5_1, c5_2, c5_3⟩ := V10.facts 6 rfl
        go_wp2_with fail
        (with_reducible refine (madeSg_any x.n xl (lo : Int) _ (hxl)).mono ?_)
        rintro e W11 ⟨res, rfl, hres, hxx⟩
        replace hx := hx.keep hxx
        replace hsz := hsz.keep hxx
        replace hxl := hxl.keep hxx
        replace hxh := hxh.keep hxx
        replace hmid := hmid.keep hxx
        replace hm9 := hm9.keep hxx
        clear c2_0 c2_1 c2_2 c2_3 c7_0 c7_1 c7_2 c7_3 c4_0 c4_1 c4_2 c4_3 c5_0 c5_1 c5_2 c5_3
        have V11 := V10.keep hxx
        clear V10 hxx
        obtain ⟨c4_0, c4_1, c4_2, c4_3⟩ := V11.facts 7 rfl
        obtain ⟨c5_0, c5_1, c5_2, c5_3⟩ := V11.facts 6 rfl
        go_wp2
        clear c4_0 c4_1 c4_2 c4_3 c5_0 c5_1 c5_2 c5_3
        have KI := V11.kept2 (U := 93) 7 rfl (by decide) (Value.bool res.n) (Value.slice res.s.a res.s.len res.s.cap)
        replace hx := hx.kept KI
        replace hsz := hsz.kept KI
        replace hxl := hxl.kept KI
        replace hxh := hxh.kept KI
        replace hmid := hmid.kept KI
        replace hm9 := hm9.kept KI
        replace hres := hres.kept KI
        clear KI
        replace V11 := V11.set2 7 rfl (Value.bool res.n) (Value.slice res.s.a res.s.len res.s.cap)
        dsimp only [List.set] at V11
        have KI := V11.kept2 (U := 93) 6 rfl (by decide) (Value.int .i64 0) (Value.int .i64 0)
        replace hx := hx.kept KI
        replace hsz := hsz.kept KI
        replace hxl := hxl.kept KI
        replace hxh := hxh.kept KI
        replace hmid := hmid.kept KI
        replace hm9 := hm9.kept KI
        replace hres := hres.kept KI
        clear KI
        replace V11 := V11.set2 6 rfl (Value.int .i64 0) (Value.int .i64 0)
        dsimp only [List.set] at V11
        generalize ((((W11.setCell ⟨w.heap.size + 1, 0, none⟩ (Value.bool res.n)).setCell ⟨w.heap.size + 1, 1, none⟩ (Value.slice res.s.a res.s.len res.s.cap)).setCell ⟨w.heap.size + 1 + 1, 0, none⟩ (Value.int .i64 0)).setCell ⟨w.heap.size + 1 + 1, 1, none⟩ (Value.int .i64 0)) = W12 at *
        have V12 := V11
        clear V11
        have hfin := hd_ (show sg x.n (((lo : Int).natAbs : Nat) : Int) = if a < 0 then -(lo : Int) else lo by
          have h1 := hneg.out
          unfold sg
          by_cases hlt : a < 0
          · rw [if_pos (h1.1 hlt), if_pos hlt]; omega
          · rw [if_neg (fun h => hlt (h1.2 h)), if_neg hlt]; omega)
        rw [hfin.out] at hres
        obtain ⟨r4_0, r4_1, r4_2, r4_3⟩ := V12.facts 7 rfl
        obtain ⟨r5_0, r5_1, r5_2, r5_3⟩ := V12.facts 6 rfl
        go_wp2
        refine bodyPost_ret (v := .tuple #[.agg #[Value.bool res.n, Value.slice res.s.a res.s.len res.s.cap], .agg #[Value.int .i64 0, Value.int .i64 0]]) (by simp [results, Try.results37, go_sem, r4_0, r4_1, r5_0, r5_1]) rfl ?_
        exact ⟨res, lo, rfl, hres, hpl.out, by rw [← hhi.out]; exact hph.out, V12.ext⟩
      · -- skip
        have hq : (cmpZ (md : Int) (lo : Int) == 0) = false := by rw [cmpZ_gt (by omega)]; rfl
        have hm4 : lo < md := by omega
        replace heq := hd_ heq
        go_upto_region 10 with fail
        clear hq
        obtain ⟨c9_0, c9_1, c9_2, c9_3⟩ := V10.facts 2 rfl
        have c9_4 := V10.lt 2 rfl
        go_wp2_with fail
        (with_reducible refine (pow_any mid (md : Int) k (L + 1) _ (hmid) bmd hk (by have := hLk.out; omega)).mono ?_)
        rintro e W11 ⟨pw, rfl, hpw, hxx⟩
        replace hx := hx.keep hxx
        replace hsz := hsz.keep hxx
        replace hxl := hxl.keep hxx
        replace hxh := hxh.keep hxx
        replace hmid := hmid.keep hxx
        replace hm9 := hm9.keep hxx
        clear c9_0 c9_1 c9_2 c9_3 c9_4
        have V11 := V10.keep hxx
        clear V10 hxx
        go_upto_region 11 with fail
        replace V11 := V11.add' (n := W11.heap.size) (vs := #[Value.bool pw.n, Value.slice pw.s.a pw.s.len pw.s.cap]) (T := 24) (by simp)
        replace hx := hx.keep ((Ext.rf _).al (Obj.cells #[Value.bool pw.n, Value.slice pw.s.a pw.s.len pw.s.cap] 24))
        replace hsz := hsz.keep ((Ext.rf _).al (Obj.cells #[Value.bool pw.n, Value.slice pw.s.a pw.s.len pw.s.cap] 24))
        replace hxl := hxl.keep ((Ext.rf _).al (Obj.cells #[Value.bool pw.n, Value.slice pw.s.a pw.s.len pw.s.cap] 24))
        replace hxh := hxh.keep ((Ext.rf _).al (Obj.cells #[Value.bool pw.n, Value.slice pw.s.a pw.s.len pw.s.cap] 24))
        replace hmid := hmid.keep ((Ext.rf _).al (Obj.cells #[Value.bool pw.n, Value.slice pw.s.a pw.s.len pw.s.cap] 24))
        replace hm9 := hm9.keep ((Ext.rf _).al (Obj.cells #[Value.bool pw.n, Value.slice pw.s.a pw.s.len pw.s.cap] 24))
        replace hpw := hpw.keep ((Ext.rf _).al (Obj.cells #[Value.bool pw.n, Value.slice pw.s.a pw.s.len pw.s.cap] 24))
        replace V11 := V11.add' (n := W11.heap.size + 1) (vs := #[Value.int .i64 0, Value.int .i64 0]) (T := 26) (by simp)
        replace hx := hx.keep ((Ext.rf _).al (Obj.cells #[Value.int .i64 0, Value.int .i64 0] 26))
        replace hsz := hsz.keep ((Ext.rf _).al (Obj.cells #[Value.int .i64 0, Value.int .i64 0] 26))
        replace hxl := hxl.keep ((Ext.rf _).al (Obj.cells #[Value.int .i64 0, Value.int .i64 0] 26))
        replace hxh := hxh.keep ((Ext.rf _).al (Obj.cells #[Value.int .i64 0, Value.int .i64 0] 26))
        replace hmid := hmid.keep ((Ext.rf _).al (Obj.cells #[Value.int .i64 0, Value.int .i64 0] 26))
        replace hm9 := hm9.keep ((Ext.rf _).al (Obj.cells #[Value.int .i64 0, Value.int .i64 0] 26))
        replace hpw := hpw.keep ((Ext.rf _).al (Obj.cells #[Value.int .i64 0, Value.int .i64 0] 26))
        generalize ((W11.alloc (Obj.cells #[Value.bool pw.n, Value.slice pw.s.a pw.s.len pw.s.cap] 24)).alloc (Obj.cells #[Value.int .i64 0, Value.int .i64 0] 26)) = W12 at *
        have V12 := V11
        clear V11
        obtain ⟨c12_0, c12_1, c12_2, c12_3⟩ := V12.facts 1 rfl
        obtain ⟨c6_0, c6_1, c6_2, c6_3⟩ := V12.facts 7 rfl
        go_wp2_with fail
        (with_reducible refine (cmp_any pw sz ((md : Int) ^ k) (a.natAbs : Int) _ (hpw) (hsz)).mono ?_)
        rintro e W13 ⟨rfl, hxx⟩
        replace hx := hx.keep hxx
        replace hsz := hsz.keep hxx
        replace hxl := hxl.keep hxx
        replace hxh := hxh.keep hxx
        replace hmid := hmid.keep hxx
        replace hm9 := hm9.keep hxx
        replace hpw := hpw.keep hxx
        clear c12_0 c12_1 c12_2 c12_3 c6_0 c6_1 c6_2 c6_3
        have V13 := V12.keep hxx
        clear V12 hxx
        go_upto_if 74 with fail
        rw [natPow]
        -- skip
        by_cases hle : md ^ k ≤ a.natAbs
        · have hq : cmpZ ((md ^ k : Nat) : Int) (a.natAbs : Int) ≤ 0 := by
            rcases Nat.lt_or_eq_of_le hle with h | h
            · rw [cmpZ_lt (by omega)]; omega
            · rw [cmpZ_eq (by omega)]; omega
          replace hle := hd_ hle
          go_upto_region 12 with fail
          clear hq
          obtain ⟨c9_0, c9_1, c9_2, c9_3⟩ := V13.facts 4 rfl
          obtain ⟨c7_0, c7_1, c7_2, c7_3⟩ := V13.facts 6 rfl
          go_wp2
          clear c9_0 c9_1 c9_2 c9_3 c7_0 c7_1 c7_2 c7_3
          have KI := V13.kept2 (U := 93) 6 rfl (by decide) (Value.bool mid.n) (Value.slice mid.s.a mid.s.len mid.s.cap)
          replace hx := hx.kept KI
          replace hsz := hsz.kept KI
          replace hxl := hxl.kept KI
          replace hxh := hxh.kept KI
          replace hmid := hmid.kept KI
          replace hm9 := hm9.kept KI
          replace hpw := hpw.kept KI
          clear KI
          replace V13 := V13.set2 6 rfl (Value.bool mid.n) (Value.slice mid.s.a mid.s.len mid.s.cap)
          dsimp only [List.set] at V13
          generalize ((W13.setCell ⟨W4.heap.size, 0, none⟩ (Value.bool mid.n)).setCell ⟨W4.heap.size, 1, none⟩ (Value.slice mid.s.a mid.s.len mid.s.cap)) = W14 at *
          have V14 := V13
          clear V13
          clear hxl
          go_roundg (hi - md)
          case rel => exact ⟨mid, xh, md, hi, V14.tl.tl.tl.tl.tl, hmid, hxh, hx, hsz, hm2, hhL.out, hle.out, hph.out, rfl⟩
          case measure => omega
        · -- skip
          have hq : ¬ cmpZ ((md ^ k : Nat) : Int) (a.natAbs : Int) ≤ 0 := by rw [cmpZ_gt (by omega)]; omega
          replace hle := hd_ hle
          go_upto_region 13 with fail
          clear hq
          obtain ⟨c9_0, c9_1, c9_2, c9_3⟩ := V13.facts 4 rfl
          obtain ⟨c8_0, c8_1, c8_2, c8_3⟩ := V13.facts 5 rfl
          go_wp2
          clear c9_0 c9_1 c9_2 c9_3 c8_0 c8_1 c8_2 c8_3
          have KI := V13.kept2 (U := 93) 5 rfl (by decide) (Value.bool mid.n) (Value.slice mid.s.a mid.s.len mid.s.cap)
          replace hx := hx.kept KI
          replace hsz := hsz.kept KI
          replace hxl := hxl.kept KI
          replace hxh := hxh.kept KI
          replace hmid := hmid.kept KI
          replace hm9 := hm9.kept KI
          replace hpw := hpw.kept KI
          clear KI
          replace V13 := V13.set2 5 rfl (Value.bool mid.n) (Value.slice mid.s.a mid.s.len mid.s.cap)
          dsimp only [List.set] at V13
          generalize ((W13.setCell ⟨W4.heap.size + 1, 0, none⟩ (Value.bool mid.n)).setCell ⟨W4.heap.size + 1, 1, none⟩ (Value.slice mid.s.a mid.s.len mid.s.cap)) = W14 at *
          have V14 := V13
          clear V13
          clear hxh
          go_roundg (md - lo)
          case rel => exact ⟨xl, mid, lo, md, V14.tl.tl.tl.tl.tl, hxl, hmid, hx, hsz, hm4, by have := hhL.out; omega, hpl.out, by have := hle.out; omega, rfl⟩
          case measure => omega

end Go.Proofs.Ytbbidekjbgjooaa
