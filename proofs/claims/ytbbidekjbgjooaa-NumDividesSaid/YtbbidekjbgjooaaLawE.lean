/- NumDivides: the walk. -/
import Derived.Test.YtbbidekjbgjooaaBez
import Derived.Test.YtbbidekjbgjooaaDecP
namespace Go.Proofs.Ytbbidekjbgjooaa
open Go.RowKit

theorem sgnZ_zero : sgnZ 0 = 0 := rfl

theorem bez_small {a b zu zv : Int} (hb : b ≠ 0) (h0 : 0 ≤ zu) (h1 : zu < (b.natAbs : Int) / (Int.gcd a b : Int)) (h2 : zu * a + zv * b = Int.gcd a b) : zu.natAbs ≤ b.natAbs ∧ zv.natAbs ≤ max a.natAbs 1 := by
  have hg0 : 0 < (Int.gcd a b : Int) := by
    have : Int.gcd a b ≠ 0 := fun e => hb (Int.gcd_eq_zero_iff.1 e).2
    omega
  have hle : (b.natAbs : Int) / (Int.gcd a b : Int) ≤ b.natAbs := Int.ediv_le_self _ (by omega)
  refine ⟨by omega, ?_⟩
  by_cases ha : a = 0
  · subst ha
    rw [Int.mul_zero, Int.zero_add, Int.gcd_zero_left] at h2
    have h3 := congrArg Int.natAbs h2
    rw [Int.natAbs_mul] at h3
    simp only [Int.natAbs_natCast] at h3
    have h4 : zv.natAbs * b.natAbs ≤ 1 * b.natAbs := by omega
    have := Nat.le_of_mul_le_mul_right h4 (by omega)
    omega
  · have hga : (Int.gcd a b : Int) ≤ a.natAbs := by
      have := Nat.le_of_dvd (by omega) (Int.natCast_dvd_natCast.1 (Int.dvd_natAbs.2 (Int.gcd_dvd_left a b)))
      omega
    have h3 : (zv * b).natAbs ≤ (Int.gcd a b) + zu.natAbs * a.natAbs := by
      have h4 : zv * b = (Int.gcd a b : Int) - zu * a := by omega
      rw [h4]
      have := Int.natAbs_sub_le (Int.gcd a b : Int) (zu * a)
      rw [Int.natAbs_mul, Int.natAbs_natCast] at this
      exact this
    rw [Int.natAbs_mul] at h3
    have h5 : zu.natAbs + 1 ≤ b.natAbs := by omega
    have h6 := Nat.mul_le_mul_right a.natAbs h5
    rw [Nat.add_mul, Nat.one_mul, Nat.mul_comm b.natAbs] at h6
    have h7 : zv.natAbs * b.natAbs ≤ a.natAbs * b.natAbs := by omega
    have := Nat.le_of_mul_le_mul_right h7 (by omega)
    omega

theorem lim_of {z a : Int} (h : z.natAbs ≤ max a.natAbs 1) (ha : a.natAbs < 10 ^ 1000) : z.natAbs < 10 ^ 1000 := by
  have h1 : ∀ k : Nat, 0 < k → 1 < 10 ^ k := fun k hk => Nat.one_lt_pow (by omega) (by omega)
  have h2 := h1 1000 (by omega)
  generalize (10 : Nat) ^ 1000 = p at *
  omega
theorem bt_of {z a : Int} {n : Nat} (h : z.natAbs ≤ max a.natAbs 1) (ha : Bt a n) (hn : 0 < n) : Bt z n := by
  have h1 : 1 < 2 ^ n := Nat.one_lt_pow (by omega) (by omega)
  unfold Bt at *
  omega

set_option maxRecDepth 100000 in
set_option maxHeartbeats 8000000 in
theorem divides_any (t u : List UInt8) (w : World) (ht : t.length ≤ 9223372036854775807) (hu : u.length ≤ 9223372036854775807) :
    Calls Try.prog 6 #[.string (bs t), .string (bs u)] w (fun e w' => e = .returned (.bool true) ∧ Ext w w') := by
  obtain ⟨a, hA⟩ : ∃ a, a = parseZ t := ⟨_, rfl⟩
  obtain ⟨b, hB⟩ : ∃ b, b = parseZ u := ⟨_, rfl⟩
  have BA : Bt a 4000 := by rw [hA]; exact parseZ_bt t
  have BB : Bt b 4000 := by rw [hB]; exact parseZ_bt u
  have lA := hd_ (show a.natAbs < 10 ^ 1000 by rw [hA]; exact parseZ_lt t)
  have lB := hd_ (show b.natAbs < 10 ^ 1000 by rw [hB]; exact parseZ_lt u)
  replace hA := hd_ hA; replace hB := hd_ hB
  have V0 := Vs.nil w
  go_enter Try.func6, Try.ntmps6
  go_wp2_with fail
  (with_reducible refine (parse_any t _ ht).mono ?_)
  rintro e W1 ⟨x, rfl, hx, hxx⟩
  (try rw [← hA.out] at hx)
  have V1 := V0.keep hxx
  clear V0 hxx
  go_upto_region 2 with fail
  replace V1 := V1.add' (n := W1.heap.size) (vs := #[Value.bool x.n, Value.slice x.s.a x.s.len x.s.cap]) (T := 24) (by simp)
  replace hx := hx.keep ((Ext.rf _).al (Obj.cells #[Value.bool x.n, Value.slice x.s.a x.s.len x.s.cap] 24))
  replace V1 := V1.add' (n := W1.heap.size + 1) (vs := #[Value.int .i64 (parseC t), Value.int .i64 (parseP t)]) (T := 26) (by simp)
  replace hx := hx.keep ((Ext.rf _).al (Obj.cells #[Value.int .i64 (parseC t), Value.int .i64 (parseP t)] 26))
  generalize ((W1.alloc (Obj.cells #[Value.bool x.n, Value.slice x.s.a x.s.len x.s.cap] 24)).alloc (Obj.cells #[Value.int .i64 (parseC t), Value.int .i64 (parseP t)] 26)) = W2 at *
  have V2 := V1
  clear V1
  go_wp2_with fail
  (with_reducible refine (parse_any u _ hu).mono ?_)
  rintro e W3 ⟨y, rfl, hy, hxx⟩
  replace hx := hx.keep hxx
  (try rw [← hB.out] at hy)
  have V3 := V2.keep hxx
  clear V2 hxx
  go_upto_region 3 with fail
  replace V3 := V3.add' (n := W3.heap.size) (vs := #[Value.bool y.n, Value.slice y.s.a y.s.len y.s.cap]) (T := 24) (by simp)
  replace hx := hx.keep ((Ext.rf _).al (Obj.cells #[Value.bool y.n, Value.slice y.s.a y.s.len y.s.cap] 24))
  replace hy := hy.keep ((Ext.rf _).al (Obj.cells #[Value.bool y.n, Value.slice y.s.a y.s.len y.s.cap] 24))
  replace V3 := V3.add' (n := W3.heap.size + 1) (vs := #[Value.int .i64 (parseC u), Value.int .i64 (parseP u)]) (T := 26) (by simp)
  replace hx := hx.keep ((Ext.rf _).al (Obj.cells #[Value.int .i64 (parseC u), Value.int .i64 (parseP u)] 26))
  replace hy := hy.keep ((Ext.rf _).al (Obj.cells #[Value.int .i64 (parseC u), Value.int .i64 (parseP u)] 26))
  generalize ((W3.alloc (Obj.cells #[Value.bool y.n, Value.slice y.s.a y.s.len y.s.cap] 24)).alloc (Obj.cells #[Value.int .i64 (parseC u), Value.int .i64 (parseP u)] 26)) = W4 at *
  have V4 := V3
  clear V3
  go_wp2_with fail
  (with_reducible refine (Z4.parse_any t _ ht).mono ?_)
  rintro e W5 ⟨p, rfl, hp, hxx⟩
  replace hx := hx.keep hxx
  replace hy := hy.keep hxx
  (try rw [← hA.out] at hp)
  have V5 := V4.keep hxx
  clear V4 hxx
  go_upto_region 4 with fail
  replace V5 := V5.add' (n := W5.heap.size) (vs := #[Value.bool p.n, Value.slice p.s.a p.s.len p.s.cap]) (T := 31) (by simp)
  replace hx := hx.keep ((Ext.rf _).al (Obj.cells #[Value.bool p.n, Value.slice p.s.a p.s.len p.s.cap] 31))
  replace hy := hy.keep ((Ext.rf _).al (Obj.cells #[Value.bool p.n, Value.slice p.s.a p.s.len p.s.cap] 31))
  replace hp := hp.keep ((Ext.rf _).al (Obj.cells #[Value.bool p.n, Value.slice p.s.a p.s.len p.s.cap] 31))
  replace V5 := V5.add' (n := W5.heap.size + 1) (vs := #[Value.int .i64 (parseC t), Value.int .i64 (parseP t)]) (T := 26) (by simp)
  replace hx := hx.keep ((Ext.rf _).al (Obj.cells #[Value.int .i64 (parseC t), Value.int .i64 (parseP t)] 26))
  replace hy := hy.keep ((Ext.rf _).al (Obj.cells #[Value.int .i64 (parseC t), Value.int .i64 (parseP t)] 26))
  replace hp := hp.keep ((Ext.rf _).al (Obj.cells #[Value.int .i64 (parseC t), Value.int .i64 (parseP t)] 26))
  generalize ((W5.alloc (Obj.cells #[Value.bool p.n, Value.slice p.s.a p.s.len p.s.cap] 31)).alloc (Obj.cells #[Value.int .i64 (parseC t), Value.int .i64 (parseP t)] 26)) = W6 at *
  have V6 := V5
  clear V5
  go_wp2_with fail
  (with_reducible refine (Z4.parse_any u _ hu).mono ?_)
  rintro e W7 ⟨q, rfl, hq, hxx⟩
  replace hx := hx.keep hxx
  replace hy := hy.keep hxx
  replace hp := hp.keep hxx
  (try rw [← hB.out] at hq)
  have V7 := V6.keep hxx
  clear V6 hxx
  go_upto_region 5 with fail
  replace V7 := V7.add' (n := W7.heap.size) (vs := #[Value.bool q.n, Value.slice q.s.a q.s.len q.s.cap]) (T := 31) (by simp)
  replace hx := hx.keep ((Ext.rf _).al (Obj.cells #[Value.bool q.n, Value.slice q.s.a q.s.len q.s.cap] 31))
  replace hy := hy.keep ((Ext.rf _).al (Obj.cells #[Value.bool q.n, Value.slice q.s.a q.s.len q.s.cap] 31))
  replace hp := hp.keep ((Ext.rf _).al (Obj.cells #[Value.bool q.n, Value.slice q.s.a q.s.len q.s.cap] 31))
  replace hq := hq.keep ((Ext.rf _).al (Obj.cells #[Value.bool q.n, Value.slice q.s.a q.s.len q.s.cap] 31))
  replace V7 := V7.add' (n := W7.heap.size + 1) (vs := #[Value.int .i64 (parseC u), Value.int .i64 (parseP u)]) (T := 26) (by simp)
  replace hx := hx.keep ((Ext.rf _).al (Obj.cells #[Value.int .i64 (parseC u), Value.int .i64 (parseP u)] 26))
  replace hy := hy.keep ((Ext.rf _).al (Obj.cells #[Value.int .i64 (parseC u), Value.int .i64 (parseP u)] 26))
  replace hp := hp.keep ((Ext.rf _).al (Obj.cells #[Value.int .i64 (parseC u), Value.int .i64 (parseP u)] 26))
  replace hq := hq.keep ((Ext.rf _).al (Obj.cells #[Value.int .i64 (parseC u), Value.int .i64 (parseP u)] 26))
  generalize ((W7.alloc (Obj.cells #[Value.bool q.n, Value.slice q.s.a q.s.len q.s.cap] 31)).alloc (Obj.cells #[Value.int .i64 (parseC u), Value.int .i64 (parseP u)] 26)) = W8 at *
  have V8 := V7
  clear V7
  obtain ⟨c6_0, c6_1, c6_2, c6_3⟩ := V8.facts 6 rfl
  obtain ⟨c10_0, c10_1, c10_2, c10_3⟩ := V8.facts 2 rfl
  obtain ⟨c8_0, c8_1, c8_2, c8_3⟩ := V8.facts 4 rfl
  obtain ⟨c12_0, c12_1, c12_2, c12_3⟩ := V8.facts 0 rfl
  go_wp2_with fail
  (with_reducible refine (begun_any _).mono ?_)
  rintro e W9 ⟨rfl, hxx⟩
  replace hx := hx.keep hxx
  replace hy := hy.keep hxx
  replace hp := hp.keep hxx
  replace hq := hq.keep hxx
  clear c6_0 c6_1 c6_2 c6_3 c10_0 c10_1 c10_2 c10_3 c8_0 c8_1 c8_2 c8_3 c12_0 c12_1 c12_2 c12_3
  have V9 := V8.keep hxx
  clear V8 hxx
  obtain ⟨c6_0, c6_1, c6_2, c6_3⟩ := V9.facts 6 rfl
  obtain ⟨c10_0, c10_1, c10_2, c10_3⟩ := V9.facts 2 rfl
  obtain ⟨c8_0, c8_1, c8_2, c8_3⟩ := V9.facts 4 rfl
  obtain ⟨c12_0, c12_1, c12_2, c12_3⟩ := V9.facts 0 rfl
  go_upto_region 7 with fail
  clear c6_0 c6_1 c6_2 c6_3 c10_0 c10_1 c10_2 c10_3 c8_0 c8_1 c8_2 c8_3 c12_0 c12_1 c12_2 c12_3
  -- skip
  by_cases hb0 : b = 0
  · have hs : (sgnZ b == 0) = true := by rw [hb0]; rfl
    replace hb0 := hd_ hb0
    obtain ⟨c5_0, c5_1, c5_2, c5_3⟩ := V9.facts 7 rfl
    have c5_4 := V9.lt 7 rfl
    obtain ⟨c7_0, c7_1, c7_2, c7_3⟩ := V9.facts 5 rfl
    have c7_4 := V9.lt 5 rfl
    obtain ⟨c6_0, c6_1, c6_2, c6_3⟩ := V9.facts 6 rfl
    have c6_4 := V9.lt 6 rfl
    have c6_5 : W1.heap.size < W9.heap.size := by omega
    go_wp2_with fail
    (with_reducible refine (div_zero x y _ (hb0.out ▸ (hy))).mono ?_)
    rintro e W10 ⟨dq, dr, rfl, hdq, hdr, hxx⟩
    replace hx := hx.keep hxx
    replace hy := hy.keep hxx
    replace hp := hp.keep hxx
    replace hq := hq.keep hxx
    clear c5_0 c5_1 c5_2 c5_3 c5_4 c7_0 c7_1 c7_2 c7_3 c7_4 c6_0 c6_1 c6_2 c6_3 c6_4 c6_5
    have V10 := V9.keep hxx
    clear V9 hxx
    obtain ⟨c6_0, c6_1, c6_2, c6_3⟩ := V10.facts 6 rfl
    have c6_4 := V10.lt 6 rfl
    have c6_5 : W1.heap.size < W10.heap.size := by omega
    go_upto_region 8 with fail
    clear c6_0 c6_1 c6_2 c6_3 c6_4 c6_5
    have KI := V10.kept2 (U := 93) 6 rfl (by decide) (Value.int .i64 4) (Value.int .i64 0)
    have KZ := V10.kept2 (U := 3) 6 rfl (by decide) (Value.int .i64 4) (Value.int .i64 0)
    replace hx := hx.kept KI
    replace hy := hy.kept KI
    replace hp := hp.kept KZ
    replace hq := hq.kept KZ
    replace hdq := hdq.kept KI
    replace hdr := hdr.kept KI
    clear KI KZ
    replace V10 := V10.set2 6 rfl (Value.int .i64 4) (Value.int .i64 0)
    dsimp only [List.set] at V10
    replace V10 := V10.add' (n := W10.heap.size) (vs := #[Value.bool dq.n, Value.slice dq.s.a dq.s.len dq.s.cap]) (T := 24) (by simp)
    replace hx := hx.keep ((Ext.rf _).al (Obj.cells #[Value.bool dq.n, Value.slice dq.s.a dq.s.len dq.s.cap] 24))
    replace hy := hy.keep ((Ext.rf _).al (Obj.cells #[Value.bool dq.n, Value.slice dq.s.a dq.s.len dq.s.cap] 24))
    replace hp := hp.keep ((Ext.rf _).al (Obj.cells #[Value.bool dq.n, Value.slice dq.s.a dq.s.len dq.s.cap] 24))
    replace hq := hq.keep ((Ext.rf _).al (Obj.cells #[Value.bool dq.n, Value.slice dq.s.a dq.s.len dq.s.cap] 24))
    replace hdq := hdq.keep ((Ext.rf _).al (Obj.cells #[Value.bool dq.n, Value.slice dq.s.a dq.s.len dq.s.cap] 24))
    replace hdr := hdr.keep ((Ext.rf _).al (Obj.cells #[Value.bool dq.n, Value.slice dq.s.a dq.s.len dq.s.cap] 24))
    replace V10 := V10.add' (n := W10.heap.size + 1) (vs := #[Value.bool dr.n, Value.slice dr.s.a dr.s.len dr.s.cap]) (T := 24) (by simp)
    replace hx := hx.keep ((Ext.rf _).al (Obj.cells #[Value.bool dr.n, Value.slice dr.s.a dr.s.len dr.s.cap] 24))
    replace hy := hy.keep ((Ext.rf _).al (Obj.cells #[Value.bool dr.n, Value.slice dr.s.a dr.s.len dr.s.cap] 24))
    replace hp := hp.keep ((Ext.rf _).al (Obj.cells #[Value.bool dr.n, Value.slice dr.s.a dr.s.len dr.s.cap] 24))
    replace hq := hq.keep ((Ext.rf _).al (Obj.cells #[Value.bool dr.n, Value.slice dr.s.a dr.s.len dr.s.cap] 24))
    replace hdq := hdq.keep ((Ext.rf _).al (Obj.cells #[Value.bool dr.n, Value.slice dr.s.a dr.s.len dr.s.cap] 24))
    replace hdr := hdr.keep ((Ext.rf _).al (Obj.cells #[Value.bool dr.n, Value.slice dr.s.a dr.s.len dr.s.cap] 24))
    generalize ((((W10.setCell ⟨W1.heap.size + 1, 0, none⟩ (Value.int .i64 4)).setCell ⟨W1.heap.size + 1, 1, none⟩ (Value.int .i64 0)).alloc (Obj.cells #[Value.bool dq.n, Value.slice dq.s.a dq.s.len dq.s.cap] 24)).alloc (Obj.cells #[Value.bool dr.n, Value.slice dr.s.a dr.s.len dr.s.cap] 24)) = W11 at *
    have V11 := V10
    clear V10
    obtain ⟨c9_0, c9_1, c9_2, c9_3⟩ := V11.facts 5 rfl
    have c9_4 := V11.lt 5 rfl
    obtain ⟨c11_0, c11_1, c11_2, c11_3⟩ := V11.facts 3 rfl
    have c11_4 := V11.lt 3 rfl
    obtain ⟨c10_0, c10_1, c10_2, c10_3⟩ := V11.facts 4 rfl
    have c10_4 := V11.lt 4 rfl
    have c10_5 : W5.heap.size < W11.heap.size := by omega
    go_wp2_with fail
    (with_reducible refine (Z4.div_zero p q _ (hb0.out ▸ (hq))).mono ?_)
    rintro e W12 ⟨eq, er, rfl, heq, her, hxx⟩
    replace hx := hx.keep hxx
    replace hy := hy.keep hxx
    replace hp := hp.keep hxx
    replace hq := hq.keep hxx
    replace hdq := hdq.keep hxx
    replace hdr := hdr.keep hxx
    clear c9_0 c9_1 c9_2 c9_3 c9_4 c11_0 c11_1 c11_2 c11_3 c11_4 c10_0 c10_1 c10_2 c10_3 c10_4 c10_5
    have V12 := V11.keep hxx
    clear V11 hxx
    obtain ⟨c10_0, c10_1, c10_2, c10_3⟩ := V12.facts 4 rfl
    have c10_4 := V12.lt 4 rfl
    have c10_5 : W5.heap.size < W12.heap.size := by omega
    go_upto_region 9 with fail
    clear c10_0 c10_1 c10_2 c10_3 c10_4 c10_5
    have KI := V12.kept2 (U := 93) 4 rfl (by decide) (Value.int .i64 4) (Value.int .i64 0)
    have KZ := V12.kept2 (U := 3) 4 rfl (by decide) (Value.int .i64 4) (Value.int .i64 0)
    replace hx := hx.kept KI
    replace hy := hy.kept KI
    replace hp := hp.kept KZ
    replace hq := hq.kept KZ
    replace hdq := hdq.kept KI
    replace hdr := hdr.kept KI
    replace heq := heq.kept KZ
    replace her := her.kept KZ
    clear KI KZ
    replace V12 := V12.set2 4 rfl (Value.int .i64 4) (Value.int .i64 0)
    dsimp only [List.set] at V12
    replace V12 := V12.add' (n := W12.heap.size) (vs := #[Value.bool eq.n, Value.slice eq.s.a eq.s.len eq.s.cap]) (T := 31) (by simp)
    replace hx := hx.keep ((Ext.rf _).al (Obj.cells #[Value.bool eq.n, Value.slice eq.s.a eq.s.len eq.s.cap] 31))
    replace hy := hy.keep ((Ext.rf _).al (Obj.cells #[Value.bool eq.n, Value.slice eq.s.a eq.s.len eq.s.cap] 31))
    replace hp := hp.keep ((Ext.rf _).al (Obj.cells #[Value.bool eq.n, Value.slice eq.s.a eq.s.len eq.s.cap] 31))
    replace hq := hq.keep ((Ext.rf _).al (Obj.cells #[Value.bool eq.n, Value.slice eq.s.a eq.s.len eq.s.cap] 31))
    replace hdq := hdq.keep ((Ext.rf _).al (Obj.cells #[Value.bool eq.n, Value.slice eq.s.a eq.s.len eq.s.cap] 31))
    replace hdr := hdr.keep ((Ext.rf _).al (Obj.cells #[Value.bool eq.n, Value.slice eq.s.a eq.s.len eq.s.cap] 31))
    replace heq := heq.keep ((Ext.rf _).al (Obj.cells #[Value.bool eq.n, Value.slice eq.s.a eq.s.len eq.s.cap] 31))
    replace her := her.keep ((Ext.rf _).al (Obj.cells #[Value.bool eq.n, Value.slice eq.s.a eq.s.len eq.s.cap] 31))
    replace V12 := V12.add' (n := W12.heap.size + 1) (vs := #[Value.bool er.n, Value.slice er.s.a er.s.len er.s.cap]) (T := 31) (by simp)
    replace hx := hx.keep ((Ext.rf _).al (Obj.cells #[Value.bool er.n, Value.slice er.s.a er.s.len er.s.cap] 31))
    replace hy := hy.keep ((Ext.rf _).al (Obj.cells #[Value.bool er.n, Value.slice er.s.a er.s.len er.s.cap] 31))
    replace hp := hp.keep ((Ext.rf _).al (Obj.cells #[Value.bool er.n, Value.slice er.s.a er.s.len er.s.cap] 31))
    replace hq := hq.keep ((Ext.rf _).al (Obj.cells #[Value.bool er.n, Value.slice er.s.a er.s.len er.s.cap] 31))
    replace hdq := hdq.keep ((Ext.rf _).al (Obj.cells #[Value.bool er.n, Value.slice er.s.a er.s.len er.s.cap] 31))
    replace hdr := hdr.keep ((Ext.rf _).al (Obj.cells #[Value.bool er.n, Value.slice er.s.a er.s.len er.s.cap] 31))
    replace heq := heq.keep ((Ext.rf _).al (Obj.cells #[Value.bool er.n, Value.slice er.s.a er.s.len er.s.cap] 31))
    replace her := her.keep ((Ext.rf _).al (Obj.cells #[Value.bool er.n, Value.slice er.s.a er.s.len er.s.cap] 31))
    generalize ((((W12.setCell ⟨W5.heap.size + 1, 0, none⟩ (Value.int .i64 4)).setCell ⟨W5.heap.size + 1, 1, none⟩ (Value.int .i64 0)).alloc (Obj.cells #[Value.bool eq.n, Value.slice eq.s.a eq.s.len eq.s.cap] 31)).alloc (Obj.cells #[Value.bool er.n, Value.slice er.s.a er.s.len er.s.cap] 31)) = W13 at *
    have V13 := V12
    clear V12
    obtain ⟨c9_0, c9_1, c9_2, c9_3⟩ := V13.facts 7 rfl
    have c9_4 := V13.lt 7 rfl
    obtain ⟨c11_0, c11_1, c11_2, c11_3⟩ := V13.facts 5 rfl
    have c11_4 := V13.lt 5 rfl
    go_wp2_with fail
    (with_reducible refine (Z4.gcd_any p q a b _ (hp) (hq) (BA.mono (by omega)) (BB.mono (by omega))).mono ?_)
    rintro e W14 ⟨top, rfl, htop, hxx⟩
    replace hx := hx.keep hxx
    replace hy := hy.keep hxx
    replace hp := hp.keep hxx
    replace hq := hq.keep hxx
    replace hdq := hdq.keep hxx
    replace hdr := hdr.keep hxx
    replace heq := heq.keep hxx
    replace her := her.keep hxx
    clear c9_0 c9_1 c9_2 c9_3 c9_4 c11_0 c11_1 c11_2 c11_3 c11_4
    have V14 := V13.keep hxx
    clear V13 hxx
    go_upto_region 10 with fail
    replace V14 := V14.add' (n := W14.heap.size) (vs := #[Value.bool top.n, Value.slice top.s.a top.s.len top.s.cap]) (T := 31) (by simp)
    replace hx := hx.keep ((Ext.rf _).al (Obj.cells #[Value.bool top.n, Value.slice top.s.a top.s.len top.s.cap] 31))
    replace hy := hy.keep ((Ext.rf _).al (Obj.cells #[Value.bool top.n, Value.slice top.s.a top.s.len top.s.cap] 31))
    replace hp := hp.keep ((Ext.rf _).al (Obj.cells #[Value.bool top.n, Value.slice top.s.a top.s.len top.s.cap] 31))
    replace hq := hq.keep ((Ext.rf _).al (Obj.cells #[Value.bool top.n, Value.slice top.s.a top.s.len top.s.cap] 31))
    replace hdq := hdq.keep ((Ext.rf _).al (Obj.cells #[Value.bool top.n, Value.slice top.s.a top.s.len top.s.cap] 31))
    replace hdr := hdr.keep ((Ext.rf _).al (Obj.cells #[Value.bool top.n, Value.slice top.s.a top.s.len top.s.cap] 31))
    replace heq := heq.keep ((Ext.rf _).al (Obj.cells #[Value.bool top.n, Value.slice top.s.a top.s.len top.s.cap] 31))
    replace her := her.keep ((Ext.rf _).al (Obj.cells #[Value.bool top.n, Value.slice top.s.a top.s.len top.s.cap] 31))
    replace htop := htop.keep ((Ext.rf _).al (Obj.cells #[Value.bool top.n, Value.slice top.s.a top.s.len top.s.cap] 31))
    generalize (W14.alloc (Obj.cells #[Value.bool top.n, Value.slice top.s.a top.s.len top.s.cap] 31)) = W15 at *
    have V15 := V14
    clear V14
    (try go_upto_region 10 with fail)
    obtain ⟨c6_0, c6_1, c6_2, c6_3⟩ := V15.facts 11 rfl
    obtain ⟨c10_0, c10_1, c10_2, c10_3⟩ := V15.facts 7 rfl
    obtain ⟨c13_0, c13_1, c13_2, c13_3⟩ := V15.facts 4 rfl
    obtain ⟨c15_0, c15_1, c15_2, c15_3⟩ := V15.facts 2 rfl
    obtain ⟨c14_0, c14_1, c14_2, c14_3⟩ := V15.facts 3 rfl
    obtain ⟨c16_0, c16_1, c16_2, c16_3⟩ := V15.facts 1 rfl
    obtain ⟨c5_0, c5_1, c5_2, c5_3⟩ := V15.facts 12 rfl
    obtain ⟨c7_0, c7_1, c7_2, c7_3⟩ := V15.facts 10 rfl
    obtain ⟨c17_0, c17_1, c17_2, c17_3⟩ := V15.facts 0 rfl
    have HS := hd_ (show ∀ W', Ext W15 W' → Cs W' [(W1.heap.size + 1, 0, Value.int .i64 4), (W1.heap.size + 1, 1, Value.int .i64 0), (W5.heap.size + 1, 0, Value.int .i64 4), (W5.heap.size + 1, 1, Value.int .i64 0), (W10.heap.size, 0, Value.bool dq.n), (W10.heap.size, 1, Value.slice dq.s.a dq.s.len dq.s.cap), (W12.heap.size, 0, Value.bool eq.n), (W12.heap.size, 1, Value.slice eq.s.a eq.s.len eq.s.cap), (W10.heap.size + 1, 0, Value.bool dr.n), (W10.heap.size + 1, 1, Value.slice dr.s.a dr.s.len dr.s.cap), (W12.heap.size + 1, 0, Value.bool er.n), (W12.heap.size + 1, 1, Value.slice er.s.a er.s.len er.s.cap), (W1.heap.size, 0, Value.bool x.n), (W1.heap.size, 1, Value.slice x.s.a x.s.len x.s.cap), (W3.heap.size, 0, Value.bool y.n), (W3.heap.size, 1, Value.slice y.s.a y.s.len y.s.cap), (W14.heap.size, 0, Value.bool top.n), (W14.heap.size, 1, Value.slice top.s.a top.s.len top.s.cap)] from fun W' hW => by simp only [cs_cons, cs_nil]; exact ⟨cell_later hW c6_0, cell_later hW c6_1, cell_later hW c10_0, cell_later hW c10_1, cell_later hW c13_0, cell_later hW c13_1, cell_later hW c15_0, cell_later hW c15_1, cell_later hW c14_0, cell_later hW c14_1, cell_later hW c16_0, cell_later hW c16_1, cell_later hW c5_0, cell_later hW c5_1, cell_later hW c7_0, cell_later hW c7_1, cell_later hW c17_0, cell_later hW c17_1, trivial⟩)
    clear c6_0 c6_1 c6_2 c6_3 c10_0 c10_1 c10_2 c10_3 c13_0 c13_1 c13_2 c13_3 c15_0 c15_1 c15_2 c15_3 c14_0 c14_1 c14_2 c14_3 c16_0 c16_1 c16_2 c16_3 c5_0 c5_1 c5_2 c5_3 c7_0 c7_1 c7_2 c7_3 c17_0 c17_1 c17_2 c17_3
    refine wpG_begin (S := (fun w' => Cs w' [(W1.heap.size + 1, 0, Value.int .i64 4), (W1.heap.size + 1, 1, Value.int .i64 0), (W5.heap.size + 1, 0, Value.int .i64 4), (W5.heap.size + 1, 1, Value.int .i64 0), (W10.heap.size, 0, Value.bool dq.n), (W10.heap.size, 1, Value.slice dq.s.a dq.s.len dq.s.cap), (W12.heap.size, 0, Value.bool eq.n), (W12.heap.size, 1, Value.slice eq.s.a eq.s.len eq.s.cap), (W10.heap.size + 1, 0, Value.bool dr.n), (W10.heap.size + 1, 1, Value.slice dr.s.a dr.s.len dr.s.cap), (W12.heap.size + 1, 0, Value.bool er.n), (W12.heap.size + 1, 1, Value.slice er.s.a er.s.len er.s.cap), (W1.heap.size, 0, Value.bool x.n), (W1.heap.size, 1, Value.slice x.s.a x.s.len x.s.cap), (W3.heap.size, 0, Value.bool y.n), (W3.heap.size, 1, Value.slice y.s.a y.s.len y.s.cap), (W14.heap.size, 0, Value.bool top.n), (W14.heap.size, 1, Value.slice top.s.a top.s.len top.s.cap)])) (fun _ => True) (fun _ => True) 99 98 (by kernel_rfl) (fun WX hWX => ?_) (fun WX hWX hHeld => ?_)
    · exact ⟨HS.out _ hWX, trivial, trivial⟩
    have hE := hWX
    refine wpG_take (i := 0) (oi := _) (v := ?_) rfl (by kernel_rfl) (by kernel_rfl) (by kernel_rfl) (by decide) (by decide) (fun _ _ _ h => h) (Or.inl ⟨by rfl, ?_⟩) hHeld ?_
    rotate_left
    · intro w hSw; (try dsimp only at hSw); (try simp only [cs_cons, cs_nil, and_true] at hSw); go_simp; (try with_reducible rfl)
    (try dsimp only [List.getElem_toArray, List.getElem_cons_zero, List.getElem_cons_succ]); (try simp only [Act.put, List.setIfInBounds_toArray, List.set_cons_zero, List.set_cons_succ])
    replace hHeld := hHeld.more 0
    refine wpG_take (i := 1) (oi := _) (v := ?_) rfl (by kernel_rfl) (by kernel_rfl) (by kernel_rfl) (by decide) (by decide) (fun _ _ _ h => h) (Or.inl ⟨by rfl, ?_⟩) hHeld ?_
    rotate_left
    · intro w hSw; (try dsimp only at hSw); (try simp only [cs_cons, cs_nil, and_true] at hSw); go_simp; (try with_reducible rfl)
    (try dsimp only [List.getElem_toArray, List.getElem_cons_zero, List.getElem_cons_succ]); (try simp only [Act.put, List.setIfInBounds_toArray, List.set_cons_zero, List.set_cons_succ])
    replace hHeld := hHeld.more 1
    refine wpG_take (i := 2) (oi := _) (v := ?_) rfl (by kernel_rfl) (by kernel_rfl) (by kernel_rfl) (by decide) (by decide) (fun _ _ _ h => h) (Or.inl ⟨by rfl, ?_⟩) hHeld ?_
    rotate_left
    · intro w hSw; (try dsimp only at hSw); (try simp only [cs_cons, cs_nil, and_true] at hSw); go_simp; (try with_reducible rfl)
    (try dsimp only [List.getElem_toArray, List.getElem_cons_zero, List.getElem_cons_succ]); (try simp only [Act.put, List.setIfInBounds_toArray, List.set_cons_zero, List.set_cons_succ])
    replace hHeld := hHeld.more 2
    refine wpG_take (i := 3) (oi := _) (v := ?_) rfl (by kernel_rfl) (by kernel_rfl) (by kernel_rfl) (by decide) (by decide) (fun _ _ _ h => h) (Or.inl ⟨by rfl, ?_⟩) hHeld ?_
    rotate_left
    · intro w hSw; (try dsimp only at hSw); (try simp only [cs_cons, cs_nil, and_true] at hSw); go_simp; (try with_reducible rfl)
    (try dsimp only [List.getElem_toArray, List.getElem_cons_zero, List.getElem_cons_succ]); (try simp only [Act.put, List.setIfInBounds_toArray, List.set_cons_zero, List.set_cons_succ])
    replace hHeld := hHeld.more 3
    refine wpG_take (i := 4) (oi := _) (v := ?_) rfl (by kernel_rfl) (by kernel_rfl) (by kernel_rfl) (by decide) (by decide) (fun _ _ _ h => h) (Or.inl ⟨by rfl, ?_⟩) hHeld ?_
    rotate_left
    · intro w hSw; (try dsimp only at hSw); (try simp only [cs_cons, cs_nil, and_true] at hSw); go_simp; (try with_reducible rfl)
    (try dsimp only [List.getElem_toArray, List.getElem_cons_zero, List.getElem_cons_succ]); (try simp only [Act.put, List.setIfInBounds_toArray, List.set_cons_zero, List.set_cons_succ])
    replace hHeld := hHeld.more 4
    refine wpG_take (i := 6) (oi := _) (v := ?_) rfl (by kernel_rfl) (by kernel_rfl) (by kernel_rfl) (by decide) (by decide) (fun _ _ _ h => h) (Or.inl ⟨by rfl, ?_⟩) hHeld ?_
    rotate_left
    · intro w hSw; (try dsimp only at hSw); (try simp only [cs_cons, cs_nil, and_true] at hSw); go_simp; (try with_reducible rfl)
    (try dsimp only [List.getElem_toArray, List.getElem_cons_zero, List.getElem_cons_succ]); (try simp only [Act.put, List.setIfInBounds_toArray, List.set_cons_zero, List.set_cons_succ])
    replace hHeld := hHeld.more 6
    refine wpG_step (i := 5) (o := _) (by kernel_rfl) rfl (fun K hK => ?_)
    go_simp
    (go_at_call 14; ((with_reducible refine (text_any dq 0 _ (hdq.keep hE)).mono ?_); rintro e w' ⟨rfl, hxx⟩))
    replace hE := hE.tr hxx
    (try go_wp2_with fail)
    refine hK.out _ _ ⟨HS.out _ hE, fun _ => trivial, fun _ => trivial⟩ (fun hHeld' => ?_)
    clear hHeld
    have hHeld := hHeld'
    clear hHeld'
    clear hK K
    (try dsimp only [List.getElem_toArray, List.getElem_cons_zero, List.getElem_cons_succ]); (try simp only [Act.put, List.setIfInBounds_toArray, List.set_cons_zero, List.set_cons_succ])
    refine wpG_step (i := 7) (o := _) (by kernel_rfl) rfl (fun K hK => ?_)
    go_simp
    (go_at_call 15; ((with_reducible refine (Z4.text_any eq 0 _ (heq.keep hE)).mono ?_); rintro e w' ⟨rfl, hxx⟩))
    replace hE := hE.tr hxx
    (try go_wp2_with fail)
    refine hK.out _ _ ⟨HS.out _ hE, fun _ => trivial, fun _ => trivial⟩ (fun hHeld' => ?_)
    clear hHeld
    have hHeld := hHeld'
    clear hHeld'
    clear hK K
    (try dsimp only [List.getElem_toArray, List.getElem_cons_zero, List.getElem_cons_succ]); (try simp only [Act.put, List.setIfInBounds_toArray, List.set_cons_zero, List.set_cons_succ])
    refine wpG_take (i := 8) (oi := _) (v := ?_) rfl (by kernel_rfl) (by kernel_rfl) (by kernel_rfl) (by decide) (by decide) (fun _ _ _ h => h) (Or.inl ⟨by rfl, ?_⟩) hHeld ?_
    rotate_left
    · intro w hSw; (try dsimp only at hSw); (try simp only [cs_cons, cs_nil, and_true] at hSw); go_simp; (try with_reducible rfl)
    (try dsimp only [List.getElem_toArray, List.getElem_cons_zero, List.getElem_cons_succ]); (try simp only [Act.put, List.setIfInBounds_toArray, List.set_cons_zero, List.set_cons_succ])
    replace hHeld := hHeld.more 8
    refine wpG_take (i := 9) (oi := _) (v := ?_) rfl (by kernel_rfl) (by kernel_rfl) (by kernel_rfl) (by decide) (by decide) (fun _ _ _ h => h) (Or.inl ⟨by rfl, ?_⟩) hHeld ?_
    rotate_left
    · intro w hSw; (try dsimp only at hSw); (try simp only [cs_cons, cs_nil, and_true] at hSw); go_simp; (try with_reducible rfl)
    (try dsimp only [List.getElem_toArray, List.getElem_cons_zero, List.getElem_cons_succ]); (try simp only [Act.put, List.setIfInBounds_toArray, List.set_cons_zero, List.set_cons_succ])
    replace hHeld := hHeld.more 9
    refine wpG_take (i := 10) (oi := _) (v := ?_) rfl (by kernel_rfl) (by kernel_rfl) (by kernel_rfl) (by decide) (by decide) (fun _ _ _ h => h) (Or.inl ⟨by rfl, ?_⟩) hHeld ?_
    rotate_left
    · intro w hSw; (try dsimp only at hSw); (try simp only [cs_cons, cs_nil, and_true] at hSw); go_simp; (try with_reducible rfl)
    (try dsimp only [List.getElem_toArray, List.getElem_cons_zero, List.getElem_cons_succ]); (try simp only [Act.put, List.setIfInBounds_toArray, List.set_cons_zero, List.set_cons_succ])
    replace hHeld := hHeld.more 10
    refine wpG_take (i := 11) (oi := _) (v := ?_) rfl (by kernel_rfl) (by kernel_rfl) (by kernel_rfl) (by decide) (by decide) (fun _ _ _ h => h) (Or.inl ⟨by rfl, ?_⟩) hHeld ?_
    rotate_left
    · intro w hSw; (try dsimp only at hSw); (try simp only [cs_cons, cs_nil, and_true] at hSw); go_simp; (try with_reducible rfl)
    (try dsimp only [List.getElem_toArray, List.getElem_cons_zero, List.getElem_cons_succ]); (try simp only [Act.put, List.setIfInBounds_toArray, List.set_cons_zero, List.set_cons_succ])
    replace hHeld := hHeld.more 11
    refine wpG_take (i := 13) (oi := _) (v := ?_) rfl (by kernel_rfl) (by kernel_rfl) (by kernel_rfl) (by decide) (by decide) (fun _ _ _ h => h) (Or.inl ⟨by rfl, ?_⟩) hHeld ?_
    rotate_left
    · intro w hSw; (try dsimp only at hSw); (try simp only [cs_cons, cs_nil, and_true] at hSw); go_simp; (try with_reducible rfl)
    (try dsimp only [List.getElem_toArray, List.getElem_cons_zero, List.getElem_cons_succ]); (try simp only [Act.put, List.setIfInBounds_toArray, List.set_cons_zero, List.set_cons_succ])
    replace hHeld := hHeld.more 13
    refine wpG_step (i := 12) (o := _) (by kernel_rfl) rfl (fun K hK => ?_)
    go_simp
    (go_at_call 14; ((with_reducible refine (text_any dr 0 _ (hdr.keep hE)).mono ?_); rintro e w' ⟨rfl, hxx⟩))
    replace hE := hE.tr hxx
    (try go_wp2_with fail)
    refine hK.out _ _ ⟨HS.out _ hE, fun _ => trivial, fun _ => trivial⟩ (fun hHeld' => ?_)
    clear hHeld
    have hHeld := hHeld'
    clear hHeld'
    clear hK K
    (try dsimp only [List.getElem_toArray, List.getElem_cons_zero, List.getElem_cons_succ]); (try simp only [Act.put, List.setIfInBounds_toArray, List.set_cons_zero, List.set_cons_succ])
    refine wpG_step (i := 14) (o := _) (by kernel_rfl) rfl (fun K hK => ?_)
    go_simp
    (go_at_call 15; ((with_reducible refine (Z4.text_any er 0 _ (her.keep hE)).mono ?_); rintro e w' ⟨rfl, hxx⟩))
    replace hE := hE.tr hxx
    (try go_wp2_with fail)
    refine hK.out _ _ ⟨HS.out _ hE, fun _ => trivial, fun _ => trivial⟩ (fun hHeld' => ?_)
    clear hHeld
    have hHeld := hHeld'
    clear hHeld'
    clear hK K
    (try dsimp only [List.getElem_toArray, List.getElem_cons_zero, List.getElem_cons_succ]); (try simp only [Act.put, List.setIfInBounds_toArray, List.set_cons_zero, List.set_cons_succ])
    refine wpG_take (i := 15) (oi := _) (v := ?_) rfl (by kernel_rfl) (by kernel_rfl) (by kernel_rfl) (by decide) (by decide) (fun _ _ _ h => h) (Or.inl ⟨by rfl, ?_⟩) hHeld ?_
    rotate_left
    · intro w hSw; (try dsimp only at hSw); (try simp only [cs_cons, cs_nil, and_true] at hSw); go_simp; (try with_reducible rfl)
    (try dsimp only [List.getElem_toArray, List.getElem_cons_zero, List.getElem_cons_succ]); (try simp only [Act.put, List.setIfInBounds_toArray, List.set_cons_zero, List.set_cons_succ])
    replace hHeld := hHeld.more 15
    refine wpG_take (i := 16) (oi := _) (v := ?_) rfl (by kernel_rfl) (by kernel_rfl) (by kernel_rfl) (by decide) (by decide) (fun _ _ _ h => h) (Or.inl ⟨by rfl, ?_⟩) hHeld ?_
    rotate_left
    · intro w hSw; (try dsimp only at hSw); (try simp only [cs_cons, cs_nil, and_true] at hSw); go_simp; (try with_reducible rfl)
    (try dsimp only [List.getElem_toArray, List.getElem_cons_zero, List.getElem_cons_succ]); (try simp only [Act.put, List.setIfInBounds_toArray, List.set_cons_zero, List.set_cons_succ])
    replace hHeld := hHeld.more 16
    refine wpG_take (i := 17) (oi := _) (v := ?_) rfl (by kernel_rfl) (by kernel_rfl) (by kernel_rfl) (by decide) (by decide) (fun _ _ _ h => h) (Or.inl ⟨by rfl, ?_⟩) hHeld ?_
    rotate_left
    · intro w hSw; (try dsimp only at hSw); (try simp only [cs_cons, cs_nil, and_true] at hSw); go_simp; (try with_reducible rfl)
    (try dsimp only [List.getElem_toArray, List.getElem_cons_zero, List.getElem_cons_succ]); (try simp only [Act.put, List.setIfInBounds_toArray, List.set_cons_zero, List.set_cons_succ])
    replace hHeld := hHeld.more 17
    refine wpG_take (i := 18) (oi := _) (v := ?_) rfl (by kernel_rfl) (by kernel_rfl) (by kernel_rfl) (by decide) (by decide) (fun _ _ _ h => h) (Or.inl ⟨by rfl, ?_⟩) hHeld ?_
    rotate_left
    · intro w hSw; (try dsimp only at hSw); (try simp only [cs_cons, cs_nil, and_true] at hSw); go_simp; (try with_reducible rfl)
    (try dsimp only [List.getElem_toArray, List.getElem_cons_zero, List.getElem_cons_succ]); (try simp only [Act.put, List.setIfInBounds_toArray, List.set_cons_zero, List.set_cons_succ])
    replace hHeld := hHeld.more 18
    refine wpG_take (i := 19) (oi := _) (v := ?_) rfl (by kernel_rfl) (by kernel_rfl) (by kernel_rfl) (by decide) (by decide) (fun _ _ _ h => h) (Or.inl ⟨by rfl, ?_⟩) hHeld ?_
    rotate_left
    · intro w hSw; (try dsimp only at hSw); (try simp only [cs_cons, cs_nil, and_true] at hSw); go_simp; (try with_reducible rfl)
    (try dsimp only [List.getElem_toArray, List.getElem_cons_zero, List.getElem_cons_succ]); (try simp only [Act.put, List.setIfInBounds_toArray, List.set_cons_zero, List.set_cons_succ])
    replace hHeld := hHeld.more 19
    refine wpG_take (i := 22) (oi := _) (v := ?_) rfl (by kernel_rfl) (by kernel_rfl) (by kernel_rfl) (by decide) (by decide) (fun _ _ _ h => h) (Or.inl ⟨by rfl, ?_⟩) hHeld ?_
    rotate_left
    · intro w hSw; (try dsimp only at hSw); (try simp only [cs_cons, cs_nil, and_true] at hSw); go_simp; (try with_reducible rfl)
    (try dsimp only [List.getElem_toArray, List.getElem_cons_zero, List.getElem_cons_succ]); (try simp only [Act.put, List.setIfInBounds_toArray, List.set_cons_zero, List.set_cons_succ])
    replace hHeld := hHeld.more 22
    refine wpG_step (i := 20) (o := _) (by kernel_rfl) rfl (fun K hK => ?_)
    go_simp
    (go_at_call 30; ((with_reducible refine (gcd_any x y a b _ (hx.keep hE) (hy.keep hE)).mono ?_); rintro e w' ⟨g1, rfl, hg1, hxx⟩))
    replace hE := hE.tr hxx
    (try go_wp2_with fail)
    refine hK.out _ _ ⟨HS.out _ hE, fun _ => trivial, fun _ => trivial⟩ (fun hHeld' => ?_)
    clear hHeld
    have hHeld := hHeld'
    clear hHeld'
    clear hK K
    (try dsimp only [List.getElem_toArray, List.getElem_cons_zero, List.getElem_cons_succ]); (try simp only [Act.put, List.setIfInBounds_toArray, List.set_cons_zero, List.set_cons_succ])
    refine wpG_step (i := 21) (o := _) (by kernel_rfl) rfl (fun K hK => ?_)
    go_simp
    (go_at_call 14; ((with_reducible refine (text_any g1 (Int.gcd a b : Int) _ hg1).mono ?_); rintro e w' ⟨rfl, hxx⟩))
    replace hg1 := hg1.keep hxx
    replace hE := hE.tr hxx
    (try go_wp2_with fail)
    refine hK.out _ _ ⟨HS.out _ hE, fun _ => trivial, fun _ => trivial⟩ (fun hHeld' => ?_)
    clear hHeld
    have hHeld := hHeld'
    clear hHeld'
    clear hK K
    (try dsimp only [List.getElem_toArray, List.getElem_cons_zero, List.getElem_cons_succ]); (try simp only [Act.put, List.setIfInBounds_toArray, List.set_cons_zero, List.set_cons_succ])
    refine wpG_step (i := 23) (o := _) (by kernel_rfl) rfl (fun K hK => ?_)
    go_simp
    (go_at_call 15; ((with_reducible refine (Z4.text_any top (Int.gcd a b : Int) _ (htop.keep hE)).mono ?_); rintro e w' ⟨rfl, hxx⟩))
    replace hg1 := hg1.keep hxx
    replace hE := hE.tr hxx
    (try go_wp2_with fail)
    refine hK.out _ _ ⟨HS.out _ hE, fun _ => trivial, fun _ => trivial⟩ (fun hHeld' => ?_)
    clear hHeld
    have hHeld := hHeld'
    clear hHeld'
    clear hK K
    (try dsimp only [List.getElem_toArray, List.getElem_cons_zero, List.getElem_cons_succ]); (try simp only [Act.put, List.setIfInBounds_toArray, List.set_cons_zero, List.set_cons_succ])
    refine wpG_take (i := 24) (oi := _) (v := ?_) rfl (by kernel_rfl) (by kernel_rfl) (by kernel_rfl) (by decide) (by decide) (fun _ _ _ h => h) (Or.inl ⟨by rfl, ?_⟩) hHeld ?_
    rotate_left
    · intro w hSw; (try dsimp only at hSw); (try simp only [cs_cons, cs_nil, and_true] at hSw); go_simp; (try with_reducible rfl)
    (try dsimp only [List.getElem_toArray, List.getElem_cons_zero, List.getElem_cons_succ]); (try simp only [Act.put, List.setIfInBounds_toArray, List.set_cons_zero, List.set_cons_succ])
    replace hHeld := hHeld.more 24
    refine wpG_take (i := 25) (oi := _) (v := ?_) rfl (by kernel_rfl) (by kernel_rfl) (by kernel_rfl) (by decide) (by decide) (fun _ _ _ h => h) (Or.inl ⟨by rfl, ?_⟩) hHeld ?_
    rotate_left
    · intro w hSw; (try dsimp only at hSw); (try simp only [cs_cons, cs_nil, and_true] at hSw); go_simp; (try with_reducible rfl)
    (try dsimp only [List.getElem_toArray, List.getElem_cons_zero, List.getElem_cons_succ]); (try simp only [Act.put, List.setIfInBounds_toArray, List.set_cons_zero, List.set_cons_succ])
    replace hHeld := hHeld.more 25
    refine wpG_done (by kernel_rfl) ?_ _
    clear hHeld HS
    have V16 := V15.keep hE
    clear V15
    replace hx := hx.keep hE
    replace hy := hy.keep hE
    replace hp := hp.keep hE
    replace hq := hq.keep hE
    replace hdq := hdq.keep hE
    replace hdr := hdr.keep hE
    replace heq := heq.keep hE
    replace her := her.keep hE
    replace htop := htop.keep hE
    clear hE
    (try clear hxx)
    (try clear hWX)
    generalize w' = W16 at *
    clear hg1
    have BS := bt_i64 (sgnZ_i64 a)
    have hlS : (sgnZ a).natAbs ≤ max b.natAbs 1 := by unfold sgnZ; (repeat' split) <;> omega
    have PU := hd_ (parse_of_dec (lim_of hlS lB.out))
    have PV := hd_ (parse_of_dec (z := 0) (by exact p10pos 1000))
    clear hlS
    obtain ⟨c5_0, c5_1, c5_2, c5_3⟩ := V16.facts 12 rfl
    have c5_4 := V16.lt 12 rfl
    obtain ⟨c7_0, c7_1, c7_2, c7_3⟩ := V16.facts 10 rfl
    have c7_4 := V16.lt 10 rfl
    go_wp2_with fail
    (with_reducible refine (bezout_any x y a b 4000 _ (hx) (hy) BA BB (by omega)).mono ?_)
    rintro e W17 ⟨gg, uu, vv, zuu, zvv, rfl, hgg, huu, hvv, hxx, hbz1, hbz2⟩
    replace hx := hx.keep hxx
    replace hy := hy.keep hxx
    replace hp := hp.keep hxx
    replace hq := hq.keep hxx
    replace hdq := hdq.keep hxx
    replace hdr := hdr.keep hxx
    replace heq := heq.keep hxx
    replace her := her.keep hxx
    replace htop := htop.keep hxx
    (obtain ⟨rfl, rfl⟩ := hbz1 hb0.out; clear hbz1 hbz2)
    clear c5_0 c5_1 c5_2 c5_3 c5_4 c7_0 c7_1 c7_2 c7_3 c7_4
    have V17 := V16.keep hxx
    clear V16 hxx
    go_upto_region 13 with fail
    replace V17 := V17.add' (n := W17.heap.size) (vs := #[Value.bool gg.n, Value.slice gg.s.a gg.s.len gg.s.cap]) (T := 24) (by simp)
    replace hx := hx.keep ((Ext.rf _).al (Obj.cells #[Value.bool gg.n, Value.slice gg.s.a gg.s.len gg.s.cap] 24))
    replace hy := hy.keep ((Ext.rf _).al (Obj.cells #[Value.bool gg.n, Value.slice gg.s.a gg.s.len gg.s.cap] 24))
    replace hp := hp.keep ((Ext.rf _).al (Obj.cells #[Value.bool gg.n, Value.slice gg.s.a gg.s.len gg.s.cap] 24))
    replace hq := hq.keep ((Ext.rf _).al (Obj.cells #[Value.bool gg.n, Value.slice gg.s.a gg.s.len gg.s.cap] 24))
    replace hdq := hdq.keep ((Ext.rf _).al (Obj.cells #[Value.bool gg.n, Value.slice gg.s.a gg.s.len gg.s.cap] 24))
    replace hdr := hdr.keep ((Ext.rf _).al (Obj.cells #[Value.bool gg.n, Value.slice gg.s.a gg.s.len gg.s.cap] 24))
    replace heq := heq.keep ((Ext.rf _).al (Obj.cells #[Value.bool gg.n, Value.slice gg.s.a gg.s.len gg.s.cap] 24))
    replace her := her.keep ((Ext.rf _).al (Obj.cells #[Value.bool gg.n, Value.slice gg.s.a gg.s.len gg.s.cap] 24))
    replace htop := htop.keep ((Ext.rf _).al (Obj.cells #[Value.bool gg.n, Value.slice gg.s.a gg.s.len gg.s.cap] 24))
    replace hgg := hgg.keep ((Ext.rf _).al (Obj.cells #[Value.bool gg.n, Value.slice gg.s.a gg.s.len gg.s.cap] 24))
    replace huu := huu.keep ((Ext.rf _).al (Obj.cells #[Value.bool gg.n, Value.slice gg.s.a gg.s.len gg.s.cap] 24))
    replace hvv := hvv.keep ((Ext.rf _).al (Obj.cells #[Value.bool gg.n, Value.slice gg.s.a gg.s.len gg.s.cap] 24))
    replace V17 := V17.add' (n := W17.heap.size + 1) (vs := #[Value.bool uu.n, Value.slice uu.s.a uu.s.len uu.s.cap]) (T := 24) (by simp)
    replace hx := hx.keep ((Ext.rf _).al (Obj.cells #[Value.bool uu.n, Value.slice uu.s.a uu.s.len uu.s.cap] 24))
    replace hy := hy.keep ((Ext.rf _).al (Obj.cells #[Value.bool uu.n, Value.slice uu.s.a uu.s.len uu.s.cap] 24))
    replace hp := hp.keep ((Ext.rf _).al (Obj.cells #[Value.bool uu.n, Value.slice uu.s.a uu.s.len uu.s.cap] 24))
    replace hq := hq.keep ((Ext.rf _).al (Obj.cells #[Value.bool uu.n, Value.slice uu.s.a uu.s.len uu.s.cap] 24))
    replace hdq := hdq.keep ((Ext.rf _).al (Obj.cells #[Value.bool uu.n, Value.slice uu.s.a uu.s.len uu.s.cap] 24))
    replace hdr := hdr.keep ((Ext.rf _).al (Obj.cells #[Value.bool uu.n, Value.slice uu.s.a uu.s.len uu.s.cap] 24))
    replace heq := heq.keep ((Ext.rf _).al (Obj.cells #[Value.bool uu.n, Value.slice uu.s.a uu.s.len uu.s.cap] 24))
    replace her := her.keep ((Ext.rf _).al (Obj.cells #[Value.bool uu.n, Value.slice uu.s.a uu.s.len uu.s.cap] 24))
    replace htop := htop.keep ((Ext.rf _).al (Obj.cells #[Value.bool uu.n, Value.slice uu.s.a uu.s.len uu.s.cap] 24))
    replace hgg := hgg.keep ((Ext.rf _).al (Obj.cells #[Value.bool uu.n, Value.slice uu.s.a uu.s.len uu.s.cap] 24))
    replace huu := huu.keep ((Ext.rf _).al (Obj.cells #[Value.bool uu.n, Value.slice uu.s.a uu.s.len uu.s.cap] 24))
    replace hvv := hvv.keep ((Ext.rf _).al (Obj.cells #[Value.bool uu.n, Value.slice uu.s.a uu.s.len uu.s.cap] 24))
    replace V17 := V17.add' (n := W17.heap.size + 1 + 1) (vs := #[Value.bool vv.n, Value.slice vv.s.a vv.s.len vv.s.cap]) (T := 24) (by simp)
    replace hx := hx.keep ((Ext.rf _).al (Obj.cells #[Value.bool vv.n, Value.slice vv.s.a vv.s.len vv.s.cap] 24))
    replace hy := hy.keep ((Ext.rf _).al (Obj.cells #[Value.bool vv.n, Value.slice vv.s.a vv.s.len vv.s.cap] 24))
    replace hp := hp.keep ((Ext.rf _).al (Obj.cells #[Value.bool vv.n, Value.slice vv.s.a vv.s.len vv.s.cap] 24))
    replace hq := hq.keep ((Ext.rf _).al (Obj.cells #[Value.bool vv.n, Value.slice vv.s.a vv.s.len vv.s.cap] 24))
    replace hdq := hdq.keep ((Ext.rf _).al (Obj.cells #[Value.bool vv.n, Value.slice vv.s.a vv.s.len vv.s.cap] 24))
    replace hdr := hdr.keep ((Ext.rf _).al (Obj.cells #[Value.bool vv.n, Value.slice vv.s.a vv.s.len vv.s.cap] 24))
    replace heq := heq.keep ((Ext.rf _).al (Obj.cells #[Value.bool vv.n, Value.slice vv.s.a vv.s.len vv.s.cap] 24))
    replace her := her.keep ((Ext.rf _).al (Obj.cells #[Value.bool vv.n, Value.slice vv.s.a vv.s.len vv.s.cap] 24))
    replace htop := htop.keep ((Ext.rf _).al (Obj.cells #[Value.bool vv.n, Value.slice vv.s.a vv.s.len vv.s.cap] 24))
    replace hgg := hgg.keep ((Ext.rf _).al (Obj.cells #[Value.bool vv.n, Value.slice vv.s.a vv.s.len vv.s.cap] 24))
    replace huu := huu.keep ((Ext.rf _).al (Obj.cells #[Value.bool vv.n, Value.slice vv.s.a vv.s.len vv.s.cap] 24))
    replace hvv := hvv.keep ((Ext.rf _).al (Obj.cells #[Value.bool vv.n, Value.slice vv.s.a vv.s.len vv.s.cap] 24))
    generalize (((W17.alloc (Obj.cells #[Value.bool gg.n, Value.slice gg.s.a gg.s.len gg.s.cap] 24)).alloc (Obj.cells #[Value.bool uu.n, Value.slice uu.s.a uu.s.len uu.s.cap] 24)).alloc (Obj.cells #[Value.bool vv.n, Value.slice vv.s.a vv.s.len vv.s.cap] 24)) = W18 at *
    have V18 := V17
    clear V17
    obtain ⟨c19_0, c19_1, c19_2, c19_3⟩ := V18.facts 1 rfl
    have c19_4 := V18.lt 1 rfl
    have c19_5 : W17.heap.size < W18.heap.size := by omega
    go_wp2_with fail
    (with_reducible refine (text_any uu (sgnZ a) _ (huu)).mono ?_)
    rintro e W19 ⟨rfl, hxx⟩
    replace hx := hx.keep hxx
    replace hy := hy.keep hxx
    replace hp := hp.keep hxx
    replace hq := hq.keep hxx
    replace hdq := hdq.keep hxx
    replace hdr := hdr.keep hxx
    replace heq := heq.keep hxx
    replace her := her.keep hxx
    replace htop := htop.keep hxx
    replace hgg := hgg.keep hxx
    replace huu := huu.keep hxx
    replace hvv := hvv.keep hxx
    clear c19_0 c19_1 c19_2 c19_3 c19_4 c19_5
    have V19 := V18.keep hxx
    clear V18 hxx
    go_wp2_with fail
    (with_reducible refine (Z4.parse_any (dec (sgnZ a)) _ (by have := PU.out.2.2; omega)).mono ?_)
    rintro e W20 ⟨xu, rfl, hxu, hxx⟩
    replace hx := hx.keep hxx
    replace hy := hy.keep hxx
    replace hp := hp.keep hxx
    replace hq := hq.keep hxx
    replace hdq := hdq.keep hxx
    replace hdr := hdr.keep hxx
    replace heq := heq.keep hxx
    replace her := her.keep hxx
    replace htop := htop.keep hxx
    replace hgg := hgg.keep hxx
    replace huu := huu.keep hxx
    replace hvv := hvv.keep hxx
    (try rw [PU.out.1] at hxu)
    rw [PU.out.2.1]
    have V20 := V19.keep hxx
    clear V19 hxx
    go_upto_region 14 with fail
    replace V20 := V20.add' (n := W20.heap.size) (vs := #[Value.bool xu.n, Value.slice xu.s.a xu.s.len xu.s.cap]) (T := 31) (by simp)
    replace hx := hx.keep ((Ext.rf _).al (Obj.cells #[Value.bool xu.n, Value.slice xu.s.a xu.s.len xu.s.cap] 31))
    replace hy := hy.keep ((Ext.rf _).al (Obj.cells #[Value.bool xu.n, Value.slice xu.s.a xu.s.len xu.s.cap] 31))
    replace hp := hp.keep ((Ext.rf _).al (Obj.cells #[Value.bool xu.n, Value.slice xu.s.a xu.s.len xu.s.cap] 31))
    replace hq := hq.keep ((Ext.rf _).al (Obj.cells #[Value.bool xu.n, Value.slice xu.s.a xu.s.len xu.s.cap] 31))
    replace hdq := hdq.keep ((Ext.rf _).al (Obj.cells #[Value.bool xu.n, Value.slice xu.s.a xu.s.len xu.s.cap] 31))
    replace hdr := hdr.keep ((Ext.rf _).al (Obj.cells #[Value.bool xu.n, Value.slice xu.s.a xu.s.len xu.s.cap] 31))
    replace heq := heq.keep ((Ext.rf _).al (Obj.cells #[Value.bool xu.n, Value.slice xu.s.a xu.s.len xu.s.cap] 31))
    replace her := her.keep ((Ext.rf _).al (Obj.cells #[Value.bool xu.n, Value.slice xu.s.a xu.s.len xu.s.cap] 31))
    replace htop := htop.keep ((Ext.rf _).al (Obj.cells #[Value.bool xu.n, Value.slice xu.s.a xu.s.len xu.s.cap] 31))
    replace hgg := hgg.keep ((Ext.rf _).al (Obj.cells #[Value.bool xu.n, Value.slice xu.s.a xu.s.len xu.s.cap] 31))
    replace huu := huu.keep ((Ext.rf _).al (Obj.cells #[Value.bool xu.n, Value.slice xu.s.a xu.s.len xu.s.cap] 31))
    replace hvv := hvv.keep ((Ext.rf _).al (Obj.cells #[Value.bool xu.n, Value.slice xu.s.a xu.s.len xu.s.cap] 31))
    replace hxu := hxu.keep ((Ext.rf _).al (Obj.cells #[Value.bool xu.n, Value.slice xu.s.a xu.s.len xu.s.cap] 31))
    replace V20 := V20.add' (n := W20.heap.size + 1) (vs := #[Value.int .i64 0, Value.int .i64 (parseP (dec (sgnZ a)))]) (T := 26) (by simp)
    replace hx := hx.keep ((Ext.rf _).al (Obj.cells #[Value.int .i64 0, Value.int .i64 (parseP (dec (sgnZ a)))] 26))
    replace hy := hy.keep ((Ext.rf _).al (Obj.cells #[Value.int .i64 0, Value.int .i64 (parseP (dec (sgnZ a)))] 26))
    replace hp := hp.keep ((Ext.rf _).al (Obj.cells #[Value.int .i64 0, Value.int .i64 (parseP (dec (sgnZ a)))] 26))
    replace hq := hq.keep ((Ext.rf _).al (Obj.cells #[Value.int .i64 0, Value.int .i64 (parseP (dec (sgnZ a)))] 26))
    replace hdq := hdq.keep ((Ext.rf _).al (Obj.cells #[Value.int .i64 0, Value.int .i64 (parseP (dec (sgnZ a)))] 26))
    replace hdr := hdr.keep ((Ext.rf _).al (Obj.cells #[Value.int .i64 0, Value.int .i64 (parseP (dec (sgnZ a)))] 26))
    replace heq := heq.keep ((Ext.rf _).al (Obj.cells #[Value.int .i64 0, Value.int .i64 (parseP (dec (sgnZ a)))] 26))
    replace her := her.keep ((Ext.rf _).al (Obj.cells #[Value.int .i64 0, Value.int .i64 (parseP (dec (sgnZ a)))] 26))
    replace htop := htop.keep ((Ext.rf _).al (Obj.cells #[Value.int .i64 0, Value.int .i64 (parseP (dec (sgnZ a)))] 26))
    replace hgg := hgg.keep ((Ext.rf _).al (Obj.cells #[Value.int .i64 0, Value.int .i64 (parseP (dec (sgnZ a)))] 26))
    replace huu := huu.keep ((Ext.rf _).al (Obj.cells #[Value.int .i64 0, Value.int .i64 (parseP (dec (sgnZ a)))] 26))
    replace hvv := hvv.keep ((Ext.rf _).al (Obj.cells #[Value.int .i64 0, Value.int .i64 (parseP (dec (sgnZ a)))] 26))
    replace hxu := hxu.keep ((Ext.rf _).al (Obj.cells #[Value.int .i64 0, Value.int .i64 (parseP (dec (sgnZ a)))] 26))
    generalize ((W20.alloc (Obj.cells #[Value.bool xu.n, Value.slice xu.s.a xu.s.len xu.s.cap] 31)).alloc (Obj.cells #[Value.int .i64 0, Value.int .i64 (parseP (dec (sgnZ a)))] 26)) = W21 at *
    have V21 := V20
    clear V20
    obtain ⟨c20_0, c20_1, c20_2, c20_3⟩ := V21.facts 2 rfl
    have c20_4 := V21.lt 2 rfl
    have c20_5 : W17.heap.size + 1 < W21.heap.size := by omega
    have c20_6 : W17.heap.size < W21.heap.size := by omega
    go_wp2_with fail
    (with_reducible refine (text_any vv 0 _ (hvv)).mono ?_)
    rintro e W22 ⟨rfl, hxx⟩
    replace hx := hx.keep hxx
    replace hy := hy.keep hxx
    replace hp := hp.keep hxx
    replace hq := hq.keep hxx
    replace hdq := hdq.keep hxx
    replace hdr := hdr.keep hxx
    replace heq := heq.keep hxx
    replace her := her.keep hxx
    replace htop := htop.keep hxx
    replace hgg := hgg.keep hxx
    replace huu := huu.keep hxx
    replace hvv := hvv.keep hxx
    replace hxu := hxu.keep hxx
    clear c20_0 c20_1 c20_2 c20_3 c20_4 c20_5 c20_6
    have V22 := V21.keep hxx
    clear V21 hxx
    go_wp2_with fail
    (with_reducible refine (Z4.parse_any (dec 0) _ (by have := PV.out.2.2; omega)).mono ?_)
    rintro e W23 ⟨xw, rfl, hxw, hxx⟩
    replace hx := hx.keep hxx
    replace hy := hy.keep hxx
    replace hp := hp.keep hxx
    replace hq := hq.keep hxx
    replace hdq := hdq.keep hxx
    replace hdr := hdr.keep hxx
    replace heq := heq.keep hxx
    replace her := her.keep hxx
    replace htop := htop.keep hxx
    replace hgg := hgg.keep hxx
    replace huu := huu.keep hxx
    replace hvv := hvv.keep hxx
    replace hxu := hxu.keep hxx
    (try rw [PV.out.1] at hxw)
    rw [PV.out.2.1]
    have V23 := V22.keep hxx
    clear V22 hxx
    go_upto_region 15 with fail
    replace V23 := V23.add' (n := W23.heap.size) (vs := #[Value.bool xw.n, Value.slice xw.s.a xw.s.len xw.s.cap]) (T := 31) (by simp)
    replace hx := hx.keep ((Ext.rf _).al (Obj.cells #[Value.bool xw.n, Value.slice xw.s.a xw.s.len xw.s.cap] 31))
    replace hy := hy.keep ((Ext.rf _).al (Obj.cells #[Value.bool xw.n, Value.slice xw.s.a xw.s.len xw.s.cap] 31))
    replace hp := hp.keep ((Ext.rf _).al (Obj.cells #[Value.bool xw.n, Value.slice xw.s.a xw.s.len xw.s.cap] 31))
    replace hq := hq.keep ((Ext.rf _).al (Obj.cells #[Value.bool xw.n, Value.slice xw.s.a xw.s.len xw.s.cap] 31))
    replace hdq := hdq.keep ((Ext.rf _).al (Obj.cells #[Value.bool xw.n, Value.slice xw.s.a xw.s.len xw.s.cap] 31))
    replace hdr := hdr.keep ((Ext.rf _).al (Obj.cells #[Value.bool xw.n, Value.slice xw.s.a xw.s.len xw.s.cap] 31))
    replace heq := heq.keep ((Ext.rf _).al (Obj.cells #[Value.bool xw.n, Value.slice xw.s.a xw.s.len xw.s.cap] 31))
    replace her := her.keep ((Ext.rf _).al (Obj.cells #[Value.bool xw.n, Value.slice xw.s.a xw.s.len xw.s.cap] 31))
    replace htop := htop.keep ((Ext.rf _).al (Obj.cells #[Value.bool xw.n, Value.slice xw.s.a xw.s.len xw.s.cap] 31))
    replace hgg := hgg.keep ((Ext.rf _).al (Obj.cells #[Value.bool xw.n, Value.slice xw.s.a xw.s.len xw.s.cap] 31))
    replace huu := huu.keep ((Ext.rf _).al (Obj.cells #[Value.bool xw.n, Value.slice xw.s.a xw.s.len xw.s.cap] 31))
    replace hvv := hvv.keep ((Ext.rf _).al (Obj.cells #[Value.bool xw.n, Value.slice xw.s.a xw.s.len xw.s.cap] 31))
    replace hxu := hxu.keep ((Ext.rf _).al (Obj.cells #[Value.bool xw.n, Value.slice xw.s.a xw.s.len xw.s.cap] 31))
    replace hxw := hxw.keep ((Ext.rf _).al (Obj.cells #[Value.bool xw.n, Value.slice xw.s.a xw.s.len xw.s.cap] 31))
    replace V23 := V23.add' (n := W23.heap.size + 1) (vs := #[Value.int .i64 0, Value.int .i64 (parseP (dec 0))]) (T := 26) (by simp)
    replace hx := hx.keep ((Ext.rf _).al (Obj.cells #[Value.int .i64 0, Value.int .i64 (parseP (dec 0))] 26))
    replace hy := hy.keep ((Ext.rf _).al (Obj.cells #[Value.int .i64 0, Value.int .i64 (parseP (dec 0))] 26))
    replace hp := hp.keep ((Ext.rf _).al (Obj.cells #[Value.int .i64 0, Value.int .i64 (parseP (dec 0))] 26))
    replace hq := hq.keep ((Ext.rf _).al (Obj.cells #[Value.int .i64 0, Value.int .i64 (parseP (dec 0))] 26))
    replace hdq := hdq.keep ((Ext.rf _).al (Obj.cells #[Value.int .i64 0, Value.int .i64 (parseP (dec 0))] 26))
    replace hdr := hdr.keep ((Ext.rf _).al (Obj.cells #[Value.int .i64 0, Value.int .i64 (parseP (dec 0))] 26))
    replace heq := heq.keep ((Ext.rf _).al (Obj.cells #[Value.int .i64 0, Value.int .i64 (parseP (dec 0))] 26))
    replace her := her.keep ((Ext.rf _).al (Obj.cells #[Value.int .i64 0, Value.int .i64 (parseP (dec 0))] 26))
    replace htop := htop.keep ((Ext.rf _).al (Obj.cells #[Value.int .i64 0, Value.int .i64 (parseP (dec 0))] 26))
    replace hgg := hgg.keep ((Ext.rf _).al (Obj.cells #[Value.int .i64 0, Value.int .i64 (parseP (dec 0))] 26))
    replace huu := huu.keep ((Ext.rf _).al (Obj.cells #[Value.int .i64 0, Value.int .i64 (parseP (dec 0))] 26))
    replace hvv := hvv.keep ((Ext.rf _).al (Obj.cells #[Value.int .i64 0, Value.int .i64 (parseP (dec 0))] 26))
    replace hxu := hxu.keep ((Ext.rf _).al (Obj.cells #[Value.int .i64 0, Value.int .i64 (parseP (dec 0))] 26))
    replace hxw := hxw.keep ((Ext.rf _).al (Obj.cells #[Value.int .i64 0, Value.int .i64 (parseP (dec 0))] 26))
    generalize ((W23.alloc (Obj.cells #[Value.bool xw.n, Value.slice xw.s.a xw.s.len xw.s.cap] 31)).alloc (Obj.cells #[Value.int .i64 0, Value.int .i64 (parseP (dec 0))] 26)) = W24 at *
    have V24 := V23
    clear V23
    (try go_upto_region 15 with fail)
    obtain ⟨c18_0, c18_1, c18_2, c18_3⟩ := V24.facts 6 rfl
    obtain ⟨c17_0, c17_1, c17_2, c17_3⟩ := V24.facts 7 rfl
    obtain ⟨c22_0, c22_1, c22_2, c22_3⟩ := V24.facts 2 rfl
    obtain ⟨c24_0, c24_1, c24_2, c24_3⟩ := V24.facts 0 rfl
    have HS := hd_ (show ∀ W', Ext W24 W' → Cs W' [(W17.heap.size, 0, Value.bool gg.n), (W17.heap.size, 1, Value.slice gg.s.a gg.s.len gg.s.cap), (W14.heap.size, 0, Value.bool top.n), (W14.heap.size, 1, Value.slice top.s.a top.s.len top.s.cap), (W20.heap.size + 1, 0, Value.int .i64 0), (W23.heap.size + 1, 0, Value.int .i64 0)] from fun W' hW => by simp only [cs_cons, cs_nil]; exact ⟨cell_later hW c18_0, cell_later hW c18_1, cell_later hW c17_0, cell_later hW c17_1, cell_later hW c22_0, cell_later hW c24_0, trivial⟩)
    clear c18_0 c18_1 c18_2 c18_3 c17_0 c17_1 c17_2 c17_3 c22_0 c22_1 c22_2 c22_3 c24_0 c24_1 c24_2 c24_3
    refine wpG_begin (S := (fun w' => Cs w' [(W17.heap.size, 0, Value.bool gg.n), (W17.heap.size, 1, Value.slice gg.s.a gg.s.len gg.s.cap), (W14.heap.size, 0, Value.bool top.n), (W14.heap.size, 1, Value.slice top.s.a top.s.len top.s.cap), (W20.heap.size + 1, 0, Value.int .i64 0), (W23.heap.size + 1, 0, Value.int .i64 0)])) (fun _ => True) (fun _ => True) 99 98 (by kernel_rfl) (fun WX hWX => ?_) (fun WX hWX hHeld => ?_)
    · exact ⟨HS.out _ hWX, trivial, trivial⟩
    have hE := hWX
    refine wpG_take (i := 0) (oi := _) (v := ?_) rfl (by kernel_rfl) (by kernel_rfl) (by kernel_rfl) (by decide) (by decide) (fun _ _ _ h => h) (Or.inl ⟨by rfl, ?_⟩) hHeld ?_
    rotate_left
    · intro w hSw; (try dsimp only at hSw); (try simp only [cs_cons, cs_nil, and_true] at hSw); go_simp; (try with_reducible rfl)
    (try dsimp only [List.getElem_toArray, List.getElem_cons_zero, List.getElem_cons_succ]); (try simp only [Act.put, List.setIfInBounds_toArray, List.set_cons_zero, List.set_cons_succ])
    replace hHeld := hHeld.more 0
    refine wpG_take (i := 2) (oi := _) (v := ?_) rfl (by kernel_rfl) (by kernel_rfl) (by kernel_rfl) (by decide) (by decide) (fun _ _ _ h => h) (Or.inl ⟨by rfl, ?_⟩) hHeld ?_
    rotate_left
    · intro w hSw; (try dsimp only at hSw); (try simp only [cs_cons, cs_nil, and_true] at hSw); go_simp; (try with_reducible rfl)
    (try dsimp only [List.getElem_toArray, List.getElem_cons_zero, List.getElem_cons_succ]); (try simp only [Act.put, List.setIfInBounds_toArray, List.set_cons_zero, List.set_cons_succ])
    replace hHeld := hHeld.more 2
    refine wpG_step (i := 1) (o := _) (by kernel_rfl) rfl (fun K hK => ?_)
    go_simp
    (go_at_call 14; ((with_reducible refine (text_any gg (Int.gcd a b : Int) _ (hgg.keep hE)).mono ?_); rintro e w' ⟨rfl, hxx⟩))
    replace hE := hE.tr hxx
    (try go_wp2_with fail)
    refine hK.out _ _ ⟨HS.out _ hE, fun _ => trivial, fun _ => trivial⟩ (fun hHeld' => ?_)
    clear hHeld
    have hHeld := hHeld'
    clear hHeld'
    clear hK K
    (try dsimp only [List.getElem_toArray, List.getElem_cons_zero, List.getElem_cons_succ]); (try simp only [Act.put, List.setIfInBounds_toArray, List.set_cons_zero, List.set_cons_succ])
    refine wpG_step (i := 3) (o := _) (by kernel_rfl) rfl (fun K hK => ?_)
    go_simp
    (go_at_call 15; ((with_reducible refine (Z4.text_any top (Int.gcd a b : Int) _ (htop.keep hE)).mono ?_); rintro e w' ⟨rfl, hxx⟩))
    replace hE := hE.tr hxx
    (try go_wp2_with fail)
    refine hK.out _ _ ⟨HS.out _ hE, fun _ => trivial, fun _ => trivial⟩ (fun hHeld' => ?_)
    clear hHeld
    have hHeld := hHeld'
    clear hHeld'
    clear hK K
    (try dsimp only [List.getElem_toArray, List.getElem_cons_zero, List.getElem_cons_succ]); (try simp only [Act.put, List.setIfInBounds_toArray, List.set_cons_zero, List.set_cons_succ])
    refine wpG_take (i := 4) (oi := _) (v := ?_) rfl (by kernel_rfl) (by kernel_rfl) (by kernel_rfl) (by decide) (by decide) (fun _ _ _ h => h) (Or.inl ⟨by rfl, ?_⟩) hHeld ?_
    rotate_left
    · intro w hSw; (try dsimp only at hSw); (try simp only [cs_cons, cs_nil, and_true] at hSw); go_simp; (try with_reducible rfl)
    (try dsimp only [List.getElem_toArray, List.getElem_cons_zero, List.getElem_cons_succ]); (try simp only [Act.put, List.setIfInBounds_toArray, List.set_cons_zero, List.set_cons_succ])
    replace hHeld := hHeld.more 4
    refine wpG_take (i := 5) (oi := _) (v := ?_) rfl (by kernel_rfl) (by kernel_rfl) (by kernel_rfl) (by decide) (by decide) (fun _ _ _ h => h) (Or.inl ⟨by rfl, ?_⟩) hHeld ?_
    rotate_left
    · intro w hSw; (try dsimp only at hSw); (try simp only [cs_cons, cs_nil, and_true] at hSw); go_simp; (try with_reducible rfl)
    (try dsimp only [List.getElem_toArray, List.getElem_cons_zero, List.getElem_cons_succ]); (try simp only [Act.put, List.setIfInBounds_toArray, List.set_cons_zero, List.set_cons_succ])
    replace hHeld := hHeld.more 5
    refine wpG_take (i := 6) (oi := _) (v := ?_) rfl (by kernel_rfl) (by kernel_rfl) (by kernel_rfl) (by decide) (by decide) (fun _ _ _ h => h) (Or.inl ⟨by rfl, ?_⟩) hHeld ?_
    rotate_left
    · intro w hSw; (try dsimp only at hSw); (try simp only [cs_cons, cs_nil, and_true] at hSw); go_simp; (try with_reducible rfl)
    (try dsimp only [List.getElem_toArray, List.getElem_cons_zero, List.getElem_cons_succ]); (try simp only [Act.put, List.setIfInBounds_toArray, List.set_cons_zero, List.set_cons_succ])
    replace hHeld := hHeld.more 6
    refine wpG_take (i := 7) (oi := _) (v := ?_) rfl (by kernel_rfl) (by kernel_rfl) (by kernel_rfl) (by decide) (by decide) (fun _ _ _ h => h) (Or.inl ⟨by rfl, ?_⟩) hHeld ?_
    rotate_left
    · intro w hSw; (try dsimp only at hSw); (try simp only [cs_cons, cs_nil, and_true] at hSw); go_simp; (try with_reducible rfl)
    (try dsimp only [List.getElem_toArray, List.getElem_cons_zero, List.getElem_cons_succ]); (try simp only [Act.put, List.setIfInBounds_toArray, List.set_cons_zero, List.set_cons_succ])
    replace hHeld := hHeld.more 7
    refine wpG_take (i := 8) (oi := _) (v := ?_) rfl (by kernel_rfl) (by kernel_rfl) (by kernel_rfl) (by decide) (by decide) (fun _ _ _ h => h) (Or.inl ⟨by rfl, ?_⟩) hHeld ?_
    rotate_left
    · intro w hSw; (try dsimp only at hSw); (try simp only [cs_cons, cs_nil, and_true] at hSw); go_simp; (try with_reducible rfl)
    (try dsimp only [List.getElem_toArray, List.getElem_cons_zero, List.getElem_cons_succ]); (try simp only [Act.put, List.setIfInBounds_toArray, List.set_cons_zero, List.set_cons_succ])
    replace hHeld := hHeld.more 8
    refine wpG_take (i := 9) (oi := _) (v := ?_) rfl (by kernel_rfl) (by kernel_rfl) (by kernel_rfl) (by decide) (by decide) (fun _ _ _ h => h) (Or.inl ⟨by rfl, ?_⟩) hHeld ?_
    rotate_left
    · intro w hSw; (try dsimp only at hSw); (try simp only [cs_cons, cs_nil, and_true] at hSw); go_simp; (try with_reducible rfl)
    (try dsimp only [List.getElem_toArray, List.getElem_cons_zero, List.getElem_cons_succ]); (try simp only [Act.put, List.setIfInBounds_toArray, List.set_cons_zero, List.set_cons_succ])
    replace hHeld := hHeld.more 9
    refine wpG_take (i := 10) (oi := _) (v := ?_) rfl (by kernel_rfl) (by kernel_rfl) (by kernel_rfl) (by decide) (by decide) (fun _ _ _ h => h) (Or.inl ⟨by rfl, ?_⟩) hHeld ?_
    rotate_left
    · intro w hSw; (try dsimp only at hSw); (try simp only [cs_cons, cs_nil, and_true] at hSw); go_simp; (try with_reducible rfl)
    (try dsimp only [List.getElem_toArray, List.getElem_cons_zero, List.getElem_cons_succ]); (try simp only [Act.put, List.setIfInBounds_toArray, List.set_cons_zero, List.set_cons_succ])
    replace hHeld := hHeld.more 10
    refine wpG_take (i := 11) (oi := _) (v := ?_) rfl (by kernel_rfl) (by kernel_rfl) (by kernel_rfl) (by decide) (by decide) (fun _ _ _ h => h) (Or.inl ⟨by rfl, ?_⟩) hHeld ?_
    rotate_left
    · intro w hSw; (try dsimp only at hSw); (try simp only [cs_cons, cs_nil, and_true] at hSw); go_simp; (try with_reducible rfl)
    (try dsimp only [List.getElem_toArray, List.getElem_cons_zero, List.getElem_cons_succ]); (try simp only [Act.put, List.setIfInBounds_toArray, List.set_cons_zero, List.set_cons_succ])
    replace hHeld := hHeld.more 11
    refine wpG_take (i := 12) (oi := _) (v := ?_) rfl (by kernel_rfl) (by kernel_rfl) (by kernel_rfl) (by decide) (by decide) (fun _ _ _ h => h) (Or.inl ⟨by rfl, ?_⟩) hHeld ?_
    rotate_left
    · intro w hSw; (try dsimp only at hSw); (try simp only [cs_cons, cs_nil, and_true] at hSw); go_simp; (try with_reducible rfl)
    (try dsimp only [List.getElem_toArray, List.getElem_cons_zero, List.getElem_cons_succ]); (try simp only [Act.put, List.setIfInBounds_toArray, List.set_cons_zero, List.set_cons_succ])
    replace hHeld := hHeld.more 12
    refine wpG_take (i := 13) (oi := _) (v := ?_) rfl (by kernel_rfl) (by kernel_rfl) (by kernel_rfl) (by decide) (by decide) (fun _ _ _ h => h) (Or.inl ⟨by rfl, ?_⟩) hHeld ?_
    rotate_left
    · intro w hSw; (try dsimp only at hSw); (try simp only [cs_cons, cs_nil, and_true] at hSw); go_simp; (try with_reducible rfl)
    (try dsimp only [List.getElem_toArray, List.getElem_cons_zero, List.getElem_cons_succ]); (try simp only [Act.put, List.setIfInBounds_toArray, List.set_cons_zero, List.set_cons_succ])
    replace hHeld := hHeld.more 13
    refine wpG_take (i := 14) (oi := _) (v := ?_) rfl (by kernel_rfl) (by kernel_rfl) (by kernel_rfl) (by decide) (by decide) (fun _ _ _ h => h) (Or.inl ⟨by rfl, ?_⟩) hHeld ?_
    rotate_left
    · intro w hSw; (try dsimp only at hSw); (try simp only [cs_cons, cs_nil, and_true] at hSw); go_simp; (try with_reducible rfl)
    (try dsimp only [List.getElem_toArray, List.getElem_cons_zero, List.getElem_cons_succ]); (try simp only [Act.put, List.setIfInBounds_toArray, List.set_cons_zero, List.set_cons_succ])
    replace hHeld := hHeld.more 14
    refine wpG_done (by kernel_rfl) ?_ _
    clear hHeld HS
    have V25 := V24.keep hE
    clear V24
    replace hx := hx.keep hE
    replace hy := hy.keep hE
    replace hp := hp.keep hE
    replace hq := hq.keep hE
    replace hdq := hdq.keep hE
    replace hdr := hdr.keep hE
    replace heq := heq.keep hE
    replace her := her.keep hE
    replace htop := htop.keep hE
    replace hgg := hgg.keep hE
    replace huu := huu.keep hE
    replace hvv := hvv.keep hE
    replace hxu := hxu.keep hE
    replace hxw := hxw.keep hE
    clear hE
    (try clear hxx)
    (try clear hWX)
    generalize w' = W25 at *
    obtain ⟨c11_0, c11_1, c11_2, c11_3⟩ := V25.facts 13 rfl
    go_wp2_with fail
    (with_reducible refine (Z4.Sign_any q b _ (hq)).mono ?_)
    rintro e W26 ⟨rfl, hxx⟩
    replace hx := hx.keep hxx
    replace hy := hy.keep hxx
    replace hp := hp.keep hxx
    replace hq := hq.keep hxx
    replace hdq := hdq.keep hxx
    replace hdr := hdr.keep hxx
    replace heq := heq.keep hxx
    replace her := her.keep hxx
    replace htop := htop.keep hxx
    replace hgg := hgg.keep hxx
    replace huu := huu.keep hxx
    replace hvv := hvv.keep hxx
    replace hxu := hxu.keep hxx
    replace hxw := hxw.keep hxx
    clear c11_0 c11_1 c11_2 c11_3
    have V26 := V25.keep hxx
    clear V25 hxx
    go_upto_region 18 with fail
    (try go_upto_region 18 with fail)
    obtain ⟨c19_0, c19_1, c19_2, c19_3⟩ := V26.facts 5 rfl
    obtain ⟨c9_0, c9_1, c9_2, c9_3⟩ := V26.facts 15 rfl
    obtain ⟨c20_0, c20_1, c20_2, c20_3⟩ := V26.facts 4 rfl
    have HS := hd_ (show ∀ W', Ext W26 W' → Cs W' [(W17.heap.size + 1, 0, Value.bool uu.n), (W17.heap.size + 1, 1, Value.slice uu.s.a uu.s.len uu.s.cap), (W5.heap.size, 0, Value.bool p.n), (W5.heap.size, 1, Value.slice p.s.a p.s.len p.s.cap), (W17.heap.size + 1 + 1, 0, Value.bool vv.n), (W17.heap.size + 1 + 1, 1, Value.slice vv.s.a vv.s.len vv.s.cap)] from fun W' hW => by simp only [cs_cons, cs_nil]; exact ⟨cell_later hW c19_0, cell_later hW c19_1, cell_later hW c9_0, cell_later hW c9_1, cell_later hW c20_0, cell_later hW c20_1, trivial⟩)
    clear c19_0 c19_1 c19_2 c19_3 c9_0 c9_1 c9_2 c9_3 c20_0 c20_1 c20_2 c20_3
    refine wpG_begin (S := (fun w' => Cs w' [(W17.heap.size + 1, 0, Value.bool uu.n), (W17.heap.size + 1, 1, Value.slice uu.s.a uu.s.len uu.s.cap), (W5.heap.size, 0, Value.bool p.n), (W5.heap.size, 1, Value.slice p.s.a p.s.len p.s.cap), (W17.heap.size + 1 + 1, 0, Value.bool vv.n), (W17.heap.size + 1 + 1, 1, Value.slice vv.s.a vv.s.len vv.s.cap)])) (fun _ => True) (fun _ => True) 99 98 (by kernel_rfl) (fun WX hWX => ?_) (fun WX hWX hHeld => ?_)
    · exact ⟨HS.out _ hWX, trivial, trivial⟩
    have hE := hWX
    refine wpG_take (i := 0) (oi := _) (v := ?_) rfl (by kernel_rfl) (by kernel_rfl) (by kernel_rfl) (by decide) (by decide) (fun _ _ _ h => h) (Or.inl ⟨by rfl, ?_⟩) hHeld ?_
    rotate_left
    · intro w hSw; (try dsimp only at hSw); (try simp only [cs_cons, cs_nil, and_true] at hSw); go_simp; (try with_reducible rfl)
    (try dsimp only [List.getElem_toArray, List.getElem_cons_zero, List.getElem_cons_succ]); (try simp only [Act.put, List.setIfInBounds_toArray, List.set_cons_zero, List.set_cons_succ])
    replace hHeld := hHeld.more 0
    refine wpG_take (i := 2) (oi := _) (v := ?_) rfl (by kernel_rfl) (by kernel_rfl) (by kernel_rfl) (by decide) (by decide) (fun _ _ _ h => h) (Or.inl ⟨by rfl, ?_⟩) hHeld ?_
    rotate_left
    · intro w hSw; (try dsimp only at hSw); (try simp only [cs_cons, cs_nil, and_true] at hSw); go_simp; (try with_reducible rfl)
    (try dsimp only [List.getElem_toArray, List.getElem_cons_zero, List.getElem_cons_succ]); (try simp only [Act.put, List.setIfInBounds_toArray, List.set_cons_zero, List.set_cons_succ])
    replace hHeld := hHeld.more 2
    refine wpG_step (i := 1) (o := _) (by kernel_rfl) rfl (fun K hK => ?_)
    go_simp
    (go_at_call 14; ((with_reducible refine (text_any uu (sgnZ a) _ (huu.keep hE)).mono ?_); rintro e w' ⟨rfl, hxx⟩))
    replace hE := hE.tr hxx
    (try go_wp2_with fail)
    refine hK.out _ _ ⟨HS.out _ hE, fun _ => trivial, fun _ => trivial⟩ (fun hHeld' => ?_)
    clear hHeld
    have hHeld := hHeld'
    clear hHeld'
    clear hK K
    (try dsimp only [List.getElem_toArray, List.getElem_cons_zero, List.getElem_cons_succ]); (try simp only [Act.put, List.setIfInBounds_toArray, List.set_cons_zero, List.set_cons_succ])
    refine wpG_step (i := 3) (o := _) (by kernel_rfl) rfl (fun K hK => ?_)
    go_simp
    (go_at_call 19; ((with_reducible refine (Z4.Sign_any p a _ (hp.keep hE)).mono ?_); rintro e w' ⟨rfl, hxx⟩))
    replace hE := hE.tr hxx
    (try go_wp2_with fail)
    refine hK.out _ _ ⟨HS.out _ hE, fun _ => trivial, fun _ => trivial⟩ (fun hHeld' => ?_)
    clear hHeld
    have hHeld := hHeld'
    clear hHeld'
    clear hK K
    (try dsimp only [List.getElem_toArray, List.getElem_cons_zero, List.getElem_cons_succ]); (try simp only [Act.put, List.setIfInBounds_toArray, List.set_cons_zero, List.set_cons_succ])
    refine wpG_step (i := 4) (o := _) (by kernel_rfl) rfl (fun K hK => ?_)
    go_simp
    (go_at_call 17; ((with_reducible refine (Z4.of_any (sgnZ a) _ (sgnZ_i64 a)).mono ?_); rintro e w' ⟨y1, rfl, hy1, hxx⟩))
    replace hE := hE.tr hxx
    (try go_wp2_with fail)
    refine hK.out _ _ ⟨HS.out _ hE, fun _ => trivial, fun _ => trivial⟩ (fun hHeld' => ?_)
    clear hHeld
    have hHeld := hHeld'
    clear hHeld'
    clear hK K
    (try dsimp only [List.getElem_toArray, List.getElem_cons_zero, List.getElem_cons_succ]); (try simp only [Act.put, List.setIfInBounds_toArray, List.set_cons_zero, List.set_cons_succ])
    refine wpG_step (i := 5) (o := _) (by kernel_rfl) rfl (fun K hK => ?_)
    go_simp
    (go_at_call 15; ((with_reducible refine (Z4.text_any y1 (sgnZ a) _ hy1).mono ?_); rintro e w' ⟨rfl, hxx⟩))
    replace hy1 := hy1.keep hxx
    replace hE := hE.tr hxx
    (try go_wp2_with fail)
    refine hK.out _ _ ⟨HS.out _ hE, fun _ => trivial, fun _ => trivial⟩ (fun hHeld' => ?_)
    clear hHeld
    have hHeld := hHeld'
    clear hHeld'
    clear hK K
    (try dsimp only [List.getElem_toArray, List.getElem_cons_zero, List.getElem_cons_succ]); (try simp only [Act.put, List.setIfInBounds_toArray, List.set_cons_zero, List.set_cons_succ])
    refine wpG_take (i := 6) (oi := _) (v := ?_) rfl (by kernel_rfl) (by kernel_rfl) (by kernel_rfl) (by decide) (by decide) (fun _ _ _ h => h) (Or.inl ⟨by rfl, ?_⟩) hHeld ?_
    rotate_left
    · intro w hSw; (try dsimp only at hSw); (try simp only [cs_cons, cs_nil, and_true] at hSw); go_simp; (try with_reducible rfl)
    (try dsimp only [List.getElem_toArray, List.getElem_cons_zero, List.getElem_cons_succ]); (try simp only [Act.put, List.setIfInBounds_toArray, List.set_cons_zero, List.set_cons_succ])
    replace hHeld := hHeld.more 6
    refine wpG_take (i := 7) (oi := _) (v := ?_) rfl (by kernel_rfl) (by kernel_rfl) (by kernel_rfl) (by decide) (by decide) (fun _ _ _ h => h) (Or.inl ⟨by rfl, ?_⟩) hHeld ?_
    rotate_left
    · intro w hSw; (try dsimp only at hSw); (try simp only [cs_cons, cs_nil, and_true] at hSw); go_simp; (try with_reducible rfl)
    (try dsimp only [List.getElem_toArray, List.getElem_cons_zero, List.getElem_cons_succ]); (try simp only [Act.put, List.setIfInBounds_toArray, List.set_cons_zero, List.set_cons_succ])
    replace hHeld := hHeld.more 7
    refine wpG_take (i := 8) (oi := _) (v := ?_) rfl (by kernel_rfl) (by kernel_rfl) (by kernel_rfl) (by decide) (by decide) (fun _ _ _ h => h) (Or.inl ⟨by rfl, ?_⟩) hHeld ?_
    rotate_left
    · intro w hSw; (try dsimp only at hSw); (try simp only [cs_cons, cs_nil, and_true] at hSw); go_simp; (try with_reducible rfl)
    (try dsimp only [List.getElem_toArray, List.getElem_cons_zero, List.getElem_cons_succ]); (try simp only [Act.put, List.setIfInBounds_toArray, List.set_cons_zero, List.set_cons_succ])
    replace hHeld := hHeld.more 8
    refine wpG_step (i := 9) (o := _) (by kernel_rfl) rfl (fun K hK => ?_)
    go_simp
    (go_at_call 18; ((with_reducible refine (sign_any vv 0 _ (hvv.keep hE)).mono ?_); rintro e w' ⟨rfl, hxx⟩))
    replace hy1 := hy1.keep hxx
    replace hE := hE.tr hxx
    rw [sgnZ_zero]
    (try go_wp2_with fail)
    refine hK.out _ _ ⟨HS.out _ hE, fun _ => trivial, fun _ => trivial⟩ (fun hHeld' => ?_)
    clear hHeld
    have hHeld := hHeld'
    clear hHeld'
    clear hK K
    (try dsimp only [List.getElem_toArray, List.getElem_cons_zero, List.getElem_cons_succ]); (try simp only [Act.put, List.setIfInBounds_toArray, List.set_cons_zero, List.set_cons_succ])
    refine wpG_take (i := 10) (oi := _) (v := ?_) rfl (by kernel_rfl) (by kernel_rfl) (by kernel_rfl) (by decide) (by decide) (fun _ _ _ h => h) (Or.inl ⟨by rfl, ?_⟩) hHeld ?_
    rotate_left
    · intro w hSw; (try dsimp only at hSw); (try simp only [cs_cons, cs_nil, and_true] at hSw); go_simp; (try with_reducible rfl)
    (try dsimp only [List.getElem_toArray, List.getElem_cons_zero, List.getElem_cons_succ]); (try simp only [Act.put, List.setIfInBounds_toArray, List.set_cons_zero, List.set_cons_succ])
    replace hHeld := hHeld.more 10
    refine wpG_take (i := 11) (oi := _) (v := ?_) rfl (by kernel_rfl) (by kernel_rfl) (by kernel_rfl) (by decide) (by decide) (fun _ _ _ h => h) (Or.inl ⟨by rfl, ?_⟩) hHeld ?_
    rotate_left
    · intro w hSw; (try dsimp only at hSw); (try simp only [cs_cons, cs_nil, and_true] at hSw); go_simp; (try with_reducible rfl)
    (try dsimp only [List.getElem_toArray, List.getElem_cons_zero, List.getElem_cons_succ]); (try simp only [Act.put, List.setIfInBounds_toArray, List.set_cons_zero, List.set_cons_succ])
    replace hHeld := hHeld.more 11
    refine wpG_take (i := 12) (oi := _) (v := ?_) rfl (by kernel_rfl) (by kernel_rfl) (by kernel_rfl) (by decide) (by decide) (fun _ _ _ h => h) (Or.inl ⟨by rfl, ?_⟩) hHeld ?_
    rotate_left
    · intro w hSw; (try dsimp only at hSw); (try simp only [cs_cons, cs_nil, and_true] at hSw); go_simp; (try with_reducible rfl)
    (try dsimp only [List.getElem_toArray, List.getElem_cons_zero, List.getElem_cons_succ]); (try simp only [Act.put, List.setIfInBounds_toArray, List.set_cons_zero, List.set_cons_succ])
    replace hHeld := hHeld.more 12
    refine wpG_done (by kernel_rfl) ?_ _
    clear hHeld HS
    have V27 := V26.keep hE
    clear V26
    replace hx := hx.keep hE
    replace hy := hy.keep hE
    replace hp := hp.keep hE
    replace hq := hq.keep hE
    replace hdq := hdq.keep hE
    replace hdr := hdr.keep hE
    replace heq := heq.keep hE
    replace her := her.keep hE
    replace htop := htop.keep hE
    replace hgg := hgg.keep hE
    replace huu := huu.keep hE
    replace hvv := hvv.keep hE
    replace hxu := hxu.keep hE
    replace hxw := hxw.keep hE
    clear hE
    (try clear hxx)
    (try clear hWX)
    generalize w' = W27 at *
    clear hy1
    go_wp2
    go_ret
    exact ⟨ret_b (by simp), V27.ext⟩
  · -- skip
    have hs : (sgnZ b == 0) = false := by rw [beq_eq_false_iff_ne]; unfold sgnZ; (repeat' split) <;> omega
    obtain ⟨c5_0, c5_1, c5_2, c5_3⟩ := V9.facts 7 rfl
    have c5_4 := V9.lt 7 rfl
    obtain ⟨c7_0, c7_1, c7_2, c7_3⟩ := V9.facts 5 rfl
    have c7_4 := V9.lt 5 rfl
    obtain ⟨c6_0, c6_1, c6_2, c6_3⟩ := V9.facts 6 rfl
    have c6_4 := V9.lt 6 rfl
    have c6_5 : W1.heap.size < W9.heap.size := by omega
    go_wp2_with fail
    (with_reducible refine (div_any x y a b _ (hx) (hy) hb0).mono ?_)
    rintro e W10 ⟨dq, dr, rfl, hdq, hdr, hxx⟩
    replace hx := hx.keep hxx
    replace hy := hy.keep hxx
    replace hp := hp.keep hxx
    replace hq := hq.keep hxx
    clear c5_0 c5_1 c5_2 c5_3 c5_4 c7_0 c7_1 c7_2 c7_3 c7_4 c6_0 c6_1 c6_2 c6_3 c6_4 c6_5
    have V10 := V9.keep hxx
    clear V9 hxx
    obtain ⟨c6_0, c6_1, c6_2, c6_3⟩ := V10.facts 6 rfl
    have c6_4 := V10.lt 6 rfl
    have c6_5 : W1.heap.size < W10.heap.size := by omega
    go_upto_region 8 with fail
    clear c6_0 c6_1 c6_2 c6_3 c6_4 c6_5
    have KI := V10.kept2 (U := 93) 6 rfl (by decide) (Value.int .i64 0) (Value.int .i64 0)
    have KZ := V10.kept2 (U := 3) 6 rfl (by decide) (Value.int .i64 0) (Value.int .i64 0)
    replace hx := hx.kept KI
    replace hy := hy.kept KI
    replace hp := hp.kept KZ
    replace hq := hq.kept KZ
    replace hdq := hdq.kept KI
    replace hdr := hdr.kept KI
    clear KI KZ
    replace V10 := V10.set2 6 rfl (Value.int .i64 0) (Value.int .i64 0)
    dsimp only [List.set] at V10
    replace V10 := V10.add' (n := W10.heap.size) (vs := #[Value.bool dq.n, Value.slice dq.s.a dq.s.len dq.s.cap]) (T := 24) (by simp)
    replace hx := hx.keep ((Ext.rf _).al (Obj.cells #[Value.bool dq.n, Value.slice dq.s.a dq.s.len dq.s.cap] 24))
    replace hy := hy.keep ((Ext.rf _).al (Obj.cells #[Value.bool dq.n, Value.slice dq.s.a dq.s.len dq.s.cap] 24))
    replace hp := hp.keep ((Ext.rf _).al (Obj.cells #[Value.bool dq.n, Value.slice dq.s.a dq.s.len dq.s.cap] 24))
    replace hq := hq.keep ((Ext.rf _).al (Obj.cells #[Value.bool dq.n, Value.slice dq.s.a dq.s.len dq.s.cap] 24))
    replace hdq := hdq.keep ((Ext.rf _).al (Obj.cells #[Value.bool dq.n, Value.slice dq.s.a dq.s.len dq.s.cap] 24))
    replace hdr := hdr.keep ((Ext.rf _).al (Obj.cells #[Value.bool dq.n, Value.slice dq.s.a dq.s.len dq.s.cap] 24))
    replace V10 := V10.add' (n := W10.heap.size + 1) (vs := #[Value.bool dr.n, Value.slice dr.s.a dr.s.len dr.s.cap]) (T := 24) (by simp)
    replace hx := hx.keep ((Ext.rf _).al (Obj.cells #[Value.bool dr.n, Value.slice dr.s.a dr.s.len dr.s.cap] 24))
    replace hy := hy.keep ((Ext.rf _).al (Obj.cells #[Value.bool dr.n, Value.slice dr.s.a dr.s.len dr.s.cap] 24))
    replace hp := hp.keep ((Ext.rf _).al (Obj.cells #[Value.bool dr.n, Value.slice dr.s.a dr.s.len dr.s.cap] 24))
    replace hq := hq.keep ((Ext.rf _).al (Obj.cells #[Value.bool dr.n, Value.slice dr.s.a dr.s.len dr.s.cap] 24))
    replace hdq := hdq.keep ((Ext.rf _).al (Obj.cells #[Value.bool dr.n, Value.slice dr.s.a dr.s.len dr.s.cap] 24))
    replace hdr := hdr.keep ((Ext.rf _).al (Obj.cells #[Value.bool dr.n, Value.slice dr.s.a dr.s.len dr.s.cap] 24))
    generalize ((((W10.setCell ⟨W1.heap.size + 1, 0, none⟩ (Value.int .i64 0)).setCell ⟨W1.heap.size + 1, 1, none⟩ (Value.int .i64 0)).alloc (Obj.cells #[Value.bool dq.n, Value.slice dq.s.a dq.s.len dq.s.cap] 24)).alloc (Obj.cells #[Value.bool dr.n, Value.slice dr.s.a dr.s.len dr.s.cap] 24)) = W11 at *
    have V11 := V10
    clear V10
    obtain ⟨c9_0, c9_1, c9_2, c9_3⟩ := V11.facts 5 rfl
    have c9_4 := V11.lt 5 rfl
    obtain ⟨c11_0, c11_1, c11_2, c11_3⟩ := V11.facts 3 rfl
    have c11_4 := V11.lt 3 rfl
    obtain ⟨c10_0, c10_1, c10_2, c10_3⟩ := V11.facts 4 rfl
    have c10_4 := V11.lt 4 rfl
    have c10_5 : W5.heap.size < W11.heap.size := by omega
    go_wp2_with fail
    (with_reducible refine (Z4.div_any p q a b _ (hp) (hq) hb0 (BB.mono (by omega))).mono ?_)
    rintro e W12 ⟨eq, er, rfl, heq, her, hxx⟩
    replace hx := hx.keep hxx
    replace hy := hy.keep hxx
    replace hp := hp.keep hxx
    replace hq := hq.keep hxx
    replace hdq := hdq.keep hxx
    replace hdr := hdr.keep hxx
    clear c9_0 c9_1 c9_2 c9_3 c9_4 c11_0 c11_1 c11_2 c11_3 c11_4 c10_0 c10_1 c10_2 c10_3 c10_4 c10_5
    have V12 := V11.keep hxx
    clear V11 hxx
    obtain ⟨c10_0, c10_1, c10_2, c10_3⟩ := V12.facts 4 rfl
    have c10_4 := V12.lt 4 rfl
    have c10_5 : W5.heap.size < W12.heap.size := by omega
    go_upto_region 9 with fail
    clear c10_0 c10_1 c10_2 c10_3 c10_4 c10_5
    have KI := V12.kept2 (U := 93) 4 rfl (by decide) (Value.int .i64 0) (Value.int .i64 0)
    have KZ := V12.kept2 (U := 3) 4 rfl (by decide) (Value.int .i64 0) (Value.int .i64 0)
    replace hx := hx.kept KI
    replace hy := hy.kept KI
    replace hp := hp.kept KZ
    replace hq := hq.kept KZ
    replace hdq := hdq.kept KI
    replace hdr := hdr.kept KI
    replace heq := heq.kept KZ
    replace her := her.kept KZ
    clear KI KZ
    replace V12 := V12.set2 4 rfl (Value.int .i64 0) (Value.int .i64 0)
    dsimp only [List.set] at V12
    replace V12 := V12.add' (n := W12.heap.size) (vs := #[Value.bool eq.n, Value.slice eq.s.a eq.s.len eq.s.cap]) (T := 31) (by simp)
    replace hx := hx.keep ((Ext.rf _).al (Obj.cells #[Value.bool eq.n, Value.slice eq.s.a eq.s.len eq.s.cap] 31))
    replace hy := hy.keep ((Ext.rf _).al (Obj.cells #[Value.bool eq.n, Value.slice eq.s.a eq.s.len eq.s.cap] 31))
    replace hp := hp.keep ((Ext.rf _).al (Obj.cells #[Value.bool eq.n, Value.slice eq.s.a eq.s.len eq.s.cap] 31))
    replace hq := hq.keep ((Ext.rf _).al (Obj.cells #[Value.bool eq.n, Value.slice eq.s.a eq.s.len eq.s.cap] 31))
    replace hdq := hdq.keep ((Ext.rf _).al (Obj.cells #[Value.bool eq.n, Value.slice eq.s.a eq.s.len eq.s.cap] 31))
    replace hdr := hdr.keep ((Ext.rf _).al (Obj.cells #[Value.bool eq.n, Value.slice eq.s.a eq.s.len eq.s.cap] 31))
    replace heq := heq.keep ((Ext.rf _).al (Obj.cells #[Value.bool eq.n, Value.slice eq.s.a eq.s.len eq.s.cap] 31))
    replace her := her.keep ((Ext.rf _).al (Obj.cells #[Value.bool eq.n, Value.slice eq.s.a eq.s.len eq.s.cap] 31))
    replace V12 := V12.add' (n := W12.heap.size + 1) (vs := #[Value.bool er.n, Value.slice er.s.a er.s.len er.s.cap]) (T := 31) (by simp)
    replace hx := hx.keep ((Ext.rf _).al (Obj.cells #[Value.bool er.n, Value.slice er.s.a er.s.len er.s.cap] 31))
    replace hy := hy.keep ((Ext.rf _).al (Obj.cells #[Value.bool er.n, Value.slice er.s.a er.s.len er.s.cap] 31))
    replace hp := hp.keep ((Ext.rf _).al (Obj.cells #[Value.bool er.n, Value.slice er.s.a er.s.len er.s.cap] 31))
    replace hq := hq.keep ((Ext.rf _).al (Obj.cells #[Value.bool er.n, Value.slice er.s.a er.s.len er.s.cap] 31))
    replace hdq := hdq.keep ((Ext.rf _).al (Obj.cells #[Value.bool er.n, Value.slice er.s.a er.s.len er.s.cap] 31))
    replace hdr := hdr.keep ((Ext.rf _).al (Obj.cells #[Value.bool er.n, Value.slice er.s.a er.s.len er.s.cap] 31))
    replace heq := heq.keep ((Ext.rf _).al (Obj.cells #[Value.bool er.n, Value.slice er.s.a er.s.len er.s.cap] 31))
    replace her := her.keep ((Ext.rf _).al (Obj.cells #[Value.bool er.n, Value.slice er.s.a er.s.len er.s.cap] 31))
    generalize ((((W12.setCell ⟨W5.heap.size + 1, 0, none⟩ (Value.int .i64 0)).setCell ⟨W5.heap.size + 1, 1, none⟩ (Value.int .i64 0)).alloc (Obj.cells #[Value.bool eq.n, Value.slice eq.s.a eq.s.len eq.s.cap] 31)).alloc (Obj.cells #[Value.bool er.n, Value.slice er.s.a er.s.len er.s.cap] 31)) = W13 at *
    have V13 := V12
    clear V12
    obtain ⟨c9_0, c9_1, c9_2, c9_3⟩ := V13.facts 7 rfl
    have c9_4 := V13.lt 7 rfl
    obtain ⟨c11_0, c11_1, c11_2, c11_3⟩ := V13.facts 5 rfl
    have c11_4 := V13.lt 5 rfl
    go_wp2_with fail
    (with_reducible refine (Z4.gcd_any p q a b _ (hp) (hq) (BA.mono (by omega)) (BB.mono (by omega))).mono ?_)
    rintro e W14 ⟨top, rfl, htop, hxx⟩
    replace hx := hx.keep hxx
    replace hy := hy.keep hxx
    replace hp := hp.keep hxx
    replace hq := hq.keep hxx
    replace hdq := hdq.keep hxx
    replace hdr := hdr.keep hxx
    replace heq := heq.keep hxx
    replace her := her.keep hxx
    clear c9_0 c9_1 c9_2 c9_3 c9_4 c11_0 c11_1 c11_2 c11_3 c11_4
    have V14 := V13.keep hxx
    clear V13 hxx
    go_upto_region 10 with fail
    replace V14 := V14.add' (n := W14.heap.size) (vs := #[Value.bool top.n, Value.slice top.s.a top.s.len top.s.cap]) (T := 31) (by simp)
    replace hx := hx.keep ((Ext.rf _).al (Obj.cells #[Value.bool top.n, Value.slice top.s.a top.s.len top.s.cap] 31))
    replace hy := hy.keep ((Ext.rf _).al (Obj.cells #[Value.bool top.n, Value.slice top.s.a top.s.len top.s.cap] 31))
    replace hp := hp.keep ((Ext.rf _).al (Obj.cells #[Value.bool top.n, Value.slice top.s.a top.s.len top.s.cap] 31))
    replace hq := hq.keep ((Ext.rf _).al (Obj.cells #[Value.bool top.n, Value.slice top.s.a top.s.len top.s.cap] 31))
    replace hdq := hdq.keep ((Ext.rf _).al (Obj.cells #[Value.bool top.n, Value.slice top.s.a top.s.len top.s.cap] 31))
    replace hdr := hdr.keep ((Ext.rf _).al (Obj.cells #[Value.bool top.n, Value.slice top.s.a top.s.len top.s.cap] 31))
    replace heq := heq.keep ((Ext.rf _).al (Obj.cells #[Value.bool top.n, Value.slice top.s.a top.s.len top.s.cap] 31))
    replace her := her.keep ((Ext.rf _).al (Obj.cells #[Value.bool top.n, Value.slice top.s.a top.s.len top.s.cap] 31))
    replace htop := htop.keep ((Ext.rf _).al (Obj.cells #[Value.bool top.n, Value.slice top.s.a top.s.len top.s.cap] 31))
    generalize (W14.alloc (Obj.cells #[Value.bool top.n, Value.slice top.s.a top.s.len top.s.cap] 31)) = W15 at *
    have V15 := V14
    clear V14
    (try go_upto_region 10 with fail)
    obtain ⟨c6_0, c6_1, c6_2, c6_3⟩ := V15.facts 11 rfl
    obtain ⟨c10_0, c10_1, c10_2, c10_3⟩ := V15.facts 7 rfl
    obtain ⟨c13_0, c13_1, c13_2, c13_3⟩ := V15.facts 4 rfl
    obtain ⟨c15_0, c15_1, c15_2, c15_3⟩ := V15.facts 2 rfl
    obtain ⟨c14_0, c14_1, c14_2, c14_3⟩ := V15.facts 3 rfl
    obtain ⟨c16_0, c16_1, c16_2, c16_3⟩ := V15.facts 1 rfl
    obtain ⟨c5_0, c5_1, c5_2, c5_3⟩ := V15.facts 12 rfl
    obtain ⟨c7_0, c7_1, c7_2, c7_3⟩ := V15.facts 10 rfl
    obtain ⟨c17_0, c17_1, c17_2, c17_3⟩ := V15.facts 0 rfl
    have HS := hd_ (show ∀ W', Ext W15 W' → Cs W' [(W1.heap.size + 1, 0, Value.int .i64 0), (W1.heap.size + 1, 1, Value.int .i64 0), (W5.heap.size + 1, 0, Value.int .i64 0), (W5.heap.size + 1, 1, Value.int .i64 0), (W10.heap.size, 0, Value.bool dq.n), (W10.heap.size, 1, Value.slice dq.s.a dq.s.len dq.s.cap), (W12.heap.size, 0, Value.bool eq.n), (W12.heap.size, 1, Value.slice eq.s.a eq.s.len eq.s.cap), (W10.heap.size + 1, 0, Value.bool dr.n), (W10.heap.size + 1, 1, Value.slice dr.s.a dr.s.len dr.s.cap), (W12.heap.size + 1, 0, Value.bool er.n), (W12.heap.size + 1, 1, Value.slice er.s.a er.s.len er.s.cap), (W1.heap.size, 0, Value.bool x.n), (W1.heap.size, 1, Value.slice x.s.a x.s.len x.s.cap), (W3.heap.size, 0, Value.bool y.n), (W3.heap.size, 1, Value.slice y.s.a y.s.len y.s.cap), (W14.heap.size, 0, Value.bool top.n), (W14.heap.size, 1, Value.slice top.s.a top.s.len top.s.cap)] from fun W' hW => by simp only [cs_cons, cs_nil]; exact ⟨cell_later hW c6_0, cell_later hW c6_1, cell_later hW c10_0, cell_later hW c10_1, cell_later hW c13_0, cell_later hW c13_1, cell_later hW c15_0, cell_later hW c15_1, cell_later hW c14_0, cell_later hW c14_1, cell_later hW c16_0, cell_later hW c16_1, cell_later hW c5_0, cell_later hW c5_1, cell_later hW c7_0, cell_later hW c7_1, cell_later hW c17_0, cell_later hW c17_1, trivial⟩)
    clear c6_0 c6_1 c6_2 c6_3 c10_0 c10_1 c10_2 c10_3 c13_0 c13_1 c13_2 c13_3 c15_0 c15_1 c15_2 c15_3 c14_0 c14_1 c14_2 c14_3 c16_0 c16_1 c16_2 c16_3 c5_0 c5_1 c5_2 c5_3 c7_0 c7_1 c7_2 c7_3 c17_0 c17_1 c17_2 c17_3
    refine wpG_begin (S := (fun w' => Cs w' [(W1.heap.size + 1, 0, Value.int .i64 0), (W1.heap.size + 1, 1, Value.int .i64 0), (W5.heap.size + 1, 0, Value.int .i64 0), (W5.heap.size + 1, 1, Value.int .i64 0), (W10.heap.size, 0, Value.bool dq.n), (W10.heap.size, 1, Value.slice dq.s.a dq.s.len dq.s.cap), (W12.heap.size, 0, Value.bool eq.n), (W12.heap.size, 1, Value.slice eq.s.a eq.s.len eq.s.cap), (W10.heap.size + 1, 0, Value.bool dr.n), (W10.heap.size + 1, 1, Value.slice dr.s.a dr.s.len dr.s.cap), (W12.heap.size + 1, 0, Value.bool er.n), (W12.heap.size + 1, 1, Value.slice er.s.a er.s.len er.s.cap), (W1.heap.size, 0, Value.bool x.n), (W1.heap.size, 1, Value.slice x.s.a x.s.len x.s.cap), (W3.heap.size, 0, Value.bool y.n), (W3.heap.size, 1, Value.slice y.s.a y.s.len y.s.cap), (W14.heap.size, 0, Value.bool top.n), (W14.heap.size, 1, Value.slice top.s.a top.s.len top.s.cap)])) (fun _ => True) (fun _ => True) 99 98 (by kernel_rfl) (fun WX hWX => ?_) (fun WX hWX hHeld => ?_)
    · exact ⟨HS.out _ hWX, trivial, trivial⟩
    have hE := hWX
    refine wpG_take (i := 0) (oi := _) (v := ?_) rfl (by kernel_rfl) (by kernel_rfl) (by kernel_rfl) (by decide) (by decide) (fun _ _ _ h => h) (Or.inl ⟨by rfl, ?_⟩) hHeld ?_
    rotate_left
    · intro w hSw; (try dsimp only at hSw); (try simp only [cs_cons, cs_nil, and_true] at hSw); go_simp; (try with_reducible rfl)
    (try dsimp only [List.getElem_toArray, List.getElem_cons_zero, List.getElem_cons_succ]); (try simp only [Act.put, List.setIfInBounds_toArray, List.set_cons_zero, List.set_cons_succ])
    replace hHeld := hHeld.more 0
    refine wpG_take (i := 1) (oi := _) (v := ?_) rfl (by kernel_rfl) (by kernel_rfl) (by kernel_rfl) (by decide) (by decide) (fun _ _ _ h => h) (Or.inl ⟨by rfl, ?_⟩) hHeld ?_
    rotate_left
    · intro w hSw; (try dsimp only at hSw); (try simp only [cs_cons, cs_nil, and_true] at hSw); go_simp; (try with_reducible rfl)
    (try dsimp only [List.getElem_toArray, List.getElem_cons_zero, List.getElem_cons_succ]); (try simp only [Act.put, List.setIfInBounds_toArray, List.set_cons_zero, List.set_cons_succ])
    replace hHeld := hHeld.more 1
    refine wpG_take (i := 2) (oi := _) (v := ?_) rfl (by kernel_rfl) (by kernel_rfl) (by kernel_rfl) (by decide) (by decide) (fun _ _ _ h => h) (Or.inl ⟨by rfl, ?_⟩) hHeld ?_
    rotate_left
    · intro w hSw; (try dsimp only at hSw); (try simp only [cs_cons, cs_nil, and_true] at hSw); go_simp; (try with_reducible rfl)
    (try dsimp only [List.getElem_toArray, List.getElem_cons_zero, List.getElem_cons_succ]); (try simp only [Act.put, List.setIfInBounds_toArray, List.set_cons_zero, List.set_cons_succ])
    replace hHeld := hHeld.more 2
    refine wpG_take (i := 3) (oi := _) (v := ?_) rfl (by kernel_rfl) (by kernel_rfl) (by kernel_rfl) (by decide) (by decide) (fun _ _ _ h => h) (Or.inl ⟨by rfl, ?_⟩) hHeld ?_
    rotate_left
    · intro w hSw; (try dsimp only at hSw); (try simp only [cs_cons, cs_nil, and_true] at hSw); go_simp; (try with_reducible rfl)
    (try dsimp only [List.getElem_toArray, List.getElem_cons_zero, List.getElem_cons_succ]); (try simp only [Act.put, List.setIfInBounds_toArray, List.set_cons_zero, List.set_cons_succ])
    replace hHeld := hHeld.more 3
    refine wpG_take (i := 4) (oi := _) (v := ?_) rfl (by kernel_rfl) (by kernel_rfl) (by kernel_rfl) (by decide) (by decide) (fun _ _ _ h => h) (Or.inl ⟨by rfl, ?_⟩) hHeld ?_
    rotate_left
    · intro w hSw; (try dsimp only at hSw); (try simp only [cs_cons, cs_nil, and_true] at hSw); go_simp; (try with_reducible rfl)
    (try dsimp only [List.getElem_toArray, List.getElem_cons_zero, List.getElem_cons_succ]); (try simp only [Act.put, List.setIfInBounds_toArray, List.set_cons_zero, List.set_cons_succ])
    replace hHeld := hHeld.more 4
    refine wpG_take (i := 6) (oi := _) (v := ?_) rfl (by kernel_rfl) (by kernel_rfl) (by kernel_rfl) (by decide) (by decide) (fun _ _ _ h => h) (Or.inl ⟨by rfl, ?_⟩) hHeld ?_
    rotate_left
    · intro w hSw; (try dsimp only at hSw); (try simp only [cs_cons, cs_nil, and_true] at hSw); go_simp; (try with_reducible rfl)
    (try dsimp only [List.getElem_toArray, List.getElem_cons_zero, List.getElem_cons_succ]); (try simp only [Act.put, List.setIfInBounds_toArray, List.set_cons_zero, List.set_cons_succ])
    replace hHeld := hHeld.more 6
    refine wpG_step (i := 5) (o := _) (by kernel_rfl) rfl (fun K hK => ?_)
    go_simp
    (go_at_call 14; ((with_reducible refine (text_any dq (a / b) _ (hdq.keep hE)).mono ?_); rintro e w' ⟨rfl, hxx⟩))
    replace hE := hE.tr hxx
    (try go_wp2_with fail)
    refine hK.out _ _ ⟨HS.out _ hE, fun _ => trivial, fun _ => trivial⟩ (fun hHeld' => ?_)
    clear hHeld
    have hHeld := hHeld'
    clear hHeld'
    clear hK K
    (try dsimp only [List.getElem_toArray, List.getElem_cons_zero, List.getElem_cons_succ]); (try simp only [Act.put, List.setIfInBounds_toArray, List.set_cons_zero, List.set_cons_succ])
    refine wpG_step (i := 7) (o := _) (by kernel_rfl) rfl (fun K hK => ?_)
    go_simp
    (go_at_call 15; ((with_reducible refine (Z4.text_any eq (a / b) _ (heq.keep hE)).mono ?_); rintro e w' ⟨rfl, hxx⟩))
    replace hE := hE.tr hxx
    (try go_wp2_with fail)
    refine hK.out _ _ ⟨HS.out _ hE, fun _ => trivial, fun _ => trivial⟩ (fun hHeld' => ?_)
    clear hHeld
    have hHeld := hHeld'
    clear hHeld'
    clear hK K
    (try dsimp only [List.getElem_toArray, List.getElem_cons_zero, List.getElem_cons_succ]); (try simp only [Act.put, List.setIfInBounds_toArray, List.set_cons_zero, List.set_cons_succ])
    refine wpG_take (i := 8) (oi := _) (v := ?_) rfl (by kernel_rfl) (by kernel_rfl) (by kernel_rfl) (by decide) (by decide) (fun _ _ _ h => h) (Or.inl ⟨by rfl, ?_⟩) hHeld ?_
    rotate_left
    · intro w hSw; (try dsimp only at hSw); (try simp only [cs_cons, cs_nil, and_true] at hSw); go_simp; (try with_reducible rfl)
    (try dsimp only [List.getElem_toArray, List.getElem_cons_zero, List.getElem_cons_succ]); (try simp only [Act.put, List.setIfInBounds_toArray, List.set_cons_zero, List.set_cons_succ])
    replace hHeld := hHeld.more 8
    refine wpG_take (i := 9) (oi := _) (v := ?_) rfl (by kernel_rfl) (by kernel_rfl) (by kernel_rfl) (by decide) (by decide) (fun _ _ _ h => h) (Or.inl ⟨by rfl, ?_⟩) hHeld ?_
    rotate_left
    · intro w hSw; (try dsimp only at hSw); (try simp only [cs_cons, cs_nil, and_true] at hSw); go_simp; (try with_reducible rfl)
    (try dsimp only [List.getElem_toArray, List.getElem_cons_zero, List.getElem_cons_succ]); (try simp only [Act.put, List.setIfInBounds_toArray, List.set_cons_zero, List.set_cons_succ])
    replace hHeld := hHeld.more 9
    refine wpG_take (i := 10) (oi := _) (v := ?_) rfl (by kernel_rfl) (by kernel_rfl) (by kernel_rfl) (by decide) (by decide) (fun _ _ _ h => h) (Or.inl ⟨by rfl, ?_⟩) hHeld ?_
    rotate_left
    · intro w hSw; (try dsimp only at hSw); (try simp only [cs_cons, cs_nil, and_true] at hSw); go_simp; (try with_reducible rfl)
    (try dsimp only [List.getElem_toArray, List.getElem_cons_zero, List.getElem_cons_succ]); (try simp only [Act.put, List.setIfInBounds_toArray, List.set_cons_zero, List.set_cons_succ])
    replace hHeld := hHeld.more 10
    refine wpG_take (i := 11) (oi := _) (v := ?_) rfl (by kernel_rfl) (by kernel_rfl) (by kernel_rfl) (by decide) (by decide) (fun _ _ _ h => h) (Or.inl ⟨by rfl, ?_⟩) hHeld ?_
    rotate_left
    · intro w hSw; (try dsimp only at hSw); (try simp only [cs_cons, cs_nil, and_true] at hSw); go_simp; (try with_reducible rfl)
    (try dsimp only [List.getElem_toArray, List.getElem_cons_zero, List.getElem_cons_succ]); (try simp only [Act.put, List.setIfInBounds_toArray, List.set_cons_zero, List.set_cons_succ])
    replace hHeld := hHeld.more 11
    refine wpG_take (i := 13) (oi := _) (v := ?_) rfl (by kernel_rfl) (by kernel_rfl) (by kernel_rfl) (by decide) (by decide) (fun _ _ _ h => h) (Or.inl ⟨by rfl, ?_⟩) hHeld ?_
    rotate_left
    · intro w hSw; (try dsimp only at hSw); (try simp only [cs_cons, cs_nil, and_true] at hSw); go_simp; (try with_reducible rfl)
    (try dsimp only [List.getElem_toArray, List.getElem_cons_zero, List.getElem_cons_succ]); (try simp only [Act.put, List.setIfInBounds_toArray, List.set_cons_zero, List.set_cons_succ])
    replace hHeld := hHeld.more 13
    refine wpG_step (i := 12) (o := _) (by kernel_rfl) rfl (fun K hK => ?_)
    go_simp
    (go_at_call 14; ((with_reducible refine (text_any dr (a % b) _ (hdr.keep hE)).mono ?_); rintro e w' ⟨rfl, hxx⟩))
    replace hE := hE.tr hxx
    (try go_wp2_with fail)
    refine hK.out _ _ ⟨HS.out _ hE, fun _ => trivial, fun _ => trivial⟩ (fun hHeld' => ?_)
    clear hHeld
    have hHeld := hHeld'
    clear hHeld'
    clear hK K
    (try dsimp only [List.getElem_toArray, List.getElem_cons_zero, List.getElem_cons_succ]); (try simp only [Act.put, List.setIfInBounds_toArray, List.set_cons_zero, List.set_cons_succ])
    refine wpG_step (i := 14) (o := _) (by kernel_rfl) rfl (fun K hK => ?_)
    go_simp
    (go_at_call 15; ((with_reducible refine (Z4.text_any er (a % b) _ (her.keep hE)).mono ?_); rintro e w' ⟨rfl, hxx⟩))
    replace hE := hE.tr hxx
    (try go_wp2_with fail)
    refine hK.out _ _ ⟨HS.out _ hE, fun _ => trivial, fun _ => trivial⟩ (fun hHeld' => ?_)
    clear hHeld
    have hHeld := hHeld'
    clear hHeld'
    clear hK K
    (try dsimp only [List.getElem_toArray, List.getElem_cons_zero, List.getElem_cons_succ]); (try simp only [Act.put, List.setIfInBounds_toArray, List.set_cons_zero, List.set_cons_succ])
    refine wpG_take (i := 15) (oi := _) (v := ?_) rfl (by kernel_rfl) (by kernel_rfl) (by kernel_rfl) (by decide) (by decide) (fun _ _ _ h => h) (Or.inl ⟨by rfl, ?_⟩) hHeld ?_
    rotate_left
    · intro w hSw; (try dsimp only at hSw); (try simp only [cs_cons, cs_nil, and_true] at hSw); go_simp; (try with_reducible rfl)
    (try dsimp only [List.getElem_toArray, List.getElem_cons_zero, List.getElem_cons_succ]); (try simp only [Act.put, List.setIfInBounds_toArray, List.set_cons_zero, List.set_cons_succ])
    replace hHeld := hHeld.more 15
    refine wpG_take (i := 16) (oi := _) (v := ?_) rfl (by kernel_rfl) (by kernel_rfl) (by kernel_rfl) (by decide) (by decide) (fun _ _ _ h => h) (Or.inl ⟨by rfl, ?_⟩) hHeld ?_
    rotate_left
    · intro w hSw; (try dsimp only at hSw); (try simp only [cs_cons, cs_nil, and_true] at hSw); go_simp; (try with_reducible rfl)
    (try dsimp only [List.getElem_toArray, List.getElem_cons_zero, List.getElem_cons_succ]); (try simp only [Act.put, List.setIfInBounds_toArray, List.set_cons_zero, List.set_cons_succ])
    replace hHeld := hHeld.more 16
    refine wpG_take (i := 17) (oi := _) (v := ?_) rfl (by kernel_rfl) (by kernel_rfl) (by kernel_rfl) (by decide) (by decide) (fun _ _ _ h => h) (Or.inl ⟨by rfl, ?_⟩) hHeld ?_
    rotate_left
    · intro w hSw; (try dsimp only at hSw); (try simp only [cs_cons, cs_nil, and_true] at hSw); go_simp; (try with_reducible rfl)
    (try dsimp only [List.getElem_toArray, List.getElem_cons_zero, List.getElem_cons_succ]); (try simp only [Act.put, List.setIfInBounds_toArray, List.set_cons_zero, List.set_cons_succ])
    replace hHeld := hHeld.more 17
    refine wpG_take (i := 18) (oi := _) (v := ?_) rfl (by kernel_rfl) (by kernel_rfl) (by kernel_rfl) (by decide) (by decide) (fun _ _ _ h => h) (Or.inl ⟨by rfl, ?_⟩) hHeld ?_
    rotate_left
    · intro w hSw; (try dsimp only at hSw); (try simp only [cs_cons, cs_nil, and_true] at hSw); go_simp; (try with_reducible rfl)
    (try dsimp only [List.getElem_toArray, List.getElem_cons_zero, List.getElem_cons_succ]); (try simp only [Act.put, List.setIfInBounds_toArray, List.set_cons_zero, List.set_cons_succ])
    replace hHeld := hHeld.more 18
    refine wpG_take (i := 19) (oi := _) (v := ?_) rfl (by kernel_rfl) (by kernel_rfl) (by kernel_rfl) (by decide) (by decide) (fun _ _ _ h => h) (Or.inl ⟨by rfl, ?_⟩) hHeld ?_
    rotate_left
    · intro w hSw; (try dsimp only at hSw); (try simp only [cs_cons, cs_nil, and_true] at hSw); go_simp; (try with_reducible rfl)
    (try dsimp only [List.getElem_toArray, List.getElem_cons_zero, List.getElem_cons_succ]); (try simp only [Act.put, List.setIfInBounds_toArray, List.set_cons_zero, List.set_cons_succ])
    replace hHeld := hHeld.more 19
    refine wpG_take (i := 22) (oi := _) (v := ?_) rfl (by kernel_rfl) (by kernel_rfl) (by kernel_rfl) (by decide) (by decide) (fun _ _ _ h => h) (Or.inl ⟨by rfl, ?_⟩) hHeld ?_
    rotate_left
    · intro w hSw; (try dsimp only at hSw); (try simp only [cs_cons, cs_nil, and_true] at hSw); go_simp; (try with_reducible rfl)
    (try dsimp only [List.getElem_toArray, List.getElem_cons_zero, List.getElem_cons_succ]); (try simp only [Act.put, List.setIfInBounds_toArray, List.set_cons_zero, List.set_cons_succ])
    replace hHeld := hHeld.more 22
    refine wpG_step (i := 20) (o := _) (by kernel_rfl) rfl (fun K hK => ?_)
    go_simp
    (go_at_call 30; ((with_reducible refine (gcd_any x y a b _ (hx.keep hE) (hy.keep hE)).mono ?_); rintro e w' ⟨g1, rfl, hg1, hxx⟩))
    replace hE := hE.tr hxx
    (try go_wp2_with fail)
    refine hK.out _ _ ⟨HS.out _ hE, fun _ => trivial, fun _ => trivial⟩ (fun hHeld' => ?_)
    clear hHeld
    have hHeld := hHeld'
    clear hHeld'
    clear hK K
    (try dsimp only [List.getElem_toArray, List.getElem_cons_zero, List.getElem_cons_succ]); (try simp only [Act.put, List.setIfInBounds_toArray, List.set_cons_zero, List.set_cons_succ])
    refine wpG_step (i := 21) (o := _) (by kernel_rfl) rfl (fun K hK => ?_)
    go_simp
    (go_at_call 14; ((with_reducible refine (text_any g1 (Int.gcd a b : Int) _ hg1).mono ?_); rintro e w' ⟨rfl, hxx⟩))
    replace hg1 := hg1.keep hxx
    replace hE := hE.tr hxx
    (try go_wp2_with fail)
    refine hK.out _ _ ⟨HS.out _ hE, fun _ => trivial, fun _ => trivial⟩ (fun hHeld' => ?_)
    clear hHeld
    have hHeld := hHeld'
    clear hHeld'
    clear hK K
    (try dsimp only [List.getElem_toArray, List.getElem_cons_zero, List.getElem_cons_succ]); (try simp only [Act.put, List.setIfInBounds_toArray, List.set_cons_zero, List.set_cons_succ])
    refine wpG_step (i := 23) (o := _) (by kernel_rfl) rfl (fun K hK => ?_)
    go_simp
    (go_at_call 15; ((with_reducible refine (Z4.text_any top (Int.gcd a b : Int) _ (htop.keep hE)).mono ?_); rintro e w' ⟨rfl, hxx⟩))
    replace hg1 := hg1.keep hxx
    replace hE := hE.tr hxx
    (try go_wp2_with fail)
    refine hK.out _ _ ⟨HS.out _ hE, fun _ => trivial, fun _ => trivial⟩ (fun hHeld' => ?_)
    clear hHeld
    have hHeld := hHeld'
    clear hHeld'
    clear hK K
    (try dsimp only [List.getElem_toArray, List.getElem_cons_zero, List.getElem_cons_succ]); (try simp only [Act.put, List.setIfInBounds_toArray, List.set_cons_zero, List.set_cons_succ])
    refine wpG_take (i := 24) (oi := _) (v := ?_) rfl (by kernel_rfl) (by kernel_rfl) (by kernel_rfl) (by decide) (by decide) (fun _ _ _ h => h) (Or.inl ⟨by rfl, ?_⟩) hHeld ?_
    rotate_left
    · intro w hSw; (try dsimp only at hSw); (try simp only [cs_cons, cs_nil, and_true] at hSw); go_simp; (try with_reducible rfl)
    (try dsimp only [List.getElem_toArray, List.getElem_cons_zero, List.getElem_cons_succ]); (try simp only [Act.put, List.setIfInBounds_toArray, List.set_cons_zero, List.set_cons_succ])
    replace hHeld := hHeld.more 24
    refine wpG_take (i := 25) (oi := _) (v := ?_) rfl (by kernel_rfl) (by kernel_rfl) (by kernel_rfl) (by decide) (by decide) (fun _ _ _ h => h) (Or.inl ⟨by rfl, ?_⟩) hHeld ?_
    rotate_left
    · intro w hSw; (try dsimp only at hSw); (try simp only [cs_cons, cs_nil, and_true] at hSw); go_simp; (try with_reducible rfl)
    (try dsimp only [List.getElem_toArray, List.getElem_cons_zero, List.getElem_cons_succ]); (try simp only [Act.put, List.setIfInBounds_toArray, List.set_cons_zero, List.set_cons_succ])
    replace hHeld := hHeld.more 25
    refine wpG_done (by kernel_rfl) ?_ _
    clear hHeld HS
    have V16 := V15.keep hE
    clear V15
    replace hx := hx.keep hE
    replace hy := hy.keep hE
    replace hp := hp.keep hE
    replace hq := hq.keep hE
    replace hdq := hdq.keep hE
    replace hdr := hdr.keep hE
    replace heq := heq.keep hE
    replace her := her.keep hE
    replace htop := htop.keep hE
    clear hE
    (try clear hxx)
    (try clear hWX)
    generalize w' = W16 at *
    clear hg1
    obtain ⟨c5_0, c5_1, c5_2, c5_3⟩ := V16.facts 12 rfl
    have c5_4 := V16.lt 12 rfl
    obtain ⟨c7_0, c7_1, c7_2, c7_3⟩ := V16.facts 10 rfl
    have c7_4 := V16.lt 10 rfl
    go_wp2_with fail
    (with_reducible refine (bezout_any x y a b 4000 _ (hx) (hy) BA BB (by omega)).mono ?_)
    rintro e W17 ⟨gg, uu, vv, zuu, zvv, rfl, hgg, huu, hvv, hxx, hbz1, hbz2⟩
    replace hx := hx.keep hxx
    replace hy := hy.keep hxx
    replace hp := hp.keep hxx
    replace hq := hq.keep hxx
    replace hdq := hdq.keep hxx
    replace hdr := hdr.keep hxx
    replace heq := heq.keep hxx
    replace her := her.keep hxx
    replace htop := htop.keep hxx
    (obtain ⟨hu0, hu1, huv⟩ := hbz2 hb0; have hsm := bez_small hb0 hu0 hu1 huv; have BU : Bt zuu 4000 := BB.le hsm.1; have BV : Bt zvv 4000 := bt_of hsm.2 BA (by omega); have PU := hd_ (parse_of_dec (Nat.lt_of_le_of_lt hsm.1 lB.out)); have PV := hd_ (parse_of_dec (lim_of hsm.2 lA.out)); have q1 : cmpZ (zuu * a + zvv * b) (Int.gcd a b : Int) = 0 := cmpZ_eq huv; have q2 : decide (0 ≤ sgnZ zuu) = true := decide_eq_true (by unfold sgnZ; (repeat' split) <;> omega); have q3 : cmpZ zuu ((b.natAbs : Int) / (Int.gcd a b : Int)) = -1 := cmpZ_lt hu1; replace q1 := hd_ q1; replace q3 := hd_ q3; clear hbz1 hbz2 hu0 hu1 huv hsm)
    clear c5_0 c5_1 c5_2 c5_3 c5_4 c7_0 c7_1 c7_2 c7_3 c7_4
    have V17 := V16.keep hxx
    clear V16 hxx
    go_upto_region 13 with fail
    replace V17 := V17.add' (n := W17.heap.size) (vs := #[Value.bool gg.n, Value.slice gg.s.a gg.s.len gg.s.cap]) (T := 24) (by simp)
    replace hx := hx.keep ((Ext.rf _).al (Obj.cells #[Value.bool gg.n, Value.slice gg.s.a gg.s.len gg.s.cap] 24))
    replace hy := hy.keep ((Ext.rf _).al (Obj.cells #[Value.bool gg.n, Value.slice gg.s.a gg.s.len gg.s.cap] 24))
    replace hp := hp.keep ((Ext.rf _).al (Obj.cells #[Value.bool gg.n, Value.slice gg.s.a gg.s.len gg.s.cap] 24))
    replace hq := hq.keep ((Ext.rf _).al (Obj.cells #[Value.bool gg.n, Value.slice gg.s.a gg.s.len gg.s.cap] 24))
    replace hdq := hdq.keep ((Ext.rf _).al (Obj.cells #[Value.bool gg.n, Value.slice gg.s.a gg.s.len gg.s.cap] 24))
    replace hdr := hdr.keep ((Ext.rf _).al (Obj.cells #[Value.bool gg.n, Value.slice gg.s.a gg.s.len gg.s.cap] 24))
    replace heq := heq.keep ((Ext.rf _).al (Obj.cells #[Value.bool gg.n, Value.slice gg.s.a gg.s.len gg.s.cap] 24))
    replace her := her.keep ((Ext.rf _).al (Obj.cells #[Value.bool gg.n, Value.slice gg.s.a gg.s.len gg.s.cap] 24))
    replace htop := htop.keep ((Ext.rf _).al (Obj.cells #[Value.bool gg.n, Value.slice gg.s.a gg.s.len gg.s.cap] 24))
    replace hgg := hgg.keep ((Ext.rf _).al (Obj.cells #[Value.bool gg.n, Value.slice gg.s.a gg.s.len gg.s.cap] 24))
    replace huu := huu.keep ((Ext.rf _).al (Obj.cells #[Value.bool gg.n, Value.slice gg.s.a gg.s.len gg.s.cap] 24))
    replace hvv := hvv.keep ((Ext.rf _).al (Obj.cells #[Value.bool gg.n, Value.slice gg.s.a gg.s.len gg.s.cap] 24))
    replace V17 := V17.add' (n := W17.heap.size + 1) (vs := #[Value.bool uu.n, Value.slice uu.s.a uu.s.len uu.s.cap]) (T := 24) (by simp)
    replace hx := hx.keep ((Ext.rf _).al (Obj.cells #[Value.bool uu.n, Value.slice uu.s.a uu.s.len uu.s.cap] 24))
    replace hy := hy.keep ((Ext.rf _).al (Obj.cells #[Value.bool uu.n, Value.slice uu.s.a uu.s.len uu.s.cap] 24))
    replace hp := hp.keep ((Ext.rf _).al (Obj.cells #[Value.bool uu.n, Value.slice uu.s.a uu.s.len uu.s.cap] 24))
    replace hq := hq.keep ((Ext.rf _).al (Obj.cells #[Value.bool uu.n, Value.slice uu.s.a uu.s.len uu.s.cap] 24))
    replace hdq := hdq.keep ((Ext.rf _).al (Obj.cells #[Value.bool uu.n, Value.slice uu.s.a uu.s.len uu.s.cap] 24))
    replace hdr := hdr.keep ((Ext.rf _).al (Obj.cells #[Value.bool uu.n, Value.slice uu.s.a uu.s.len uu.s.cap] 24))
    replace heq := heq.keep ((Ext.rf _).al (Obj.cells #[Value.bool uu.n, Value.slice uu.s.a uu.s.len uu.s.cap] 24))
    replace her := her.keep ((Ext.rf _).al (Obj.cells #[Value.bool uu.n, Value.slice uu.s.a uu.s.len uu.s.cap] 24))
    replace htop := htop.keep ((Ext.rf _).al (Obj.cells #[Value.bool uu.n, Value.slice uu.s.a uu.s.len uu.s.cap] 24))
    replace hgg := hgg.keep ((Ext.rf _).al (Obj.cells #[Value.bool uu.n, Value.slice uu.s.a uu.s.len uu.s.cap] 24))
    replace huu := huu.keep ((Ext.rf _).al (Obj.cells #[Value.bool uu.n, Value.slice uu.s.a uu.s.len uu.s.cap] 24))
    replace hvv := hvv.keep ((Ext.rf _).al (Obj.cells #[Value.bool uu.n, Value.slice uu.s.a uu.s.len uu.s.cap] 24))
    replace V17 := V17.add' (n := W17.heap.size + 1 + 1) (vs := #[Value.bool vv.n, Value.slice vv.s.a vv.s.len vv.s.cap]) (T := 24) (by simp)
    replace hx := hx.keep ((Ext.rf _).al (Obj.cells #[Value.bool vv.n, Value.slice vv.s.a vv.s.len vv.s.cap] 24))
    replace hy := hy.keep ((Ext.rf _).al (Obj.cells #[Value.bool vv.n, Value.slice vv.s.a vv.s.len vv.s.cap] 24))
    replace hp := hp.keep ((Ext.rf _).al (Obj.cells #[Value.bool vv.n, Value.slice vv.s.a vv.s.len vv.s.cap] 24))
    replace hq := hq.keep ((Ext.rf _).al (Obj.cells #[Value.bool vv.n, Value.slice vv.s.a vv.s.len vv.s.cap] 24))
    replace hdq := hdq.keep ((Ext.rf _).al (Obj.cells #[Value.bool vv.n, Value.slice vv.s.a vv.s.len vv.s.cap] 24))
    replace hdr := hdr.keep ((Ext.rf _).al (Obj.cells #[Value.bool vv.n, Value.slice vv.s.a vv.s.len vv.s.cap] 24))
    replace heq := heq.keep ((Ext.rf _).al (Obj.cells #[Value.bool vv.n, Value.slice vv.s.a vv.s.len vv.s.cap] 24))
    replace her := her.keep ((Ext.rf _).al (Obj.cells #[Value.bool vv.n, Value.slice vv.s.a vv.s.len vv.s.cap] 24))
    replace htop := htop.keep ((Ext.rf _).al (Obj.cells #[Value.bool vv.n, Value.slice vv.s.a vv.s.len vv.s.cap] 24))
    replace hgg := hgg.keep ((Ext.rf _).al (Obj.cells #[Value.bool vv.n, Value.slice vv.s.a vv.s.len vv.s.cap] 24))
    replace huu := huu.keep ((Ext.rf _).al (Obj.cells #[Value.bool vv.n, Value.slice vv.s.a vv.s.len vv.s.cap] 24))
    replace hvv := hvv.keep ((Ext.rf _).al (Obj.cells #[Value.bool vv.n, Value.slice vv.s.a vv.s.len vv.s.cap] 24))
    generalize (((W17.alloc (Obj.cells #[Value.bool gg.n, Value.slice gg.s.a gg.s.len gg.s.cap] 24)).alloc (Obj.cells #[Value.bool uu.n, Value.slice uu.s.a uu.s.len uu.s.cap] 24)).alloc (Obj.cells #[Value.bool vv.n, Value.slice vv.s.a vv.s.len vv.s.cap] 24)) = W18 at *
    have V18 := V17
    clear V17
    obtain ⟨c19_0, c19_1, c19_2, c19_3⟩ := V18.facts 1 rfl
    have c19_4 := V18.lt 1 rfl
    have c19_5 : W17.heap.size < W18.heap.size := by omega
    go_wp2_with fail
    (with_reducible refine (text_any uu zuu _ (huu)).mono ?_)
    rintro e W19 ⟨rfl, hxx⟩
    replace hx := hx.keep hxx
    replace hy := hy.keep hxx
    replace hp := hp.keep hxx
    replace hq := hq.keep hxx
    replace hdq := hdq.keep hxx
    replace hdr := hdr.keep hxx
    replace heq := heq.keep hxx
    replace her := her.keep hxx
    replace htop := htop.keep hxx
    replace hgg := hgg.keep hxx
    replace huu := huu.keep hxx
    replace hvv := hvv.keep hxx
    clear c19_0 c19_1 c19_2 c19_3 c19_4 c19_5
    have V19 := V18.keep hxx
    clear V18 hxx
    go_wp2_with fail
    (with_reducible refine (Z4.parse_any (dec zuu) _ (by have := PU.out.2.2; omega)).mono ?_)
    rintro e W20 ⟨xu, rfl, hxu, hxx⟩
    replace hx := hx.keep hxx
    replace hy := hy.keep hxx
    replace hp := hp.keep hxx
    replace hq := hq.keep hxx
    replace hdq := hdq.keep hxx
    replace hdr := hdr.keep hxx
    replace heq := heq.keep hxx
    replace her := her.keep hxx
    replace htop := htop.keep hxx
    replace hgg := hgg.keep hxx
    replace huu := huu.keep hxx
    replace hvv := hvv.keep hxx
    (try rw [PU.out.1] at hxu)
    rw [PU.out.2.1]
    have V20 := V19.keep hxx
    clear V19 hxx
    go_upto_region 14 with fail
    replace V20 := V20.add' (n := W20.heap.size) (vs := #[Value.bool xu.n, Value.slice xu.s.a xu.s.len xu.s.cap]) (T := 31) (by simp)
    replace hx := hx.keep ((Ext.rf _).al (Obj.cells #[Value.bool xu.n, Value.slice xu.s.a xu.s.len xu.s.cap] 31))
    replace hy := hy.keep ((Ext.rf _).al (Obj.cells #[Value.bool xu.n, Value.slice xu.s.a xu.s.len xu.s.cap] 31))
    replace hp := hp.keep ((Ext.rf _).al (Obj.cells #[Value.bool xu.n, Value.slice xu.s.a xu.s.len xu.s.cap] 31))
    replace hq := hq.keep ((Ext.rf _).al (Obj.cells #[Value.bool xu.n, Value.slice xu.s.a xu.s.len xu.s.cap] 31))
    replace hdq := hdq.keep ((Ext.rf _).al (Obj.cells #[Value.bool xu.n, Value.slice xu.s.a xu.s.len xu.s.cap] 31))
    replace hdr := hdr.keep ((Ext.rf _).al (Obj.cells #[Value.bool xu.n, Value.slice xu.s.a xu.s.len xu.s.cap] 31))
    replace heq := heq.keep ((Ext.rf _).al (Obj.cells #[Value.bool xu.n, Value.slice xu.s.a xu.s.len xu.s.cap] 31))
    replace her := her.keep ((Ext.rf _).al (Obj.cells #[Value.bool xu.n, Value.slice xu.s.a xu.s.len xu.s.cap] 31))
    replace htop := htop.keep ((Ext.rf _).al (Obj.cells #[Value.bool xu.n, Value.slice xu.s.a xu.s.len xu.s.cap] 31))
    replace hgg := hgg.keep ((Ext.rf _).al (Obj.cells #[Value.bool xu.n, Value.slice xu.s.a xu.s.len xu.s.cap] 31))
    replace huu := huu.keep ((Ext.rf _).al (Obj.cells #[Value.bool xu.n, Value.slice xu.s.a xu.s.len xu.s.cap] 31))
    replace hvv := hvv.keep ((Ext.rf _).al (Obj.cells #[Value.bool xu.n, Value.slice xu.s.a xu.s.len xu.s.cap] 31))
    replace hxu := hxu.keep ((Ext.rf _).al (Obj.cells #[Value.bool xu.n, Value.slice xu.s.a xu.s.len xu.s.cap] 31))
    replace V20 := V20.add' (n := W20.heap.size + 1) (vs := #[Value.int .i64 0, Value.int .i64 (parseP (dec zuu))]) (T := 26) (by simp)
    replace hx := hx.keep ((Ext.rf _).al (Obj.cells #[Value.int .i64 0, Value.int .i64 (parseP (dec zuu))] 26))
    replace hy := hy.keep ((Ext.rf _).al (Obj.cells #[Value.int .i64 0, Value.int .i64 (parseP (dec zuu))] 26))
    replace hp := hp.keep ((Ext.rf _).al (Obj.cells #[Value.int .i64 0, Value.int .i64 (parseP (dec zuu))] 26))
    replace hq := hq.keep ((Ext.rf _).al (Obj.cells #[Value.int .i64 0, Value.int .i64 (parseP (dec zuu))] 26))
    replace hdq := hdq.keep ((Ext.rf _).al (Obj.cells #[Value.int .i64 0, Value.int .i64 (parseP (dec zuu))] 26))
    replace hdr := hdr.keep ((Ext.rf _).al (Obj.cells #[Value.int .i64 0, Value.int .i64 (parseP (dec zuu))] 26))
    replace heq := heq.keep ((Ext.rf _).al (Obj.cells #[Value.int .i64 0, Value.int .i64 (parseP (dec zuu))] 26))
    replace her := her.keep ((Ext.rf _).al (Obj.cells #[Value.int .i64 0, Value.int .i64 (parseP (dec zuu))] 26))
    replace htop := htop.keep ((Ext.rf _).al (Obj.cells #[Value.int .i64 0, Value.int .i64 (parseP (dec zuu))] 26))
    replace hgg := hgg.keep ((Ext.rf _).al (Obj.cells #[Value.int .i64 0, Value.int .i64 (parseP (dec zuu))] 26))
    replace huu := huu.keep ((Ext.rf _).al (Obj.cells #[Value.int .i64 0, Value.int .i64 (parseP (dec zuu))] 26))
    replace hvv := hvv.keep ((Ext.rf _).al (Obj.cells #[Value.int .i64 0, Value.int .i64 (parseP (dec zuu))] 26))
    replace hxu := hxu.keep ((Ext.rf _).al (Obj.cells #[Value.int .i64 0, Value.int .i64 (parseP (dec zuu))] 26))
    generalize ((W20.alloc (Obj.cells #[Value.bool xu.n, Value.slice xu.s.a xu.s.len xu.s.cap] 31)).alloc (Obj.cells #[Value.int .i64 0, Value.int .i64 (parseP (dec zuu))] 26)) = W21 at *
    have V21 := V20
    clear V20
    obtain ⟨c20_0, c20_1, c20_2, c20_3⟩ := V21.facts 2 rfl
    have c20_4 := V21.lt 2 rfl
    have c20_5 : W17.heap.size + 1 < W21.heap.size := by omega
    have c20_6 : W17.heap.size < W21.heap.size := by omega
    go_wp2_with fail
    (with_reducible refine (text_any vv zvv _ (hvv)).mono ?_)
    rintro e W22 ⟨rfl, hxx⟩
    replace hx := hx.keep hxx
    replace hy := hy.keep hxx
    replace hp := hp.keep hxx
    replace hq := hq.keep hxx
    replace hdq := hdq.keep hxx
    replace hdr := hdr.keep hxx
    replace heq := heq.keep hxx
    replace her := her.keep hxx
    replace htop := htop.keep hxx
    replace hgg := hgg.keep hxx
    replace huu := huu.keep hxx
    replace hvv := hvv.keep hxx
    replace hxu := hxu.keep hxx
    clear c20_0 c20_1 c20_2 c20_3 c20_4 c20_5 c20_6
    have V22 := V21.keep hxx
    clear V21 hxx
    go_wp2_with fail
    (with_reducible refine (Z4.parse_any (dec zvv) _ (by have := PV.out.2.2; omega)).mono ?_)
    rintro e W23 ⟨xw, rfl, hxw, hxx⟩
    replace hx := hx.keep hxx
    replace hy := hy.keep hxx
    replace hp := hp.keep hxx
    replace hq := hq.keep hxx
    replace hdq := hdq.keep hxx
    replace hdr := hdr.keep hxx
    replace heq := heq.keep hxx
    replace her := her.keep hxx
    replace htop := htop.keep hxx
    replace hgg := hgg.keep hxx
    replace huu := huu.keep hxx
    replace hvv := hvv.keep hxx
    replace hxu := hxu.keep hxx
    (try rw [PV.out.1] at hxw)
    rw [PV.out.2.1]
    have V23 := V22.keep hxx
    clear V22 hxx
    go_upto_region 15 with fail
    replace V23 := V23.add' (n := W23.heap.size) (vs := #[Value.bool xw.n, Value.slice xw.s.a xw.s.len xw.s.cap]) (T := 31) (by simp)
    replace hx := hx.keep ((Ext.rf _).al (Obj.cells #[Value.bool xw.n, Value.slice xw.s.a xw.s.len xw.s.cap] 31))
    replace hy := hy.keep ((Ext.rf _).al (Obj.cells #[Value.bool xw.n, Value.slice xw.s.a xw.s.len xw.s.cap] 31))
    replace hp := hp.keep ((Ext.rf _).al (Obj.cells #[Value.bool xw.n, Value.slice xw.s.a xw.s.len xw.s.cap] 31))
    replace hq := hq.keep ((Ext.rf _).al (Obj.cells #[Value.bool xw.n, Value.slice xw.s.a xw.s.len xw.s.cap] 31))
    replace hdq := hdq.keep ((Ext.rf _).al (Obj.cells #[Value.bool xw.n, Value.slice xw.s.a xw.s.len xw.s.cap] 31))
    replace hdr := hdr.keep ((Ext.rf _).al (Obj.cells #[Value.bool xw.n, Value.slice xw.s.a xw.s.len xw.s.cap] 31))
    replace heq := heq.keep ((Ext.rf _).al (Obj.cells #[Value.bool xw.n, Value.slice xw.s.a xw.s.len xw.s.cap] 31))
    replace her := her.keep ((Ext.rf _).al (Obj.cells #[Value.bool xw.n, Value.slice xw.s.a xw.s.len xw.s.cap] 31))
    replace htop := htop.keep ((Ext.rf _).al (Obj.cells #[Value.bool xw.n, Value.slice xw.s.a xw.s.len xw.s.cap] 31))
    replace hgg := hgg.keep ((Ext.rf _).al (Obj.cells #[Value.bool xw.n, Value.slice xw.s.a xw.s.len xw.s.cap] 31))
    replace huu := huu.keep ((Ext.rf _).al (Obj.cells #[Value.bool xw.n, Value.slice xw.s.a xw.s.len xw.s.cap] 31))
    replace hvv := hvv.keep ((Ext.rf _).al (Obj.cells #[Value.bool xw.n, Value.slice xw.s.a xw.s.len xw.s.cap] 31))
    replace hxu := hxu.keep ((Ext.rf _).al (Obj.cells #[Value.bool xw.n, Value.slice xw.s.a xw.s.len xw.s.cap] 31))
    replace hxw := hxw.keep ((Ext.rf _).al (Obj.cells #[Value.bool xw.n, Value.slice xw.s.a xw.s.len xw.s.cap] 31))
    replace V23 := V23.add' (n := W23.heap.size + 1) (vs := #[Value.int .i64 0, Value.int .i64 (parseP (dec zvv))]) (T := 26) (by simp)
    replace hx := hx.keep ((Ext.rf _).al (Obj.cells #[Value.int .i64 0, Value.int .i64 (parseP (dec zvv))] 26))
    replace hy := hy.keep ((Ext.rf _).al (Obj.cells #[Value.int .i64 0, Value.int .i64 (parseP (dec zvv))] 26))
    replace hp := hp.keep ((Ext.rf _).al (Obj.cells #[Value.int .i64 0, Value.int .i64 (parseP (dec zvv))] 26))
    replace hq := hq.keep ((Ext.rf _).al (Obj.cells #[Value.int .i64 0, Value.int .i64 (parseP (dec zvv))] 26))
    replace hdq := hdq.keep ((Ext.rf _).al (Obj.cells #[Value.int .i64 0, Value.int .i64 (parseP (dec zvv))] 26))
    replace hdr := hdr.keep ((Ext.rf _).al (Obj.cells #[Value.int .i64 0, Value.int .i64 (parseP (dec zvv))] 26))
    replace heq := heq.keep ((Ext.rf _).al (Obj.cells #[Value.int .i64 0, Value.int .i64 (parseP (dec zvv))] 26))
    replace her := her.keep ((Ext.rf _).al (Obj.cells #[Value.int .i64 0, Value.int .i64 (parseP (dec zvv))] 26))
    replace htop := htop.keep ((Ext.rf _).al (Obj.cells #[Value.int .i64 0, Value.int .i64 (parseP (dec zvv))] 26))
    replace hgg := hgg.keep ((Ext.rf _).al (Obj.cells #[Value.int .i64 0, Value.int .i64 (parseP (dec zvv))] 26))
    replace huu := huu.keep ((Ext.rf _).al (Obj.cells #[Value.int .i64 0, Value.int .i64 (parseP (dec zvv))] 26))
    replace hvv := hvv.keep ((Ext.rf _).al (Obj.cells #[Value.int .i64 0, Value.int .i64 (parseP (dec zvv))] 26))
    replace hxu := hxu.keep ((Ext.rf _).al (Obj.cells #[Value.int .i64 0, Value.int .i64 (parseP (dec zvv))] 26))
    replace hxw := hxw.keep ((Ext.rf _).al (Obj.cells #[Value.int .i64 0, Value.int .i64 (parseP (dec zvv))] 26))
    generalize ((W23.alloc (Obj.cells #[Value.bool xw.n, Value.slice xw.s.a xw.s.len xw.s.cap] 31)).alloc (Obj.cells #[Value.int .i64 0, Value.int .i64 (parseP (dec zvv))] 26)) = W24 at *
    have V24 := V23
    clear V23
    (try go_upto_region 15 with fail)
    obtain ⟨c18_0, c18_1, c18_2, c18_3⟩ := V24.facts 6 rfl
    obtain ⟨c17_0, c17_1, c17_2, c17_3⟩ := V24.facts 7 rfl
    obtain ⟨c22_0, c22_1, c22_2, c22_3⟩ := V24.facts 2 rfl
    obtain ⟨c24_0, c24_1, c24_2, c24_3⟩ := V24.facts 0 rfl
    have HS := hd_ (show ∀ W', Ext W24 W' → Cs W' [(W17.heap.size, 0, Value.bool gg.n), (W17.heap.size, 1, Value.slice gg.s.a gg.s.len gg.s.cap), (W14.heap.size, 0, Value.bool top.n), (W14.heap.size, 1, Value.slice top.s.a top.s.len top.s.cap), (W20.heap.size + 1, 0, Value.int .i64 0), (W23.heap.size + 1, 0, Value.int .i64 0)] from fun W' hW => by simp only [cs_cons, cs_nil]; exact ⟨cell_later hW c18_0, cell_later hW c18_1, cell_later hW c17_0, cell_later hW c17_1, cell_later hW c22_0, cell_later hW c24_0, trivial⟩)
    clear c18_0 c18_1 c18_2 c18_3 c17_0 c17_1 c17_2 c17_3 c22_0 c22_1 c22_2 c22_3 c24_0 c24_1 c24_2 c24_3
    refine wpG_begin (S := (fun w' => Cs w' [(W17.heap.size, 0, Value.bool gg.n), (W17.heap.size, 1, Value.slice gg.s.a gg.s.len gg.s.cap), (W14.heap.size, 0, Value.bool top.n), (W14.heap.size, 1, Value.slice top.s.a top.s.len top.s.cap), (W20.heap.size + 1, 0, Value.int .i64 0), (W23.heap.size + 1, 0, Value.int .i64 0)])) (fun _ => True) (fun _ => True) 99 98 (by kernel_rfl) (fun WX hWX => ?_) (fun WX hWX hHeld => ?_)
    · exact ⟨HS.out _ hWX, trivial, trivial⟩
    have hE := hWX
    refine wpG_take (i := 0) (oi := _) (v := ?_) rfl (by kernel_rfl) (by kernel_rfl) (by kernel_rfl) (by decide) (by decide) (fun _ _ _ h => h) (Or.inl ⟨by rfl, ?_⟩) hHeld ?_
    rotate_left
    · intro w hSw; (try dsimp only at hSw); (try simp only [cs_cons, cs_nil, and_true] at hSw); go_simp; (try with_reducible rfl)
    (try dsimp only [List.getElem_toArray, List.getElem_cons_zero, List.getElem_cons_succ]); (try simp only [Act.put, List.setIfInBounds_toArray, List.set_cons_zero, List.set_cons_succ])
    replace hHeld := hHeld.more 0
    refine wpG_take (i := 2) (oi := _) (v := ?_) rfl (by kernel_rfl) (by kernel_rfl) (by kernel_rfl) (by decide) (by decide) (fun _ _ _ h => h) (Or.inl ⟨by rfl, ?_⟩) hHeld ?_
    rotate_left
    · intro w hSw; (try dsimp only at hSw); (try simp only [cs_cons, cs_nil, and_true] at hSw); go_simp; (try with_reducible rfl)
    (try dsimp only [List.getElem_toArray, List.getElem_cons_zero, List.getElem_cons_succ]); (try simp only [Act.put, List.setIfInBounds_toArray, List.set_cons_zero, List.set_cons_succ])
    replace hHeld := hHeld.more 2
    refine wpG_step (i := 1) (o := _) (by kernel_rfl) rfl (fun K hK => ?_)
    go_simp
    (go_at_call 14; ((with_reducible refine (text_any gg (Int.gcd a b : Int) _ (hgg.keep hE)).mono ?_); rintro e w' ⟨rfl, hxx⟩))
    replace hE := hE.tr hxx
    (try go_wp2_with fail)
    refine hK.out _ _ ⟨HS.out _ hE, fun _ => trivial, fun _ => trivial⟩ (fun hHeld' => ?_)
    clear hHeld
    have hHeld := hHeld'
    clear hHeld'
    clear hK K
    (try dsimp only [List.getElem_toArray, List.getElem_cons_zero, List.getElem_cons_succ]); (try simp only [Act.put, List.setIfInBounds_toArray, List.set_cons_zero, List.set_cons_succ])
    refine wpG_step (i := 3) (o := _) (by kernel_rfl) rfl (fun K hK => ?_)
    go_simp
    (go_at_call 15; ((with_reducible refine (Z4.text_any top (Int.gcd a b : Int) _ (htop.keep hE)).mono ?_); rintro e w' ⟨rfl, hxx⟩))
    replace hE := hE.tr hxx
    (try go_wp2_with fail)
    refine hK.out _ _ ⟨HS.out _ hE, fun _ => trivial, fun _ => trivial⟩ (fun hHeld' => ?_)
    clear hHeld
    have hHeld := hHeld'
    clear hHeld'
    clear hK K
    (try dsimp only [List.getElem_toArray, List.getElem_cons_zero, List.getElem_cons_succ]); (try simp only [Act.put, List.setIfInBounds_toArray, List.set_cons_zero, List.set_cons_succ])
    refine wpG_take (i := 4) (oi := _) (v := ?_) rfl (by kernel_rfl) (by kernel_rfl) (by kernel_rfl) (by decide) (by decide) (fun _ _ _ h => h) (Or.inl ⟨by rfl, ?_⟩) hHeld ?_
    rotate_left
    · intro w hSw; (try dsimp only at hSw); (try simp only [cs_cons, cs_nil, and_true] at hSw); go_simp; (try with_reducible rfl)
    (try dsimp only [List.getElem_toArray, List.getElem_cons_zero, List.getElem_cons_succ]); (try simp only [Act.put, List.setIfInBounds_toArray, List.set_cons_zero, List.set_cons_succ])
    replace hHeld := hHeld.more 4
    refine wpG_take (i := 5) (oi := _) (v := ?_) rfl (by kernel_rfl) (by kernel_rfl) (by kernel_rfl) (by decide) (by decide) (fun _ _ _ h => h) (Or.inl ⟨by rfl, ?_⟩) hHeld ?_
    rotate_left
    · intro w hSw; (try dsimp only at hSw); (try simp only [cs_cons, cs_nil, and_true] at hSw); go_simp; (try with_reducible rfl)
    (try dsimp only [List.getElem_toArray, List.getElem_cons_zero, List.getElem_cons_succ]); (try simp only [Act.put, List.setIfInBounds_toArray, List.set_cons_zero, List.set_cons_succ])
    replace hHeld := hHeld.more 5
    refine wpG_take (i := 6) (oi := _) (v := ?_) rfl (by kernel_rfl) (by kernel_rfl) (by kernel_rfl) (by decide) (by decide) (fun _ _ _ h => h) (Or.inl ⟨by rfl, ?_⟩) hHeld ?_
    rotate_left
    · intro w hSw; (try dsimp only at hSw); (try simp only [cs_cons, cs_nil, and_true] at hSw); go_simp; (try with_reducible rfl)
    (try dsimp only [List.getElem_toArray, List.getElem_cons_zero, List.getElem_cons_succ]); (try simp only [Act.put, List.setIfInBounds_toArray, List.set_cons_zero, List.set_cons_succ])
    replace hHeld := hHeld.more 6
    refine wpG_take (i := 7) (oi := _) (v := ?_) rfl (by kernel_rfl) (by kernel_rfl) (by kernel_rfl) (by decide) (by decide) (fun _ _ _ h => h) (Or.inl ⟨by rfl, ?_⟩) hHeld ?_
    rotate_left
    · intro w hSw; (try dsimp only at hSw); (try simp only [cs_cons, cs_nil, and_true] at hSw); go_simp; (try with_reducible rfl)
    (try dsimp only [List.getElem_toArray, List.getElem_cons_zero, List.getElem_cons_succ]); (try simp only [Act.put, List.setIfInBounds_toArray, List.set_cons_zero, List.set_cons_succ])
    replace hHeld := hHeld.more 7
    refine wpG_take (i := 8) (oi := _) (v := ?_) rfl (by kernel_rfl) (by kernel_rfl) (by kernel_rfl) (by decide) (by decide) (fun _ _ _ h => h) (Or.inl ⟨by rfl, ?_⟩) hHeld ?_
    rotate_left
    · intro w hSw; (try dsimp only at hSw); (try simp only [cs_cons, cs_nil, and_true] at hSw); go_simp; (try with_reducible rfl)
    (try dsimp only [List.getElem_toArray, List.getElem_cons_zero, List.getElem_cons_succ]); (try simp only [Act.put, List.setIfInBounds_toArray, List.set_cons_zero, List.set_cons_succ])
    replace hHeld := hHeld.more 8
    refine wpG_take (i := 9) (oi := _) (v := ?_) rfl (by kernel_rfl) (by kernel_rfl) (by kernel_rfl) (by decide) (by decide) (fun _ _ _ h => h) (Or.inl ⟨by rfl, ?_⟩) hHeld ?_
    rotate_left
    · intro w hSw; (try dsimp only at hSw); (try simp only [cs_cons, cs_nil, and_true] at hSw); go_simp; (try with_reducible rfl)
    (try dsimp only [List.getElem_toArray, List.getElem_cons_zero, List.getElem_cons_succ]); (try simp only [Act.put, List.setIfInBounds_toArray, List.set_cons_zero, List.set_cons_succ])
    replace hHeld := hHeld.more 9
    refine wpG_take (i := 10) (oi := _) (v := ?_) rfl (by kernel_rfl) (by kernel_rfl) (by kernel_rfl) (by decide) (by decide) (fun _ _ _ h => h) (Or.inl ⟨by rfl, ?_⟩) hHeld ?_
    rotate_left
    · intro w hSw; (try dsimp only at hSw); (try simp only [cs_cons, cs_nil, and_true] at hSw); go_simp; (try with_reducible rfl)
    (try dsimp only [List.getElem_toArray, List.getElem_cons_zero, List.getElem_cons_succ]); (try simp only [Act.put, List.setIfInBounds_toArray, List.set_cons_zero, List.set_cons_succ])
    replace hHeld := hHeld.more 10
    refine wpG_take (i := 11) (oi := _) (v := ?_) rfl (by kernel_rfl) (by kernel_rfl) (by kernel_rfl) (by decide) (by decide) (fun _ _ _ h => h) (Or.inl ⟨by rfl, ?_⟩) hHeld ?_
    rotate_left
    · intro w hSw; (try dsimp only at hSw); (try simp only [cs_cons, cs_nil, and_true] at hSw); go_simp; (try with_reducible rfl)
    (try dsimp only [List.getElem_toArray, List.getElem_cons_zero, List.getElem_cons_succ]); (try simp only [Act.put, List.setIfInBounds_toArray, List.set_cons_zero, List.set_cons_succ])
    replace hHeld := hHeld.more 11
    refine wpG_take (i := 12) (oi := _) (v := ?_) rfl (by kernel_rfl) (by kernel_rfl) (by kernel_rfl) (by decide) (by decide) (fun _ _ _ h => h) (Or.inl ⟨by rfl, ?_⟩) hHeld ?_
    rotate_left
    · intro w hSw; (try dsimp only at hSw); (try simp only [cs_cons, cs_nil, and_true] at hSw); go_simp; (try with_reducible rfl)
    (try dsimp only [List.getElem_toArray, List.getElem_cons_zero, List.getElem_cons_succ]); (try simp only [Act.put, List.setIfInBounds_toArray, List.set_cons_zero, List.set_cons_succ])
    replace hHeld := hHeld.more 12
    refine wpG_take (i := 13) (oi := _) (v := ?_) rfl (by kernel_rfl) (by kernel_rfl) (by kernel_rfl) (by decide) (by decide) (fun _ _ _ h => h) (Or.inl ⟨by rfl, ?_⟩) hHeld ?_
    rotate_left
    · intro w hSw; (try dsimp only at hSw); (try simp only [cs_cons, cs_nil, and_true] at hSw); go_simp; (try with_reducible rfl)
    (try dsimp only [List.getElem_toArray, List.getElem_cons_zero, List.getElem_cons_succ]); (try simp only [Act.put, List.setIfInBounds_toArray, List.set_cons_zero, List.set_cons_succ])
    replace hHeld := hHeld.more 13
    refine wpG_take (i := 14) (oi := _) (v := ?_) rfl (by kernel_rfl) (by kernel_rfl) (by kernel_rfl) (by decide) (by decide) (fun _ _ _ h => h) (Or.inl ⟨by rfl, ?_⟩) hHeld ?_
    rotate_left
    · intro w hSw; (try dsimp only at hSw); (try simp only [cs_cons, cs_nil, and_true] at hSw); go_simp; (try with_reducible rfl)
    (try dsimp only [List.getElem_toArray, List.getElem_cons_zero, List.getElem_cons_succ]); (try simp only [Act.put, List.setIfInBounds_toArray, List.set_cons_zero, List.set_cons_succ])
    replace hHeld := hHeld.more 14
    refine wpG_done (by kernel_rfl) ?_ _
    clear hHeld HS
    have V25 := V24.keep hE
    clear V24
    replace hx := hx.keep hE
    replace hy := hy.keep hE
    replace hp := hp.keep hE
    replace hq := hq.keep hE
    replace hdq := hdq.keep hE
    replace hdr := hdr.keep hE
    replace heq := heq.keep hE
    replace her := her.keep hE
    replace htop := htop.keep hE
    replace hgg := hgg.keep hE
    replace huu := huu.keep hE
    replace hvv := hvv.keep hE
    replace hxu := hxu.keep hE
    replace hxw := hxw.keep hE
    clear hE
    (try clear hxx)
    (try clear hWX)
    generalize w' = W25 at *
    obtain ⟨c11_0, c11_1, c11_2, c11_3⟩ := V25.facts 13 rfl
    go_wp2_with fail
    (with_reducible refine (Z4.Sign_any q b _ (hq)).mono ?_)
    rintro e W26 ⟨rfl, hxx⟩
    replace hx := hx.keep hxx
    replace hy := hy.keep hxx
    replace hp := hp.keep hxx
    replace hq := hq.keep hxx
    replace hdq := hdq.keep hxx
    replace hdr := hdr.keep hxx
    replace heq := heq.keep hxx
    replace her := her.keep hxx
    replace htop := htop.keep hxx
    replace hgg := hgg.keep hxx
    replace huu := huu.keep hxx
    replace hvv := hvv.keep hxx
    replace hxu := hxu.keep hxx
    replace hxw := hxw.keep hxx
    clear c11_0 c11_1 c11_2 c11_3
    have V26 := V25.keep hxx
    clear V25 hxx
    go_upto_region 19 with fail
    (try go_upto_region 19 with fail)
    obtain ⟨c11_0, c11_1, c11_2, c11_3⟩ := V26.facts 13 rfl
    obtain ⟨c17_0, c17_1, c17_2, c17_3⟩ := V26.facts 7 rfl
    have HL := hd_ (show ∀ W', Ext W26 W' → Cs W' [(W7.heap.size, 0, Value.bool q.n), (W7.heap.size, 1, Value.slice q.s.a q.s.len q.s.cap), (W14.heap.size, 0, Value.bool top.n), (W14.heap.size, 1, Value.slice top.s.a top.s.len top.s.cap)] from fun W' hW => by simp only [cs_cons, cs_nil]; exact ⟨cell_later hW c11_0, cell_later hW c11_1, cell_later hW c17_0, cell_later hW c17_1, trivial⟩)
    clear c11_0 c11_1 c11_2 c11_3 c17_0 c17_1 c17_2 c17_3
    have HSS := hd_ (show ∀ w', Ext W26 w' → ((fun _ => True) w') ∧ ((fun _ => True : World → Prop) w') ∧ ((fun _ => True : World → Prop) w') from fun w' hw' => ⟨trivial, trivial, trivial⟩)
    refine wpE_begin (S := (fun _ => True)) [(8, 31, #[Value.bool false, Value.slice none 0 0]), (9, 31, #[Value.bool false, Value.slice none 0 0]), (10, 26, #[Value.int .i64 0, Value.int .i64 0])] [11, 12, 13] [0, 1, 2, 3, 4, 5] (fun _ => True) (fun _ => True) 99 99 11 (by kernel_rfl) (by kernel_rfl) (by kernel_rfl) (by kernel_rfl) (fun _ _ d _ _ h => by cases d <;> exact h) (by kernel_rfl) rfl (by kernel_rfl) (by kernel_rfl) HSS.out (fun WX hWX => ?_)
    have hE := hWX
    have hEW := Ext.rf WX
    refine wpE_take (i := 0) (oi := _) (v := ?_) rfl (by kernel_rfl) (by kernel_rfl) (by kernel_rfl) (by kernel_rfl) (by kernel_rfl) (fun _ _ _ h => h) (Or.inl ⟨by rfl, ?_⟩) hEW ?_
    rotate_left
    · intro w hSw; (replace hSw := HL.out _ (hWX.tr hSw)); (try simp only [cs_cons, cs_nil, and_true] at hSw); go_simp; (try with_reducible rfl)
    (try dsimp only [List.getElem_toArray, List.getElem_cons_zero, List.getElem_cons_succ]); (try simp only [Act.put, List.setIfInBounds_toArray, List.set_cons_zero, List.set_cons_succ])
    refine wpE_take (i := 2) (oi := _) (v := ?_) rfl (by kernel_rfl) (by kernel_rfl) (by kernel_rfl) (by kernel_rfl) (by kernel_rfl) (fun _ _ _ h => h) (Or.inl ⟨by rfl, ?_⟩) hEW ?_
    rotate_left
    · intro w hSw; (replace hSw := HL.out _ (hWX.tr hSw)); (try simp only [cs_cons, cs_nil, and_true] at hSw); go_simp; (try with_reducible rfl)
    (try dsimp only [List.getElem_toArray, List.getElem_cons_zero, List.getElem_cons_succ]); (try simp only [Act.put, List.setIfInBounds_toArray, List.set_cons_zero, List.set_cons_succ])
    refine wpE_step (i := 1) (o := _) (by kernel_rfl) (by kernel_rfl) rfl (fun wY hwY K hK => ?_)
    replace hE := hE.tr hwY
    replace hEW := hEW.tr hwY
    go_simp
    (go_at_call 35; ((with_reducible refine (Z4.abs_any q b _ (hq.keep hE)).mono ?_); rintro e w' ⟨y1, rfl, hy1, hxx⟩))
    replace hE := hE.tr hxx
    replace hEW := hEW.tr hxx
    (try go_wp2_with fail)
    refine hK.out _ _ hxx ?_
    clear hK K hxx
    (try dsimp only [List.getElem_toArray, List.getElem_cons_zero, List.getElem_cons_succ]); (try simp only [Act.put, List.setIfInBounds_toArray, List.set_cons_zero, List.set_cons_succ])
    refine wpE_step (i := 3) (o := _) (by kernel_rfl) (by kernel_rfl) rfl (fun wY hwY K hK => ?_)
    replace hy1 := hy1.keep hwY
    replace hE := hE.tr hwY
    replace hEW := hEW.tr hwY
    go_simp
    (go_at_call 32; ((with_reducible refine (Z4.div_any y1 top (b.natAbs : Int) (Int.gcd a b : Int) _ hy1 (htop.keep hE) (gcd_ne hb0) ((bt_gcd BA BB).mono (by omega))).mono ?_); rintro e w' ⟨over, o9, rfl, hover, ho9, hxx⟩))
    replace hy1 := hy1.keep hxx
    replace hE := hE.tr hxx
    replace hEW := hEW.tr hxx
    (try go_wp2_with fail)
    refine hK.out _ _ hxx ?_
    clear hK K hxx
    (try dsimp only [List.getElem_toArray, List.getElem_cons_zero, List.getElem_cons_succ]); (try simp only [Act.put, List.setIfInBounds_toArray, List.set_cons_zero, List.set_cons_succ])
    refine wpE_take (i := 4) (oi := _) (v := ?_) rfl (by kernel_rfl) (by kernel_rfl) (by kernel_rfl) (by kernel_rfl) (by kernel_rfl) (fun _ _ _ h => h) (Or.inl ⟨by rfl, ?_⟩) hEW ?_
    rotate_left
    · intro w hSw; (replace hSw := HL.out _ (hWX.tr hSw)); (try simp only [cs_cons, cs_nil, and_true] at hSw); go_simp; (try with_reducible rfl)
    (try dsimp only [List.getElem_toArray, List.getElem_cons_zero, List.getElem_cons_succ]); (try simp only [Act.put, List.setIfInBounds_toArray, List.set_cons_zero, List.set_cons_succ])
    refine wpE_take (i := 5) (oi := _) (v := ?_) rfl (by kernel_rfl) (by kernel_rfl) (by kernel_rfl) (by kernel_rfl) (by kernel_rfl) (fun _ _ _ h => h) (Or.inl ⟨by rfl, ?_⟩) hEW ?_
    rotate_left
    · intro w hSw; (replace hSw := HL.out _ (hWX.tr hSw)); (try simp only [cs_cons, cs_nil, and_true] at hSw); go_simp; (try with_reducible rfl)
    (try dsimp only [List.getElem_toArray, List.getElem_cons_zero, List.getElem_cons_succ]); (try simp only [Act.put, List.setIfInBounds_toArray, List.set_cons_zero, List.set_cons_succ])
    refine wpE_takeS (i := 6) (oi := _) (v := ?_) rfl (by kernel_rfl) (by kernel_rfl) (by kernel_rfl) (by kernel_rfl) (by kernel_rfl) (by decide) (by decide) (fun w' hw' => HSS.out w' (hWX.tr hw')) (fun _ _ _ h => h) (Or.inl ⟨by rfl, ?_⟩) hEW ?_
    rotate_left
    · intro w hSw; (try dsimp only at hSw); (try simp only [cs_cons, cs_nil, and_true] at hSw); go_simp; (try with_reducible rfl)
    (try dsimp only [List.getElem_toArray, List.getElem_cons_zero, List.getElem_cons_succ]); (try simp only [Act.put, List.setIfInBounds_toArray, List.set_cons_zero, List.set_cons_succ])
    refine wpE_takeS (i := 7) (oi := _) (v := ?_) rfl (by kernel_rfl) (by kernel_rfl) (by kernel_rfl) (by kernel_rfl) (by kernel_rfl) (by decide) (by decide) (fun w' hw' => HSS.out w' (hWX.tr hw')) (fun _ _ _ h => h) (Or.inl ⟨by rfl, ?_⟩) hEW ?_
    rotate_left
    · intro w hSw; (try dsimp only at hSw); (try simp only [cs_cons, cs_nil, and_true] at hSw); go_simp; (try with_reducible rfl)
    (try dsimp only [List.getElem_toArray, List.getElem_cons_zero, List.getElem_cons_succ]); (try simp only [Act.put, List.setIfInBounds_toArray, List.set_cons_zero, List.set_cons_succ])
    refine wpE_stores [8, 9, 10] [25, 26, 27] rfl (by kernel_rfl) (by kernel_rfl) (by kernel_rfl) (fun w' hw' => HSS.out w' (hE.tr hw')) (fun wZ ns hwZ hn1 hn2 hn3 hn4 hHeld => ?_)
    replace hy1 := hy1.keep hwZ
    replace hover := hover.keep hwZ
    replace ho9 := ho9.keep hwZ
    replace hE := hE.tr hwZ
    replace hEW := hEW.tr hwZ
    obtain ⟨n27_25, n27_26, n27_27, rfl⟩ : ∃ n27_25 n27_26 n27_27, ns = [n27_25, n27_26, n27_27] := by match ns, hn1 with | [a0, a1, a2], _ => exact ⟨a0, a1, a2, rfl⟩
    obtain ⟨m1, m2, m3⟩ := more_of hn1 hn2 hn3 hn4
    have V27 : Vs w wZ [(n27_25, 31, #[Value.bool false, Value.slice none 0 0]), (n27_26, 31, #[Value.bool false, Value.slice none 0 0]), (n27_27, 26, #[Value.int .i64 0, Value.int .i64 0]), (W23.heap.size + 1, 26, #[Value.int .i64 0, Value.int .i64 (parseP (dec zvv))]), (W23.heap.size, 31, #[Value.bool xw.n, Value.slice xw.s.a xw.s.len xw.s.cap]), (W20.heap.size + 1, 26, #[Value.int .i64 0, Value.int .i64 (parseP (dec zuu))]), (W20.heap.size, 31, #[Value.bool xu.n, Value.slice xu.s.a xu.s.len xu.s.cap]), (W17.heap.size + 1 + 1, 24, #[Value.bool vv.n, Value.slice vv.s.a vv.s.len vv.s.cap]), (W17.heap.size + 1, 24, #[Value.bool uu.n, Value.slice uu.s.a uu.s.len uu.s.cap]), (W17.heap.size, 24, #[Value.bool gg.n, Value.slice gg.s.a gg.s.len gg.s.cap]), (W14.heap.size, 31, #[Value.bool top.n, Value.slice top.s.a top.s.len top.s.cap]), (W12.heap.size + 1, 31, #[Value.bool er.n, Value.slice er.s.a er.s.len er.s.cap]), (W12.heap.size, 31, #[Value.bool eq.n, Value.slice eq.s.a eq.s.len eq.s.cap]), (W10.heap.size + 1, 24, #[Value.bool dr.n, Value.slice dr.s.a dr.s.len dr.s.cap]), (W10.heap.size, 24, #[Value.bool dq.n, Value.slice dq.s.a dq.s.len dq.s.cap]), (W7.heap.size + 1, 26, #[Value.int .i64 (parseC u), Value.int .i64 (parseP u)]), (W7.heap.size, 31, #[Value.bool q.n, Value.slice q.s.a q.s.len q.s.cap]), (W5.heap.size + 1, 26, #[Value.int .i64 0, Value.int .i64 0]), (W5.heap.size, 31, #[Value.bool p.n, Value.slice p.s.a p.s.len p.s.cap]), (W3.heap.size + 1, 26, #[Value.int .i64 (parseC u), Value.int .i64 (parseP u)]), (W3.heap.size, 24, #[Value.bool y.n, Value.slice y.s.a y.s.len y.s.cap]), (W1.heap.size + 1, 26, #[Value.int .i64 0, Value.int .i64 0]), (W1.heap.size, 24, #[Value.bool x.n, Value.slice x.s.a x.s.len x.s.cap])] := (V26.keep hWX).more hEW m1 m2 m3
    clear hn1 hn2 hn3 hn4 m1 m2 m3
    obtain ⟨s25_0, s25_1, s25_2, s25_3⟩ := V27.facts 0 rfl
    obtain ⟨s26_0, s26_1, s26_2, s26_3⟩ := V27.facts 1 rfl
    obtain ⟨s27_0, s27_1, s27_2, s27_3⟩ := V27.facts 2 rfl
    have ne25_26 := V27.ne 0 1 rfl rfl (by decide)
    have ne25_27 := V27.ne 0 2 rfl rfl (by decide)
    have ne26_25 := V27.ne 1 0 rfl rfl (by decide)
    have ne26_27 := V27.ne 1 2 rfl rfl (by decide)
    have ne27_25 := V27.ne 2 0 rfl rfl (by decide)
    have ne27_26 := V27.ne 2 1 rfl rfl (by decide)
    dsimp only [putN, markI] at hHeld ⊢
    (try dsimp only [List.getElem_toArray, List.getElem_cons_zero, List.getElem_cons_succ]); (try simp only [Act.put, List.setIfInBounds_toArray, List.set_cons_zero, List.set_cons_succ])
    refine wpG_step (i := 11) (o := _) (by kernel_rfl) rfl (fun K hK => ?_)
    go_simp
    refine hK.out _ _ ⟨trivial, fun _ => trivial, fun _ => trivial⟩ (fun hHeld' => ?_)
    clear hHeld
    have hHeld := hHeld'
    clear hHeld'
    clear hK K
    (try dsimp only [List.getElem_toArray, List.getElem_cons_zero, List.getElem_cons_succ]); (try simp only [Act.put, List.setIfInBounds_toArray, List.set_cons_zero, List.set_cons_succ])
    refine wpG_step (i := 12) (o := _) (by kernel_rfl) rfl (fun K hK => ?_)
    go_simp
    refine hK.out _ _ ⟨trivial, fun _ => trivial, fun _ => trivial⟩ (fun hHeld' => ?_)
    clear hHeld
    have hHeld := hHeld'
    clear hHeld'
    clear hK K
    (try dsimp only [List.getElem_toArray, List.getElem_cons_zero, List.getElem_cons_succ]); (try simp only [Act.put, List.setIfInBounds_toArray, List.set_cons_zero, List.set_cons_succ])
    refine wpG_step (i := 13) (o := _) (by kernel_rfl) rfl (fun K hK => ?_)
    go_simp
    refine hK.out _ _ ⟨trivial, fun _ => trivial, fun _ => trivial⟩ (fun hHeld' => ?_)
    clear hHeld
    have hHeld := hHeld'
    clear hHeld'
    clear hK K
    (try dsimp only [List.getElem_toArray, List.getElem_cons_zero, List.getElem_cons_succ]); (try simp only [Act.put, List.setIfInBounds_toArray, List.set_cons_zero, List.set_cons_succ])
    refine wpG_done (by kernel_rfl) ?_ _
    clear hHeld HL HSS hEW
    replace hx := hx.keep hE
    replace hy := hy.keep hE
    replace hp := hp.keep hE
    replace hq := hq.keep hE
    replace hdq := hdq.keep hE
    replace hdr := hdr.keep hE
    replace heq := heq.keep hE
    replace her := her.keep hE
    replace htop := htop.keep hE
    replace hgg := hgg.keep hE
    replace huu := huu.keep hE
    replace hvv := hvv.keep hE
    replace hxu := hxu.keep hE
    replace hxw := hxw.keep hE
    have KI := V27.kept2 (U := 93) 0 rfl (by decide) (Value.bool over.n) (Value.slice over.s.a over.s.len over.s.cap)
    have KZ := V27.kept2 (U := 3) 0 rfl (by decide) (Value.bool over.n) (Value.slice over.s.a over.s.len over.s.cap)
    replace hx := hx.kept KI
    replace hy := hy.kept KI
    replace hp := hp.kept KZ
    replace hq := hq.kept KZ
    replace hdq := hdq.kept KI
    replace hdr := hdr.kept KI
    replace heq := heq.kept KZ
    replace her := her.kept KZ
    replace htop := htop.kept KZ
    replace hgg := hgg.kept KI
    replace huu := huu.kept KI
    replace hvv := hvv.kept KI
    replace hxu := hxu.kept KZ
    replace hxw := hxw.kept KZ
    replace hy1 := hy1.kept KZ
    replace hover := hover.kept KZ
    replace ho9 := ho9.kept KZ
    clear KI KZ
    replace V27 := V27.set2 0 rfl (Value.bool over.n) (Value.slice over.s.a over.s.len over.s.cap)
    dsimp only [List.set] at V27
    have KI := V27.kept2 (U := 93) 1 rfl (by decide) (Value.bool o9.n) (Value.slice o9.s.a o9.s.len o9.s.cap)
    have KZ := V27.kept2 (U := 3) 1 rfl (by decide) (Value.bool o9.n) (Value.slice o9.s.a o9.s.len o9.s.cap)
    replace hx := hx.kept KI
    replace hy := hy.kept KI
    replace hp := hp.kept KZ
    replace hq := hq.kept KZ
    replace hdq := hdq.kept KI
    replace hdr := hdr.kept KI
    replace heq := heq.kept KZ
    replace her := her.kept KZ
    replace htop := htop.kept KZ
    replace hgg := hgg.kept KI
    replace huu := huu.kept KI
    replace hvv := hvv.kept KI
    replace hxu := hxu.kept KZ
    replace hxw := hxw.kept KZ
    replace hy1 := hy1.kept KZ
    replace hover := hover.kept KZ
    replace ho9 := ho9.kept KZ
    clear KI KZ
    replace V27 := V27.set2 1 rfl (Value.bool o9.n) (Value.slice o9.s.a o9.s.len o9.s.cap)
    dsimp only [List.set] at V27
    have KI := V27.kept2 (U := 93) 2 rfl (by decide) (Value.int .i64 0) (Value.int .i64 0)
    have KZ := V27.kept2 (U := 3) 2 rfl (by decide) (Value.int .i64 0) (Value.int .i64 0)
    replace hx := hx.kept KI
    replace hy := hy.kept KI
    replace hp := hp.kept KZ
    replace hq := hq.kept KZ
    replace hdq := hdq.kept KI
    replace hdr := hdr.kept KI
    replace heq := heq.kept KZ
    replace her := her.kept KZ
    replace htop := htop.kept KZ
    replace hgg := hgg.kept KI
    replace huu := huu.kept KI
    replace hvv := hvv.kept KI
    replace hxu := hxu.kept KZ
    replace hxw := hxw.kept KZ
    replace hy1 := hy1.kept KZ
    replace hover := hover.kept KZ
    replace ho9 := ho9.kept KZ
    clear KI KZ
    replace V27 := V27.set2 2 rfl (Value.int .i64 0) (Value.int .i64 0)
    dsimp only [List.set] at V27
    clear s25_0 s25_1 s25_2 s25_3 s26_0 s26_1 s26_2 s26_3 s27_0 s27_1 s27_2 s27_3 ne25_26 ne25_27 ne26_25 ne26_27 ne27_25 ne27_26
    clear hE
    (try clear hxx)
    (try clear hWX)
    generalize ((((((wZ.setCell ⟨n27_25, 0, none⟩ (Value.bool over.n)).setCell ⟨n27_25, 1, none⟩ (Value.slice over.s.a over.s.len over.s.cap)).setCell ⟨n27_26, 0, none⟩ (Value.bool o9.n)).setCell ⟨n27_26, 1, none⟩ (Value.slice o9.s.a o9.s.len o9.s.cap)).setCell ⟨n27_27, 0, none⟩ (Value.int .i64 0)).setCell ⟨n27_27, 1, none⟩ (Value.int .i64 0)) = W27 at *
    clear hy1
    (try go_upto_region 20 with fail)
    obtain ⟨c21_0, c21_1, c21_2, c21_3⟩ := V27.facts 6 rfl
    obtain ⟨c9_0, c9_1, c9_2, c9_3⟩ := V27.facts 18 rfl
    obtain ⟨c23_0, c23_1, c23_2, c23_3⟩ := V27.facts 4 rfl
    obtain ⟨c11_0, c11_1, c11_2, c11_3⟩ := V27.facts 16 rfl
    obtain ⟨c17_0, c17_1, c17_2, c17_3⟩ := V27.facts 10 rfl
    obtain ⟨c25_0, c25_1, c25_2, c25_3⟩ := V27.facts 0 rfl
    have HS := hd_ (show ∀ W', Ext W27 W' → Cs W' [(W20.heap.size, 0, Value.bool xu.n), (W20.heap.size, 1, Value.slice xu.s.a xu.s.len xu.s.cap), (W5.heap.size, 0, Value.bool p.n), (W5.heap.size, 1, Value.slice p.s.a p.s.len p.s.cap), (W23.heap.size, 0, Value.bool xw.n), (W23.heap.size, 1, Value.slice xw.s.a xw.s.len xw.s.cap), (W7.heap.size, 0, Value.bool q.n), (W7.heap.size, 1, Value.slice q.s.a q.s.len q.s.cap), (W14.heap.size, 0, Value.bool top.n), (W14.heap.size, 1, Value.slice top.s.a top.s.len top.s.cap), (n27_25, 0, Value.bool over.n), (n27_25, 1, Value.slice over.s.a over.s.len over.s.cap)] from fun W' hW => by simp only [cs_cons, cs_nil]; exact ⟨cell_later hW c21_0, cell_later hW c21_1, cell_later hW c9_0, cell_later hW c9_1, cell_later hW c23_0, cell_later hW c23_1, cell_later hW c11_0, cell_later hW c11_1, cell_later hW c17_0, cell_later hW c17_1, cell_later hW c25_0, cell_later hW c25_1, trivial⟩)
    clear c21_0 c21_1 c21_2 c21_3 c9_0 c9_1 c9_2 c9_3 c23_0 c23_1 c23_2 c23_3 c11_0 c11_1 c11_2 c11_3 c17_0 c17_1 c17_2 c17_3 c25_0 c25_1 c25_2 c25_3
    refine wpG_begin (S := (fun w' => Cs w' [(W20.heap.size, 0, Value.bool xu.n), (W20.heap.size, 1, Value.slice xu.s.a xu.s.len xu.s.cap), (W5.heap.size, 0, Value.bool p.n), (W5.heap.size, 1, Value.slice p.s.a p.s.len p.s.cap), (W23.heap.size, 0, Value.bool xw.n), (W23.heap.size, 1, Value.slice xw.s.a xw.s.len xw.s.cap), (W7.heap.size, 0, Value.bool q.n), (W7.heap.size, 1, Value.slice q.s.a q.s.len q.s.cap), (W14.heap.size, 0, Value.bool top.n), (W14.heap.size, 1, Value.slice top.s.a top.s.len top.s.cap), (n27_25, 0, Value.bool over.n), (n27_25, 1, Value.slice over.s.a over.s.len over.s.cap)])) (fun _ => True) (fun _ => True) 99 98 (by kernel_rfl) (fun WX hWX => ?_) (fun WX hWX hHeld => ?_)
    · exact ⟨HS.out _ hWX, trivial, trivial⟩
    have hE := hWX
    refine wpG_take (i := 0) (oi := _) (v := ?_) rfl (by kernel_rfl) (by kernel_rfl) (by kernel_rfl) (by decide) (by decide) (fun _ _ _ h => h) (Or.inl ⟨by rfl, ?_⟩) hHeld ?_
    rotate_left
    · intro w hSw; (try dsimp only at hSw); (try simp only [cs_cons, cs_nil, and_true] at hSw); go_simp; (try with_reducible rfl)
    (try dsimp only [List.getElem_toArray, List.getElem_cons_zero, List.getElem_cons_succ]); (try simp only [Act.put, List.setIfInBounds_toArray, List.set_cons_zero, List.set_cons_succ])
    replace hHeld := hHeld.more 0
    refine wpG_take (i := 1) (oi := _) (v := ?_) rfl (by kernel_rfl) (by kernel_rfl) (by kernel_rfl) (by decide) (by decide) (fun _ _ _ h => h) (Or.inl ⟨by rfl, ?_⟩) hHeld ?_
    rotate_left
    · intro w hSw; (try dsimp only at hSw); (try simp only [cs_cons, cs_nil, and_true] at hSw); go_simp; (try with_reducible rfl)
    (try dsimp only [List.getElem_toArray, List.getElem_cons_zero, List.getElem_cons_succ]); (try simp only [Act.put, List.setIfInBounds_toArray, List.set_cons_zero, List.set_cons_succ])
    replace hHeld := hHeld.more 1
    refine wpG_take (i := 3) (oi := _) (v := ?_) rfl (by kernel_rfl) (by kernel_rfl) (by kernel_rfl) (by decide) (by decide) (fun _ _ _ h => h) (Or.inl ⟨by rfl, ?_⟩) hHeld ?_
    rotate_left
    · intro w hSw; (try dsimp only at hSw); (try simp only [cs_cons, cs_nil, and_true] at hSw); go_simp; (try with_reducible rfl)
    (try dsimp only [List.getElem_toArray, List.getElem_cons_zero, List.getElem_cons_succ]); (try simp only [Act.put, List.setIfInBounds_toArray, List.set_cons_zero, List.set_cons_succ])
    replace hHeld := hHeld.more 3
    refine wpG_take (i := 4) (oi := _) (v := ?_) rfl (by kernel_rfl) (by kernel_rfl) (by kernel_rfl) (by decide) (by decide) (fun _ _ _ h => h) (Or.inl ⟨by rfl, ?_⟩) hHeld ?_
    rotate_left
    · intro w hSw; (try dsimp only at hSw); (try simp only [cs_cons, cs_nil, and_true] at hSw); go_simp; (try with_reducible rfl)
    (try dsimp only [List.getElem_toArray, List.getElem_cons_zero, List.getElem_cons_succ]); (try simp only [Act.put, List.setIfInBounds_toArray, List.set_cons_zero, List.set_cons_succ])
    replace hHeld := hHeld.more 4
    refine wpG_take (i := 7) (oi := _) (v := ?_) rfl (by kernel_rfl) (by kernel_rfl) (by kernel_rfl) (by decide) (by decide) (fun _ _ _ h => h) (Or.inl ⟨by rfl, ?_⟩) hHeld ?_
    rotate_left
    · intro w hSw; (try dsimp only at hSw); (try simp only [cs_cons, cs_nil, and_true] at hSw); go_simp; (try with_reducible rfl)
    (try dsimp only [List.getElem_toArray, List.getElem_cons_zero, List.getElem_cons_succ]); (try simp only [Act.put, List.setIfInBounds_toArray, List.set_cons_zero, List.set_cons_succ])
    replace hHeld := hHeld.more 7
    refine wpG_step (i := 2) (o := _) (by kernel_rfl) rfl (fun K hK => ?_)
    go_simp
    (go_at_call 27; ((with_reducible refine (Z4.mul_any xu p zuu a _ (hxu.keep hE) (hp.keep hE) ((BU.mul BA).sm (by omega))).mono ?_); rintro e w' ⟨y2, rfl, hy2, hxx⟩))
    replace hE := hE.tr hxx
    (try go_wp2_with fail)
    refine hK.out _ _ ⟨HS.out _ hE, fun _ => trivial, fun _ => trivial⟩ (fun hHeld' => ?_)
    clear hHeld
    have hHeld := hHeld'
    clear hHeld'
    clear hK K
    (try dsimp only [List.getElem_toArray, List.getElem_cons_zero, List.getElem_cons_succ]); (try simp only [Act.put, List.setIfInBounds_toArray, List.set_cons_zero, List.set_cons_succ])
    refine wpG_step (i := 5) (o := _) (by kernel_rfl) rfl (fun K hK => ?_)
    go_simp
    (go_at_call 27; ((with_reducible refine (Z4.mul_any xw q zvv b _ (hxw.keep hE) (hq.keep hE) ((BV.mul BB).sm (by omega))).mono ?_); rintro e w' ⟨y3, rfl, hy3, hxx⟩))
    replace hy2 := hy2.keep hxx
    replace hE := hE.tr hxx
    (try go_wp2_with fail)
    refine hK.out _ _ ⟨HS.out _ hE, fun _ => trivial, fun _ => trivial⟩ (fun hHeld' => ?_)
    clear hHeld
    have hHeld := hHeld'
    clear hHeld'
    clear hK K
    (try dsimp only [List.getElem_toArray, List.getElem_cons_zero, List.getElem_cons_succ]); (try simp only [Act.put, List.setIfInBounds_toArray, List.set_cons_zero, List.set_cons_succ])
    refine wpG_step (i := 6) (o := _) (by kernel_rfl) rfl (fun K hK => ?_)
    go_simp
    (go_at_call 23; ((with_reducible refine (Z4.add_any y2 y3 (zuu * a) (zvv * b) _ hy2 hy3 (((BU.mul BA).add (BV.mul BB)).sm (by omega))).mono ?_); rintro e w' ⟨y4, rfl, hy4, hxx⟩))
    replace hy2 := hy2.keep hxx
    replace hy3 := hy3.keep hxx
    replace hE := hE.tr hxx
    (try go_wp2_with fail)
    refine hK.out _ _ ⟨HS.out _ hE, fun _ => trivial, fun _ => trivial⟩ (fun hHeld' => ?_)
    clear hHeld
    have hHeld := hHeld'
    clear hHeld'
    clear hK K
    (try dsimp only [List.getElem_toArray, List.getElem_cons_zero, List.getElem_cons_succ]); (try simp only [Act.put, List.setIfInBounds_toArray, List.set_cons_zero, List.set_cons_succ])
    refine wpG_step (i := 8) (o := _) (by kernel_rfl) rfl (fun K hK => ?_)
    go_simp
    (go_at_call 29; ((with_reducible refine (Z4.cmp_any y4 top ((zuu * a) + (zvv * b)) (Int.gcd a b : Int) _ hy4 (htop.keep hE) ((((BU.mul BA).add (BV.mul BB)).sub ((bt_gcd BA BB).mono (show 4000 ≤ 8001 by omega))).sm (by omega))).mono ?_); rintro e w' ⟨rfl, hxx⟩))
    replace hy2 := hy2.keep hxx
    replace hy3 := hy3.keep hxx
    replace hy4 := hy4.keep hxx
    replace hE := hE.tr hxx
    rw [q1.out]
    (try go_wp2_with fail)
    refine hK.out _ _ ⟨HS.out _ hE, fun _ => trivial, fun _ => trivial⟩ (fun hHeld' => ?_)
    clear hHeld
    have hHeld := hHeld'
    clear hHeld'
    clear hK K
    (try dsimp only [List.getElem_toArray, List.getElem_cons_zero, List.getElem_cons_succ]); (try simp only [Act.put, List.setIfInBounds_toArray, List.set_cons_zero, List.set_cons_succ])
    refine wpG_take (i := 9) (oi := _) (v := ?_) rfl (by kernel_rfl) (by kernel_rfl) (by kernel_rfl) (by decide) (by decide) (fun _ _ _ h => h) (Or.inl ⟨by rfl, ?_⟩) hHeld ?_
    rotate_left
    · intro w hSw; (try dsimp only at hSw); (try simp only [cs_cons, cs_nil, and_true] at hSw); go_simp; (try with_reducible rfl)
    (try dsimp only [List.getElem_toArray, List.getElem_cons_zero, List.getElem_cons_succ]); (try simp only [Act.put, List.setIfInBounds_toArray, List.set_cons_zero, List.set_cons_succ])
    replace hHeld := hHeld.more 9
    refine wpG_take (i := 10) (oi := _) (v := ?_) rfl (by kernel_rfl) (by kernel_rfl) (by kernel_rfl) (by decide) (by decide) (fun _ _ _ h => h) (Or.inl ⟨by rfl, ?_⟩) hHeld ?_
    rotate_left
    · intro w hSw; (try dsimp only at hSw); (try simp only [cs_cons, cs_nil, and_true] at hSw); go_simp; (try with_reducible rfl)
    (try dsimp only [List.getElem_toArray, List.getElem_cons_zero, List.getElem_cons_succ]); (try simp only [Act.put, List.setIfInBounds_toArray, List.set_cons_zero, List.set_cons_succ])
    replace hHeld := hHeld.more 10
    refine wpG_take (i := 11) (oi := _) (v := ?_) rfl (by kernel_rfl) (by kernel_rfl) (by kernel_rfl) (by decide) (by decide) (fun _ _ _ h => h) (Or.inl ⟨by rfl, ?_⟩) hHeld ?_
    rotate_left
    · intro w hSw; (try dsimp only at hSw); (try simp only [cs_cons, cs_nil, and_true] at hSw); go_simp; (try with_reducible rfl)
    (try dsimp only [List.getElem_toArray, List.getElem_cons_zero, List.getElem_cons_succ]); (try simp only [Act.put, List.setIfInBounds_toArray, List.set_cons_zero, List.set_cons_succ])
    replace hHeld := hHeld.more 11
    refine wpG_step (i := 12) (o := _) (by kernel_rfl) rfl (fun K hK => ?_)
    go_simp
    (go_at_call 19; ((with_reducible refine (Z4.Sign_any xu zuu _ (hxu.keep hE)).mono ?_); rintro e w' ⟨rfl, hxx⟩))
    replace hy2 := hy2.keep hxx
    replace hy3 := hy3.keep hxx
    replace hy4 := hy4.keep hxx
    replace hE := hE.tr hxx
    (try go_wp2_with fail)
    refine hK.out _ _ ⟨HS.out _ hE, fun _ => trivial, fun _ => trivial⟩ (fun hHeld' => ?_)
    clear hHeld
    have hHeld := hHeld'
    clear hHeld'
    clear hK K
    (try dsimp only [List.getElem_toArray, List.getElem_cons_zero, List.getElem_cons_succ]); (try simp only [Act.put, List.setIfInBounds_toArray, List.set_cons_zero, List.set_cons_succ])
    refine wpG_take (i := 13) (oi := _) (v := ?_) rfl (by kernel_rfl) (by kernel_rfl) (by kernel_rfl) (by decide) (by decide) (fun _ _ _ h => h) (Or.inl ⟨by rfl, ?_⟩) hHeld ?_
    rotate_left
    · intro w hSw; (try dsimp only at hSw); (try simp only [cs_cons, cs_nil, and_true] at hSw); go_simp; (try with_reducible rfl)
    (try dsimp only [List.getElem_toArray, List.getElem_cons_zero, List.getElem_cons_succ]); (try simp only [Act.put, List.setIfInBounds_toArray, List.set_cons_zero, List.set_cons_succ])
    replace hHeld := hHeld.more 13
    refine wpG_take (i := 14) (oi := _) (v := ?_) rfl (by kernel_rfl) (by kernel_rfl) (by kernel_rfl) (by decide) (by decide) (fun _ _ _ h => h) (Or.inl ⟨by rfl, ?_⟩) hHeld ?_
    rotate_left
    · intro w hSw; (try dsimp only at hSw); (try simp only [cs_cons, cs_nil, and_true] at hSw); go_simp; (try with_reducible rfl)
    (try dsimp only [List.getElem_toArray, List.getElem_cons_zero, List.getElem_cons_succ]); (try simp only [Act.put, List.setIfInBounds_toArray, List.set_cons_zero, List.set_cons_succ])
    replace hHeld := hHeld.more 14
    refine wpG_take (i := 15) (oi := _) (v := ?_) rfl (by kernel_rfl) (by kernel_rfl) (by kernel_rfl) (by decide) (by decide) (fun _ _ _ h => h) (Or.inl ⟨by rfl, ?_⟩) hHeld ?_
    rotate_left
    · intro w hSw; (try dsimp only at hSw); (try simp only [cs_cons, cs_nil, and_true] at hSw); go_simp; (try with_reducible rfl)
    (try dsimp only [List.getElem_toArray, List.getElem_cons_zero, List.getElem_cons_succ]); (try simp only [Act.put, List.setIfInBounds_toArray, List.set_cons_zero, List.set_cons_succ])
    replace hHeld := hHeld.more 15
    refine wpG_take (i := 16) (oi := _) (v := ?_) rfl (by kernel_rfl) (by kernel_rfl) (by kernel_rfl) (by decide) (by decide) (fun _ _ _ h => h) (Or.inl ⟨by rfl, ?_⟩) hHeld ?_
    rotate_left
    · intro w hSw; (try dsimp only at hSw); (try simp only [cs_cons, cs_nil, and_true] at hSw); go_simp; (try with_reducible rfl)
    (try dsimp only [List.getElem_toArray, List.getElem_cons_zero, List.getElem_cons_succ]); (try simp only [Act.put, List.setIfInBounds_toArray, List.set_cons_zero, List.set_cons_succ])
    replace hHeld := hHeld.more 16
    refine wpG_take (i := 17) (oi := _) (v := ?_) rfl (by kernel_rfl) (by kernel_rfl) (by kernel_rfl) (by decide) (by decide) (fun _ _ _ h => h) (Or.inl ⟨by rfl, ?_⟩) hHeld ?_
    rotate_left
    · intro w hSw; (try dsimp only at hSw); (try simp only [cs_cons, cs_nil, and_true] at hSw); go_simp; (try with_reducible rfl)
    (try dsimp only [List.getElem_toArray, List.getElem_cons_zero, List.getElem_cons_succ]); (try simp only [Act.put, List.setIfInBounds_toArray, List.set_cons_zero, List.set_cons_succ])
    replace hHeld := hHeld.more 17
    refine wpG_step (i := 18) (o := _) (by kernel_rfl) rfl (fun K hK => ?_)
    go_simp
    (go_at_call 29; ((with_reducible refine (Z4.cmp_any xu over zuu ((b.natAbs : Int) / (Int.gcd a b : Int)) _ (hxu.keep hE) (hover.keep hE) ((BU.sub (bt_ediv (Int.gcd a b : Int) (bt_natAbs BB))).sm (by omega))).mono ?_); rintro e w' ⟨rfl, hxx⟩))
    replace hy2 := hy2.keep hxx
    replace hy3 := hy3.keep hxx
    replace hy4 := hy4.keep hxx
    replace hE := hE.tr hxx
    rw [q3.out]
    (try go_wp2_with fail)
    refine hK.out _ _ ⟨HS.out _ hE, fun _ => trivial, fun _ => trivial⟩ (fun hHeld' => ?_)
    clear hHeld
    have hHeld := hHeld'
    clear hHeld'
    clear hK K
    (try dsimp only [List.getElem_toArray, List.getElem_cons_zero, List.getElem_cons_succ]); (try simp only [Act.put, List.setIfInBounds_toArray, List.set_cons_zero, List.set_cons_succ])
    refine wpG_take (i := 19) (oi := _) (v := ?_) rfl (by kernel_rfl) (by kernel_rfl) (by kernel_rfl) (by decide) (by decide) (fun _ _ _ h => h) (Or.inl ⟨by rfl, ?_⟩) hHeld ?_
    rotate_left
    · intro w hSw; (try dsimp only at hSw); (try simp only [cs_cons, cs_nil, and_true] at hSw); go_simp; (try with_reducible rfl)
    (try dsimp only [List.getElem_toArray, List.getElem_cons_zero, List.getElem_cons_succ]); (try simp only [Act.put, List.setIfInBounds_toArray, List.set_cons_zero, List.set_cons_succ])
    replace hHeld := hHeld.more 19
    refine wpG_take (i := 20) (oi := _) (v := ?_) rfl (by kernel_rfl) (by kernel_rfl) (by kernel_rfl) (by decide) (by decide) (fun _ _ _ h => h) (Or.inl ⟨by rfl, ?_⟩) hHeld ?_
    rotate_left
    · intro w hSw; (try dsimp only at hSw); (try simp only [cs_cons, cs_nil, and_true] at hSw); go_simp; (try with_reducible rfl)
    (try dsimp only [List.getElem_toArray, List.getElem_cons_zero, List.getElem_cons_succ]); (try simp only [Act.put, List.setIfInBounds_toArray, List.set_cons_zero, List.set_cons_succ])
    replace hHeld := hHeld.more 20
    refine wpG_take (i := 21) (oi := _) (v := ?_) rfl (by kernel_rfl) (by kernel_rfl) (by kernel_rfl) (by decide) (by decide) (fun _ _ _ h => h) (Or.inl ⟨by rfl, ?_⟩) hHeld ?_
    rotate_left
    · intro w hSw; (try dsimp only at hSw); (try simp only [cs_cons, cs_nil, and_true] at hSw); go_simp; (try with_reducible rfl)
    (try dsimp only [List.getElem_toArray, List.getElem_cons_zero, List.getElem_cons_succ]); (try simp only [Act.put, List.setIfInBounds_toArray, List.set_cons_zero, List.set_cons_succ])
    replace hHeld := hHeld.more 21
    refine wpG_done (by kernel_rfl) ?_ _
    clear hHeld HS
    have V28 := V27.keep hE
    clear V27
    replace hx := hx.keep hE
    replace hy := hy.keep hE
    replace hp := hp.keep hE
    replace hq := hq.keep hE
    replace hdq := hdq.keep hE
    replace hdr := hdr.keep hE
    replace heq := heq.keep hE
    replace her := her.keep hE
    replace htop := htop.keep hE
    replace hgg := hgg.keep hE
    replace huu := huu.keep hE
    replace hvv := hvv.keep hE
    replace hxu := hxu.keep hE
    replace hxw := hxw.keep hE
    replace hover := hover.keep hE
    replace ho9 := ho9.keep hE
    clear hE
    (try clear hxx)
    (try clear hWX)
    generalize w' = W28 at *
    clear hy2
    clear hy3
    clear hy4
    go_wp2
    go_ret
    exact ⟨ret_b (by simp), V28.ext⟩

end Go.Proofs.Ytbbidekjbgjooaa
