/- NumPowers: the walk. -/
import Derived.Test.YtbbidekjbgjooaaRoot
import Derived.Test.YtbbidekjbgjooaaZAbs
import Derived.Test.YtbbidekjbgjooaaDecP
namespace Go.Proofs.Ytbbidekjbgjooaa
open Go.RowKit

theorem sgnZ_zero' : sgnZ 0 = 0 := rfl

set_option maxRecDepth 100000 in
set_option maxHeartbeats 8000000 in
theorem powers_bad (t : List UInt8) (n : Int) (w : World) (ht : t.length ≤ 9223372036854775807) (hn : -9223372036854775808 ≤ n ∧ n ≤ 9223372036854775807) (hbad : n < 0 ∨ 200 < n) :
    Calls Try.prog 7 #[.string (bs t), .int .i64 n] w (fun e w' => e = .returned (.bool true) ∧ Ext w w') := by
  obtain ⟨a, hA⟩ : ∃ a, a = parseZ t := ⟨_, rfl⟩
  have BA : Bt a 4000 := by rw [hA]; exact parseZ_bt t
  have HB := hd_ hbad
  have hb2 : (0 ≤ n → 200 < n) := by omega
  have hb1 : Hd (n < 1 ∨ 200 < n) := hd_ (by omega)
  replace hA := hd_ hA
  clear hbad
  have V0 := Vs.nil w
  go_enter Try.func7, Try.ntmps7
  go_wp2_with fail
  (with_reducible refine (parse_any t _ ht).mono ?_)
  rintro e W1 ⟨x, rfl, hx, hxx⟩
  (try rw [← hA.out] at hx)
  have V1 := V0.keep hxx
  clear V0 hxx
  go_upto_region 2 with fail
  replace V1 := V1.add' (n := W1.heap.size) (vs := #[Value.bool x.n, Value.slice x.s.a x.s.len x.s.cap]) (T := 24) (by simp)
  replace hx := hx.keep ((Ext.rf _).al (Obj.cells #[Value.bool x.n, Value.slice x.s.a x.s.len x.s.cap] 24))
  replace V1 := V1.add' (n := W1.heap.size + 1) (vs := #[Value.int .i64 (parseC t), Value.int .i64 (parseP t)]) (T := 26) (by simp)
  replace hx := hx.keep ((Ext.rf _).al (Obj.cells #[Value.int .i64 (parseC t), Value.int .i64 (parseP t)] 26))
  generalize ((W1.alloc (Obj.cells #[Value.bool x.n, Value.slice x.s.a x.s.len x.s.cap] 24)).alloc (Obj.cells #[Value.int .i64 (parseC t), Value.int .i64 (parseP t)] 26)) = W2 at *
  have V2 := V1
  clear V1
  go_wp2_with fail
  (with_reducible refine (Z4.parse_any t _ ht).mono ?_)
  rintro e W3 ⟨p, rfl, hp, hxx⟩
  replace hx := hx.keep hxx
  (try rw [← hA.out] at hp)
  have V3 := V2.keep hxx
  clear V2 hxx
  go_upto_region 3 with fail
  replace V3 := V3.add' (n := W3.heap.size) (vs := #[Value.bool p.n, Value.slice p.s.a p.s.len p.s.cap]) (T := 31) (by simp)
  replace hx := hx.keep ((Ext.rf _).al (Obj.cells #[Value.bool p.n, Value.slice p.s.a p.s.len p.s.cap] 31))
  replace hp := hp.keep ((Ext.rf _).al (Obj.cells #[Value.bool p.n, Value.slice p.s.a p.s.len p.s.cap] 31))
  replace V3 := V3.add' (n := W3.heap.size + 1) (vs := #[Value.int .i64 (parseC t), Value.int .i64 (parseP t)]) (T := 26) (by simp)
  replace hx := hx.keep ((Ext.rf _).al (Obj.cells #[Value.int .i64 (parseC t), Value.int .i64 (parseP t)] 26))
  replace hp := hp.keep ((Ext.rf _).al (Obj.cells #[Value.int .i64 (parseC t), Value.int .i64 (parseP t)] 26))
  generalize ((W3.alloc (Obj.cells #[Value.bool p.n, Value.slice p.s.a p.s.len p.s.cap] 31)).alloc (Obj.cells #[Value.int .i64 (parseC t), Value.int .i64 (parseP t)] 26)) = W4 at *
  have V4 := V3
  clear V3
  obtain ⟨c5_0, c5_1, c5_2, c5_3⟩ := V4.facts 3 rfl
  have c5_4 := V4.lt 3 rfl
  go_wp2_with fail
  (with_reducible refine (pow_bad x a n _ (hx) hn HB.out).mono ?_)
  rintro e W5 ⟨pw, rfl, hpw, hxx⟩
  replace hx := hx.keep hxx
  replace hp := hp.keep hxx
  clear c5_0 c5_1 c5_2 c5_3 c5_4
  have V5 := V4.keep hxx
  clear V4 hxx
  go_upto_region 4 with fail
  replace V5 := V5.add' (n := W5.heap.size) (vs := #[Value.bool pw.n, Value.slice pw.s.a pw.s.len pw.s.cap]) (T := 24) (by simp)
  replace hx := hx.keep ((Ext.rf _).al (Obj.cells #[Value.bool pw.n, Value.slice pw.s.a pw.s.len pw.s.cap] 24))
  replace hp := hp.keep ((Ext.rf _).al (Obj.cells #[Value.bool pw.n, Value.slice pw.s.a pw.s.len pw.s.cap] 24))
  replace hpw := hpw.keep ((Ext.rf _).al (Obj.cells #[Value.bool pw.n, Value.slice pw.s.a pw.s.len pw.s.cap] 24))
  replace V5 := V5.add' (n := W5.heap.size + 1) (vs := #[Value.int .i64 7, Value.int .i64 0]) (T := 26) (by simp)
  replace hx := hx.keep ((Ext.rf _).al (Obj.cells #[Value.int .i64 7, Value.int .i64 0] 26))
  replace hp := hp.keep ((Ext.rf _).al (Obj.cells #[Value.int .i64 7, Value.int .i64 0] 26))
  replace hpw := hpw.keep ((Ext.rf _).al (Obj.cells #[Value.int .i64 7, Value.int .i64 0] 26))
  generalize ((W5.alloc (Obj.cells #[Value.bool pw.n, Value.slice pw.s.a pw.s.len pw.s.cap] 24)).alloc (Obj.cells #[Value.int .i64 7, Value.int .i64 0] 26)) = W6 at *
  have V6 := V5
  clear V5
  obtain ⟨c5_0, c5_1, c5_2, c5_3⟩ := V6.facts 5 rfl
  have c5_4 := V6.lt 5 rfl
  go_wp2_with fail
  (with_reducible refine (root_bad x a n _ (hx) hn hb1.out).mono ?_)
  rintro e W7 ⟨rt, rfl, hrt, hxx⟩
  replace hx := hx.keep hxx
  replace hp := hp.keep hxx
  replace hpw := hpw.keep hxx
  clear c5_0 c5_1 c5_2 c5_3 c5_4
  have V7 := V6.keep hxx
  clear V6 hxx
  go_upto_region 5 with fail
  replace V7 := V7.add' (n := W7.heap.size) (vs := #[Value.bool rt.n, Value.slice rt.s.a rt.s.len rt.s.cap]) (T := 24) (by simp)
  replace hx := hx.keep ((Ext.rf _).al (Obj.cells #[Value.bool rt.n, Value.slice rt.s.a rt.s.len rt.s.cap] 24))
  replace hp := hp.keep ((Ext.rf _).al (Obj.cells #[Value.bool rt.n, Value.slice rt.s.a rt.s.len rt.s.cap] 24))
  replace hpw := hpw.keep ((Ext.rf _).al (Obj.cells #[Value.bool rt.n, Value.slice rt.s.a rt.s.len rt.s.cap] 24))
  replace hrt := hrt.keep ((Ext.rf _).al (Obj.cells #[Value.bool rt.n, Value.slice rt.s.a rt.s.len rt.s.cap] 24))
  replace V7 := V7.add' (n := W7.heap.size + 1) (vs := #[Value.int .i64 7, Value.int .i64 0]) (T := 26) (by simp)
  replace hx := hx.keep ((Ext.rf _).al (Obj.cells #[Value.int .i64 7, Value.int .i64 0] 26))
  replace hp := hp.keep ((Ext.rf _).al (Obj.cells #[Value.int .i64 7, Value.int .i64 0] 26))
  replace hpw := hpw.keep ((Ext.rf _).al (Obj.cells #[Value.int .i64 7, Value.int .i64 0] 26))
  replace hrt := hrt.keep ((Ext.rf _).al (Obj.cells #[Value.int .i64 7, Value.int .i64 0] 26))
  generalize ((W7.alloc (Obj.cells #[Value.bool rt.n, Value.slice rt.s.a rt.s.len rt.s.cap] 24)).alloc (Obj.cells #[Value.int .i64 7, Value.int .i64 0] 26)) = W8 at *
  have V8 := V7
  clear V7
  go_wp2_with fail
  (with_reducible refine (begun_any _).mono ?_)
  rintro e W9 ⟨rfl, hxx⟩
  replace hx := hx.keep hxx
  replace hp := hp.keep hxx
  replace hpw := hpw.keep hxx
  replace hrt := hrt.keep hxx
  have V9 := V8.keep hxx
  clear V8 hxx
  go_upto_region 7 with fail
  -- skip
  by_cases hneg : n < 0
  · clear hb2
    go_upto_region 8 with fail
    go_upto_region 9 with fail
    replace V9 := V9.add' (n := W9.heap.size) (vs := #[Value.int .i64 7, Value.int .i64 0]) (T := 26) (by simp)
    replace hx := hx.keep ((Ext.rf _).al (Obj.cells #[Value.int .i64 7, Value.int .i64 0] 26))
    replace hp := hp.keep ((Ext.rf _).al (Obj.cells #[Value.int .i64 7, Value.int .i64 0] 26))
    replace hpw := hpw.keep ((Ext.rf _).al (Obj.cells #[Value.int .i64 7, Value.int .i64 0] 26))
    replace hrt := hrt.keep ((Ext.rf _).al (Obj.cells #[Value.int .i64 7, Value.int .i64 0] 26))
    generalize (W9.alloc (Obj.cells #[Value.int .i64 7, Value.int .i64 0] 26)) = W10 at *
    have V10 := V9
    clear V9
    obtain ⟨c10_0, c10_1, c10_2, c10_3⟩ := V10.facts 3 rfl
    obtain ⟨c13_0, c13_1, c13_2, c13_3⟩ := V10.facts 0 rfl
    obtain ⟨c12_0, c12_1, c12_2, c12_3⟩ := V10.facts 1 rfl
    obtain ⟨c9_0, c9_1, c9_2, c9_3⟩ := V10.facts 4 rfl
    obtain ⟨c11_0, c11_1, c11_2, c11_3⟩ := V10.facts 2 rfl
    go_wp2_with fail
    (with_reducible refine (sign_any pw 0 _ (hpw)).mono ?_)
    rintro e W11 ⟨rfl, hxx⟩
    replace hx := hx.keep hxx
    replace hp := hp.keep hxx
    replace hpw := hpw.keep hxx
    replace hrt := hrt.keep hxx
    clear c10_0 c10_1 c10_2 c10_3 c13_0 c13_1 c13_2 c13_3 c12_0 c12_1 c12_2 c12_3 c9_0 c9_1 c9_2 c9_3 c11_0 c11_1 c11_2 c11_3
    have V11 := V10.keep hxx
    clear V10 hxx
    obtain ⟨c11_0, c11_1, c11_2, c11_3⟩ := V11.facts 2 rfl
    go_wp2_with fail
    (with_reducible refine (sign_any rt 0 _ (hrt)).mono ?_)
    rintro e W12 ⟨rfl, hxx⟩
    replace hx := hx.keep hxx
    replace hp := hp.keep hxx
    replace hpw := hpw.keep hxx
    replace hrt := hrt.keep hxx
    clear c11_0 c11_1 c11_2 c11_3
    have V12 := V11.keep hxx
    clear V11 hxx
    go_wp2
    go_ret
    exact ⟨rfl, V12.ext⟩
  · -- skip
    have hb3 : 200 < n := hb2 (by omega)
    clear hb2
    go_upto_region 8 with fail
    go_upto_region 9 with fail
    replace V9 := V9.add' (n := W9.heap.size) (vs := #[Value.int .i64 7, Value.int .i64 0]) (T := 26) (by simp)
    replace hx := hx.keep ((Ext.rf _).al (Obj.cells #[Value.int .i64 7, Value.int .i64 0] 26))
    replace hp := hp.keep ((Ext.rf _).al (Obj.cells #[Value.int .i64 7, Value.int .i64 0] 26))
    replace hpw := hpw.keep ((Ext.rf _).al (Obj.cells #[Value.int .i64 7, Value.int .i64 0] 26))
    replace hrt := hrt.keep ((Ext.rf _).al (Obj.cells #[Value.int .i64 7, Value.int .i64 0] 26))
    generalize (W9.alloc (Obj.cells #[Value.int .i64 7, Value.int .i64 0] 26)) = W10 at *
    have V10 := V9
    clear V9
    obtain ⟨c10_0, c10_1, c10_2, c10_3⟩ := V10.facts 3 rfl
    obtain ⟨c13_0, c13_1, c13_2, c13_3⟩ := V10.facts 0 rfl
    obtain ⟨c12_0, c12_1, c12_2, c12_3⟩ := V10.facts 1 rfl
    obtain ⟨c9_0, c9_1, c9_2, c9_3⟩ := V10.facts 4 rfl
    obtain ⟨c11_0, c11_1, c11_2, c11_3⟩ := V10.facts 2 rfl
    go_wp2_with fail
    (with_reducible refine (sign_any pw 0 _ (hpw)).mono ?_)
    rintro e W11 ⟨rfl, hxx⟩
    replace hx := hx.keep hxx
    replace hp := hp.keep hxx
    replace hpw := hpw.keep hxx
    replace hrt := hrt.keep hxx
    clear c10_0 c10_1 c10_2 c10_3 c13_0 c13_1 c13_2 c13_3 c12_0 c12_1 c12_2 c12_3 c9_0 c9_1 c9_2 c9_3 c11_0 c11_1 c11_2 c11_3
    have V11 := V10.keep hxx
    clear V10 hxx
    obtain ⟨c11_0, c11_1, c11_2, c11_3⟩ := V11.facts 2 rfl
    go_wp2_with fail
    (with_reducible refine (sign_any rt 0 _ (hrt)).mono ?_)
    rintro e W12 ⟨rfl, hxx⟩
    replace hx := hx.keep hxx
    replace hp := hp.keep hxx
    replace hpw := hpw.keep hxx
    replace hrt := hrt.keep hxx
    clear c11_0 c11_1 c11_2 c11_3
    have V12 := V11.keep hxx
    clear V11 hxx
    go_wp2
    go_ret
    exact ⟨rfl, V12.ext⟩

theorem root_size {a : Int} {s k : Nat} (hk : 1 ≤ k) (h1 : s ^ k ≤ a.natAbs) : s ≤ a.natAbs := by
  rcases Nat.eq_zero_or_pos s with h | h
  · omega
  · exact Nat.le_trans (Nat.le_self_pow (by omega) s) h1

theorem root_sign {a : Int} {s k : Nat} (hk : 1 ≤ k) (h1 : s ^ k ≤ a.natAbs) (h2 : a.natAbs < (s + 1) ^ k) : sgnZ (if a < 0 then -(s : Int) else s) = sgnZ a := by
  have h3 := root_size hk h1
  have h4 : s = 0 → a = 0 := fun h => by subst h; rw [Nat.zero_add, Nat.one_pow] at h2; omega
  unfold sgnZ
  by_cases ha : a < 0
  · rw [if_pos ha, if_pos ha, if_pos (by omega)]
  · rw [if_neg ha, if_neg ha, if_neg (by omega)]
    by_cases h0 : a = 0
    · rw [if_pos h0, if_pos (by omega)]
    · rw [if_neg h0, if_neg (by omega)]

set_option maxRecDepth 100000 in
set_option maxHeartbeats 8000000 in
theorem powers_ok (t : List UInt8) (k : Nat) (w : World) (ht : t.length ≤ 9223372036854775807) (hk : k ≤ 200) :
    Calls Try.prog 7 #[.string (bs t), .int .i64 (k : Int)] w (fun e w' => e = .returned (.bool true) ∧ Ext w w') := by
  obtain ⟨a, hA⟩ : ∃ a, a = parseZ t := ⟨_, rfl⟩
  have BA : Bt a 4000 := by rw [hA]; exact parseZ_bt t
  have lA := hd_ (show a.natAbs < 10 ^ 1000 by rw [hA]; exact parseZ_lt t)
  replace hA := hd_ hA
  have hN := hd_ (show 4000 * k ≤ 17000000000 by omega)
  have V0 := Vs.nil w
  go_enter Try.func7, Try.ntmps7
  go_wp2_with fail
  (with_reducible refine (parse_any t _ ht).mono ?_)
  rintro e W1 ⟨x, rfl, hx, hxx⟩
  (try rw [← hA.out] at hx)
  have V1 := V0.keep hxx
  clear V0 hxx
  go_upto_region 2 with fail
  replace V1 := V1.add' (n := W1.heap.size) (vs := #[Value.bool x.n, Value.slice x.s.a x.s.len x.s.cap]) (T := 24) (by simp)
  replace hx := hx.keep ((Ext.rf _).al (Obj.cells #[Value.bool x.n, Value.slice x.s.a x.s.len x.s.cap] 24))
  replace V1 := V1.add' (n := W1.heap.size + 1) (vs := #[Value.int .i64 (parseC t), Value.int .i64 (parseP t)]) (T := 26) (by simp)
  replace hx := hx.keep ((Ext.rf _).al (Obj.cells #[Value.int .i64 (parseC t), Value.int .i64 (parseP t)] 26))
  generalize ((W1.alloc (Obj.cells #[Value.bool x.n, Value.slice x.s.a x.s.len x.s.cap] 24)).alloc (Obj.cells #[Value.int .i64 (parseC t), Value.int .i64 (parseP t)] 26)) = W2 at *
  have V2 := V1
  clear V1
  go_wp2_with fail
  (with_reducible refine (Z4.parse_any t _ ht).mono ?_)
  rintro e W3 ⟨p, rfl, hp, hxx⟩
  replace hx := hx.keep hxx
  (try rw [← hA.out] at hp)
  have V3 := V2.keep hxx
  clear V2 hxx
  go_upto_region 3 with fail
  replace V3 := V3.add' (n := W3.heap.size) (vs := #[Value.bool p.n, Value.slice p.s.a p.s.len p.s.cap]) (T := 31) (by simp)
  replace hx := hx.keep ((Ext.rf _).al (Obj.cells #[Value.bool p.n, Value.slice p.s.a p.s.len p.s.cap] 31))
  replace hp := hp.keep ((Ext.rf _).al (Obj.cells #[Value.bool p.n, Value.slice p.s.a p.s.len p.s.cap] 31))
  replace V3 := V3.add' (n := W3.heap.size + 1) (vs := #[Value.int .i64 (parseC t), Value.int .i64 (parseP t)]) (T := 26) (by simp)
  replace hx := hx.keep ((Ext.rf _).al (Obj.cells #[Value.int .i64 (parseC t), Value.int .i64 (parseP t)] 26))
  replace hp := hp.keep ((Ext.rf _).al (Obj.cells #[Value.int .i64 (parseC t), Value.int .i64 (parseP t)] 26))
  generalize ((W3.alloc (Obj.cells #[Value.bool p.n, Value.slice p.s.a p.s.len p.s.cap] 31)).alloc (Obj.cells #[Value.int .i64 (parseC t), Value.int .i64 (parseP t)] 26)) = W4 at *
  have V4 := V3
  clear V3
  obtain ⟨c5_0, c5_1, c5_2, c5_3⟩ := V4.facts 3 rfl
  have c5_4 := V4.lt 3 rfl
  go_wp2_with fail
  (with_reducible refine (pow_any x a k 4000 _ (hx) BA hk hN.out).mono ?_)
  rintro e W5 ⟨pw, rfl, hpw, hxx⟩
  replace hx := hx.keep hxx
  replace hp := hp.keep hxx
  clear c5_0 c5_1 c5_2 c5_3 c5_4
  have V5 := V4.keep hxx
  clear V4 hxx
  go_upto_region 4 with fail
  replace V5 := V5.add' (n := W5.heap.size) (vs := #[Value.bool pw.n, Value.slice pw.s.a pw.s.len pw.s.cap]) (T := 24) (by simp)
  replace hx := hx.keep ((Ext.rf _).al (Obj.cells #[Value.bool pw.n, Value.slice pw.s.a pw.s.len pw.s.cap] 24))
  replace hp := hp.keep ((Ext.rf _).al (Obj.cells #[Value.bool pw.n, Value.slice pw.s.a pw.s.len pw.s.cap] 24))
  replace hpw := hpw.keep ((Ext.rf _).al (Obj.cells #[Value.bool pw.n, Value.slice pw.s.a pw.s.len pw.s.cap] 24))
  replace V5 := V5.add' (n := W5.heap.size + 1) (vs := #[Value.int .i64 0, Value.int .i64 0]) (T := 26) (by simp)
  replace hx := hx.keep ((Ext.rf _).al (Obj.cells #[Value.int .i64 0, Value.int .i64 0] 26))
  replace hp := hp.keep ((Ext.rf _).al (Obj.cells #[Value.int .i64 0, Value.int .i64 0] 26))
  replace hpw := hpw.keep ((Ext.rf _).al (Obj.cells #[Value.int .i64 0, Value.int .i64 0] 26))
  generalize ((W5.alloc (Obj.cells #[Value.bool pw.n, Value.slice pw.s.a pw.s.len pw.s.cap] 24)).alloc (Obj.cells #[Value.int .i64 0, Value.int .i64 0] 26)) = W6 at *
  have V6 := V5
  clear V5
  -- skip
  by_cases hk0 : k = 0
  · have hk1 : Hd ((k : Int) < 1 ∨ 200 < (k : Int)) := hd_ (by omega)
    have hkI : ((k : Int) == 0) = true := by rw [beq_iff_eq]; omega
    have hki : Hd (-9223372036854775808 ≤ (k : Int) ∧ (k : Int) ≤ 9223372036854775807) := hd_ (by omega)
    replace hk0 := hd_ hk0
    obtain ⟨c5_0, c5_1, c5_2, c5_3⟩ := V6.facts 5 rfl
    have c5_4 := V6.lt 5 rfl
    go_wp2_with fail
    (with_reducible refine (root_bad x a k _ (hx) hki.out hk1.out).mono ?_)
    rintro e W7 ⟨rt, rfl, hrt, hxx⟩
    replace hx := hx.keep hxx
    replace hp := hp.keep hxx
    replace hpw := hpw.keep hxx
    clear c5_0 c5_1 c5_2 c5_3 c5_4
    have V7 := V6.keep hxx
    clear V6 hxx
    go_upto_region 5 with fail
    replace V7 := V7.add' (n := W7.heap.size) (vs := #[Value.bool rt.n, Value.slice rt.s.a rt.s.len rt.s.cap]) (T := 24) (by simp)
    replace hx := hx.keep ((Ext.rf _).al (Obj.cells #[Value.bool rt.n, Value.slice rt.s.a rt.s.len rt.s.cap] 24))
    replace hp := hp.keep ((Ext.rf _).al (Obj.cells #[Value.bool rt.n, Value.slice rt.s.a rt.s.len rt.s.cap] 24))
    replace hpw := hpw.keep ((Ext.rf _).al (Obj.cells #[Value.bool rt.n, Value.slice rt.s.a rt.s.len rt.s.cap] 24))
    replace hrt := hrt.keep ((Ext.rf _).al (Obj.cells #[Value.bool rt.n, Value.slice rt.s.a rt.s.len rt.s.cap] 24))
    replace V7 := V7.add' (n := W7.heap.size + 1) (vs := #[Value.int .i64 7, Value.int .i64 0]) (T := 26) (by simp)
    replace hx := hx.keep ((Ext.rf _).al (Obj.cells #[Value.int .i64 7, Value.int .i64 0] 26))
    replace hp := hp.keep ((Ext.rf _).al (Obj.cells #[Value.int .i64 7, Value.int .i64 0] 26))
    replace hpw := hpw.keep ((Ext.rf _).al (Obj.cells #[Value.int .i64 7, Value.int .i64 0] 26))
    replace hrt := hrt.keep ((Ext.rf _).al (Obj.cells #[Value.int .i64 7, Value.int .i64 0] 26))
    generalize ((W7.alloc (Obj.cells #[Value.bool rt.n, Value.slice rt.s.a rt.s.len rt.s.cap] 24)).alloc (Obj.cells #[Value.int .i64 7, Value.int .i64 0] 26)) = W8 at *
    have V8 := V7
    clear V7
    go_wp2_with fail
    (with_reducible refine (begun_any _).mono ?_)
    rintro e W9 ⟨rfl, hxx⟩
    replace hx := hx.keep hxx
    replace hp := hp.keep hxx
    replace hpw := hpw.keep hxx
    replace hrt := hrt.keep hxx
    have V9 := V8.keep hxx
    clear V8 hxx
    go_upto_region 10 with fail
    -- skip
    go_cut [83] (fun v wc => v = .bool false ∧ Vs w wc [(W7.heap.size + 1, 26, #[Value.int .i64 7, Value.int .i64 0]), (W7.heap.size, 24, #[Value.bool rt.n, Value.slice rt.s.a rt.s.len rt.s.cap]), (W5.heap.size + 1, 26, #[Value.int .i64 0, Value.int .i64 0]), (W5.heap.size, 24, #[Value.bool pw.n, Value.slice pw.s.a pw.s.len pw.s.cap]), (W3.heap.size + 1, 26, #[Value.int .i64 (parseC t), Value.int .i64 (parseP t)]), (W3.heap.size, 31, #[Value.bool p.n, Value.slice p.s.a p.s.len p.s.cap]), (W1.heap.size + 1, 26, #[Value.int .i64 (parseC t), Value.int .i64 (parseP t)]), (W1.heap.size, 24, #[Value.bool x.n, Value.slice x.s.a x.s.len x.s.cap])] ∧ IsI wc x a ∧ Z4.IsZ wc p a ∧ IsI wc rt 0)
    case first =>
      by_cases hc : decide (IntKind.i64.wrap ((t.length : Int) * (k : Int)) ≤ 3000) = true
      · (try go_upto_region 10 with fail)
        obtain ⟨c10_0, c10_1, c10_2, c10_3⟩ := V9.facts 2 rfl
        obtain ⟨c9_0, c9_1, c9_2, c9_3⟩ := V9.facts 3 rfl
        obtain ⟨c7_0, c7_1, c7_2, c7_3⟩ := V9.facts 5 rfl
        have HS := hd_ (show ∀ W', Ext W9 W' → Cs W' [(W5.heap.size + 1, 0, Value.int .i64 0), (W5.heap.size, 0, Value.bool pw.n), (W5.heap.size, 1, Value.slice pw.s.a pw.s.len pw.s.cap), (W3.heap.size, 0, Value.bool p.n), (W3.heap.size, 1, Value.slice p.s.a p.s.len p.s.cap)] from fun W' hW => by simp only [cs_cons, cs_nil]; exact ⟨cell_later hW c10_0, cell_later hW c9_0, cell_later hW c9_1, cell_later hW c7_0, cell_later hW c7_1, trivial⟩)
        clear c10_0 c10_1 c10_2 c10_3 c9_0 c9_1 c9_2 c9_3 c7_0 c7_1 c7_2 c7_3
        refine wpG_begin (S := (fun w' => Cs w' [(W5.heap.size + 1, 0, Value.int .i64 0), (W5.heap.size, 0, Value.bool pw.n), (W5.heap.size, 1, Value.slice pw.s.a pw.s.len pw.s.cap), (W3.heap.size, 0, Value.bool p.n), (W3.heap.size, 1, Value.slice p.s.a p.s.len p.s.cap)])) (fun _ => True) (fun _ => True) 99 98 (by kernel_rfl) (fun WX hWX => ?_) (fun WX hWX hHeld => ?_)
        · exact ⟨HS.out _ hWX, trivial, trivial⟩
        have hE := hWX
        refine wpG_take (i := 0) (oi := _) (v := ?_) rfl (by kernel_rfl) (by kernel_rfl) (by kernel_rfl) (by decide) (by decide) (fun _ _ _ h => h) (Or.inl ⟨by rfl, ?_⟩) hHeld ?_
        rotate_left
        · intro w hSw; (try dsimp only at hSw); (try simp only [cs_cons, cs_nil, and_true] at hSw); go_simp; (try with_reducible rfl)
        (try dsimp only [List.getElem_toArray, List.getElem_cons_zero, List.getElem_cons_succ]); (try simp only [Act.put, List.setIfInBounds_toArray, List.set_cons_zero, List.set_cons_succ])
        replace hHeld := hHeld.more 0
        refine wpG_take (i := 1) (oi := _) (v := ?_) rfl (by kernel_rfl) (by kernel_rfl) (by kernel_rfl) (by decide) (by decide) (fun _ _ _ h => h) (Or.inl ⟨by rfl, ?_⟩) hHeld ?_
        rotate_left
        · intro w hSw; (try dsimp only at hSw); (try simp only [cs_cons, cs_nil, and_true] at hSw); go_simp; (try with_reducible rfl)
        (try dsimp only [List.getElem_toArray, List.getElem_cons_zero, List.getElem_cons_succ]); (try simp only [Act.put, List.setIfInBounds_toArray, List.set_cons_zero, List.set_cons_succ])
        replace hHeld := hHeld.more 1
        refine wpG_take (i := 2) (oi := _) (v := ?_) rfl (by kernel_rfl) (by kernel_rfl) (by kernel_rfl) (by decide) (by decide) (fun _ _ _ h => h) (Or.inl ⟨by rfl, ?_⟩) hHeld ?_
        rotate_left
        · intro w hSw; (try dsimp only at hSw); (try simp only [cs_cons, cs_nil, and_true] at hSw); go_simp; (try with_reducible rfl)
        (try dsimp only [List.getElem_toArray, List.getElem_cons_zero, List.getElem_cons_succ]); (try simp only [Act.put, List.setIfInBounds_toArray, List.set_cons_zero, List.set_cons_succ])
        replace hHeld := hHeld.more 2
        refine wpG_take (i := 3) (oi := _) (v := ?_) rfl (by kernel_rfl) (by kernel_rfl) (by kernel_rfl) (by decide) (by decide) (fun _ _ _ h => h) (Or.inl ⟨by rfl, ?_⟩) hHeld ?_
        rotate_left
        · intro w hSw; (try dsimp only at hSw); (try simp only [cs_cons, cs_nil, and_true] at hSw); go_simp; (try with_reducible rfl)
        (try dsimp only [List.getElem_toArray, List.getElem_cons_zero, List.getElem_cons_succ]); (try simp only [Act.put, List.setIfInBounds_toArray, List.set_cons_zero, List.set_cons_succ])
        replace hHeld := hHeld.more 3
        refine wpG_take (i := 4) (oi := _) (v := ?_) rfl (by kernel_rfl) (by kernel_rfl) (by kernel_rfl) (by decide) (by decide) (fun _ _ _ h => h) (Or.inl ⟨by rfl, ?_⟩) hHeld ?_
        rotate_left
        · intro w hSw; (try dsimp only at hSw); (try simp only [cs_cons, cs_nil, and_true] at hSw); go_simp; (try with_reducible rfl)
        (try dsimp only [List.getElem_toArray, List.getElem_cons_zero, List.getElem_cons_succ]); (try simp only [Act.put, List.setIfInBounds_toArray, List.set_cons_zero, List.set_cons_succ])
        replace hHeld := hHeld.more 4
        refine wpG_take (i := 5) (oi := _) (v := ?_) rfl (by kernel_rfl) (by kernel_rfl) (by kernel_rfl) (by decide) (by decide) (fun _ _ _ h => h) (Or.inl ⟨by rfl, ?_⟩) hHeld ?_
        rotate_left
        · intro w hSw; (try dsimp only at hSw); (try simp only [cs_cons, cs_nil, and_true] at hSw); go_simp; (try with_reducible rfl)
        (try dsimp only [List.getElem_toArray, List.getElem_cons_zero, List.getElem_cons_succ]); (try simp only [Act.put, List.setIfInBounds_toArray, List.set_cons_zero, List.set_cons_succ])
        replace hHeld := hHeld.more 5
        refine wpG_take (i := 6) (oi := _) (v := ?_) rfl (by kernel_rfl) (by kernel_rfl) (by kernel_rfl) (by decide) (by decide) (fun _ _ _ h => h) (Or.inl ⟨by rfl, ?_⟩) hHeld ?_
        rotate_left
        · intro w hSw; (try dsimp only at hSw); (try simp only [cs_cons, cs_nil, and_true] at hSw); go_simp; (try with_reducible rfl)
        (try dsimp only [List.getElem_toArray, List.getElem_cons_zero, List.getElem_cons_succ]); (try simp only [Act.put, List.setIfInBounds_toArray, List.set_cons_zero, List.set_cons_succ])
        replace hHeld := hHeld.more 6
        refine wpG_take (i := 7) (oi := _) (v := ?_) rfl (by kernel_rfl) (by kernel_rfl) (by kernel_rfl) (by decide) (by decide) (fun _ _ _ h => h) (Or.inl ⟨by rfl, ?_⟩) hHeld ?_
        rotate_left
        · intro w hSw; (try dsimp only at hSw); (try simp only [cs_cons, cs_nil, and_true] at hSw); go_simp; (try with_reducible rfl)
        (try dsimp only [List.getElem_toArray, List.getElem_cons_zero, List.getElem_cons_succ]); (try simp only [Act.put, List.setIfInBounds_toArray, List.set_cons_zero, List.set_cons_succ])
        replace hHeld := hHeld.more 7
        refine wpG_take (i := 8) (oi := _) (v := ?_) rfl (by kernel_rfl) (by kernel_rfl) (by kernel_rfl) (by decide) (by decide) (fun _ _ _ h => h) (Or.inl ⟨by rfl, ?_⟩) hHeld ?_
        rotate_left
        · intro w hSw; (try dsimp only at hSw); (try simp only [cs_cons, cs_nil, and_true] at hSw); go_simp; (try with_reducible rfl)
        (try dsimp only [List.getElem_toArray, List.getElem_cons_zero, List.getElem_cons_succ]); (try simp only [Act.put, List.setIfInBounds_toArray, List.set_cons_zero, List.set_cons_succ])
        replace hHeld := hHeld.more 8
        refine wpG_take (i := 9) (oi := _) (v := ?_) rfl (by kernel_rfl) (by kernel_rfl) (by kernel_rfl) (by decide) (by decide) (fun _ _ _ h => h) (Or.inl ⟨by rfl, ?_⟩) hHeld ?_
        rotate_left
        · intro w hSw; (try dsimp only at hSw); (try simp only [cs_cons, cs_nil, and_true] at hSw); go_simp; (try with_reducible rfl)
        (try dsimp only [List.getElem_toArray, List.getElem_cons_zero, List.getElem_cons_succ]); (try simp only [Act.put, List.setIfInBounds_toArray, List.set_cons_zero, List.set_cons_succ])
        replace hHeld := hHeld.more 9
        refine wpG_take (i := 10) (oi := _) (v := ?_) rfl (by kernel_rfl) (by kernel_rfl) (by kernel_rfl) (by decide) (by decide) (fun _ _ _ h => h) (Or.inl ⟨by rfl, ?_⟩) hHeld ?_
        rotate_left
        · intro w hSw; (try dsimp only at hSw); (try simp only [cs_cons, cs_nil, and_true] at hSw); go_simp; (try with_reducible rfl)
        (try dsimp only [List.getElem_toArray, List.getElem_cons_zero, List.getElem_cons_succ]); (try simp only [Act.put, List.setIfInBounds_toArray, List.set_cons_zero, List.set_cons_succ])
        replace hHeld := hHeld.more 10
        refine wpG_take (i := 12) (oi := _) (v := ?_) rfl (by kernel_rfl) (by kernel_rfl) (by kernel_rfl) (by decide) (by decide) (fun _ _ _ h => h) (Or.inl ⟨by rfl, ?_⟩) hHeld ?_
        rotate_left
        · intro w hSw; (try dsimp only at hSw); (try simp only [cs_cons, cs_nil, and_true] at hSw); go_simp; (try with_reducible rfl)
        (try dsimp only [List.getElem_toArray, List.getElem_cons_zero, List.getElem_cons_succ]); (try simp only [Act.put, List.setIfInBounds_toArray, List.set_cons_zero, List.set_cons_succ])
        replace hHeld := hHeld.more 12
        refine wpG_take (i := 13) (oi := _) (v := ?_) rfl (by kernel_rfl) (by kernel_rfl) (by kernel_rfl) (by decide) (by decide) (fun _ _ _ h => h) (Or.inl ⟨by rfl, ?_⟩) hHeld ?_
        rotate_left
        · intro w hSw; (try dsimp only at hSw); (try simp only [cs_cons, cs_nil, and_true] at hSw); go_simp; (try with_reducible rfl)
        (try dsimp only [List.getElem_toArray, List.getElem_cons_zero, List.getElem_cons_succ]); (try simp only [Act.put, List.setIfInBounds_toArray, List.set_cons_zero, List.set_cons_succ])
        replace hHeld := hHeld.more 13
        refine wpG_step (i := 11) (o := _) (by kernel_rfl) rfl (fun K hK => ?_)
        go_simp
        (go_at_call 14; ((with_reducible refine (text_any pw (a ^ k) _ (hpw.keep hE)).mono ?_); rintro e w' ⟨rfl, hxx⟩))
        replace hE := hE.tr hxx
        (try go_wp2_with fail)
        refine hK.out _ _ ⟨HS.out _ hE, fun _ => trivial, fun _ => trivial⟩ (fun hHeld' => ?_)
        clear hHeld
        have hHeld := hHeld'
        clear hHeld'
        clear hK K
        (try dsimp only [List.getElem_toArray, List.getElem_cons_zero, List.getElem_cons_succ]); (try simp only [Act.put, List.setIfInBounds_toArray, List.set_cons_zero, List.set_cons_succ])
        refine wpG_step (i := 14) (o := _) (by kernel_rfl) rfl (fun K hK => ?_)
        go_simp
        (go_at_call 38; ((with_reducible refine (Z4.pow_any p a k 4000 _ (hp.keep hE) BA hk hN.out).mono ?_); rintro e w' ⟨y2, rfl, hy2, hxx⟩))
        replace hE := hE.tr hxx
        (try go_wp2_with fail)
        refine hK.out _ _ ⟨HS.out _ hE, fun _ => trivial, fun _ => trivial⟩ (fun hHeld' => ?_)
        clear hHeld
        have hHeld := hHeld'
        clear hHeld'
        clear hK K
        (try dsimp only [List.getElem_toArray, List.getElem_cons_zero, List.getElem_cons_succ]); (try simp only [Act.put, List.setIfInBounds_toArray, List.set_cons_zero, List.set_cons_succ])
        refine wpG_step (i := 15) (o := _) (by kernel_rfl) rfl (fun K hK => ?_)
        go_simp
        (go_at_call 15; ((with_reducible refine (Z4.text_any y2 (a ^ k) _ hy2).mono ?_); rintro e w' ⟨rfl, hxx⟩))
        replace hy2 := hy2.keep hxx
        replace hE := hE.tr hxx
        (try go_wp2_with fail)
        refine hK.out _ _ ⟨HS.out _ hE, fun _ => trivial, fun _ => trivial⟩ (fun hHeld' => ?_)
        clear hHeld
        have hHeld := hHeld'
        clear hHeld'
        clear hK K
        (try dsimp only [List.getElem_toArray, List.getElem_cons_zero, List.getElem_cons_succ]); (try simp only [Act.put, List.setIfInBounds_toArray, List.set_cons_zero, List.set_cons_succ])
        refine wpG_take (i := 16) (oi := _) (v := ?_) rfl (by kernel_rfl) (by kernel_rfl) (by kernel_rfl) (by decide) (by decide) (fun _ _ _ h => h) (Or.inl ⟨by rfl, ?_⟩) hHeld ?_
        rotate_left
        · intro w hSw; (try dsimp only at hSw); (try simp only [cs_cons, cs_nil, and_true] at hSw); go_simp; (try with_reducible rfl)
        (try dsimp only [List.getElem_toArray, List.getElem_cons_zero, List.getElem_cons_succ]); (try simp only [Act.put, List.setIfInBounds_toArray, List.set_cons_zero, List.set_cons_succ])
        replace hHeld := hHeld.more 16
        refine wpG_take (i := 17) (oi := _) (v := ?_) rfl (by kernel_rfl) (by kernel_rfl) (by kernel_rfl) (by decide) (by decide) (fun _ _ _ h => h) (Or.inl ⟨by rfl, ?_⟩) hHeld ?_
        rotate_left
        · intro w hSw; (try dsimp only at hSw); (try simp only [cs_cons, cs_nil, and_true] at hSw); go_simp; (try with_reducible rfl)
        (try dsimp only [List.getElem_toArray, List.getElem_cons_zero, List.getElem_cons_succ]); (try simp only [Act.put, List.setIfInBounds_toArray, List.set_cons_zero, List.set_cons_succ])
        replace hHeld := hHeld.more 17
        refine wpG_take (i := 18) (oi := _) (v := ?_) rfl (by kernel_rfl) (by kernel_rfl) (by kernel_rfl) (by decide) (by decide) (fun _ _ _ h => h) (Or.inl ⟨by rfl, ?_⟩) hHeld ?_
        rotate_left
        · intro w hSw; (try dsimp only at hSw); (try simp only [cs_cons, cs_nil, and_true] at hSw); go_simp; (try with_reducible rfl)
        (try dsimp only [List.getElem_toArray, List.getElem_cons_zero, List.getElem_cons_succ]); (try simp only [Act.put, List.setIfInBounds_toArray, List.set_cons_zero, List.set_cons_succ])
        replace hHeld := hHeld.more 18
        refine wpG_done (by kernel_rfl) ?_ _
        clear hHeld HS
        have V10 := V9.keep hE
        clear V9
        replace hx := hx.keep hE
        replace hp := hp.keep hE
        replace hpw := hpw.keep hE
        replace hrt := hrt.keep hE
        clear hE
        (try clear hxx)
        (try clear hWX)
        generalize w' = W10 at *
        clear hy2
        go_wp2
        go_meet
        case rel => exact ⟨rfl, V10, hx, hp, hrt⟩
      · -- skip
        replace hc : decide (IntKind.i64.wrap ((t.length : Int) * (k : Int)) ≤ 3000) = false := by simpa using hc
        (try go_upto_region 10 with fail)
        obtain ⟨c10_0, c10_1, c10_2, c10_3⟩ := V9.facts 2 rfl
        obtain ⟨c9_0, c9_1, c9_2, c9_3⟩ := V9.facts 3 rfl
        obtain ⟨c7_0, c7_1, c7_2, c7_3⟩ := V9.facts 5 rfl
        have HS := hd_ (show ∀ W', Ext W9 W' → Cs W' [(W5.heap.size + 1, 0, Value.int .i64 0), (W5.heap.size, 0, Value.bool pw.n), (W5.heap.size, 1, Value.slice pw.s.a pw.s.len pw.s.cap), (W3.heap.size, 0, Value.bool p.n), (W3.heap.size, 1, Value.slice p.s.a p.s.len p.s.cap)] from fun W' hW => by simp only [cs_cons, cs_nil]; exact ⟨cell_later hW c10_0, cell_later hW c9_0, cell_later hW c9_1, cell_later hW c7_0, cell_later hW c7_1, trivial⟩)
        clear c10_0 c10_1 c10_2 c10_3 c9_0 c9_1 c9_2 c9_3 c7_0 c7_1 c7_2 c7_3
        refine wpG_begin (S := (fun w' => Cs w' [(W5.heap.size + 1, 0, Value.int .i64 0), (W5.heap.size, 0, Value.bool pw.n), (W5.heap.size, 1, Value.slice pw.s.a pw.s.len pw.s.cap), (W3.heap.size, 0, Value.bool p.n), (W3.heap.size, 1, Value.slice p.s.a p.s.len p.s.cap)])) (fun _ => True) (fun _ => True) 99 98 (by kernel_rfl) (fun WX hWX => ?_) (fun WX hWX hHeld => ?_)
        · exact ⟨HS.out _ hWX, trivial, trivial⟩
        have hE := hWX
        refine wpG_take (i := 0) (oi := _) (v := ?_) rfl (by kernel_rfl) (by kernel_rfl) (by kernel_rfl) (by decide) (by decide) (fun _ _ _ h => h) (Or.inl ⟨by rfl, ?_⟩) hHeld ?_
        rotate_left
        · intro w hSw; (try dsimp only at hSw); (try simp only [cs_cons, cs_nil, and_true] at hSw); go_simp; (try with_reducible rfl)
        (try dsimp only [List.getElem_toArray, List.getElem_cons_zero, List.getElem_cons_succ]); (try simp only [Act.put, List.setIfInBounds_toArray, List.set_cons_zero, List.set_cons_succ])
        replace hHeld := hHeld.more 0
        refine wpG_take (i := 1) (oi := _) (v := ?_) rfl (by kernel_rfl) (by kernel_rfl) (by kernel_rfl) (by decide) (by decide) (fun _ _ _ h => h) (Or.inl ⟨by rfl, ?_⟩) hHeld ?_
        rotate_left
        · intro w hSw; (try dsimp only at hSw); (try simp only [cs_cons, cs_nil, and_true] at hSw); go_simp; (try with_reducible rfl)
        (try dsimp only [List.getElem_toArray, List.getElem_cons_zero, List.getElem_cons_succ]); (try simp only [Act.put, List.setIfInBounds_toArray, List.set_cons_zero, List.set_cons_succ])
        replace hHeld := hHeld.more 1
        refine wpG_take (i := 2) (oi := _) (v := ?_) rfl (by kernel_rfl) (by kernel_rfl) (by kernel_rfl) (by decide) (by decide) (fun _ _ _ h => h) (Or.inl ⟨by rfl, ?_⟩) hHeld ?_
        rotate_left
        · intro w hSw; (try dsimp only at hSw); (try simp only [cs_cons, cs_nil, and_true] at hSw); go_simp; (try with_reducible rfl)
        (try dsimp only [List.getElem_toArray, List.getElem_cons_zero, List.getElem_cons_succ]); (try simp only [Act.put, List.setIfInBounds_toArray, List.set_cons_zero, List.set_cons_succ])
        replace hHeld := hHeld.more 2
        refine wpG_take (i := 3) (oi := _) (v := ?_) rfl (by kernel_rfl) (by kernel_rfl) (by kernel_rfl) (by decide) (by decide) (fun _ _ _ h => h) (Or.inl ⟨by rfl, ?_⟩) hHeld ?_
        rotate_left
        · intro w hSw; (try dsimp only at hSw); (try simp only [cs_cons, cs_nil, and_true] at hSw); go_simp; (try with_reducible rfl)
        (try dsimp only [List.getElem_toArray, List.getElem_cons_zero, List.getElem_cons_succ]); (try simp only [Act.put, List.setIfInBounds_toArray, List.set_cons_zero, List.set_cons_succ])
        replace hHeld := hHeld.more 3
        refine wpG_take (i := 4) (oi := _) (v := ?_) rfl (by kernel_rfl) (by kernel_rfl) (by kernel_rfl) (by decide) (by decide) (fun _ _ _ h => h) (Or.inl ⟨by rfl, ?_⟩) hHeld ?_
        rotate_left
        · intro w hSw; (try dsimp only at hSw); (try simp only [cs_cons, cs_nil, and_true] at hSw); go_simp; (try with_reducible rfl)
        (try dsimp only [List.getElem_toArray, List.getElem_cons_zero, List.getElem_cons_succ]); (try simp only [Act.put, List.setIfInBounds_toArray, List.set_cons_zero, List.set_cons_succ])
        replace hHeld := hHeld.more 4
        refine wpG_take (i := 5) (oi := _) (v := ?_) rfl (by kernel_rfl) (by kernel_rfl) (by kernel_rfl) (by decide) (by decide) (fun _ _ _ h => h) (Or.inl ⟨by rfl, ?_⟩) hHeld ?_
        rotate_left
        · intro w hSw; (try dsimp only at hSw); (try simp only [cs_cons, cs_nil, and_true] at hSw); go_simp; (try with_reducible rfl)
        (try dsimp only [List.getElem_toArray, List.getElem_cons_zero, List.getElem_cons_succ]); (try simp only [Act.put, List.setIfInBounds_toArray, List.set_cons_zero, List.set_cons_succ])
        replace hHeld := hHeld.more 5
        refine wpG_take (i := 6) (oi := _) (v := undef) rfl (by kernel_rfl) (by kernel_rfl) (by kernel_rfl) (by decide) (by decide) (fun _ _ _ h => h) (Or.inr ⟨by rfl, rfl⟩) hHeld ?_
        (try dsimp only [List.getElem_toArray, List.getElem_cons_zero, List.getElem_cons_succ]); (try simp only [Act.put, List.setIfInBounds_toArray, List.set_cons_zero, List.set_cons_succ])
        replace hHeld := hHeld.more 6
        refine wpG_take (i := 7) (oi := _) (v := undef) rfl (by kernel_rfl) (by kernel_rfl) (by kernel_rfl) (by decide) (by decide) (fun _ _ _ h => h) (Or.inr ⟨by rfl, rfl⟩) hHeld ?_
        (try dsimp only [List.getElem_toArray, List.getElem_cons_zero, List.getElem_cons_succ]); (try simp only [Act.put, List.setIfInBounds_toArray, List.set_cons_zero, List.set_cons_succ])
        replace hHeld := hHeld.more 7
        refine wpG_take (i := 8) (oi := _) (v := undef) rfl (by kernel_rfl) (by kernel_rfl) (by kernel_rfl) (by decide) (by decide) (fun _ _ _ h => h) (Or.inr ⟨by rfl, rfl⟩) hHeld ?_
        (try dsimp only [List.getElem_toArray, List.getElem_cons_zero, List.getElem_cons_succ]); (try simp only [Act.put, List.setIfInBounds_toArray, List.set_cons_zero, List.set_cons_succ])
        replace hHeld := hHeld.more 8
        refine wpG_take (i := 9) (oi := _) (v := undef) rfl (by kernel_rfl) (by kernel_rfl) (by kernel_rfl) (by decide) (by decide) (fun _ _ _ h => h) (Or.inr ⟨by rfl, rfl⟩) hHeld ?_
        (try dsimp only [List.getElem_toArray, List.getElem_cons_zero, List.getElem_cons_succ]); (try simp only [Act.put, List.setIfInBounds_toArray, List.set_cons_zero, List.set_cons_succ])
        replace hHeld := hHeld.more 9
        refine wpG_take (i := 10) (oi := _) (v := undef) rfl (by kernel_rfl) (by kernel_rfl) (by kernel_rfl) (by decide) (by decide) (fun _ _ _ h => h) (Or.inr ⟨by rfl, rfl⟩) hHeld ?_
        (try dsimp only [List.getElem_toArray, List.getElem_cons_zero, List.getElem_cons_succ]); (try simp only [Act.put, List.setIfInBounds_toArray, List.set_cons_zero, List.set_cons_succ])
        replace hHeld := hHeld.more 10
        refine wpG_take (i := 11) (oi := _) (v := undef) rfl (by kernel_rfl) (by kernel_rfl) (by kernel_rfl) (by decide) (by decide) (fun _ _ _ h => h) (Or.inr ⟨by rfl, rfl⟩) hHeld ?_
        (try dsimp only [List.getElem_toArray, List.getElem_cons_zero, List.getElem_cons_succ]); (try simp only [Act.put, List.setIfInBounds_toArray, List.set_cons_zero, List.set_cons_succ])
        replace hHeld := hHeld.more 11
        refine wpG_take (i := 12) (oi := _) (v := undef) rfl (by kernel_rfl) (by kernel_rfl) (by kernel_rfl) (by decide) (by decide) (fun _ _ _ h => h) (Or.inr ⟨by rfl, rfl⟩) hHeld ?_
        (try dsimp only [List.getElem_toArray, List.getElem_cons_zero, List.getElem_cons_succ]); (try simp only [Act.put, List.setIfInBounds_toArray, List.set_cons_zero, List.set_cons_succ])
        replace hHeld := hHeld.more 12
        refine wpG_take (i := 13) (oi := _) (v := undef) rfl (by kernel_rfl) (by kernel_rfl) (by kernel_rfl) (by decide) (by decide) (fun _ _ _ h => h) (Or.inr ⟨by rfl, rfl⟩) hHeld ?_
        (try dsimp only [List.getElem_toArray, List.getElem_cons_zero, List.getElem_cons_succ]); (try simp only [Act.put, List.setIfInBounds_toArray, List.set_cons_zero, List.set_cons_succ])
        replace hHeld := hHeld.more 13
        refine wpG_take (i := 14) (oi := _) (v := undef) rfl (by kernel_rfl) (by kernel_rfl) (by kernel_rfl) (by decide) (by decide) (fun _ _ _ h => h) (Or.inr ⟨by rfl, rfl⟩) hHeld ?_
        (try dsimp only [List.getElem_toArray, List.getElem_cons_zero, List.getElem_cons_succ]); (try simp only [Act.put, List.setIfInBounds_toArray, List.set_cons_zero, List.set_cons_succ])
        replace hHeld := hHeld.more 14
        refine wpG_take (i := 15) (oi := _) (v := undef) rfl (by kernel_rfl) (by kernel_rfl) (by kernel_rfl) (by decide) (by decide) (fun _ _ _ h => h) (Or.inr ⟨by rfl, rfl⟩) hHeld ?_
        (try dsimp only [List.getElem_toArray, List.getElem_cons_zero, List.getElem_cons_succ]); (try simp only [Act.put, List.setIfInBounds_toArray, List.set_cons_zero, List.set_cons_succ])
        replace hHeld := hHeld.more 15
        refine wpG_take (i := 16) (oi := _) (v := undef) rfl (by kernel_rfl) (by kernel_rfl) (by kernel_rfl) (by decide) (by decide) (fun _ _ _ h => h) (Or.inr ⟨by rfl, rfl⟩) hHeld ?_
        (try dsimp only [List.getElem_toArray, List.getElem_cons_zero, List.getElem_cons_succ]); (try simp only [Act.put, List.setIfInBounds_toArray, List.set_cons_zero, List.set_cons_succ])
        replace hHeld := hHeld.more 16
        refine wpG_take (i := 17) (oi := _) (v := undef) rfl (by kernel_rfl) (by kernel_rfl) (by kernel_rfl) (by decide) (by decide) (fun _ _ _ h => h) (Or.inr ⟨by rfl, rfl⟩) hHeld ?_
        (try dsimp only [List.getElem_toArray, List.getElem_cons_zero, List.getElem_cons_succ]); (try simp only [Act.put, List.setIfInBounds_toArray, List.set_cons_zero, List.set_cons_succ])
        replace hHeld := hHeld.more 17
        refine wpG_take (i := 18) (oi := _) (v := ?_) rfl (by kernel_rfl) (by kernel_rfl) (by kernel_rfl) (by decide) (by decide) (fun _ _ _ h => h) (Or.inl ⟨by rfl, ?_⟩) hHeld ?_
        rotate_left
        · intro w hSw; (try dsimp only at hSw); (try simp only [cs_cons, cs_nil, and_true] at hSw); go_simp; (try with_reducible rfl)
        (try dsimp only [List.getElem_toArray, List.getElem_cons_zero, List.getElem_cons_succ]); (try simp only [Act.put, List.setIfInBounds_toArray, List.set_cons_zero, List.set_cons_succ])
        replace hHeld := hHeld.more 18
        refine wpG_done (by kernel_rfl) ?_ _
        clear hHeld HS
        have V10 := V9.keep hE
        clear V9
        replace hx := hx.keep hE
        replace hp := hp.keep hE
        replace hpw := hpw.keep hE
        replace hrt := hrt.keep hE
        clear hE
        (try clear hxx)
        (try clear hWX)
        generalize WX = W10 at *
        go_wp2
        go_meet
        case rel => exact ⟨rfl, V10, hx, hp, hrt⟩
    case rest => -- skip
      clear hx hp hpw hrt V9
      obtain ⟨rfl, VC, hx, hp, hrt⟩ := hcut
      -- skip
      go_upto_region 13 with fail
      obtain ⟨c12_0, c12_1, c12_2, c12_3⟩ := VC.facts 0 rfl
      obtain ⟨c11_0, c11_1, c11_2, c11_3⟩ := VC.facts 1 rfl
      go_wp2_with fail
      (with_reducible refine (sign_any rt 0 _ (hrt)).mono ?_)
      rintro e W10 ⟨rfl, hxx⟩
      replace hx := hx.keep hxx
      replace hp := hp.keep hxx
      replace hrt := hrt.keep hxx
      clear c12_0 c12_1 c12_2 c12_3 c11_0 c11_1 c11_2 c11_3
      have V10 := VC.keep hxx
      clear VC hxx
      go_wp2
      go_ret
      exact ⟨rfl, V10.ext⟩
  · have hk1 : 1 ≤ k := by omega
    have hkI : ((k : Int) == 0) = false := by rw [beq_eq_false_iff_ne]; omega
    by_cases hodd : a < 0 ∧ k % 2 = 0
    · -- skip
      have hs : decide (sgnZ a < 0) = true := by unfold sgnZ; rw [if_pos hodd.1]; decide
      have he : ((k : Int) % 2 == 0) = true := by rw [beq_iff_eq]; omega
      replace hodd := hd_ hodd
      obtain ⟨c5_0, c5_1, c5_2, c5_3⟩ := V6.facts 5 rfl
      have c5_4 := V6.lt 5 rfl
      go_wp2_with fail
      (with_reducible refine (root_none x a k _ (hx) hk1 hk hodd.out.1 hodd.out.2).mono ?_)
      rintro e W7 ⟨rt, rfl, hrt, hxx⟩
      replace hx := hx.keep hxx
      replace hp := hp.keep hxx
      replace hpw := hpw.keep hxx
      clear c5_0 c5_1 c5_2 c5_3 c5_4
      have V7 := V6.keep hxx
      clear V6 hxx
      go_upto_region 5 with fail
      replace V7 := V7.add' (n := W7.heap.size) (vs := #[Value.bool rt.n, Value.slice rt.s.a rt.s.len rt.s.cap]) (T := 24) (by simp)
      replace hx := hx.keep ((Ext.rf _).al (Obj.cells #[Value.bool rt.n, Value.slice rt.s.a rt.s.len rt.s.cap] 24))
      replace hp := hp.keep ((Ext.rf _).al (Obj.cells #[Value.bool rt.n, Value.slice rt.s.a rt.s.len rt.s.cap] 24))
      replace hpw := hpw.keep ((Ext.rf _).al (Obj.cells #[Value.bool rt.n, Value.slice rt.s.a rt.s.len rt.s.cap] 24))
      replace hrt := hrt.keep ((Ext.rf _).al (Obj.cells #[Value.bool rt.n, Value.slice rt.s.a rt.s.len rt.s.cap] 24))
      replace V7 := V7.add' (n := W7.heap.size + 1) (vs := #[Value.int .i64 5, Value.int .i64 0]) (T := 26) (by simp)
      replace hx := hx.keep ((Ext.rf _).al (Obj.cells #[Value.int .i64 5, Value.int .i64 0] 26))
      replace hp := hp.keep ((Ext.rf _).al (Obj.cells #[Value.int .i64 5, Value.int .i64 0] 26))
      replace hpw := hpw.keep ((Ext.rf _).al (Obj.cells #[Value.int .i64 5, Value.int .i64 0] 26))
      replace hrt := hrt.keep ((Ext.rf _).al (Obj.cells #[Value.int .i64 5, Value.int .i64 0] 26))
      generalize ((W7.alloc (Obj.cells #[Value.bool rt.n, Value.slice rt.s.a rt.s.len rt.s.cap] 24)).alloc (Obj.cells #[Value.int .i64 5, Value.int .i64 0] 26)) = W8 at *
      have V8 := V7
      clear V7
      go_wp2_with fail
      (with_reducible refine (begun_any _).mono ?_)
      rintro e W9 ⟨rfl, hxx⟩
      replace hx := hx.keep hxx
      replace hp := hp.keep hxx
      replace hpw := hpw.keep hxx
      replace hrt := hrt.keep hxx
      have V9 := V8.keep hxx
      clear V8 hxx
      go_upto_region 10 with fail
      -- skip
      go_cut [83] (fun v wc => v = .bool false ∧ Vs w wc [(W7.heap.size + 1, 26, #[Value.int .i64 5, Value.int .i64 0]), (W7.heap.size, 24, #[Value.bool rt.n, Value.slice rt.s.a rt.s.len rt.s.cap]), (W5.heap.size + 1, 26, #[Value.int .i64 0, Value.int .i64 0]), (W5.heap.size, 24, #[Value.bool pw.n, Value.slice pw.s.a pw.s.len pw.s.cap]), (W3.heap.size + 1, 26, #[Value.int .i64 (parseC t), Value.int .i64 (parseP t)]), (W3.heap.size, 31, #[Value.bool p.n, Value.slice p.s.a p.s.len p.s.cap]), (W1.heap.size + 1, 26, #[Value.int .i64 (parseC t), Value.int .i64 (parseP t)]), (W1.heap.size, 24, #[Value.bool x.n, Value.slice x.s.a x.s.len x.s.cap])] ∧ IsI wc x a ∧ Z4.IsZ wc p a ∧ IsI wc rt 0)
      case first =>
        by_cases hc : decide (IntKind.i64.wrap ((t.length : Int) * (k : Int)) ≤ 3000) = true
        · (try go_upto_region 10 with fail)
          obtain ⟨c10_0, c10_1, c10_2, c10_3⟩ := V9.facts 2 rfl
          obtain ⟨c9_0, c9_1, c9_2, c9_3⟩ := V9.facts 3 rfl
          obtain ⟨c7_0, c7_1, c7_2, c7_3⟩ := V9.facts 5 rfl
          have HS := hd_ (show ∀ W', Ext W9 W' → Cs W' [(W5.heap.size + 1, 0, Value.int .i64 0), (W5.heap.size, 0, Value.bool pw.n), (W5.heap.size, 1, Value.slice pw.s.a pw.s.len pw.s.cap), (W3.heap.size, 0, Value.bool p.n), (W3.heap.size, 1, Value.slice p.s.a p.s.len p.s.cap)] from fun W' hW => by simp only [cs_cons, cs_nil]; exact ⟨cell_later hW c10_0, cell_later hW c9_0, cell_later hW c9_1, cell_later hW c7_0, cell_later hW c7_1, trivial⟩)
          clear c10_0 c10_1 c10_2 c10_3 c9_0 c9_1 c9_2 c9_3 c7_0 c7_1 c7_2 c7_3
          refine wpG_begin (S := (fun w' => Cs w' [(W5.heap.size + 1, 0, Value.int .i64 0), (W5.heap.size, 0, Value.bool pw.n), (W5.heap.size, 1, Value.slice pw.s.a pw.s.len pw.s.cap), (W3.heap.size, 0, Value.bool p.n), (W3.heap.size, 1, Value.slice p.s.a p.s.len p.s.cap)])) (fun _ => True) (fun _ => True) 99 98 (by kernel_rfl) (fun WX hWX => ?_) (fun WX hWX hHeld => ?_)
          · exact ⟨HS.out _ hWX, trivial, trivial⟩
          have hE := hWX
          refine wpG_take (i := 0) (oi := _) (v := ?_) rfl (by kernel_rfl) (by kernel_rfl) (by kernel_rfl) (by decide) (by decide) (fun _ _ _ h => h) (Or.inl ⟨by rfl, ?_⟩) hHeld ?_
          rotate_left
          · intro w hSw; (try dsimp only at hSw); (try simp only [cs_cons, cs_nil, and_true] at hSw); go_simp; (try with_reducible rfl)
          (try dsimp only [List.getElem_toArray, List.getElem_cons_zero, List.getElem_cons_succ]); (try simp only [Act.put, List.setIfInBounds_toArray, List.set_cons_zero, List.set_cons_succ])
          replace hHeld := hHeld.more 0
          refine wpG_take (i := 1) (oi := _) (v := ?_) rfl (by kernel_rfl) (by kernel_rfl) (by kernel_rfl) (by decide) (by decide) (fun _ _ _ h => h) (Or.inl ⟨by rfl, ?_⟩) hHeld ?_
          rotate_left
          · intro w hSw; (try dsimp only at hSw); (try simp only [cs_cons, cs_nil, and_true] at hSw); go_simp; (try with_reducible rfl)
          (try dsimp only [List.getElem_toArray, List.getElem_cons_zero, List.getElem_cons_succ]); (try simp only [Act.put, List.setIfInBounds_toArray, List.set_cons_zero, List.set_cons_succ])
          replace hHeld := hHeld.more 1
          refine wpG_take (i := 2) (oi := _) (v := ?_) rfl (by kernel_rfl) (by kernel_rfl) (by kernel_rfl) (by decide) (by decide) (fun _ _ _ h => h) (Or.inl ⟨by rfl, ?_⟩) hHeld ?_
          rotate_left
          · intro w hSw; (try dsimp only at hSw); (try simp only [cs_cons, cs_nil, and_true] at hSw); go_simp; (try with_reducible rfl)
          (try dsimp only [List.getElem_toArray, List.getElem_cons_zero, List.getElem_cons_succ]); (try simp only [Act.put, List.setIfInBounds_toArray, List.set_cons_zero, List.set_cons_succ])
          replace hHeld := hHeld.more 2
          refine wpG_take (i := 3) (oi := _) (v := ?_) rfl (by kernel_rfl) (by kernel_rfl) (by kernel_rfl) (by decide) (by decide) (fun _ _ _ h => h) (Or.inl ⟨by rfl, ?_⟩) hHeld ?_
          rotate_left
          · intro w hSw; (try dsimp only at hSw); (try simp only [cs_cons, cs_nil, and_true] at hSw); go_simp; (try with_reducible rfl)
          (try dsimp only [List.getElem_toArray, List.getElem_cons_zero, List.getElem_cons_succ]); (try simp only [Act.put, List.setIfInBounds_toArray, List.set_cons_zero, List.set_cons_succ])
          replace hHeld := hHeld.more 3
          refine wpG_take (i := 4) (oi := _) (v := ?_) rfl (by kernel_rfl) (by kernel_rfl) (by kernel_rfl) (by decide) (by decide) (fun _ _ _ h => h) (Or.inl ⟨by rfl, ?_⟩) hHeld ?_
          rotate_left
          · intro w hSw; (try dsimp only at hSw); (try simp only [cs_cons, cs_nil, and_true] at hSw); go_simp; (try with_reducible rfl)
          (try dsimp only [List.getElem_toArray, List.getElem_cons_zero, List.getElem_cons_succ]); (try simp only [Act.put, List.setIfInBounds_toArray, List.set_cons_zero, List.set_cons_succ])
          replace hHeld := hHeld.more 4
          refine wpG_take (i := 5) (oi := _) (v := ?_) rfl (by kernel_rfl) (by kernel_rfl) (by kernel_rfl) (by decide) (by decide) (fun _ _ _ h => h) (Or.inl ⟨by rfl, ?_⟩) hHeld ?_
          rotate_left
          · intro w hSw; (try dsimp only at hSw); (try simp only [cs_cons, cs_nil, and_true] at hSw); go_simp; (try with_reducible rfl)
          (try dsimp only [List.getElem_toArray, List.getElem_cons_zero, List.getElem_cons_succ]); (try simp only [Act.put, List.setIfInBounds_toArray, List.set_cons_zero, List.set_cons_succ])
          replace hHeld := hHeld.more 5
          refine wpG_take (i := 6) (oi := _) (v := ?_) rfl (by kernel_rfl) (by kernel_rfl) (by kernel_rfl) (by decide) (by decide) (fun _ _ _ h => h) (Or.inl ⟨by rfl, ?_⟩) hHeld ?_
          rotate_left
          · intro w hSw; (try dsimp only at hSw); (try simp only [cs_cons, cs_nil, and_true] at hSw); go_simp; (try with_reducible rfl)
          (try dsimp only [List.getElem_toArray, List.getElem_cons_zero, List.getElem_cons_succ]); (try simp only [Act.put, List.setIfInBounds_toArray, List.set_cons_zero, List.set_cons_succ])
          replace hHeld := hHeld.more 6
          refine wpG_take (i := 7) (oi := _) (v := ?_) rfl (by kernel_rfl) (by kernel_rfl) (by kernel_rfl) (by decide) (by decide) (fun _ _ _ h => h) (Or.inl ⟨by rfl, ?_⟩) hHeld ?_
          rotate_left
          · intro w hSw; (try dsimp only at hSw); (try simp only [cs_cons, cs_nil, and_true] at hSw); go_simp; (try with_reducible rfl)
          (try dsimp only [List.getElem_toArray, List.getElem_cons_zero, List.getElem_cons_succ]); (try simp only [Act.put, List.setIfInBounds_toArray, List.set_cons_zero, List.set_cons_succ])
          replace hHeld := hHeld.more 7
          refine wpG_take (i := 8) (oi := _) (v := ?_) rfl (by kernel_rfl) (by kernel_rfl) (by kernel_rfl) (by decide) (by decide) (fun _ _ _ h => h) (Or.inl ⟨by rfl, ?_⟩) hHeld ?_
          rotate_left
          · intro w hSw; (try dsimp only at hSw); (try simp only [cs_cons, cs_nil, and_true] at hSw); go_simp; (try with_reducible rfl)
          (try dsimp only [List.getElem_toArray, List.getElem_cons_zero, List.getElem_cons_succ]); (try simp only [Act.put, List.setIfInBounds_toArray, List.set_cons_zero, List.set_cons_succ])
          replace hHeld := hHeld.more 8
          refine wpG_take (i := 9) (oi := _) (v := ?_) rfl (by kernel_rfl) (by kernel_rfl) (by kernel_rfl) (by decide) (by decide) (fun _ _ _ h => h) (Or.inl ⟨by rfl, ?_⟩) hHeld ?_
          rotate_left
          · intro w hSw; (try dsimp only at hSw); (try simp only [cs_cons, cs_nil, and_true] at hSw); go_simp; (try with_reducible rfl)
          (try dsimp only [List.getElem_toArray, List.getElem_cons_zero, List.getElem_cons_succ]); (try simp only [Act.put, List.setIfInBounds_toArray, List.set_cons_zero, List.set_cons_succ])
          replace hHeld := hHeld.more 9
          refine wpG_take (i := 10) (oi := _) (v := ?_) rfl (by kernel_rfl) (by kernel_rfl) (by kernel_rfl) (by decide) (by decide) (fun _ _ _ h => h) (Or.inl ⟨by rfl, ?_⟩) hHeld ?_
          rotate_left
          · intro w hSw; (try dsimp only at hSw); (try simp only [cs_cons, cs_nil, and_true] at hSw); go_simp; (try with_reducible rfl)
          (try dsimp only [List.getElem_toArray, List.getElem_cons_zero, List.getElem_cons_succ]); (try simp only [Act.put, List.setIfInBounds_toArray, List.set_cons_zero, List.set_cons_succ])
          replace hHeld := hHeld.more 10
          refine wpG_take (i := 12) (oi := _) (v := ?_) rfl (by kernel_rfl) (by kernel_rfl) (by kernel_rfl) (by decide) (by decide) (fun _ _ _ h => h) (Or.inl ⟨by rfl, ?_⟩) hHeld ?_
          rotate_left
          · intro w hSw; (try dsimp only at hSw); (try simp only [cs_cons, cs_nil, and_true] at hSw); go_simp; (try with_reducible rfl)
          (try dsimp only [List.getElem_toArray, List.getElem_cons_zero, List.getElem_cons_succ]); (try simp only [Act.put, List.setIfInBounds_toArray, List.set_cons_zero, List.set_cons_succ])
          replace hHeld := hHeld.more 12
          refine wpG_take (i := 13) (oi := _) (v := ?_) rfl (by kernel_rfl) (by kernel_rfl) (by kernel_rfl) (by decide) (by decide) (fun _ _ _ h => h) (Or.inl ⟨by rfl, ?_⟩) hHeld ?_
          rotate_left
          · intro w hSw; (try dsimp only at hSw); (try simp only [cs_cons, cs_nil, and_true] at hSw); go_simp; (try with_reducible rfl)
          (try dsimp only [List.getElem_toArray, List.getElem_cons_zero, List.getElem_cons_succ]); (try simp only [Act.put, List.setIfInBounds_toArray, List.set_cons_zero, List.set_cons_succ])
          replace hHeld := hHeld.more 13
          refine wpG_step (i := 11) (o := _) (by kernel_rfl) rfl (fun K hK => ?_)
          go_simp
          (go_at_call 14; ((with_reducible refine (text_any pw (a ^ k) _ (hpw.keep hE)).mono ?_); rintro e w' ⟨rfl, hxx⟩))
          replace hE := hE.tr hxx
          (try go_wp2_with fail)
          refine hK.out _ _ ⟨HS.out _ hE, fun _ => trivial, fun _ => trivial⟩ (fun hHeld' => ?_)
          clear hHeld
          have hHeld := hHeld'
          clear hHeld'
          clear hK K
          (try dsimp only [List.getElem_toArray, List.getElem_cons_zero, List.getElem_cons_succ]); (try simp only [Act.put, List.setIfInBounds_toArray, List.set_cons_zero, List.set_cons_succ])
          refine wpG_step (i := 14) (o := _) (by kernel_rfl) rfl (fun K hK => ?_)
          go_simp
          (go_at_call 38; ((with_reducible refine (Z4.pow_any p a k 4000 _ (hp.keep hE) BA hk hN.out).mono ?_); rintro e w' ⟨y2, rfl, hy2, hxx⟩))
          replace hE := hE.tr hxx
          (try go_wp2_with fail)
          refine hK.out _ _ ⟨HS.out _ hE, fun _ => trivial, fun _ => trivial⟩ (fun hHeld' => ?_)
          clear hHeld
          have hHeld := hHeld'
          clear hHeld'
          clear hK K
          (try dsimp only [List.getElem_toArray, List.getElem_cons_zero, List.getElem_cons_succ]); (try simp only [Act.put, List.setIfInBounds_toArray, List.set_cons_zero, List.set_cons_succ])
          refine wpG_step (i := 15) (o := _) (by kernel_rfl) rfl (fun K hK => ?_)
          go_simp
          (go_at_call 15; ((with_reducible refine (Z4.text_any y2 (a ^ k) _ hy2).mono ?_); rintro e w' ⟨rfl, hxx⟩))
          replace hy2 := hy2.keep hxx
          replace hE := hE.tr hxx
          (try go_wp2_with fail)
          refine hK.out _ _ ⟨HS.out _ hE, fun _ => trivial, fun _ => trivial⟩ (fun hHeld' => ?_)
          clear hHeld
          have hHeld := hHeld'
          clear hHeld'
          clear hK K
          (try dsimp only [List.getElem_toArray, List.getElem_cons_zero, List.getElem_cons_succ]); (try simp only [Act.put, List.setIfInBounds_toArray, List.set_cons_zero, List.set_cons_succ])
          refine wpG_take (i := 16) (oi := _) (v := ?_) rfl (by kernel_rfl) (by kernel_rfl) (by kernel_rfl) (by decide) (by decide) (fun _ _ _ h => h) (Or.inl ⟨by rfl, ?_⟩) hHeld ?_
          rotate_left
          · intro w hSw; (try dsimp only at hSw); (try simp only [cs_cons, cs_nil, and_true] at hSw); go_simp; (try with_reducible rfl)
          (try dsimp only [List.getElem_toArray, List.getElem_cons_zero, List.getElem_cons_succ]); (try simp only [Act.put, List.setIfInBounds_toArray, List.set_cons_zero, List.set_cons_succ])
          replace hHeld := hHeld.more 16
          refine wpG_take (i := 17) (oi := _) (v := ?_) rfl (by kernel_rfl) (by kernel_rfl) (by kernel_rfl) (by decide) (by decide) (fun _ _ _ h => h) (Or.inl ⟨by rfl, ?_⟩) hHeld ?_
          rotate_left
          · intro w hSw; (try dsimp only at hSw); (try simp only [cs_cons, cs_nil, and_true] at hSw); go_simp; (try with_reducible rfl)
          (try dsimp only [List.getElem_toArray, List.getElem_cons_zero, List.getElem_cons_succ]); (try simp only [Act.put, List.setIfInBounds_toArray, List.set_cons_zero, List.set_cons_succ])
          replace hHeld := hHeld.more 17
          refine wpG_take (i := 18) (oi := _) (v := ?_) rfl (by kernel_rfl) (by kernel_rfl) (by kernel_rfl) (by decide) (by decide) (fun _ _ _ h => h) (Or.inl ⟨by rfl, ?_⟩) hHeld ?_
          rotate_left
          · intro w hSw; (try dsimp only at hSw); (try simp only [cs_cons, cs_nil, and_true] at hSw); go_simp; (try with_reducible rfl)
          (try dsimp only [List.getElem_toArray, List.getElem_cons_zero, List.getElem_cons_succ]); (try simp only [Act.put, List.setIfInBounds_toArray, List.set_cons_zero, List.set_cons_succ])
          replace hHeld := hHeld.more 18
          refine wpG_done (by kernel_rfl) ?_ _
          clear hHeld HS
          have V10 := V9.keep hE
          clear V9
          replace hx := hx.keep hE
          replace hp := hp.keep hE
          replace hpw := hpw.keep hE
          replace hrt := hrt.keep hE
          clear hE
          (try clear hxx)
          (try clear hWX)
          generalize w' = W10 at *
          clear hy2
          go_wp2
          go_meet
          case rel => exact ⟨rfl, V10, hx, hp, hrt⟩
        · -- skip
          replace hc : decide (IntKind.i64.wrap ((t.length : Int) * (k : Int)) ≤ 3000) = false := by simpa using hc
          (try go_upto_region 10 with fail)
          obtain ⟨c10_0, c10_1, c10_2, c10_3⟩ := V9.facts 2 rfl
          obtain ⟨c9_0, c9_1, c9_2, c9_3⟩ := V9.facts 3 rfl
          obtain ⟨c7_0, c7_1, c7_2, c7_3⟩ := V9.facts 5 rfl
          have HS := hd_ (show ∀ W', Ext W9 W' → Cs W' [(W5.heap.size + 1, 0, Value.int .i64 0), (W5.heap.size, 0, Value.bool pw.n), (W5.heap.size, 1, Value.slice pw.s.a pw.s.len pw.s.cap), (W3.heap.size, 0, Value.bool p.n), (W3.heap.size, 1, Value.slice p.s.a p.s.len p.s.cap)] from fun W' hW => by simp only [cs_cons, cs_nil]; exact ⟨cell_later hW c10_0, cell_later hW c9_0, cell_later hW c9_1, cell_later hW c7_0, cell_later hW c7_1, trivial⟩)
          clear c10_0 c10_1 c10_2 c10_3 c9_0 c9_1 c9_2 c9_3 c7_0 c7_1 c7_2 c7_3
          refine wpG_begin (S := (fun w' => Cs w' [(W5.heap.size + 1, 0, Value.int .i64 0), (W5.heap.size, 0, Value.bool pw.n), (W5.heap.size, 1, Value.slice pw.s.a pw.s.len pw.s.cap), (W3.heap.size, 0, Value.bool p.n), (W3.heap.size, 1, Value.slice p.s.a p.s.len p.s.cap)])) (fun _ => True) (fun _ => True) 99 98 (by kernel_rfl) (fun WX hWX => ?_) (fun WX hWX hHeld => ?_)
          · exact ⟨HS.out _ hWX, trivial, trivial⟩
          have hE := hWX
          refine wpG_take (i := 0) (oi := _) (v := ?_) rfl (by kernel_rfl) (by kernel_rfl) (by kernel_rfl) (by decide) (by decide) (fun _ _ _ h => h) (Or.inl ⟨by rfl, ?_⟩) hHeld ?_
          rotate_left
          · intro w hSw; (try dsimp only at hSw); (try simp only [cs_cons, cs_nil, and_true] at hSw); go_simp; (try with_reducible rfl)
          (try dsimp only [List.getElem_toArray, List.getElem_cons_zero, List.getElem_cons_succ]); (try simp only [Act.put, List.setIfInBounds_toArray, List.set_cons_zero, List.set_cons_succ])
          replace hHeld := hHeld.more 0
          refine wpG_take (i := 1) (oi := _) (v := ?_) rfl (by kernel_rfl) (by kernel_rfl) (by kernel_rfl) (by decide) (by decide) (fun _ _ _ h => h) (Or.inl ⟨by rfl, ?_⟩) hHeld ?_
          rotate_left
          · intro w hSw; (try dsimp only at hSw); (try simp only [cs_cons, cs_nil, and_true] at hSw); go_simp; (try with_reducible rfl)
          (try dsimp only [List.getElem_toArray, List.getElem_cons_zero, List.getElem_cons_succ]); (try simp only [Act.put, List.setIfInBounds_toArray, List.set_cons_zero, List.set_cons_succ])
          replace hHeld := hHeld.more 1
          refine wpG_take (i := 2) (oi := _) (v := ?_) rfl (by kernel_rfl) (by kernel_rfl) (by kernel_rfl) (by decide) (by decide) (fun _ _ _ h => h) (Or.inl ⟨by rfl, ?_⟩) hHeld ?_
          rotate_left
          · intro w hSw; (try dsimp only at hSw); (try simp only [cs_cons, cs_nil, and_true] at hSw); go_simp; (try with_reducible rfl)
          (try dsimp only [List.getElem_toArray, List.getElem_cons_zero, List.getElem_cons_succ]); (try simp only [Act.put, List.setIfInBounds_toArray, List.set_cons_zero, List.set_cons_succ])
          replace hHeld := hHeld.more 2
          refine wpG_take (i := 3) (oi := _) (v := ?_) rfl (by kernel_rfl) (by kernel_rfl) (by kernel_rfl) (by decide) (by decide) (fun _ _ _ h => h) (Or.inl ⟨by rfl, ?_⟩) hHeld ?_
          rotate_left
          · intro w hSw; (try dsimp only at hSw); (try simp only [cs_cons, cs_nil, and_true] at hSw); go_simp; (try with_reducible rfl)
          (try dsimp only [List.getElem_toArray, List.getElem_cons_zero, List.getElem_cons_succ]); (try simp only [Act.put, List.setIfInBounds_toArray, List.set_cons_zero, List.set_cons_succ])
          replace hHeld := hHeld.more 3
          refine wpG_take (i := 4) (oi := _) (v := ?_) rfl (by kernel_rfl) (by kernel_rfl) (by kernel_rfl) (by decide) (by decide) (fun _ _ _ h => h) (Or.inl ⟨by rfl, ?_⟩) hHeld ?_
          rotate_left
          · intro w hSw; (try dsimp only at hSw); (try simp only [cs_cons, cs_nil, and_true] at hSw); go_simp; (try with_reducible rfl)
          (try dsimp only [List.getElem_toArray, List.getElem_cons_zero, List.getElem_cons_succ]); (try simp only [Act.put, List.setIfInBounds_toArray, List.set_cons_zero, List.set_cons_succ])
          replace hHeld := hHeld.more 4
          refine wpG_take (i := 5) (oi := _) (v := ?_) rfl (by kernel_rfl) (by kernel_rfl) (by kernel_rfl) (by decide) (by decide) (fun _ _ _ h => h) (Or.inl ⟨by rfl, ?_⟩) hHeld ?_
          rotate_left
          · intro w hSw; (try dsimp only at hSw); (try simp only [cs_cons, cs_nil, and_true] at hSw); go_simp; (try with_reducible rfl)
          (try dsimp only [List.getElem_toArray, List.getElem_cons_zero, List.getElem_cons_succ]); (try simp only [Act.put, List.setIfInBounds_toArray, List.set_cons_zero, List.set_cons_succ])
          replace hHeld := hHeld.more 5
          refine wpG_take (i := 6) (oi := _) (v := undef) rfl (by kernel_rfl) (by kernel_rfl) (by kernel_rfl) (by decide) (by decide) (fun _ _ _ h => h) (Or.inr ⟨by rfl, rfl⟩) hHeld ?_
          (try dsimp only [List.getElem_toArray, List.getElem_cons_zero, List.getElem_cons_succ]); (try simp only [Act.put, List.setIfInBounds_toArray, List.set_cons_zero, List.set_cons_succ])
          replace hHeld := hHeld.more 6
          refine wpG_take (i := 7) (oi := _) (v := undef) rfl (by kernel_rfl) (by kernel_rfl) (by kernel_rfl) (by decide) (by decide) (fun _ _ _ h => h) (Or.inr ⟨by rfl, rfl⟩) hHeld ?_
          (try dsimp only [List.getElem_toArray, List.getElem_cons_zero, List.getElem_cons_succ]); (try simp only [Act.put, List.setIfInBounds_toArray, List.set_cons_zero, List.set_cons_succ])
          replace hHeld := hHeld.more 7
          refine wpG_take (i := 8) (oi := _) (v := undef) rfl (by kernel_rfl) (by kernel_rfl) (by kernel_rfl) (by decide) (by decide) (fun _ _ _ h => h) (Or.inr ⟨by rfl, rfl⟩) hHeld ?_
          (try dsimp only [List.getElem_toArray, List.getElem_cons_zero, List.getElem_cons_succ]); (try simp only [Act.put, List.setIfInBounds_toArray, List.set_cons_zero, List.set_cons_succ])
          replace hHeld := hHeld.more 8
          refine wpG_take (i := 9) (oi := _) (v := undef) rfl (by kernel_rfl) (by kernel_rfl) (by kernel_rfl) (by decide) (by decide) (fun _ _ _ h => h) (Or.inr ⟨by rfl, rfl⟩) hHeld ?_
          (try dsimp only [List.getElem_toArray, List.getElem_cons_zero, List.getElem_cons_succ]); (try simp only [Act.put, List.setIfInBounds_toArray, List.set_cons_zero, List.set_cons_succ])
          replace hHeld := hHeld.more 9
          refine wpG_take (i := 10) (oi := _) (v := undef) rfl (by kernel_rfl) (by kernel_rfl) (by kernel_rfl) (by decide) (by decide) (fun _ _ _ h => h) (Or.inr ⟨by rfl, rfl⟩) hHeld ?_
          (try dsimp only [List.getElem_toArray, List.getElem_cons_zero, List.getElem_cons_succ]); (try simp only [Act.put, List.setIfInBounds_toArray, List.set_cons_zero, List.set_cons_succ])
          replace hHeld := hHeld.more 10
          refine wpG_take (i := 11) (oi := _) (v := undef) rfl (by kernel_rfl) (by kernel_rfl) (by kernel_rfl) (by decide) (by decide) (fun _ _ _ h => h) (Or.inr ⟨by rfl, rfl⟩) hHeld ?_
          (try dsimp only [List.getElem_toArray, List.getElem_cons_zero, List.getElem_cons_succ]); (try simp only [Act.put, List.setIfInBounds_toArray, List.set_cons_zero, List.set_cons_succ])
          replace hHeld := hHeld.more 11
          refine wpG_take (i := 12) (oi := _) (v := undef) rfl (by kernel_rfl) (by kernel_rfl) (by kernel_rfl) (by decide) (by decide) (fun _ _ _ h => h) (Or.inr ⟨by rfl, rfl⟩) hHeld ?_
          (try dsimp only [List.getElem_toArray, List.getElem_cons_zero, List.getElem_cons_succ]); (try simp only [Act.put, List.setIfInBounds_toArray, List.set_cons_zero, List.set_cons_succ])
          replace hHeld := hHeld.more 12
          refine wpG_take (i := 13) (oi := _) (v := undef) rfl (by kernel_rfl) (by kernel_rfl) (by kernel_rfl) (by decide) (by decide) (fun _ _ _ h => h) (Or.inr ⟨by rfl, rfl⟩) hHeld ?_
          (try dsimp only [List.getElem_toArray, List.getElem_cons_zero, List.getElem_cons_succ]); (try simp only [Act.put, List.setIfInBounds_toArray, List.set_cons_zero, List.set_cons_succ])
          replace hHeld := hHeld.more 13
          refine wpG_take (i := 14) (oi := _) (v := undef) rfl (by kernel_rfl) (by kernel_rfl) (by kernel_rfl) (by decide) (by decide) (fun _ _ _ h => h) (Or.inr ⟨by rfl, rfl⟩) hHeld ?_
          (try dsimp only [List.getElem_toArray, List.getElem_cons_zero, List.getElem_cons_succ]); (try simp only [Act.put, List.setIfInBounds_toArray, List.set_cons_zero, List.set_cons_succ])
          replace hHeld := hHeld.more 14
          refine wpG_take (i := 15) (oi := _) (v := undef) rfl (by kernel_rfl) (by kernel_rfl) (by kernel_rfl) (by decide) (by decide) (fun _ _ _ h => h) (Or.inr ⟨by rfl, rfl⟩) hHeld ?_
          (try dsimp only [List.getElem_toArray, List.getElem_cons_zero, List.getElem_cons_succ]); (try simp only [Act.put, List.setIfInBounds_toArray, List.set_cons_zero, List.set_cons_succ])
          replace hHeld := hHeld.more 15
          refine wpG_take (i := 16) (oi := _) (v := undef) rfl (by kernel_rfl) (by kernel_rfl) (by kernel_rfl) (by decide) (by decide) (fun _ _ _ h => h) (Or.inr ⟨by rfl, rfl⟩) hHeld ?_
          (try dsimp only [List.getElem_toArray, List.getElem_cons_zero, List.getElem_cons_succ]); (try simp only [Act.put, List.setIfInBounds_toArray, List.set_cons_zero, List.set_cons_succ])
          replace hHeld := hHeld.more 16
          refine wpG_take (i := 17) (oi := _) (v := undef) rfl (by kernel_rfl) (by kernel_rfl) (by kernel_rfl) (by decide) (by decide) (fun _ _ _ h => h) (Or.inr ⟨by rfl, rfl⟩) hHeld ?_
          (try dsimp only [List.getElem_toArray, List.getElem_cons_zero, List.getElem_cons_succ]); (try simp only [Act.put, List.setIfInBounds_toArray, List.set_cons_zero, List.set_cons_succ])
          replace hHeld := hHeld.more 17
          refine wpG_take (i := 18) (oi := _) (v := ?_) rfl (by kernel_rfl) (by kernel_rfl) (by kernel_rfl) (by decide) (by decide) (fun _ _ _ h => h) (Or.inl ⟨by rfl, ?_⟩) hHeld ?_
          rotate_left
          · intro w hSw; (try dsimp only at hSw); (try simp only [cs_cons, cs_nil, and_true] at hSw); go_simp; (try with_reducible rfl)
          (try dsimp only [List.getElem_toArray, List.getElem_cons_zero, List.getElem_cons_succ]); (try simp only [Act.put, List.setIfInBounds_toArray, List.set_cons_zero, List.set_cons_succ])
          replace hHeld := hHeld.more 18
          refine wpG_done (by kernel_rfl) ?_ _
          clear hHeld HS
          have V10 := V9.keep hE
          clear V9
          replace hx := hx.keep hE
          replace hp := hp.keep hE
          replace hpw := hpw.keep hE
          replace hrt := hrt.keep hE
          clear hE
          (try clear hxx)
          (try clear hWX)
          generalize WX = W10 at *
          go_wp2
          go_meet
          case rel => exact ⟨rfl, V10, hx, hp, hrt⟩
      case rest => -- skip
        clear hx hp hpw hrt V9
        obtain ⟨rfl, VC, hx, hp, hrt⟩ := hcut
        -- skip
        go_upto_region 14 with fail
        obtain ⟨c7_0, c7_1, c7_2, c7_3⟩ := VC.facts 5 rfl
        go_wp2_with fail
        (with_reducible refine (Z4.Sign_any p a _ (hp)).mono ?_)
        rintro e W10 ⟨rfl, hxx⟩
        replace hx := hx.keep hxx
        replace hp := hp.keep hxx
        replace hrt := hrt.keep hxx
        clear c7_0 c7_1 c7_2 c7_3
        have V10 := VC.keep hxx
        clear VC hxx
        go_upto_region 15 with fail
        clear hs he
        obtain ⟨c12_0, c12_1, c12_2, c12_3⟩ := V10.facts 0 rfl
        obtain ⟨c11_0, c11_1, c11_2, c11_3⟩ := V10.facts 1 rfl
        go_wp2_with fail
        (with_reducible refine (sign_any rt 0 _ (hrt)).mono ?_)
        rintro e W11 ⟨rfl, hxx⟩
        replace hx := hx.keep hxx
        replace hp := hp.keep hxx
        replace hrt := hrt.keep hxx
        clear c12_0 c12_1 c12_2 c12_3 c11_0 c11_1 c11_2 c11_3
        have V11 := V10.keep hxx
        clear V10 hxx
        go_wp2
        go_ret
        exact ⟨rfl, V11.ext⟩
    · -- skip
      have hpar := hd_ (show a < 0 → k % 2 = 1 from fun h => by omega)
      replace hodd := hd_ hodd
      obtain ⟨c5_0, c5_1, c5_2, c5_3⟩ := V6.facts 5 rfl
      have c5_4 := V6.lt 5 rfl
      go_wp2_with fail
      (with_reducible refine (root_any x a k 4000 _ (hx) BA (by omega) hk1 hk hpar.out).mono ?_)
      rintro e W7 ⟨rt, srt, rfl, hrt, hp1, hp2, hxx⟩
      replace hx := hx.keep hxx
      replace hp := hp.keep hxx
      replace hpw := hpw.keep hxx
      (have hsz := root_size hk1 hp1; have hsg := hd_ (root_sign hk1 hp1 hp2); obtain ⟨s, hs'⟩ : ∃ s, s = srt := ⟨_, rfl⟩; rw [← hs'] at hrt hp1 hp2 hsz hsg; obtain ⟨zr, hzr⟩ : ∃ z : Int, z = if a < 0 then -(s : Int) else s := ⟨_, rfl⟩; rw [← hzr] at hrt hsg; have hna := hd_ (show (zr.natAbs : Int) = s by rw [hzr]; split <;> omega); have BR : Bt zr 4000 := BA.le (by have := hna.out; omega); have BS : Bt (s : Int) 4000 := BA.le (by omega); have hz10 := Nat.lt_of_le_of_lt (show zr.natAbs ≤ a.natAbs by have := hna.out; omega) lA.out; have PR := hd_ (parse_of_dec hz10); replace hz10 := hd_ hz10; replace hp1 := hd_ hp1; replace hp2 := hd_ hp2; replace hsz := hd_ hsz; replace hzr := hd_ hzr; replace hs' := hd_ hs')
      clear c5_0 c5_1 c5_2 c5_3 c5_4
      have V7 := V6.keep hxx
      clear V6 hxx
      go_upto_region 5 with fail
      replace V7 := V7.add' (n := W7.heap.size) (vs := #[Value.bool rt.n, Value.slice rt.s.a rt.s.len rt.s.cap]) (T := 24) (by simp)
      replace hx := hx.keep ((Ext.rf _).al (Obj.cells #[Value.bool rt.n, Value.slice rt.s.a rt.s.len rt.s.cap] 24))
      replace hp := hp.keep ((Ext.rf _).al (Obj.cells #[Value.bool rt.n, Value.slice rt.s.a rt.s.len rt.s.cap] 24))
      replace hpw := hpw.keep ((Ext.rf _).al (Obj.cells #[Value.bool rt.n, Value.slice rt.s.a rt.s.len rt.s.cap] 24))
      replace hrt := hrt.keep ((Ext.rf _).al (Obj.cells #[Value.bool rt.n, Value.slice rt.s.a rt.s.len rt.s.cap] 24))
      replace V7 := V7.add' (n := W7.heap.size + 1) (vs := #[Value.int .i64 0, Value.int .i64 0]) (T := 26) (by simp)
      replace hx := hx.keep ((Ext.rf _).al (Obj.cells #[Value.int .i64 0, Value.int .i64 0] 26))
      replace hp := hp.keep ((Ext.rf _).al (Obj.cells #[Value.int .i64 0, Value.int .i64 0] 26))
      replace hpw := hpw.keep ((Ext.rf _).al (Obj.cells #[Value.int .i64 0, Value.int .i64 0] 26))
      replace hrt := hrt.keep ((Ext.rf _).al (Obj.cells #[Value.int .i64 0, Value.int .i64 0] 26))
      generalize ((W7.alloc (Obj.cells #[Value.bool rt.n, Value.slice rt.s.a rt.s.len rt.s.cap] 24)).alloc (Obj.cells #[Value.int .i64 0, Value.int .i64 0] 26)) = W8 at *
      have V8 := V7
      clear V7
      go_wp2_with fail
      (with_reducible refine (begun_any _).mono ?_)
      rintro e W9 ⟨rfl, hxx⟩
      replace hx := hx.keep hxx
      replace hp := hp.keep hxx
      replace hpw := hpw.keep hxx
      replace hrt := hrt.keep hxx
      have V9 := V8.keep hxx
      clear V8 hxx
      go_upto_region 10 with fail
      -- skip
      go_cut [83] (fun v wc => v = .bool false ∧ Vs w wc [(W7.heap.size + 1, 26, #[Value.int .i64 0, Value.int .i64 0]), (W7.heap.size, 24, #[Value.bool rt.n, Value.slice rt.s.a rt.s.len rt.s.cap]), (W5.heap.size + 1, 26, #[Value.int .i64 0, Value.int .i64 0]), (W5.heap.size, 24, #[Value.bool pw.n, Value.slice pw.s.a pw.s.len pw.s.cap]), (W3.heap.size + 1, 26, #[Value.int .i64 (parseC t), Value.int .i64 (parseP t)]), (W3.heap.size, 31, #[Value.bool p.n, Value.slice p.s.a p.s.len p.s.cap]), (W1.heap.size + 1, 26, #[Value.int .i64 (parseC t), Value.int .i64 (parseP t)]), (W1.heap.size, 24, #[Value.bool x.n, Value.slice x.s.a x.s.len x.s.cap])] ∧ IsI wc x a ∧ Z4.IsZ wc p a ∧ IsI wc rt zr)
      case first =>
        by_cases hc : decide (IntKind.i64.wrap ((t.length : Int) * (k : Int)) ≤ 3000) = true
        · (try go_upto_region 10 with fail)
          obtain ⟨c10_0, c10_1, c10_2, c10_3⟩ := V9.facts 2 rfl
          obtain ⟨c9_0, c9_1, c9_2, c9_3⟩ := V9.facts 3 rfl
          obtain ⟨c7_0, c7_1, c7_2, c7_3⟩ := V9.facts 5 rfl
          have HS := hd_ (show ∀ W', Ext W9 W' → Cs W' [(W5.heap.size + 1, 0, Value.int .i64 0), (W5.heap.size, 0, Value.bool pw.n), (W5.heap.size, 1, Value.slice pw.s.a pw.s.len pw.s.cap), (W3.heap.size, 0, Value.bool p.n), (W3.heap.size, 1, Value.slice p.s.a p.s.len p.s.cap)] from fun W' hW => by simp only [cs_cons, cs_nil]; exact ⟨cell_later hW c10_0, cell_later hW c9_0, cell_later hW c9_1, cell_later hW c7_0, cell_later hW c7_1, trivial⟩)
          clear c10_0 c10_1 c10_2 c10_3 c9_0 c9_1 c9_2 c9_3 c7_0 c7_1 c7_2 c7_3
          refine wpG_begin (S := (fun w' => Cs w' [(W5.heap.size + 1, 0, Value.int .i64 0), (W5.heap.size, 0, Value.bool pw.n), (W5.heap.size, 1, Value.slice pw.s.a pw.s.len pw.s.cap), (W3.heap.size, 0, Value.bool p.n), (W3.heap.size, 1, Value.slice p.s.a p.s.len p.s.cap)])) (fun _ => True) (fun _ => True) 99 98 (by kernel_rfl) (fun WX hWX => ?_) (fun WX hWX hHeld => ?_)
          · exact ⟨HS.out _ hWX, trivial, trivial⟩
          have hE := hWX
          refine wpG_take (i := 0) (oi := _) (v := ?_) rfl (by kernel_rfl) (by kernel_rfl) (by kernel_rfl) (by decide) (by decide) (fun _ _ _ h => h) (Or.inl ⟨by rfl, ?_⟩) hHeld ?_
          rotate_left
          · intro w hSw; (try dsimp only at hSw); (try simp only [cs_cons, cs_nil, and_true] at hSw); go_simp; (try with_reducible rfl)
          (try dsimp only [List.getElem_toArray, List.getElem_cons_zero, List.getElem_cons_succ]); (try simp only [Act.put, List.setIfInBounds_toArray, List.set_cons_zero, List.set_cons_succ])
          replace hHeld := hHeld.more 0
          refine wpG_take (i := 1) (oi := _) (v := ?_) rfl (by kernel_rfl) (by kernel_rfl) (by kernel_rfl) (by decide) (by decide) (fun _ _ _ h => h) (Or.inl ⟨by rfl, ?_⟩) hHeld ?_
          rotate_left
          · intro w hSw; (try dsimp only at hSw); (try simp only [cs_cons, cs_nil, and_true] at hSw); go_simp; (try with_reducible rfl)
          (try dsimp only [List.getElem_toArray, List.getElem_cons_zero, List.getElem_cons_succ]); (try simp only [Act.put, List.setIfInBounds_toArray, List.set_cons_zero, List.set_cons_succ])
          replace hHeld := hHeld.more 1
          refine wpG_take (i := 2) (oi := _) (v := ?_) rfl (by kernel_rfl) (by kernel_rfl) (by kernel_rfl) (by decide) (by decide) (fun _ _ _ h => h) (Or.inl ⟨by rfl, ?_⟩) hHeld ?_
          rotate_left
          · intro w hSw; (try dsimp only at hSw); (try simp only [cs_cons, cs_nil, and_true] at hSw); go_simp; (try with_reducible rfl)
          (try dsimp only [List.getElem_toArray, List.getElem_cons_zero, List.getElem_cons_succ]); (try simp only [Act.put, List.setIfInBounds_toArray, List.set_cons_zero, List.set_cons_succ])
          replace hHeld := hHeld.more 2
          refine wpG_take (i := 3) (oi := _) (v := ?_) rfl (by kernel_rfl) (by kernel_rfl) (by kernel_rfl) (by decide) (by decide) (fun _ _ _ h => h) (Or.inl ⟨by rfl, ?_⟩) hHeld ?_
          rotate_left
          · intro w hSw; (try dsimp only at hSw); (try simp only [cs_cons, cs_nil, and_true] at hSw); go_simp; (try with_reducible rfl)
          (try dsimp only [List.getElem_toArray, List.getElem_cons_zero, List.getElem_cons_succ]); (try simp only [Act.put, List.setIfInBounds_toArray, List.set_cons_zero, List.set_cons_succ])
          replace hHeld := hHeld.more 3
          refine wpG_take (i := 4) (oi := _) (v := ?_) rfl (by kernel_rfl) (by kernel_rfl) (by kernel_rfl) (by decide) (by decide) (fun _ _ _ h => h) (Or.inl ⟨by rfl, ?_⟩) hHeld ?_
          rotate_left
          · intro w hSw; (try dsimp only at hSw); (try simp only [cs_cons, cs_nil, and_true] at hSw); go_simp; (try with_reducible rfl)
          (try dsimp only [List.getElem_toArray, List.getElem_cons_zero, List.getElem_cons_succ]); (try simp only [Act.put, List.setIfInBounds_toArray, List.set_cons_zero, List.set_cons_succ])
          replace hHeld := hHeld.more 4
          refine wpG_take (i := 5) (oi := _) (v := ?_) rfl (by kernel_rfl) (by kernel_rfl) (by kernel_rfl) (by decide) (by decide) (fun _ _ _ h => h) (Or.inl ⟨by rfl, ?_⟩) hHeld ?_
          rotate_left
          · intro w hSw; (try dsimp only at hSw); (try simp only [cs_cons, cs_nil, and_true] at hSw); go_simp; (try with_reducible rfl)
          (try dsimp only [List.getElem_toArray, List.getElem_cons_zero, List.getElem_cons_succ]); (try simp only [Act.put, List.setIfInBounds_toArray, List.set_cons_zero, List.set_cons_succ])
          replace hHeld := hHeld.more 5
          refine wpG_take (i := 6) (oi := _) (v := ?_) rfl (by kernel_rfl) (by kernel_rfl) (by kernel_rfl) (by decide) (by decide) (fun _ _ _ h => h) (Or.inl ⟨by rfl, ?_⟩) hHeld ?_
          rotate_left
          · intro w hSw; (try dsimp only at hSw); (try simp only [cs_cons, cs_nil, and_true] at hSw); go_simp; (try with_reducible rfl)
          (try dsimp only [List.getElem_toArray, List.getElem_cons_zero, List.getElem_cons_succ]); (try simp only [Act.put, List.setIfInBounds_toArray, List.set_cons_zero, List.set_cons_succ])
          replace hHeld := hHeld.more 6
          refine wpG_take (i := 7) (oi := _) (v := ?_) rfl (by kernel_rfl) (by kernel_rfl) (by kernel_rfl) (by decide) (by decide) (fun _ _ _ h => h) (Or.inl ⟨by rfl, ?_⟩) hHeld ?_
          rotate_left
          · intro w hSw; (try dsimp only at hSw); (try simp only [cs_cons, cs_nil, and_true] at hSw); go_simp; (try with_reducible rfl)
          (try dsimp only [List.getElem_toArray, List.getElem_cons_zero, List.getElem_cons_succ]); (try simp only [Act.put, List.setIfInBounds_toArray, List.set_cons_zero, List.set_cons_succ])
          replace hHeld := hHeld.more 7
          refine wpG_take (i := 8) (oi := _) (v := ?_) rfl (by kernel_rfl) (by kernel_rfl) (by kernel_rfl) (by decide) (by decide) (fun _ _ _ h => h) (Or.inl ⟨by rfl, ?_⟩) hHeld ?_
          rotate_left
          · intro w hSw; (try dsimp only at hSw); (try simp only [cs_cons, cs_nil, and_true] at hSw); go_simp; (try with_reducible rfl)
          (try dsimp only [List.getElem_toArray, List.getElem_cons_zero, List.getElem_cons_succ]); (try simp only [Act.put, List.setIfInBounds_toArray, List.set_cons_zero, List.set_cons_succ])
          replace hHeld := hHeld.more 8
          refine wpG_take (i := 9) (oi := _) (v := ?_) rfl (by kernel_rfl) (by kernel_rfl) (by kernel_rfl) (by decide) (by decide) (fun _ _ _ h => h) (Or.inl ⟨by rfl, ?_⟩) hHeld ?_
          rotate_left
          · intro w hSw; (try dsimp only at hSw); (try simp only [cs_cons, cs_nil, and_true] at hSw); go_simp; (try with_reducible rfl)
          (try dsimp only [List.getElem_toArray, List.getElem_cons_zero, List.getElem_cons_succ]); (try simp only [Act.put, List.setIfInBounds_toArray, List.set_cons_zero, List.set_cons_succ])
          replace hHeld := hHeld.more 9
          refine wpG_take (i := 10) (oi := _) (v := ?_) rfl (by kernel_rfl) (by kernel_rfl) (by kernel_rfl) (by decide) (by decide) (fun _ _ _ h => h) (Or.inl ⟨by rfl, ?_⟩) hHeld ?_
          rotate_left
          · intro w hSw; (try dsimp only at hSw); (try simp only [cs_cons, cs_nil, and_true] at hSw); go_simp; (try with_reducible rfl)
          (try dsimp only [List.getElem_toArray, List.getElem_cons_zero, List.getElem_cons_succ]); (try simp only [Act.put, List.setIfInBounds_toArray, List.set_cons_zero, List.set_cons_succ])
          replace hHeld := hHeld.more 10
          refine wpG_take (i := 12) (oi := _) (v := ?_) rfl (by kernel_rfl) (by kernel_rfl) (by kernel_rfl) (by decide) (by decide) (fun _ _ _ h => h) (Or.inl ⟨by rfl, ?_⟩) hHeld ?_
          rotate_left
          · intro w hSw; (try dsimp only at hSw); (try simp only [cs_cons, cs_nil, and_true] at hSw); go_simp; (try with_reducible rfl)
          (try dsimp only [List.getElem_toArray, List.getElem_cons_zero, List.getElem_cons_succ]); (try simp only [Act.put, List.setIfInBounds_toArray, List.set_cons_zero, List.set_cons_succ])
          replace hHeld := hHeld.more 12
          refine wpG_take (i := 13) (oi := _) (v := ?_) rfl (by kernel_rfl) (by kernel_rfl) (by kernel_rfl) (by decide) (by decide) (fun _ _ _ h => h) (Or.inl ⟨by rfl, ?_⟩) hHeld ?_
          rotate_left
          · intro w hSw; (try dsimp only at hSw); (try simp only [cs_cons, cs_nil, and_true] at hSw); go_simp; (try with_reducible rfl)
          (try dsimp only [List.getElem_toArray, List.getElem_cons_zero, List.getElem_cons_succ]); (try simp only [Act.put, List.setIfInBounds_toArray, List.set_cons_zero, List.set_cons_succ])
          replace hHeld := hHeld.more 13
          refine wpG_step (i := 11) (o := _) (by kernel_rfl) rfl (fun K hK => ?_)
          go_simp
          (go_at_call 14; ((with_reducible refine (text_any pw (a ^ k) _ (hpw.keep hE)).mono ?_); rintro e w' ⟨rfl, hxx⟩))
          replace hE := hE.tr hxx
          (try go_wp2_with fail)
          refine hK.out _ _ ⟨HS.out _ hE, fun _ => trivial, fun _ => trivial⟩ (fun hHeld' => ?_)
          clear hHeld
          have hHeld := hHeld'
          clear hHeld'
          clear hK K
          (try dsimp only [List.getElem_toArray, List.getElem_cons_zero, List.getElem_cons_succ]); (try simp only [Act.put, List.setIfInBounds_toArray, List.set_cons_zero, List.set_cons_succ])
          refine wpG_step (i := 14) (o := _) (by kernel_rfl) rfl (fun K hK => ?_)
          go_simp
          (go_at_call 38; ((with_reducible refine (Z4.pow_any p a k 4000 _ (hp.keep hE) BA hk hN.out).mono ?_); rintro e w' ⟨y2, rfl, hy2, hxx⟩))
          replace hE := hE.tr hxx
          (try go_wp2_with fail)
          refine hK.out _ _ ⟨HS.out _ hE, fun _ => trivial, fun _ => trivial⟩ (fun hHeld' => ?_)
          clear hHeld
          have hHeld := hHeld'
          clear hHeld'
          clear hK K
          (try dsimp only [List.getElem_toArray, List.getElem_cons_zero, List.getElem_cons_succ]); (try simp only [Act.put, List.setIfInBounds_toArray, List.set_cons_zero, List.set_cons_succ])
          refine wpG_step (i := 15) (o := _) (by kernel_rfl) rfl (fun K hK => ?_)
          go_simp
          (go_at_call 15; ((with_reducible refine (Z4.text_any y2 (a ^ k) _ hy2).mono ?_); rintro e w' ⟨rfl, hxx⟩))
          replace hy2 := hy2.keep hxx
          replace hE := hE.tr hxx
          (try go_wp2_with fail)
          refine hK.out _ _ ⟨HS.out _ hE, fun _ => trivial, fun _ => trivial⟩ (fun hHeld' => ?_)
          clear hHeld
          have hHeld := hHeld'
          clear hHeld'
          clear hK K
          (try dsimp only [List.getElem_toArray, List.getElem_cons_zero, List.getElem_cons_succ]); (try simp only [Act.put, List.setIfInBounds_toArray, List.set_cons_zero, List.set_cons_succ])
          refine wpG_take (i := 16) (oi := _) (v := ?_) rfl (by kernel_rfl) (by kernel_rfl) (by kernel_rfl) (by decide) (by decide) (fun _ _ _ h => h) (Or.inl ⟨by rfl, ?_⟩) hHeld ?_
          rotate_left
          · intro w hSw; (try dsimp only at hSw); (try simp only [cs_cons, cs_nil, and_true] at hSw); go_simp; (try with_reducible rfl)
          (try dsimp only [List.getElem_toArray, List.getElem_cons_zero, List.getElem_cons_succ]); (try simp only [Act.put, List.setIfInBounds_toArray, List.set_cons_zero, List.set_cons_succ])
          replace hHeld := hHeld.more 16
          refine wpG_take (i := 17) (oi := _) (v := ?_) rfl (by kernel_rfl) (by kernel_rfl) (by kernel_rfl) (by decide) (by decide) (fun _ _ _ h => h) (Or.inl ⟨by rfl, ?_⟩) hHeld ?_
          rotate_left
          · intro w hSw; (try dsimp only at hSw); (try simp only [cs_cons, cs_nil, and_true] at hSw); go_simp; (try with_reducible rfl)
          (try dsimp only [List.getElem_toArray, List.getElem_cons_zero, List.getElem_cons_succ]); (try simp only [Act.put, List.setIfInBounds_toArray, List.set_cons_zero, List.set_cons_succ])
          replace hHeld := hHeld.more 17
          refine wpG_take (i := 18) (oi := _) (v := ?_) rfl (by kernel_rfl) (by kernel_rfl) (by kernel_rfl) (by decide) (by decide) (fun _ _ _ h => h) (Or.inl ⟨by rfl, ?_⟩) hHeld ?_
          rotate_left
          · intro w hSw; (try dsimp only at hSw); (try simp only [cs_cons, cs_nil, and_true] at hSw); go_simp; (try with_reducible rfl)
          (try dsimp only [List.getElem_toArray, List.getElem_cons_zero, List.getElem_cons_succ]); (try simp only [Act.put, List.setIfInBounds_toArray, List.set_cons_zero, List.set_cons_succ])
          replace hHeld := hHeld.more 18
          refine wpG_done (by kernel_rfl) ?_ _
          clear hHeld HS
          have V10 := V9.keep hE
          clear V9
          replace hx := hx.keep hE
          replace hp := hp.keep hE
          replace hpw := hpw.keep hE
          replace hrt := hrt.keep hE
          clear hE
          (try clear hxx)
          (try clear hWX)
          generalize w' = W10 at *
          clear hy2
          go_wp2
          go_meet
          case rel => exact ⟨rfl, V10, hx, hp, hrt⟩
        · -- skip
          replace hc : decide (IntKind.i64.wrap ((t.length : Int) * (k : Int)) ≤ 3000) = false := by simpa using hc
          (try go_upto_region 10 with fail)
          obtain ⟨c10_0, c10_1, c10_2, c10_3⟩ := V9.facts 2 rfl
          obtain ⟨c9_0, c9_1, c9_2, c9_3⟩ := V9.facts 3 rfl
          obtain ⟨c7_0, c7_1, c7_2, c7_3⟩ := V9.facts 5 rfl
          have HS := hd_ (show ∀ W', Ext W9 W' → Cs W' [(W5.heap.size + 1, 0, Value.int .i64 0), (W5.heap.size, 0, Value.bool pw.n), (W5.heap.size, 1, Value.slice pw.s.a pw.s.len pw.s.cap), (W3.heap.size, 0, Value.bool p.n), (W3.heap.size, 1, Value.slice p.s.a p.s.len p.s.cap)] from fun W' hW => by simp only [cs_cons, cs_nil]; exact ⟨cell_later hW c10_0, cell_later hW c9_0, cell_later hW c9_1, cell_later hW c7_0, cell_later hW c7_1, trivial⟩)
          clear c10_0 c10_1 c10_2 c10_3 c9_0 c9_1 c9_2 c9_3 c7_0 c7_1 c7_2 c7_3
          refine wpG_begin (S := (fun w' => Cs w' [(W5.heap.size + 1, 0, Value.int .i64 0), (W5.heap.size, 0, Value.bool pw.n), (W5.heap.size, 1, Value.slice pw.s.a pw.s.len pw.s.cap), (W3.heap.size, 0, Value.bool p.n), (W3.heap.size, 1, Value.slice p.s.a p.s.len p.s.cap)])) (fun _ => True) (fun _ => True) 99 98 (by kernel_rfl) (fun WX hWX => ?_) (fun WX hWX hHeld => ?_)
          · exact ⟨HS.out _ hWX, trivial, trivial⟩
          have hE := hWX
          refine wpG_take (i := 0) (oi := _) (v := ?_) rfl (by kernel_rfl) (by kernel_rfl) (by kernel_rfl) (by decide) (by decide) (fun _ _ _ h => h) (Or.inl ⟨by rfl, ?_⟩) hHeld ?_
          rotate_left
          · intro w hSw; (try dsimp only at hSw); (try simp only [cs_cons, cs_nil, and_true] at hSw); go_simp; (try with_reducible rfl)
          (try dsimp only [List.getElem_toArray, List.getElem_cons_zero, List.getElem_cons_succ]); (try simp only [Act.put, List.setIfInBounds_toArray, List.set_cons_zero, List.set_cons_succ])
          replace hHeld := hHeld.more 0
          refine wpG_take (i := 1) (oi := _) (v := ?_) rfl (by kernel_rfl) (by kernel_rfl) (by kernel_rfl) (by decide) (by decide) (fun _ _ _ h => h) (Or.inl ⟨by rfl, ?_⟩) hHeld ?_
          rotate_left
          · intro w hSw; (try dsimp only at hSw); (try simp only [cs_cons, cs_nil, and_true] at hSw); go_simp; (try with_reducible rfl)
          (try dsimp only [List.getElem_toArray, List.getElem_cons_zero, List.getElem_cons_succ]); (try simp only [Act.put, List.setIfInBounds_toArray, List.set_cons_zero, List.set_cons_succ])
          replace hHeld := hHeld.more 1
          refine wpG_take (i := 2) (oi := _) (v := ?_) rfl (by kernel_rfl) (by kernel_rfl) (by kernel_rfl) (by decide) (by decide) (fun _ _ _ h => h) (Or.inl ⟨by rfl, ?_⟩) hHeld ?_
          rotate_left
          · intro w hSw; (try dsimp only at hSw); (try simp only [cs_cons, cs_nil, and_true] at hSw); go_simp; (try with_reducible rfl)
          (try dsimp only [List.getElem_toArray, List.getElem_cons_zero, List.getElem_cons_succ]); (try simp only [Act.put, List.setIfInBounds_toArray, List.set_cons_zero, List.set_cons_succ])
          replace hHeld := hHeld.more 2
          refine wpG_take (i := 3) (oi := _) (v := ?_) rfl (by kernel_rfl) (by kernel_rfl) (by kernel_rfl) (by decide) (by decide) (fun _ _ _ h => h) (Or.inl ⟨by rfl, ?_⟩) hHeld ?_
          rotate_left
          · intro w hSw; (try dsimp only at hSw); (try simp only [cs_cons, cs_nil, and_true] at hSw); go_simp; (try with_reducible rfl)
          (try dsimp only [List.getElem_toArray, List.getElem_cons_zero, List.getElem_cons_succ]); (try simp only [Act.put, List.setIfInBounds_toArray, List.set_cons_zero, List.set_cons_succ])
          replace hHeld := hHeld.more 3
          refine wpG_take (i := 4) (oi := _) (v := ?_) rfl (by kernel_rfl) (by kernel_rfl) (by kernel_rfl) (by decide) (by decide) (fun _ _ _ h => h) (Or.inl ⟨by rfl, ?_⟩) hHeld ?_
          rotate_left
          · intro w hSw; (try dsimp only at hSw); (try simp only [cs_cons, cs_nil, and_true] at hSw); go_simp; (try with_reducible rfl)
          (try dsimp only [List.getElem_toArray, List.getElem_cons_zero, List.getElem_cons_succ]); (try simp only [Act.put, List.setIfInBounds_toArray, List.set_cons_zero, List.set_cons_succ])
          replace hHeld := hHeld.more 4
          refine wpG_take (i := 5) (oi := _) (v := ?_) rfl (by kernel_rfl) (by kernel_rfl) (by kernel_rfl) (by decide) (by decide) (fun _ _ _ h => h) (Or.inl ⟨by rfl, ?_⟩) hHeld ?_
          rotate_left
          · intro w hSw; (try dsimp only at hSw); (try simp only [cs_cons, cs_nil, and_true] at hSw); go_simp; (try with_reducible rfl)
          (try dsimp only [List.getElem_toArray, List.getElem_cons_zero, List.getElem_cons_succ]); (try simp only [Act.put, List.setIfInBounds_toArray, List.set_cons_zero, List.set_cons_succ])
          replace hHeld := hHeld.more 5
          refine wpG_take (i := 6) (oi := _) (v := undef) rfl (by kernel_rfl) (by kernel_rfl) (by kernel_rfl) (by decide) (by decide) (fun _ _ _ h => h) (Or.inr ⟨by rfl, rfl⟩) hHeld ?_
          (try dsimp only [List.getElem_toArray, List.getElem_cons_zero, List.getElem_cons_succ]); (try simp only [Act.put, List.setIfInBounds_toArray, List.set_cons_zero, List.set_cons_succ])
          replace hHeld := hHeld.more 6
          refine wpG_take (i := 7) (oi := _) (v := undef) rfl (by kernel_rfl) (by kernel_rfl) (by kernel_rfl) (by decide) (by decide) (fun _ _ _ h => h) (Or.inr ⟨by rfl, rfl⟩) hHeld ?_
          (try dsimp only [List.getElem_toArray, List.getElem_cons_zero, List.getElem_cons_succ]); (try simp only [Act.put, List.setIfInBounds_toArray, List.set_cons_zero, List.set_cons_succ])
          replace hHeld := hHeld.more 7
          refine wpG_take (i := 8) (oi := _) (v := undef) rfl (by kernel_rfl) (by kernel_rfl) (by kernel_rfl) (by decide) (by decide) (fun _ _ _ h => h) (Or.inr ⟨by rfl, rfl⟩) hHeld ?_
          (try dsimp only [List.getElem_toArray, List.getElem_cons_zero, List.getElem_cons_succ]); (try simp only [Act.put, List.setIfInBounds_toArray, List.set_cons_zero, List.set_cons_succ])
          replace hHeld := hHeld.more 8
          refine wpG_take (i := 9) (oi := _) (v := undef) rfl (by kernel_rfl) (by kernel_rfl) (by kernel_rfl) (by decide) (by decide) (fun _ _ _ h => h) (Or.inr ⟨by rfl, rfl⟩) hHeld ?_
          (try dsimp only [List.getElem_toArray, List.getElem_cons_zero, List.getElem_cons_succ]); (try simp only [Act.put, List.setIfInBounds_toArray, List.set_cons_zero, List.set_cons_succ])
          replace hHeld := hHeld.more 9
          refine wpG_take (i := 10) (oi := _) (v := undef) rfl (by kernel_rfl) (by kernel_rfl) (by kernel_rfl) (by decide) (by decide) (fun _ _ _ h => h) (Or.inr ⟨by rfl, rfl⟩) hHeld ?_
          (try dsimp only [List.getElem_toArray, List.getElem_cons_zero, List.getElem_cons_succ]); (try simp only [Act.put, List.setIfInBounds_toArray, List.set_cons_zero, List.set_cons_succ])
          replace hHeld := hHeld.more 10
          refine wpG_take (i := 11) (oi := _) (v := undef) rfl (by kernel_rfl) (by kernel_rfl) (by kernel_rfl) (by decide) (by decide) (fun _ _ _ h => h) (Or.inr ⟨by rfl, rfl⟩) hHeld ?_
          (try dsimp only [List.getElem_toArray, List.getElem_cons_zero, List.getElem_cons_succ]); (try simp only [Act.put, List.setIfInBounds_toArray, List.set_cons_zero, List.set_cons_succ])
          replace hHeld := hHeld.more 11
          refine wpG_take (i := 12) (oi := _) (v := undef) rfl (by kernel_rfl) (by kernel_rfl) (by kernel_rfl) (by decide) (by decide) (fun _ _ _ h => h) (Or.inr ⟨by rfl, rfl⟩) hHeld ?_
          (try dsimp only [List.getElem_toArray, List.getElem_cons_zero, List.getElem_cons_succ]); (try simp only [Act.put, List.setIfInBounds_toArray, List.set_cons_zero, List.set_cons_succ])
          replace hHeld := hHeld.more 12
          refine wpG_take (i := 13) (oi := _) (v := undef) rfl (by kernel_rfl) (by kernel_rfl) (by kernel_rfl) (by decide) (by decide) (fun _ _ _ h => h) (Or.inr ⟨by rfl, rfl⟩) hHeld ?_
          (try dsimp only [List.getElem_toArray, List.getElem_cons_zero, List.getElem_cons_succ]); (try simp only [Act.put, List.setIfInBounds_toArray, List.set_cons_zero, List.set_cons_succ])
          replace hHeld := hHeld.more 13
          refine wpG_take (i := 14) (oi := _) (v := undef) rfl (by kernel_rfl) (by kernel_rfl) (by kernel_rfl) (by decide) (by decide) (fun _ _ _ h => h) (Or.inr ⟨by rfl, rfl⟩) hHeld ?_
          (try dsimp only [List.getElem_toArray, List.getElem_cons_zero, List.getElem_cons_succ]); (try simp only [Act.put, List.setIfInBounds_toArray, List.set_cons_zero, List.set_cons_succ])
          replace hHeld := hHeld.more 14
          refine wpG_take (i := 15) (oi := _) (v := undef) rfl (by kernel_rfl) (by kernel_rfl) (by kernel_rfl) (by decide) (by decide) (fun _ _ _ h => h) (Or.inr ⟨by rfl, rfl⟩) hHeld ?_
          (try dsimp only [List.getElem_toArray, List.getElem_cons_zero, List.getElem_cons_succ]); (try simp only [Act.put, List.setIfInBounds_toArray, List.set_cons_zero, List.set_cons_succ])
          replace hHeld := hHeld.more 15
          refine wpG_take (i := 16) (oi := _) (v := undef) rfl (by kernel_rfl) (by kernel_rfl) (by kernel_rfl) (by decide) (by decide) (fun _ _ _ h => h) (Or.inr ⟨by rfl, rfl⟩) hHeld ?_
          (try dsimp only [List.getElem_toArray, List.getElem_cons_zero, List.getElem_cons_succ]); (try simp only [Act.put, List.setIfInBounds_toArray, List.set_cons_zero, List.set_cons_succ])
          replace hHeld := hHeld.more 16
          refine wpG_take (i := 17) (oi := _) (v := undef) rfl (by kernel_rfl) (by kernel_rfl) (by kernel_rfl) (by decide) (by decide) (fun _ _ _ h => h) (Or.inr ⟨by rfl, rfl⟩) hHeld ?_
          (try dsimp only [List.getElem_toArray, List.getElem_cons_zero, List.getElem_cons_succ]); (try simp only [Act.put, List.setIfInBounds_toArray, List.set_cons_zero, List.set_cons_succ])
          replace hHeld := hHeld.more 17
          refine wpG_take (i := 18) (oi := _) (v := ?_) rfl (by kernel_rfl) (by kernel_rfl) (by kernel_rfl) (by decide) (by decide) (fun _ _ _ h => h) (Or.inl ⟨by rfl, ?_⟩) hHeld ?_
          rotate_left
          · intro w hSw; (try dsimp only at hSw); (try simp only [cs_cons, cs_nil, and_true] at hSw); go_simp; (try with_reducible rfl)
          (try dsimp only [List.getElem_toArray, List.getElem_cons_zero, List.getElem_cons_succ]); (try simp only [Act.put, List.setIfInBounds_toArray, List.set_cons_zero, List.set_cons_succ])
          replace hHeld := hHeld.more 18
          refine wpG_done (by kernel_rfl) ?_ _
          clear hHeld HS
          have V10 := V9.keep hE
          clear V9
          replace hx := hx.keep hE
          replace hp := hp.keep hE
          replace hpw := hpw.keep hE
          replace hrt := hrt.keep hE
          clear hE
          (try clear hxx)
          (try clear hWX)
          generalize WX = W10 at *
          go_wp2
          go_meet
          case rel => exact ⟨rfl, V10, hx, hp, hrt⟩
      case rest => -- skip
        clear hx hp hpw hrt V9
        obtain ⟨rfl, VC, hx, hp, hrt⟩ := hcut
        -- skip
        go_upto_region 14 with fail
        -- skip
        go_cut [101] (fun v wc => v = .bool false ∧ Vs w wc [(W7.heap.size + 1, 26, #[Value.int .i64 0, Value.int .i64 0]), (W7.heap.size, 24, #[Value.bool rt.n, Value.slice rt.s.a rt.s.len rt.s.cap]), (W5.heap.size + 1, 26, #[Value.int .i64 0, Value.int .i64 0]), (W5.heap.size, 24, #[Value.bool pw.n, Value.slice pw.s.a pw.s.len pw.s.cap]), (W3.heap.size + 1, 26, #[Value.int .i64 (parseC t), Value.int .i64 (parseP t)]), (W3.heap.size, 31, #[Value.bool p.n, Value.slice p.s.a p.s.len p.s.cap]), (W1.heap.size + 1, 26, #[Value.int .i64 (parseC t), Value.int .i64 (parseP t)]), (W1.heap.size, 24, #[Value.bool x.n, Value.slice x.s.a x.s.len x.s.cap])] ∧ IsI wc x a ∧ Z4.IsZ wc p a ∧ IsI wc rt zr)
        case first =>
          by_cases hlt : a < 0
          · have hs : decide (sgnZ a < 0) = true := by unfold sgnZ; rw [if_pos hlt]; decide
            have he : ((k : Int) % 2 == 0) = false := by rw [beq_eq_false_iff_ne]; have := hpar.out hlt; omega
            replace hlt := hd_ hlt
            obtain ⟨c7_0, c7_1, c7_2, c7_3⟩ := VC.facts 5 rfl
            go_wp2_with fail
            (with_reducible refine (Z4.Sign_any p a _ (hp)).mono ?_)
            rintro e W10 ⟨rfl, hxx⟩
            replace hx := hx.keep hxx
            replace hp := hp.keep hxx
            replace hrt := hrt.keep hxx
            clear c7_0 c7_1 c7_2 c7_3
            have V10 := VC.keep hxx
            clear VC hxx
            go_wp2
            go_meet
            case rel => exact ⟨rfl, V10, hx, hp, hrt⟩
          · -- skip
            have hs : decide (sgnZ a < 0) = false := by unfold sgnZ; rw [if_neg hlt]; split <;> decide
            replace hlt := hd_ hlt
            obtain ⟨c7_0, c7_1, c7_2, c7_3⟩ := VC.facts 5 rfl
            go_wp2_with fail
            (with_reducible refine (Z4.Sign_any p a _ (hp)).mono ?_)
            rintro e W10 ⟨rfl, hxx⟩
            replace hx := hx.keep hxx
            replace hp := hp.keep hxx
            replace hrt := hrt.keep hxx
            clear c7_0 c7_1 c7_2 c7_3
            have V10 := VC.keep hxx
            clear VC hxx
            go_wp2
            go_meet
            case rel => exact ⟨rfl, V10, hx, hp, hrt⟩
        case rest => -- skip
          clear hx hp hrt VC
          obtain ⟨rfl, VC, hx, hp, hrt⟩ := hcut
          -- skip
          by_cases h200 : 200 < t.length
          · go_upto_region 17 with fail
            obtain ⟨c12_0, c12_1, c12_2, c12_3⟩ := VC.facts 0 rfl
            go_wp2
            clear c12_0 c12_1 c12_2 c12_3
            go_ret
            exact ⟨rfl, VC.ext⟩
          · -- skip skip
            go_upto_region 18 with fail
            obtain ⟨c11_0, c11_1, c11_2, c11_3⟩ := VC.facts 1 rfl
            have c11_4 := VC.lt 1 rfl
            go_wp2_with fail
            (with_reducible refine (text_any rt zr _ (hrt)).mono ?_)
            rintro e W10 ⟨rfl, hxx⟩
            replace hx := hx.keep hxx
            replace hp := hp.keep hxx
            replace hrt := hrt.keep hxx
            clear c11_0 c11_1 c11_2 c11_3 c11_4
            have V10 := VC.keep hxx
            clear VC hxx
            go_wp2_with fail
            (with_reducible refine (Z4.parse_any (dec zr) _ (by have := PR.out.2.2; omega)).mono ?_)
            rintro e W11 ⟨y, rfl, hy, hxx⟩
            replace hx := hx.keep hxx
            replace hp := hp.keep hxx
            replace hrt := hrt.keep hxx
            (try rw [PR.out.1] at hy)
            rw [PR.out.2.1]
            have V11 := V10.keep hxx
            clear V10 hxx
            go_upto_region 19 with fail
            replace V11 := V11.add' (n := W11.heap.size) (vs := #[Value.bool y.n, Value.slice y.s.a y.s.len y.s.cap]) (T := 31) (by simp)
            replace hx := hx.keep ((Ext.rf _).al (Obj.cells #[Value.bool y.n, Value.slice y.s.a y.s.len y.s.cap] 31))
            replace hp := hp.keep ((Ext.rf _).al (Obj.cells #[Value.bool y.n, Value.slice y.s.a y.s.len y.s.cap] 31))
            replace hrt := hrt.keep ((Ext.rf _).al (Obj.cells #[Value.bool y.n, Value.slice y.s.a y.s.len y.s.cap] 31))
            replace hy := hy.keep ((Ext.rf _).al (Obj.cells #[Value.bool y.n, Value.slice y.s.a y.s.len y.s.cap] 31))
            replace V11 := V11.add' (n := W11.heap.size + 1) (vs := #[Value.int .i64 0, Value.int .i64 (parseP (dec zr))]) (T := 26) (by simp)
            replace hx := hx.keep ((Ext.rf _).al (Obj.cells #[Value.int .i64 0, Value.int .i64 (parseP (dec zr))] 26))
            replace hp := hp.keep ((Ext.rf _).al (Obj.cells #[Value.int .i64 0, Value.int .i64 (parseP (dec zr))] 26))
            replace hrt := hrt.keep ((Ext.rf _).al (Obj.cells #[Value.int .i64 0, Value.int .i64 (parseP (dec zr))] 26))
            replace hy := hy.keep ((Ext.rf _).al (Obj.cells #[Value.int .i64 0, Value.int .i64 (parseP (dec zr))] 26))
            generalize ((W11.alloc (Obj.cells #[Value.bool y.n, Value.slice y.s.a y.s.len y.s.cap] 31)).alloc (Obj.cells #[Value.int .i64 0, Value.int .i64 (parseP (dec zr))] 26)) = W12 at *
            have V12 := V11
            clear V11
            have hpr : decide (IntKind.i64.wrap (sgnZ a * sgnZ a) < 0) = false := by
              unfold sgnZ
              (repeat' split) <;> decide
            (try go_upto_region 19 with fail)
            obtain ⟨c12_0, c12_1, c12_2, c12_3⟩ := V12.facts 2 rfl
            obtain ⟨c15_0, c15_1, c15_2, c15_3⟩ := V12.facts 0 rfl
            obtain ⟨c14_0, c14_1, c14_2, c14_3⟩ := V12.facts 1 rfl
            obtain ⟨c7_0, c7_1, c7_2, c7_3⟩ := V12.facts 7 rfl
            have HS := hd_ (show ∀ W', Ext W12 W' → Cs W' [(W7.heap.size + 1, 0, Value.int .i64 0), (W11.heap.size + 1, 0, Value.int .i64 0), (W11.heap.size, 0, Value.bool y.n), (W11.heap.size, 1, Value.slice y.s.a y.s.len y.s.cap), (W3.heap.size, 0, Value.bool p.n), (W3.heap.size, 1, Value.slice p.s.a p.s.len p.s.cap)] from fun W' hW => by simp only [cs_cons, cs_nil]; exact ⟨cell_later hW c12_0, cell_later hW c15_0, cell_later hW c14_0, cell_later hW c14_1, cell_later hW c7_0, cell_later hW c7_1, trivial⟩)
            clear c12_0 c12_1 c12_2 c12_3 c15_0 c15_1 c15_2 c15_3 c14_0 c14_1 c14_2 c14_3 c7_0 c7_1 c7_2 c7_3
            refine wpG_begin (S := (fun w' => Cs w' [(W7.heap.size + 1, 0, Value.int .i64 0), (W11.heap.size + 1, 0, Value.int .i64 0), (W11.heap.size, 0, Value.bool y.n), (W11.heap.size, 1, Value.slice y.s.a y.s.len y.s.cap), (W3.heap.size, 0, Value.bool p.n), (W3.heap.size, 1, Value.slice p.s.a p.s.len p.s.cap)])) (fun _ => True) (fun _ => True) 99 98 (by kernel_rfl) (fun WX hWX => ?_) (fun WX hWX hHeld => ?_)
            · exact ⟨HS.out _ hWX, trivial, trivial⟩
            have hE := hWX
            refine wpG_take (i := 0) (oi := _) (v := ?_) rfl (by kernel_rfl) (by kernel_rfl) (by kernel_rfl) (by decide) (by decide) (fun _ _ _ h => h) (Or.inl ⟨by rfl, ?_⟩) hHeld ?_
            rotate_left
            · intro w hSw; (try dsimp only at hSw); (try simp only [cs_cons, cs_nil, and_true] at hSw); go_simp; (try with_reducible rfl)
            (try dsimp only [List.getElem_toArray, List.getElem_cons_zero, List.getElem_cons_succ]); (try simp only [Act.put, List.setIfInBounds_toArray, List.set_cons_zero, List.set_cons_succ])
            replace hHeld := hHeld.more 0
            refine wpG_take (i := 1) (oi := _) (v := ?_) rfl (by kernel_rfl) (by kernel_rfl) (by kernel_rfl) (by decide) (by decide) (fun _ _ _ h => h) (Or.inl ⟨by rfl, ?_⟩) hHeld ?_
            rotate_left
            · intro w hSw; (try dsimp only at hSw); (try simp only [cs_cons, cs_nil, and_true] at hSw); go_simp; (try with_reducible rfl)
            (try dsimp only [List.getElem_toArray, List.getElem_cons_zero, List.getElem_cons_succ]); (try simp only [Act.put, List.setIfInBounds_toArray, List.set_cons_zero, List.set_cons_succ])
            replace hHeld := hHeld.more 1
            refine wpG_take (i := 2) (oi := _) (v := ?_) rfl (by kernel_rfl) (by kernel_rfl) (by kernel_rfl) (by decide) (by decide) (fun _ _ _ h => h) (Or.inl ⟨by rfl, ?_⟩) hHeld ?_
            rotate_left
            · intro w hSw; (try dsimp only at hSw); (try simp only [cs_cons, cs_nil, and_true] at hSw); go_simp; (try with_reducible rfl)
            (try dsimp only [List.getElem_toArray, List.getElem_cons_zero, List.getElem_cons_succ]); (try simp only [Act.put, List.setIfInBounds_toArray, List.set_cons_zero, List.set_cons_succ])
            replace hHeld := hHeld.more 2
            refine wpG_take (i := 3) (oi := _) (v := ?_) rfl (by kernel_rfl) (by kernel_rfl) (by kernel_rfl) (by decide) (by decide) (fun _ _ _ h => h) (Or.inl ⟨by rfl, ?_⟩) hHeld ?_
            rotate_left
            · intro w hSw; (try dsimp only at hSw); (try simp only [cs_cons, cs_nil, and_true] at hSw); go_simp; (try with_reducible rfl)
            (try dsimp only [List.getElem_toArray, List.getElem_cons_zero, List.getElem_cons_succ]); (try simp only [Act.put, List.setIfInBounds_toArray, List.set_cons_zero, List.set_cons_succ])
            replace hHeld := hHeld.more 3
            refine wpG_take (i := 4) (oi := _) (v := ?_) rfl (by kernel_rfl) (by kernel_rfl) (by kernel_rfl) (by decide) (by decide) (fun _ _ _ h => h) (Or.inl ⟨by rfl, ?_⟩) hHeld ?_
            rotate_left
            · intro w hSw; (try dsimp only at hSw); (try simp only [cs_cons, cs_nil, and_true] at hSw); go_simp; (try with_reducible rfl)
            (try dsimp only [List.getElem_toArray, List.getElem_cons_zero, List.getElem_cons_succ]); (try simp only [Act.put, List.setIfInBounds_toArray, List.set_cons_zero, List.set_cons_succ])
            replace hHeld := hHeld.more 4
            refine wpG_take (i := 5) (oi := _) (v := ?_) rfl (by kernel_rfl) (by kernel_rfl) (by kernel_rfl) (by decide) (by decide) (fun _ _ _ h => h) (Or.inl ⟨by rfl, ?_⟩) hHeld ?_
            rotate_left
            · intro w hSw; (try dsimp only at hSw); (try simp only [cs_cons, cs_nil, and_true] at hSw); go_simp; (try with_reducible rfl)
            (try dsimp only [List.getElem_toArray, List.getElem_cons_zero, List.getElem_cons_succ]); (try simp only [Act.put, List.setIfInBounds_toArray, List.set_cons_zero, List.set_cons_succ])
            replace hHeld := hHeld.more 5
            refine wpG_take (i := 6) (oi := _) (v := ?_) rfl (by kernel_rfl) (by kernel_rfl) (by kernel_rfl) (by decide) (by decide) (fun _ _ _ h => h) (Or.inl ⟨by rfl, ?_⟩) hHeld ?_
            rotate_left
            · intro w hSw; (try dsimp only at hSw); (try simp only [cs_cons, cs_nil, and_true] at hSw); go_simp; (try with_reducible rfl)
            (try dsimp only [List.getElem_toArray, List.getElem_cons_zero, List.getElem_cons_succ]); (try simp only [Act.put, List.setIfInBounds_toArray, List.set_cons_zero, List.set_cons_succ])
            replace hHeld := hHeld.more 6
            refine wpG_take (i := 7) (oi := _) (v := ?_) rfl (by kernel_rfl) (by kernel_rfl) (by kernel_rfl) (by decide) (by decide) (fun _ _ _ h => h) (Or.inl ⟨by rfl, ?_⟩) hHeld ?_
            rotate_left
            · intro w hSw; (try dsimp only at hSw); (try simp only [cs_cons, cs_nil, and_true] at hSw); go_simp; (try with_reducible rfl)
            (try dsimp only [List.getElem_toArray, List.getElem_cons_zero, List.getElem_cons_succ]); (try simp only [Act.put, List.setIfInBounds_toArray, List.set_cons_zero, List.set_cons_succ])
            replace hHeld := hHeld.more 7
            refine wpG_take (i := 8) (oi := _) (v := ?_) rfl (by kernel_rfl) (by kernel_rfl) (by kernel_rfl) (by decide) (by decide) (fun _ _ _ h => h) (Or.inl ⟨by rfl, ?_⟩) hHeld ?_
            rotate_left
            · intro w hSw; (try dsimp only at hSw); (try simp only [cs_cons, cs_nil, and_true] at hSw); go_simp; (try with_reducible rfl)
            (try dsimp only [List.getElem_toArray, List.getElem_cons_zero, List.getElem_cons_succ]); (try simp only [Act.put, List.setIfInBounds_toArray, List.set_cons_zero, List.set_cons_succ])
            replace hHeld := hHeld.more 8
            refine wpG_take (i := 9) (oi := _) (v := ?_) rfl (by kernel_rfl) (by kernel_rfl) (by kernel_rfl) (by decide) (by decide) (fun _ _ _ h => h) (Or.inl ⟨by rfl, ?_⟩) hHeld ?_
            rotate_left
            · intro w hSw; (try dsimp only at hSw); (try simp only [cs_cons, cs_nil, and_true] at hSw); go_simp; (try with_reducible rfl)
            (try dsimp only [List.getElem_toArray, List.getElem_cons_zero, List.getElem_cons_succ]); (try simp only [Act.put, List.setIfInBounds_toArray, List.set_cons_zero, List.set_cons_succ])
            replace hHeld := hHeld.more 9
            refine wpG_take (i := 11) (oi := _) (v := ?_) rfl (by kernel_rfl) (by kernel_rfl) (by kernel_rfl) (by decide) (by decide) (fun _ _ _ h => h) (Or.inl ⟨by rfl, ?_⟩) hHeld ?_
            rotate_left
            · intro w hSw; (try dsimp only at hSw); (try simp only [cs_cons, cs_nil, and_true] at hSw); go_simp; (try with_reducible rfl)
            (try dsimp only [List.getElem_toArray, List.getElem_cons_zero, List.getElem_cons_succ]); (try simp only [Act.put, List.setIfInBounds_toArray, List.set_cons_zero, List.set_cons_succ])
            replace hHeld := hHeld.more 11
            refine wpG_step (i := 10) (o := _) (by kernel_rfl) rfl (fun K hK => ?_)
            go_simp
            (go_at_call 19; ((with_reducible refine (Z4.Sign_any y zr _ (hy.keep hE)).mono ?_); rintro e w' ⟨rfl, hxx⟩))
            replace hE := hE.tr hxx
            rw [hsg.out]
            (try go_wp2_with fail)
            refine hK.out _ _ ⟨HS.out _ hE, fun _ => trivial, fun _ => trivial⟩ (fun hHeld' => ?_)
            clear hHeld
            have hHeld := hHeld'
            clear hHeld'
            clear hK K
            (try dsimp only [List.getElem_toArray, List.getElem_cons_zero, List.getElem_cons_succ]); (try simp only [Act.put, List.setIfInBounds_toArray, List.set_cons_zero, List.set_cons_succ])
            refine wpG_step (i := 12) (o := _) (by kernel_rfl) rfl (fun K hK => ?_)
            go_simp
            (go_at_call 19; ((with_reducible refine (Z4.Sign_any p a _ (hp.keep hE)).mono ?_); rintro e w' ⟨rfl, hxx⟩))
            replace hE := hE.tr hxx
            (try go_wp2_with fail)
            refine hK.out _ _ ⟨HS.out _ hE, fun _ => trivial, fun _ => trivial⟩ (fun hHeld' => ?_)
            clear hHeld
            have hHeld := hHeld'
            clear hHeld'
            clear hK K
            (try dsimp only [List.getElem_toArray, List.getElem_cons_zero, List.getElem_cons_succ]); (try simp only [Act.put, List.setIfInBounds_toArray, List.set_cons_zero, List.set_cons_succ])
            refine wpG_take (i := 13) (oi := _) (v := ?_) rfl (by kernel_rfl) (by kernel_rfl) (by kernel_rfl) (by decide) (by decide) (fun _ _ _ h => h) (Or.inl ⟨by rfl, ?_⟩) hHeld ?_
            rotate_left
            · intro w hSw; (try dsimp only at hSw); (try simp only [cs_cons, cs_nil, and_true] at hSw); go_simp; (try with_reducible rfl)
            (try dsimp only [List.getElem_toArray, List.getElem_cons_zero, List.getElem_cons_succ]); (try simp only [Act.put, List.setIfInBounds_toArray, List.set_cons_zero, List.set_cons_succ])
            replace hHeld := hHeld.more 13
            refine wpG_take (i := 14) (oi := _) (v := ?_) rfl (by kernel_rfl) (by kernel_rfl) (by kernel_rfl) (by decide) (by decide) (fun _ _ _ h => h) (Or.inl ⟨by rfl, ?_⟩) hHeld ?_
            rotate_left
            · intro w hSw; (try dsimp only at hSw); (try simp only [cs_cons, cs_nil, and_true] at hSw); go_simp; (try with_reducible rfl)
            (try dsimp only [List.getElem_toArray, List.getElem_cons_zero, List.getElem_cons_succ]); (try simp only [Act.put, List.setIfInBounds_toArray, List.set_cons_zero, List.set_cons_succ])
            replace hHeld := hHeld.more 14
            refine wpG_take (i := 15) (oi := _) (v := ?_) rfl (by kernel_rfl) (by kernel_rfl) (by kernel_rfl) (by decide) (by decide) (fun _ _ _ h => h) (Or.inl ⟨by rfl, ?_⟩) hHeld ?_
            rotate_left
            · intro w hSw; (try dsimp only at hSw); (try simp only [cs_cons, cs_nil, and_true] at hSw); go_simp; (try with_reducible rfl)
            (try dsimp only [List.getElem_toArray, List.getElem_cons_zero, List.getElem_cons_succ]); (try simp only [Act.put, List.setIfInBounds_toArray, List.set_cons_zero, List.set_cons_succ])
            replace hHeld := hHeld.more 15
            refine wpG_done (by kernel_rfl) ?_ _
            clear hHeld HS
            have V13 := V12.keep hE
            clear V12
            replace hx := hx.keep hE
            replace hp := hp.keep hE
            replace hrt := hrt.keep hE
            replace hy := hy.keep hE
            clear hE
            (try clear hxx)
            (try clear hWX)
            generalize w' = W13 at *
            clear hpr
            obtain ⟨c14_0, c14_1, c14_2, c14_3⟩ := V13.facts 1 rfl
            go_wp2_with fail
            (with_reducible refine (Z4.abs_any y zr _ (hy)).mono ?_)
            rintro e W14 ⟨ya, rfl, hya, hxx⟩
            replace hx := hx.keep hxx
            replace hp := hp.keep hxx
            replace hrt := hrt.keep hxx
            replace hy := hy.keep hxx
            (try rw [hna.out] at hya)
            clear c14_0 c14_1 c14_2 c14_3
            have V14 := V13.keep hxx
            clear V13 hxx
            obtain ⟨c14_0, c14_1, c14_2, c14_3⟩ := V14.facts 1 rfl
            go_upto_region 22 with fail
            clear c14_0 c14_1 c14_2 c14_3
            have KI := V14.kept2 (U := 93) 1 rfl (by decide) (Value.bool ya.n) (Value.slice ya.s.a ya.s.len ya.s.cap)
            have KZ := V14.kept2 (U := 3) 1 rfl (by decide) (Value.bool ya.n) (Value.slice ya.s.a ya.s.len ya.s.cap)
            replace hx := hx.kept KI
            replace hp := hp.kept KZ
            replace hrt := hrt.kept KI
            replace hy := hy.kept KZ
            replace hya := hya.kept KZ
            clear KI KZ
            replace V14 := V14.set2 1 rfl (Value.bool ya.n) (Value.slice ya.s.a ya.s.len ya.s.cap)
            dsimp only [List.set] at V14
            generalize ((W14.setCell ⟨W11.heap.size, 0, none⟩ (Value.bool ya.n)).setCell ⟨W11.heap.size, 1, none⟩ (Value.slice ya.s.a ya.s.len ya.s.cap)) = W15 at *
            have V15 := V14
            clear V14
            clear hy
            have q1 : decide (cmpZ ((s : Int) ^ k) (a.natAbs : Int) ≤ 0) = true := by
              have h1 := hp1.out
              rw [natPow]
              rcases Nat.lt_or_eq_of_le h1 with h | h
              · rw [cmpZ_lt (by omega)]; decide
              · rw [cmpZ_eq (by omega)]; decide
            have q2 : decide (cmpZ (a.natAbs : Int) (((s : Int) + 1) ^ k) < 0) = true := by
              have h1 := hp2.out
              rw [show ((s : Int) + 1) = ((s + 1 : Nat) : Int) by omega, natPow, cmpZ_lt (by omega)]
              decide
            have hS1 : Hd (Sm ((s : Int) ^ k - (a.natAbs : Int))) := hd_ ((((bt_pow BS k).mono (show 4000 * k + 1 ≤ 900000 by omega)).sub ((bt_natAbs BA).mono (by omega))).sm (by omega))
            have BS1 : Bt ((s : Int) + 1) 4001 := BS.add ((bt_i64 (n := 1) (by omega)).mono (by omega))
            have hS2 : Hd (Sm ((a.natAbs : Int) - ((s : Int) + 1) ^ k)) := hd_ ((((bt_natAbs BA).mono (by omega)).sub ((bt_pow BS1 k).mono (show 4001 * k + 1 ≤ 900000 by omega))).sm (by omega))
            (try go_upto_region 22 with fail)
            obtain ⟨c14_0, c14_1, c14_2, c14_3⟩ := V15.facts 1 rfl
            obtain ⟨c7_0, c7_1, c7_2, c7_3⟩ := V15.facts 7 rfl
            have HS := hd_ (show ∀ W', Ext W15 W' → Cs W' [(W11.heap.size, 0, Value.bool ya.n), (W11.heap.size, 1, Value.slice ya.s.a ya.s.len ya.s.cap), (W3.heap.size, 0, Value.bool p.n), (W3.heap.size, 1, Value.slice p.s.a p.s.len p.s.cap)] from fun W' hW => by simp only [cs_cons, cs_nil]; exact ⟨cell_later hW c14_0, cell_later hW c14_1, cell_later hW c7_0, cell_later hW c7_1, trivial⟩)
            clear c14_0 c14_1 c14_2 c14_3 c7_0 c7_1 c7_2 c7_3
            refine wpG_begin (S := (fun w' => Cs w' [(W11.heap.size, 0, Value.bool ya.n), (W11.heap.size, 1, Value.slice ya.s.a ya.s.len ya.s.cap), (W3.heap.size, 0, Value.bool p.n), (W3.heap.size, 1, Value.slice p.s.a p.s.len p.s.cap)])) (fun _ => True) (fun _ => True) 99 98 (by kernel_rfl) (fun WX hWX => ?_) (fun WX hWX hHeld => ?_)
            · exact ⟨HS.out _ hWX, trivial, trivial⟩
            have hE := hWX
            refine wpG_take (i := 0) (oi := _) (v := ?_) rfl (by kernel_rfl) (by kernel_rfl) (by kernel_rfl) (by decide) (by decide) (fun _ _ _ h => h) (Or.inl ⟨by rfl, ?_⟩) hHeld ?_
            rotate_left
            · intro w hSw; (try dsimp only at hSw); (try simp only [cs_cons, cs_nil, and_true] at hSw); go_simp; (try with_reducible rfl)
            (try dsimp only [List.getElem_toArray, List.getElem_cons_zero, List.getElem_cons_succ]); (try simp only [Act.put, List.setIfInBounds_toArray, List.set_cons_zero, List.set_cons_succ])
            replace hHeld := hHeld.more 0
            refine wpG_take (i := 1) (oi := _) (v := ?_) rfl (by kernel_rfl) (by kernel_rfl) (by kernel_rfl) (by decide) (by decide) (fun _ _ _ h => h) (Or.inl ⟨by rfl, ?_⟩) hHeld ?_
            rotate_left
            · intro w hSw; (try dsimp only at hSw); (try simp only [cs_cons, cs_nil, and_true] at hSw); go_simp; (try with_reducible rfl)
            (try dsimp only [List.getElem_toArray, List.getElem_cons_zero, List.getElem_cons_succ]); (try simp only [Act.put, List.setIfInBounds_toArray, List.set_cons_zero, List.set_cons_succ])
            replace hHeld := hHeld.more 1
            refine wpG_take (i := 3) (oi := _) (v := ?_) rfl (by kernel_rfl) (by kernel_rfl) (by kernel_rfl) (by decide) (by decide) (fun _ _ _ h => h) (Or.inl ⟨by rfl, ?_⟩) hHeld ?_
            rotate_left
            · intro w hSw; (try dsimp only at hSw); (try simp only [cs_cons, cs_nil, and_true] at hSw); go_simp; (try with_reducible rfl)
            (try dsimp only [List.getElem_toArray, List.getElem_cons_zero, List.getElem_cons_succ]); (try simp only [Act.put, List.setIfInBounds_toArray, List.set_cons_zero, List.set_cons_succ])
            replace hHeld := hHeld.more 3
            refine wpG_step (i := 2) (o := _) (by kernel_rfl) rfl (fun K hK => ?_)
            go_simp
            (go_at_call 38; ((with_reducible refine (Z4.pow_any ya (s : Int) k 4000 _ (hya.keep hE) BS hk hN.out).mono ?_); rintro e w' ⟨y2, rfl, hy2, hxx⟩))
            replace hE := hE.tr hxx
            (try go_wp2_with fail)
            refine hK.out _ _ ⟨HS.out _ hE, fun _ => trivial, fun _ => trivial⟩ (fun hHeld' => ?_)
            clear hHeld
            have hHeld := hHeld'
            clear hHeld'
            clear hK K
            (try dsimp only [List.getElem_toArray, List.getElem_cons_zero, List.getElem_cons_succ]); (try simp only [Act.put, List.setIfInBounds_toArray, List.set_cons_zero, List.set_cons_succ])
            refine wpG_step (i := 4) (o := _) (by kernel_rfl) rfl (fun K hK => ?_)
            go_simp
            (go_at_call 35; ((with_reducible refine (Z4.abs_any p a _ (hp.keep hE)).mono ?_); rintro e w' ⟨y3, rfl, hy3, hxx⟩))
            replace hy2 := hy2.keep hxx
            replace hE := hE.tr hxx
            (try go_wp2_with fail)
            refine hK.out _ _ ⟨HS.out _ hE, fun _ => trivial, fun _ => trivial⟩ (fun hHeld' => ?_)
            clear hHeld
            have hHeld := hHeld'
            clear hHeld'
            clear hK K
            (try dsimp only [List.getElem_toArray, List.getElem_cons_zero, List.getElem_cons_succ]); (try simp only [Act.put, List.setIfInBounds_toArray, List.set_cons_zero, List.set_cons_succ])
            refine wpG_step (i := 5) (o := _) (by kernel_rfl) rfl (fun K hK => ?_)
            go_simp
            (go_at_call 29; ((with_reducible refine (Z4.cmp_any y2 y3 ((s : Int) ^ k) (a.natAbs : Int) _ hy2 hy3 hS1.out).mono ?_); rintro e w' ⟨rfl, hxx⟩))
            replace hy2 := hy2.keep hxx
            replace hy3 := hy3.keep hxx
            replace hE := hE.tr hxx
            (try go_wp2_with fail)
            refine hK.out _ _ ⟨HS.out _ hE, fun _ => trivial, fun _ => trivial⟩ (fun hHeld' => ?_)
            clear hHeld
            have hHeld := hHeld'
            clear hHeld'
            clear hK K
            (try dsimp only [List.getElem_toArray, List.getElem_cons_zero, List.getElem_cons_succ]); (try simp only [Act.put, List.setIfInBounds_toArray, List.set_cons_zero, List.set_cons_succ])
            refine wpG_take (i := 6) (oi := _) (v := ?_) rfl (by kernel_rfl) (by kernel_rfl) (by kernel_rfl) (by decide) (by decide) (fun _ _ _ h => h) (Or.inl ⟨by rfl, ?_⟩) hHeld ?_
            rotate_left
            · intro w hSw; (try dsimp only at hSw); (try simp only [cs_cons, cs_nil, and_true] at hSw); go_simp; (try with_reducible rfl)
            (try dsimp only [List.getElem_toArray, List.getElem_cons_zero, List.getElem_cons_succ]); (try simp only [Act.put, List.setIfInBounds_toArray, List.set_cons_zero, List.set_cons_succ])
            replace hHeld := hHeld.more 6
            refine wpG_take (i := 7) (oi := _) (v := ?_) rfl (by kernel_rfl) (by kernel_rfl) (by kernel_rfl) (by decide) (by decide) (fun _ _ _ h => h) (Or.inl ⟨by rfl, ?_⟩) hHeld ?_
            rotate_left
            · intro w hSw; (try dsimp only at hSw); (try simp only [cs_cons, cs_nil, and_true] at hSw); go_simp; (try with_reducible rfl)
            (try dsimp only [List.getElem_toArray, List.getElem_cons_zero, List.getElem_cons_succ]); (try simp only [Act.put, List.setIfInBounds_toArray, List.set_cons_zero, List.set_cons_succ])
            replace hHeld := hHeld.more 7
            refine wpG_take (i := 8) (oi := _) (v := ?_) rfl (by kernel_rfl) (by kernel_rfl) (by kernel_rfl) (by decide) (by decide) (fun _ _ _ h => h) (Or.inl ⟨by rfl, ?_⟩) hHeld ?_
            rotate_left
            · intro w hSw; (try dsimp only at hSw); (try simp only [cs_cons, cs_nil, and_true] at hSw); go_simp; (try with_reducible rfl)
            (try dsimp only [List.getElem_toArray, List.getElem_cons_zero, List.getElem_cons_succ]); (try simp only [Act.put, List.setIfInBounds_toArray, List.set_cons_zero, List.set_cons_succ])
            replace hHeld := hHeld.more 8
            refine wpG_take (i := 10) (oi := _) (v := ?_) rfl (by kernel_rfl) (by kernel_rfl) (by kernel_rfl) (by decide) (by decide) (fun _ _ _ h => h) (Or.inl ⟨by rfl, ?_⟩) hHeld ?_
            rotate_left
            · intro w hSw; (try dsimp only at hSw); (try simp only [cs_cons, cs_nil, and_true] at hSw); go_simp; (try with_reducible rfl)
            (try dsimp only [List.getElem_toArray, List.getElem_cons_zero, List.getElem_cons_succ]); (try simp only [Act.put, List.setIfInBounds_toArray, List.set_cons_zero, List.set_cons_succ])
            replace hHeld := hHeld.more 10
            refine wpG_take (i := 13) (oi := _) (v := ?_) rfl (by kernel_rfl) (by kernel_rfl) (by kernel_rfl) (by decide) (by decide) (fun _ _ _ h => h) (Or.inl ⟨by rfl, ?_⟩) hHeld ?_
            rotate_left
            · intro w hSw; (try dsimp only at hSw); (try simp only [cs_cons, cs_nil, and_true] at hSw); go_simp; (try with_reducible rfl)
            (try dsimp only [List.getElem_toArray, List.getElem_cons_zero, List.getElem_cons_succ]); (try simp only [Act.put, List.setIfInBounds_toArray, List.set_cons_zero, List.set_cons_succ])
            replace hHeld := hHeld.more 13
            refine wpG_step (i := 9) (o := _) (by kernel_rfl) rfl (fun K hK => ?_)
            go_simp
            (go_at_call 35; ((with_reducible refine (Z4.abs_any p a _ (hp.keep hE)).mono ?_); rintro e w' ⟨y4, rfl, hy4, hxx⟩))
            replace hy2 := hy2.keep hxx
            replace hy3 := hy3.keep hxx
            replace hE := hE.tr hxx
            (try go_wp2_with fail)
            refine hK.out _ _ ⟨HS.out _ hE, fun _ => trivial, fun _ => trivial⟩ (fun hHeld' => ?_)
            clear hHeld
            have hHeld := hHeld'
            clear hHeld'
            clear hK K
            (try dsimp only [List.getElem_toArray, List.getElem_cons_zero, List.getElem_cons_succ]); (try simp only [Act.put, List.setIfInBounds_toArray, List.set_cons_zero, List.set_cons_succ])
            refine wpG_step (i := 11) (o := _) (by kernel_rfl) rfl (fun K hK => ?_)
            go_simp
            (go_at_call 17; ((with_reducible refine (Z4.of_any 1 _ (by omega)).mono ?_); rintro e w' ⟨y5, rfl, hy5, hxx⟩))
            replace hy2 := hy2.keep hxx
            replace hy3 := hy3.keep hxx
            replace hy4 := hy4.keep hxx
            replace hE := hE.tr hxx
            (try go_wp2_with fail)
            refine hK.out _ _ ⟨HS.out _ hE, fun _ => trivial, fun _ => trivial⟩ (fun hHeld' => ?_)
            clear hHeld
            have hHeld := hHeld'
            clear hHeld'
            clear hK K
            (try dsimp only [List.getElem_toArray, List.getElem_cons_zero, List.getElem_cons_succ]); (try simp only [Act.put, List.setIfInBounds_toArray, List.set_cons_zero, List.set_cons_succ])
            refine wpG_step (i := 12) (o := _) (by kernel_rfl) rfl (fun K hK => ?_)
            go_simp
            (go_at_call 23; ((with_reducible refine (Z4.add_any ya y5 (s : Int) 1 _ (hya.keep hE) hy5 ((BS.add ((bt_i64 (n := 1) (by omega)).mono (show 64 ≤ 4000 by omega))).sm (by omega))).mono ?_); rintro e w' ⟨y6, rfl, hy6, hxx⟩))
            replace hy2 := hy2.keep hxx
            replace hy3 := hy3.keep hxx
            replace hy4 := hy4.keep hxx
            replace hy5 := hy5.keep hxx
            replace hE := hE.tr hxx
            (try go_wp2_with fail)
            refine hK.out _ _ ⟨HS.out _ hE, fun _ => trivial, fun _ => trivial⟩ (fun hHeld' => ?_)
            clear hHeld
            have hHeld := hHeld'
            clear hHeld'
            clear hK K
            (try dsimp only [List.getElem_toArray, List.getElem_cons_zero, List.getElem_cons_succ]); (try simp only [Act.put, List.setIfInBounds_toArray, List.set_cons_zero, List.set_cons_succ])
            refine wpG_step (i := 14) (o := _) (by kernel_rfl) rfl (fun K hK => ?_)
            go_simp
            (go_at_call 38; ((with_reducible refine (Z4.pow_any y6 ((s : Int) + 1) k 4001 _ hy6 (BS.add ((bt_i64 (n := 1) (by omega)).mono (show 64 ≤ 4000 by omega))) hk (by omega)).mono ?_); rintro e w' ⟨y8, rfl, hy8, hxx⟩))
            replace hy2 := hy2.keep hxx
            replace hy3 := hy3.keep hxx
            replace hy4 := hy4.keep hxx
            replace hy5 := hy5.keep hxx
            replace hy6 := hy6.keep hxx
            replace hE := hE.tr hxx
            (try go_wp2_with fail)
            refine hK.out _ _ ⟨HS.out _ hE, fun _ => trivial, fun _ => trivial⟩ (fun hHeld' => ?_)
            clear hHeld
            have hHeld := hHeld'
            clear hHeld'
            clear hK K
            (try dsimp only [List.getElem_toArray, List.getElem_cons_zero, List.getElem_cons_succ]); (try simp only [Act.put, List.setIfInBounds_toArray, List.set_cons_zero, List.set_cons_succ])
            refine wpG_step (i := 15) (o := _) (by kernel_rfl) rfl (fun K hK => ?_)
            go_simp
            (go_at_call 29; ((with_reducible refine (Z4.cmp_any y4 y8 (a.natAbs : Int) (((s : Int) + 1) ^ k) _ hy4 hy8 hS2.out).mono ?_); rintro e w' ⟨rfl, hxx⟩))
            replace hy2 := hy2.keep hxx
            replace hy3 := hy3.keep hxx
            replace hy4 := hy4.keep hxx
            replace hy5 := hy5.keep hxx
            replace hy6 := hy6.keep hxx
            replace hy8 := hy8.keep hxx
            replace hE := hE.tr hxx
            (try go_wp2_with fail)
            refine hK.out _ _ ⟨HS.out _ hE, fun _ => trivial, fun _ => trivial⟩ (fun hHeld' => ?_)
            clear hHeld
            have hHeld := hHeld'
            clear hHeld'
            clear hK K
            (try dsimp only [List.getElem_toArray, List.getElem_cons_zero, List.getElem_cons_succ]); (try simp only [Act.put, List.setIfInBounds_toArray, List.set_cons_zero, List.set_cons_succ])
            refine wpG_take (i := 16) (oi := _) (v := ?_) rfl (by kernel_rfl) (by kernel_rfl) (by kernel_rfl) (by decide) (by decide) (fun _ _ _ h => h) (Or.inl ⟨by rfl, ?_⟩) hHeld ?_
            rotate_left
            · intro w hSw; (try dsimp only at hSw); (try simp only [cs_cons, cs_nil, and_true] at hSw); go_simp; (try with_reducible rfl)
            (try dsimp only [List.getElem_toArray, List.getElem_cons_zero, List.getElem_cons_succ]); (try simp only [Act.put, List.setIfInBounds_toArray, List.set_cons_zero, List.set_cons_succ])
            replace hHeld := hHeld.more 16
            refine wpG_take (i := 17) (oi := _) (v := ?_) rfl (by kernel_rfl) (by kernel_rfl) (by kernel_rfl) (by decide) (by decide) (fun _ _ _ h => h) (Or.inl ⟨by rfl, ?_⟩) hHeld ?_
            rotate_left
            · intro w hSw; (try dsimp only at hSw); (try simp only [cs_cons, cs_nil, and_true] at hSw); go_simp; (try with_reducible rfl)
            (try dsimp only [List.getElem_toArray, List.getElem_cons_zero, List.getElem_cons_succ]); (try simp only [Act.put, List.setIfInBounds_toArray, List.set_cons_zero, List.set_cons_succ])
            replace hHeld := hHeld.more 17
            refine wpG_take (i := 18) (oi := _) (v := ?_) rfl (by kernel_rfl) (by kernel_rfl) (by kernel_rfl) (by decide) (by decide) (fun _ _ _ h => h) (Or.inl ⟨by rfl, ?_⟩) hHeld ?_
            rotate_left
            · intro w hSw; (try dsimp only at hSw); (try simp only [cs_cons, cs_nil, and_true] at hSw); go_simp; (try with_reducible rfl)
            (try dsimp only [List.getElem_toArray, List.getElem_cons_zero, List.getElem_cons_succ]); (try simp only [Act.put, List.setIfInBounds_toArray, List.set_cons_zero, List.set_cons_succ])
            replace hHeld := hHeld.more 18
            refine wpG_done (by kernel_rfl) ?_ _
            clear hHeld HS
            have V16 := V15.keep hE
            clear V15
            replace hx := hx.keep hE
            replace hp := hp.keep hE
            replace hrt := hrt.keep hE
            replace hya := hya.keep hE
            clear hE
            (try clear hxx)
            (try clear hWX)
            generalize w' = W16 at *
            clear hy2
            clear hy3
            clear hy4
            clear hy5
            clear hy6
            clear hy8
            go_wp2
            go_ret
            exact ⟨ret_b (by simp), V16.ext⟩

theorem powers_any (t : List UInt8) (n : Int) (w : World) (ht : t.length ≤ 9223372036854775807) (hn : -9223372036854775808 ≤ n ∧ n ≤ 9223372036854775807) :
    Calls Try.prog 7 #[.string (bs t), .int .i64 n] w (fun e w' => e = .returned (.bool true) ∧ Ext w w') := by
  by_cases h : n < 0 ∨ 200 < n
  · exact powers_bad t n w ht hn h
  · obtain ⟨k, rfl⟩ := Int.eq_ofNat_of_zero_le (show 0 ≤ n by omega)
    exact powers_ok t k w ht (by omega)

end Go.Proofs.Ytbbidekjbgjooaa
