/- FpReckons returns true, for every two lists of ints and every two ints. No condition. -/
import Derived.Test.YtlnhembcfhfpkaaFqX
import Derived.Test.YtlnhembcfhfpkaaRvF
import Derived.ProofKit
import Derived.OpenShut
import Derived.SizedLaws
import Derived.Carry
namespace Go.Proofs.Ytlnhembcfhfpkaa.M
open Go.RowKit
theorem fpreckons_con (d0 : D) (y0 : TyC Try.prog 22 d0.cells) (z0 : d0.isAgg = isStr Try.prog 22) (w0 : ∀ T l, d0 = .list T 1 l → l.length * Try.prog.bytesOf 3 ≤ reachBytes) (d1 : D) (y1 : TyC Try.prog 22 d1.cells) (z1 : d1.isAgg = isStr Try.prog 22) (w1 : ∀ T l, d1 = .list T 1 l → l.length * Try.prog.bytesOf 3 ≤ reachBytes)
    (d2 : D) (y2 : TyC Try.prog 3 d2.cells) (z2 : d2.isAgg = isStr Try.prog 3) (d3 : D) (y3 : TyC Try.prog 3 d3.cells) (z3 : d3.isAgg = isStr Try.prog 3) :
    Con Try.prog [] 6 [d0, d1, d2, d3] (.bool true) := by
  obtain ⟨a, rfl, h1, -⟩ := ty_ints Try.underlying22 Try.underlying3 (by kernel_rfl) y0 z0
  obtain ⟨b, rfl, h2, -⟩ := ty_ints Try.underlying22 Try.underlying3 (by kernel_rfl) y1 z1
  obtain ⟨n, rfl, hn⟩ := ty_int Try.underlying3 y2 z2
  obtain ⟨p, rfl, -⟩ := ty_int Try.underlying3 y3 z3
  have e8 : Try.prog.bytesOf 3 = 8 := by kernel_rfl
  have er : reachBytes ≤ 140737488355328 := by decide
  have g0 := w0 _ _ rfl
  have g1 := w1 _ _ rfl
  rw [e8, List.length_map] at g0 g1
  have hn2 : n ≤ 9223372036854775807 := by
    have h : (decide (IntKind.i64.min ≤ n) && decide (n ≤ IntKind.i64.max)) = true := hn
    have hx : IntKind.i64.max = 9223372036854775807 := by decide
    simp only [Bool.and_eq_true, decide_eq_true_eq] at h
    rw [hx] at h
    exact h.2
  exact reckons_con _ _ a b n p hn2 (by omega) (by omega)
end Go.Proofs.Ytlnhembcfhfpkaa.M
namespace Go.Proofs.Ytlnhembcfhfpkaa.fpReckons
open Go.ChangeShapes Go.WideShapes Go.ChangeAt Go.RowKit Go.Proofs.Ytlnhembcfhfpkaa.M

theorem own : ownKnob Try.prog.godebug = none := by kernel_rfl
theorem laidOut : laidOutB Try.prog = true := by kernel_rfl
theorem plain : plainT Try.prog [22, 3] = true := by kernel_rfl

/-! ### THE ROW's STEP: WRITTEN OUT: LEAVE IT -/
set_option maxRecDepth 100000 in
theorem lifted (os : Os) (started : os.Started) (H : Type) (enc : TypeId × Value → H) :
    ReturnsInHanded {} Try.checked os 6 .any (Rows.fpReckonsSpec.pre6 enc Try.prog Try.f6 Rows.fpReckonsRow.domain false) (Rows.fpReckonsSpec.post enc Try.prog Try.f6 false true false false) := by
  refine returnsInHanded_of_change_sized (C := Try.checked) own started (by kernel_rfl) Try.func6
    (ChangeSpec.witness6 (enc := enc) (C := Try.checked) false ⟨#[], #[.slice none 0 0, .slice none 0 0, .int .i64 0, .int .i64 0], []⟩ 8 (by kernel_rfl) (by kernel_rfl) (by kernel_rfl) (by kernel_rfl)) ?_
  intro W base args ds gs before hval0 hW hcnd hsz0 _
  have hval : ∀ (j : Nat) t v, Try.f6.params[j]? = some t → args[j]? = some v → Value.okWide Try.prog W .any base t v := hval0
  have hW' := hW
  obtain ⟨p, q, hA0, hV, rfl, hfz, hnd⟩ := hW
  have hA : DataW.TrodAll enc Try.prog W 0 (fun _ => true) true Try.f6.params.toList args.toList ds p := hA0
  rw [Try.params6] at hA hval
  have hsz : (DataW.weightsEach Try.prog (Try.f6.params.toList ++ Rows.fpReckonsSpec.plain.varTypes Try.prog) (ds ++ gs)).all (· ≤ reachBytes) = true := hsz0
  rw [Try.params6] at hsz
  clear hsz0
  obtain ⟨v0, vs0, d0, ds0, p0, q0, hargs, rfl, rfl, h0, r0⟩ := trodAll_cons hA
  obtain ⟨v1, vs1, d1, ds1, p1, q1, rfl, rfl, rfl, h1, r1⟩ := trodAll_cons r0
  obtain ⟨v2, vs2, d2, ds2, p2, q2, rfl, rfl, rfl, h2, r2⟩ := trodAll_cons r1
  obtain ⟨v3, vs3, d3, ds3, p3, q3, rfl, rfl, rfl, h3, r3⟩ := trodAll_cons r2
  obtain ⟨rfl, rfl, rfl⟩ := trodAll_nil r3
  obtain rfl : args = #[v0, v1, v2, v3] := by cases args; simp_all
  obtain ⟨rfl, rfl⟩ := trodVars_none hV
  obtain ⟨δ0, x0, y0, z0⟩ := read_arg plain (t := 22) (by simp) (hval 0 22 v0 rfl rfl) h0
  obtain ⟨δ1, x1, y1, z1⟩ := read_arg plain (t := 22) (by simp) (hval 1 22 v1 rfl rfl) h1
  obtain ⟨δ2, x2, y2, z2⟩ := read_arg plain (t := 3) (by simp) (hval 2 3 v2 rfl rfl) h2
  obtain ⟨δ3, x3, y3, z3⟩ := read_arg plain (t := 3) (by simp) (hval 3 3 v3 rfl rfl) h3
  have wz0 : ∀ T l, δ0 = .list T 1 l → l.length * Try.prog.bytesOf 3 ≤ reachBytes := fun T l e => weigh Try.underlying22 (e ▸ x0) h0 (j := 0) rfl rfl hsz
  have wz1 : ∀ T l, δ1 = .list T 1 l → l.length * Try.prog.bytesOf 3 ≤ reachBytes := fun T l e => weigh Try.underlying22 (e ▸ x1) h1 (j := 1) rfl rfl hsz
  clear hA0 hval0
  simp only [List.append_nil] at hW'
  have l0 : ∀ x ∈ p0, x.block < W.heap.size := fun x hx => hW'.lt x (by simp [hx])
  have l1 : ∀ x ∈ p1, x.block < W.heap.size := fun x hx => hW'.lt x (by simp [hx])
  have l2 : ∀ x ∈ p2, x.block < W.heap.size := fun x hx => hW'.lt x (by simp [hx])
  have l3 : ∀ x ∈ p3, x.block < W.heap.size := fun x hx => hW'.lt x (by simp [hx])
  refine ((fpreckons_con δ0 y0 z0 wz0 δ1 y1 z1 wz1 δ2 y2 z2 δ3 y3 z3) (fun _ => False) W #[v0, v1, v2, v3] (fun _ h => h.elim) (fun _ h => h.elim) rfl ?_).mono fun e W' ⟨v, he, hv, hg⟩ => ?_
  · intro i e he
    match i, he with
    | 0, he => simp at he; subst he; exact x0.mono (fun _ _ => rfl) fun b hb => ⟨hb, fun h => h⟩
    | 1, he => simp at he; subst he; exact x1.mono (fun _ _ => rfl) fun b hb => ⟨hb, fun h => h⟩
    | 2, he => simp at he; subst he; exact x2.mono (fun _ _ => rfl) fun b hb => ⟨hb, fun h => h⟩
    | 3, he => simp at he; subst he; exact x3.mono (fun _ _ => rfl) fun b hb => ⟨hb, fun h => h⟩
    | i + 4, he => simp at he
  · subst he
    rw [bool_V hv]
    exact ⟨_, rfl, _, _, _, [], _, [], hW', trodAll_cons_mk (shut_bool Try.underlying4 _) trodAll_mk0, trodAll_cons_mk (Below.trod laidOut (by kernel_rfl) (of_decide_eq_true (by kernel_rfl)) h0 hg l0) (trodAll_cons_mk (Below.trod laidOut (by kernel_rfl) (of_decide_eq_true (by kernel_rfl)) h1 hg l1) (trodAll_cons_mk (Below.trod laidOut (by kernel_rfl) (of_decide_eq_true (by kernel_rfl)) h2 hg l2) (trodAll_cons_mk (Below.trod laidOut (by kernel_rfl) (of_decide_eq_true (by kernel_rfl)) h3 hg l3) trodAll_mk0))), rfl, hg.frame _, fun h => by cases h⟩

theorem over : Rows.fpReckonsRow.holds Try.pinned (OpenSpec.ofChange Rows.fpReckonsSpec) :=
  OpenClaim.holds_of_wide 6 Try.f6 rfl rfl rfl rfl rfl rfl rfl ⟨rfl, rfl, rfl, rfl, rfl⟩ rfl rfl rfl rfl rfl (by kernel_rfl) Try.func6 (by kernel_rfl)
    (of_decide_eq_true (by kernel_rfl)) (by unfold Func.isWrapper; first | (rw [if_pos (by decide +kernel)]; kernel_rfl) | (rw [if_neg (by decide +kernel)]; exact ⟨rfl, rfl⟩))
    (fun os started H enc _ => lifted os started H enc)

/-- THE STATEMENT -/
theorem proved : Rows.FpReckonsSaid :=
  over
#print axioms proved
end Go.Proofs.Ytlnhembcfhfpkaa.fpReckons
