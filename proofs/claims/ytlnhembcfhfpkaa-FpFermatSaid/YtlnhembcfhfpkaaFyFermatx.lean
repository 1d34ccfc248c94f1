/- FpFermat returns true, for every list of ints and every two ints. No condition. -/
import Derived.Test.YtlnhembcfhfpkaaFyWx
import Derived.Test.YtlnhembcfhfpkaaRdx
import Derived.ProofKit
import Derived.OpenShut
import Derived.Carry
namespace Go.Proofs.Ytlnhembcfhfpkaa.M
open Go.RowKit Go.Proofs.Ytlnhembcfhfpkaa.Fx
theorem fermatT_con (T : Nat) (f : List Int) (n p : Int) : Con Try.prog [] 5 [LT T f, I n, I p] (.bool true) := by
  by_cases hc : (chk f p).1 = 0
  · by_cases hl : f.length ≤ 1
    · exact fermat_early f n p false 0 0 (eirr_short f p hc hl) (fun h => by simp at h)
    · have hg := chk_good hc
      obtain ⟨P, hP⟩ : ∃ P : Pr, P.p = p := ⟨⟨p, hg.pr⟩, rfl⟩
      subst hP
      obtain ⟨F, hF⟩ : ∃ F : Po P, F.l = f := ⟨⟨f, hg.td, hg.rg⟩, rfl⟩
      subst hF
      have h1 : dg F ≤ 65 := hg.len
      have h2 : 1 < dg F := by unfold dg; omega
      by_cases h : (0 : Int) = 0 ∧ 1 ≤ n ∧ n ≤ 12 ∧ isI F = true
      · obtain ⟨-, h3, h4, h5⟩ := h
        obtain ⟨k, rfl⟩ := Int.eq_ofNat_of_zero_le (show 0 ≤ n by omega)
        exact fermat_main F k h1 h2 h5 (by omega)
      · exact fermat_early F.l n P.p (isI F) 0 0 (eirr_ok F h1 h2) h
  · exact fermat_early f n p false _ _ (eirr_bad f p hc) (fun h => hc h.1)
theorem fpfermat_con (d0 : D) (y0 : TyC Try.prog 22 d0.cells) (z0 : d0.isAgg = isStr Try.prog 22) (d1 : D) (y1 : TyC Try.prog 3 d1.cells) (z1 : d1.isAgg = isStr Try.prog 3) (d2 : D) (y2 : TyC Try.prog 3 d2.cells) (z2 : d2.isAgg = isStr Try.prog 3) :
    Con Try.prog [] 5 [d0, d1, d2] (.bool true) := by
  obtain ⟨a, rfl, h1, -⟩ := ty_ints Try.underlying22 Try.underlying3 (by kernel_rfl) y0 z0
  obtain ⟨n, rfl, -⟩ := ty_int Try.underlying3 y1 z1
  obtain ⟨p, rfl, -⟩ := ty_int Try.underlying3 y2 z2
  exact fermatT_con _ a n p
end Go.Proofs.Ytlnhembcfhfpkaa.M
namespace Go.Proofs.Ytlnhembcfhfpkaa.fpFermat
open Go.ChangeShapes Go.WideShapes Go.ChangeAt Go.RowKit Go.Proofs.Ytlnhembcfhfpkaa.M
theorem own : ownKnob Try.prog.godebug = none := by kernel_rfl
theorem laidOut : laidOutB Try.prog = true := by kernel_rfl
theorem plain : plainT Try.prog [22, 3] = true := by kernel_rfl
set_option maxRecDepth 100000 in
theorem lifted (os : Os) (started : os.Started) (H : Type) (enc : TypeId × Value → H) :
    ReturnsInHanded {} Try.checked os 5 .any (Rows.fpFermatSpec.pre6 enc Try.prog Try.f5 Rows.fpFermatRow.domain false) (Rows.fpFermatSpec.post enc Try.prog Try.f5 false true false false) := by
  refine returnsInHanded_of_change (C := Try.checked) own started (by kernel_rfl) Try.func5
    (ChangeSpec.witness6 (enc := enc) (C := Try.checked) false ⟨#[], #[.slice none 0 0, .int .i64 0, .int .i64 0], []⟩ 8 (by kernel_rfl) (by kernel_rfl) (by kernel_rfl) (by kernel_rfl)) ?_
  intro W base args ds gs before hval0 hW hcnd _
  have hval : ∀ (j : Nat) t v, Try.f5.params[j]? = some t → args[j]? = some v → Value.okWide Try.prog W .any base t v := hval0
  have hW' := hW
  obtain ⟨p, q, hA0, hV, rfl, hfz, hnd⟩ := hW
  have hA : DataW.TrodAll enc Try.prog W 0 (fun _ => true) true Try.f5.params.toList args.toList ds p := hA0
  rw [Try.params5] at hA hval
  obtain ⟨v0, vs0, d0, ds0, p0, q0, hargs, rfl, rfl, h0, r0⟩ := trodAll_cons hA
  obtain ⟨v1, vs1, d1, ds1, p1, q1, rfl, rfl, rfl, h1, r1⟩ := trodAll_cons r0
  obtain ⟨v2, vs2, d2, ds2, p2, q2, rfl, rfl, rfl, h2, r2⟩ := trodAll_cons r1
  obtain ⟨rfl, rfl, rfl⟩ := trodAll_nil r2
  obtain rfl : args = #[v0, v1, v2] := by cases args; simp_all
  obtain ⟨rfl, rfl⟩ := trodVars_none hV
  obtain ⟨δ0, x0, y0, z0⟩ := read_arg plain (t := 22) (by simp) (hval 0 22 v0 rfl rfl) h0
  obtain ⟨δ1, x1, y1, z1⟩ := read_arg plain (t := 3) (by simp) (hval 1 3 v1 rfl rfl) h1
  obtain ⟨δ2, x2, y2, z2⟩ := read_arg plain (t := 3) (by simp) (hval 2 3 v2 rfl rfl) h2
  clear hA0 hval0
  simp only [List.append_nil] at hW'
  have l0 : ∀ x ∈ p0, x.block < W.heap.size := fun x hx => hW'.lt x (by simp [hx])
  have l1 : ∀ x ∈ p1, x.block < W.heap.size := fun x hx => hW'.lt x (by simp [hx])
  have l2 : ∀ x ∈ p2, x.block < W.heap.size := fun x hx => hW'.lt x (by simp [hx])
  refine ((fpfermat_con δ0 y0 z0 δ1 y1 z1 δ2 y2 z2) (fun _ => False) W #[v0, v1, v2] (fun _ h => h.elim) (fun _ h => h.elim) rfl ?_).mono fun e W' ⟨v, he, hv, hg⟩ => ?_
  · intro i e he
    match i, he with
    | 0, he => simp at he; subst he; exact x0.mono (fun _ _ => rfl) fun b hb => ⟨hb, fun h => h⟩
    | 1, he => simp at he; subst he; exact x1.mono (fun _ _ => rfl) fun b hb => ⟨hb, fun h => h⟩
    | 2, he => simp at he; subst he; exact x2.mono (fun _ _ => rfl) fun b hb => ⟨hb, fun h => h⟩
    | i + 3, he => simp at he
  · subst he
    rw [bool_V hv]
    exact ⟨_, rfl, _, _, _, [], _, [], hW', trodAll_cons_mk (shut_bool Try.underlying4 _) trodAll_mk0, trodAll_cons_mk (Below.trod laidOut (by kernel_rfl) (of_decide_eq_true (by kernel_rfl)) h0 hg l0) (trodAll_cons_mk (Below.trod laidOut (by kernel_rfl) (of_decide_eq_true (by kernel_rfl)) h1 hg l1) (trodAll_cons_mk (Below.trod laidOut (by kernel_rfl) (of_decide_eq_true (by kernel_rfl)) h2 hg l2) trodAll_mk0)), rfl, hg.frame _, fun h => by cases h⟩
theorem over : Rows.fpFermatRow.holds Try.pinned (OpenSpec.ofChange Rows.fpFermatSpec) :=
  OpenClaim.holds_of_wide 5 Try.f5 rfl rfl rfl rfl rfl rfl rfl ⟨rfl, rfl, rfl, rfl, rfl⟩ rfl rfl rfl rfl rfl (by kernel_rfl) Try.func5 (by kernel_rfl)
    (of_decide_eq_true (by kernel_rfl)) (by unfold Func.isWrapper; first | (rw [if_pos (by decide +kernel)]; kernel_rfl) | (rw [if_neg (by decide +kernel)]; exact ⟨rfl, rfl⟩))
    (fun os started H enc _ => lifted os started H enc)
theorem proved : Rows.FpFermatSaid :=
  over
#print axioms proved
end Go.Proofs.Ytlnhembcfhfpkaa.fpFermat
