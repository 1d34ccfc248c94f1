/- FpUnique returns true, for every two lists of ints and every int. No condition. -/
import Derived.Test.YtlnhembcfhfpkaaFyYx
import Derived.Test.YtlnhembcfhfpkaaRdx
import Derived.ProofKit
import Derived.OpenShut
import Derived.Carry
namespace Go.Proofs.Ytlnhembcfhfpkaa.M
open Go.RowKit Go.Proofs.Ytlnhembcfhfpkaa.Fx
theorem factor_any (T : Nat) (f : List Int) (p : Int) : ∃ (a c x : Int) (l : FL), Con Try.prog [] 13 [LT T f, I p] (.tup [I a, .list 36 2 (l.map sD), flt c x]) ∧ (c = 0 → ∃ (P : Pr) (F : Po P), P.p = p ∧ F.l = f ∧ F ≠ 0 ∧ dg F ≤ 65) := by
  by_cases hc : (chk f p).1 = 0
  · by_cases hl : f = []
    · subst hl
      exact ⟨0, 4, 0, [], factor_nil p hc, fun h => by omega⟩
    · have hg := chk_good hc
      obtain ⟨P, hP⟩ : ∃ P : Pr, P.p = p := ⟨⟨p, hg.pr⟩, rfl⟩
      subst hP
      obtain ⟨F, hF⟩ : ∃ F : Po P, F.l = f := ⟨⟨f, hg.td, hg.rg⟩, rfl⟩
      subst hF
      have h0 : F ≠ 0 := fun h => hl (by rw [h]; exact l_0)
      exact ⟨_, 0, 0, _, factor_ok F h0 hg.len, fun _ => ⟨P, F, rfl, rfl, h0, hg.len⟩⟩
  · exact ⟨0, _, _, [], factor_bad f p hc, fun h => absurd h hc⟩
theorem uniqueT_con (T T' : Nat) (f g : List Int) (p : Int) : Con Try.prog [] 4 [LT T f, LT T' g, I p] (.bool true) := by
  obtain ⟨a, c1, x1, l, hf, h1⟩ := factor_any T f p
  obtain ⟨b, c2, x2, m, hg, h2⟩ := factor_any T' g p
  by_cases h : c1 = 0 ∧ c2 = 0 ∧ f.length + g.length ≤ 60
  · obtain ⟨e1, e2, e3⟩ := h
    obtain ⟨P, F, rfl, rfl, hF, hdF⟩ := h1 e1
    obtain ⟨P', G, hP, rfl, hG, hdG⟩ := h2 e2
    have : P' = P := by
      cases P; cases P'; simp only at hP; subst hP; rfl
    subst this
    exact uni_main F G hF hG e3
  · refine uni_early f g p a b c1 x1 c2 x2 l m hf hg (fun e => ?_) (fun e => ?_) h
    · obtain ⟨P, F, -, rfl, -, hd⟩ := h1 e; exact hd
    · obtain ⟨P, F, -, rfl, -, hd⟩ := h2 e; exact hd
theorem fpunique_con (d0 : D) (y0 : TyC Try.prog 22 d0.cells) (z0 : d0.isAgg = isStr Try.prog 22) (d1 : D) (y1 : TyC Try.prog 22 d1.cells) (z1 : d1.isAgg = isStr Try.prog 22) (d2 : D) (y2 : TyC Try.prog 3 d2.cells) (z2 : d2.isAgg = isStr Try.prog 3) :
    Con Try.prog [] 4 [d0, d1, d2] (.bool true) := by
  obtain ⟨a, rfl, h1, -⟩ := ty_ints Try.underlying22 Try.underlying3 (by kernel_rfl) y0 z0
  obtain ⟨b, rfl, h2, -⟩ := ty_ints Try.underlying22 Try.underlying3 (by kernel_rfl) y1 z1
  obtain ⟨p, rfl, -⟩ := ty_int Try.underlying3 y2 z2
  exact uniqueT_con _ _ a b p
end Go.Proofs.Ytlnhembcfhfpkaa.M
namespace Go.Proofs.Ytlnhembcfhfpkaa.fpUnique
open Go.ChangeShapes Go.WideShapes Go.ChangeAt Go.RowKit Go.Proofs.Ytlnhembcfhfpkaa.M
theorem own : ownKnob Try.prog.godebug = none := by kernel_rfl
theorem laidOut : laidOutB Try.prog = true := by kernel_rfl
theorem plain : plainT Try.prog [22, 3] = true := by kernel_rfl
set_option maxRecDepth 100000 in
theorem lifted (os : Os) (started : os.Started) (H : Type) (enc : TypeId × Value → H) :
    ReturnsInHanded {} Try.checked os 4 .any (Rows.fpUniqueSpec.pre6 enc Try.prog Try.f4 Rows.fpUniqueRow.domain false) (Rows.fpUniqueSpec.post enc Try.prog Try.f4 false true false false) := by
  refine returnsInHanded_of_change (C := Try.checked) own started (by kernel_rfl) Try.func4
    (ChangeSpec.witness6 (enc := enc) (C := Try.checked) false ⟨#[], #[.slice none 0 0, .slice none 0 0, .int .i64 0], []⟩ 8 (by kernel_rfl) (by kernel_rfl) (by kernel_rfl) (by kernel_rfl)) ?_
  intro W base args ds gs before hval0 hW hcnd _
  have hval : ∀ (j : Nat) t v, Try.f4.params[j]? = some t → args[j]? = some v → Value.okWide Try.prog W .any base t v := hval0
  have hW' := hW
  obtain ⟨p, q, hA0, hV, rfl, hfz, hnd⟩ := hW
  have hA : DataW.TrodAll enc Try.prog W 0 (fun _ => true) true Try.f4.params.toList args.toList ds p := hA0
  rw [Try.params4] at hA hval
  obtain ⟨v0, vs0, d0, ds0, p0, q0, hargs, rfl, rfl, h0, r0⟩ := trodAll_cons hA
  obtain ⟨v1, vs1, d1, ds1, p1, q1, rfl, rfl, rfl, h1, r1⟩ := trodAll_cons r0
  obtain ⟨v2, vs2, d2, ds2, p2, q2, rfl, rfl, rfl, h2, r2⟩ := trodAll_cons r1
  obtain ⟨rfl, rfl, rfl⟩ := trodAll_nil r2
  obtain rfl : args = #[v0, v1, v2] := by cases args; simp_all
  obtain ⟨rfl, rfl⟩ := trodVars_none hV
  obtain ⟨δ0, x0, y0, z0⟩ := read_arg plain (t := 22) (by simp) (hval 0 22 v0 rfl rfl) h0
  obtain ⟨δ1, x1, y1, z1⟩ := read_arg plain (t := 22) (by simp) (hval 1 22 v1 rfl rfl) h1
  obtain ⟨δ2, x2, y2, z2⟩ := read_arg plain (t := 3) (by simp) (hval 2 3 v2 rfl rfl) h2
  clear hA0 hval0
  simp only [List.append_nil] at hW'
  have l0 : ∀ x ∈ p0, x.block < W.heap.size := fun x hx => hW'.lt x (by simp [hx])
  have l1 : ∀ x ∈ p1, x.block < W.heap.size := fun x hx => hW'.lt x (by simp [hx])
  have l2 : ∀ x ∈ p2, x.block < W.heap.size := fun x hx => hW'.lt x (by simp [hx])
  refine ((fpunique_con δ0 y0 z0 δ1 y1 z1 δ2 y2 z2) (fun _ => False) W #[v0, v1, v2] (fun _ h => h.elim) (fun _ h => h.elim) rfl ?_).mono fun e W' ⟨v, he, hv, hg⟩ => ?_
  · intro i e he
    match i, he with
    | 0, he => simp at he; subst he; exact x0.mono (fun _ _ => rfl) fun b hb => ⟨hb, fun h => h⟩
    | 1, he => simp at he; subst he; exact x1.mono (fun _ _ => rfl) fun b hb => ⟨hb, fun h => h⟩
    | 2, he => simp at he; subst he; exact x2.mono (fun _ _ => rfl) fun b hb => ⟨hb, fun h => h⟩
    | i + 3, he => simp at he
  · subst he
    rw [bool_V hv]
    exact ⟨_, rfl, _, _, _, [], _, [], hW', trodAll_cons_mk (shut_bool Try.underlying4 _) trodAll_mk0, trodAll_cons_mk (Below.trod laidOut (by kernel_rfl) (of_decide_eq_true (by kernel_rfl)) h0 hg l0) (trodAll_cons_mk (Below.trod laidOut (by kernel_rfl) (of_decide_eq_true (by kernel_rfl)) h1 hg l1) (trodAll_cons_mk (Below.trod laidOut (by kernel_rfl) (of_decide_eq_true (by kernel_rfl)) h2 hg l2) trodAll_mk0)), rfl, hg.frame _, fun h => by cases h⟩
theorem over : Rows.fpUniqueRow.holds Try.pinned (OpenSpec.ofChange Rows.fpUniqueSpec) :=
  OpenClaim.holds_of_wide 4 Try.f4 rfl rfl rfl rfl rfl rfl rfl ⟨rfl, rfl, rfl, rfl, rfl⟩ rfl rfl rfl rfl rfl (by kernel_rfl) Try.func4 (by kernel_rfl)
    (of_decide_eq_true (by kernel_rfl)) (by unfold Func.isWrapper; first | (rw [if_pos (by decide +kernel)]; kernel_rfl) | (rw [if_neg (by decide +kernel)]; exact ⟨rfl, rfl⟩))
    (fun os started H enc _ => lifted os started H enc)
theorem proved : Rows.FpUniqueSaid :=
  over
#print axioms proved
end Go.Proofs.Ytlnhembcfhfpkaa.fpUnique
