/- Polynomials modulo a prime: Factor walked. -/
import Derived.Test.YtlnhembcfhfpkaaK7
import Derived.Test.YtlnhembcfhfpkaaFyQx
import Derived.Shelf.SlSortCmp.NoneTotal
namespace Go.Proofs.Ytlnhembcfhfpkaa.M
open Go.RowKit Go.Proofs.Ytlnhembcfhfpkaa.Fx
set_option linter.unusedSimpArgs false
set_option linter.unusedVariables false
variable {P : Pr}
theorem sort_none : Con Try.prog [] 39 [.list 36 2 [], .fn (.func 40) [] []] (.tup []) := by
  intro base w vs hb _ hvs hargs
  have h0 : ∃ a cap, vs.getD 0 undef = .slice a 0 cap := by
    have := hargs 0 _ rfl
    generalize vs.getD 0 undef = x at this
    generalize hd : D.list 36 2 [] = d at this
    cases this with
    | empty a cap T sz h => exact ⟨a, cap, rfl⟩
    | list b o cap T sz l c fr h1 h2 h3 h4 h5 h6 h7 =>
      simp only [D.list.injEq] at hd
      obtain ⟨-, -, rfl⟩ := hd
      exact ⟨_, cap, rfl⟩
    | _ => cases hd
  obtain ⟨a, cap, h0⟩ := h0
  have hvs2 : vs = #[vs.getD 0 undef, vs.getD 1 undef] := by
    have h2 : vs.size = 2 := hvs
    apply Array.ext
    · simp [h2]
    · intro i h3 h4
      match i, h3 with
      | 0, h3 => simp [Array.getD, h2]
      | 1, h3 => simp [Array.getD, h2]
      | i + 2, h3 => omega
  rw [hvs2, h0]
  have hS := AnyF.slices_SortFunc_none Try.sortL a cap (vs.getD 1 undef) w
  refine Calls.mono (show Calls Try.prog 39 _ _ _ from hS) ?_
  rintro e w' ⟨rfl, rfl⟩
  exact ⟨.tuple #[], rfl, .tup #[] [] rfl (fun i d h => by cases h), Ext.rf _⟩
theorem sortX {F : Po P} (hF : F ≠ 0) (hl : dg F ≤ 65) : ConX Try.prog [] (39 + LB * (0 + 1)) [.list 36 2 ((facU F).map sD), .fn (.func 40) [] []] (.tup [.tup [], .list 36 2 ((facL F).map sD)]) := by
  refine LentC.x ⟨by decide, rfl, by simp only [List.length_map]; exact (facL_perm F).length_eq.symm, fun h => ?_, fun h => ?_⟩
  · rw [h]; exact sort_none
  · exact sort_lent _ _ (fun x hx => by have := facU_len hF hl x hx; omega) (by have := facU_total hF hl; omega) (facL_perm F) (facL_sorted hF hl) h
end Go.Proofs.Ytlnhembcfhfpkaa.M
