/- The small machine: a slice of an object that is not written any more is plain data. -/
import Derived.Test.YtlnhembcfhfpkaaMXB
namespace Go.Proofs.Ytlnhembcfhfpkaa.M
open Go.RowKit

section
variable {OT : List TypeId} {r : Nat → AV} {m : Mem}
theorem Sub.reveal (t : Nat) (d : D) (hd : (r t).toD false m 20 = some d) : Sub OT ⟨r, m⟩ ⟨upd r t (.p d), m⟩ := by
  rintro C a w - ⟨⟨loc, hr⟩, h2⟩
  refine ⟨⟨loc, hr.ext, hr.defers, hr.size, hr.low, hr.dom, fun u => ?_, hr.objs, hr.inj, hr.keepL⟩, h2⟩
  by_cases e : u = t
  · subst e
    simp only [upd_same]
    exact .p _ _ (toD_pure hr hd (hr.tmps u))
  · simp only [upd_ne _ _ e]
    exact hr.tmps u
/-- Object i is not written any more; slot t is plain data. -/
theorem Sub.showG (t i : Nat) (ob : AObj) (d : D) {R : List (Nat × AV)} {M : List (Nat × AObj)} (hm : lookM M i = some ob) (hd : (look R t).toD false (lookM (setM i ⟨ob.T, ob.sz, ob.cont, true⟩ M)) 20 = some d) (hi : i ≠ lentId := by decide) :
    Sub OT ⟨look R, lookM M⟩ ⟨look (setR t (.p d) R), lookM (setM i ⟨ob.T, ob.sz, ob.cont, true⟩ M)⟩ := by
  rw [← upd_look]
  refine (Sub.freeze hi hm).tr ?_
  rw [upd_lookM]
  exact Sub.reveal t d hd
/-- Two objects are not written any more. -/
theorem keepF2 (i : Nat) (ob : AObj) (j : Nat) (ob' : AObj) (ts : List Nat) {R : St → Prop} (hm : m i = some ob) (hm' : upd m i (some ⟨ob.T, ob.sz, ob.cont, true⟩) j = some ob')
    (h : R ⟨look (sel r ts), upd (upd m i (some ⟨ob.T, ob.sz, ob.cont, true⟩)) j (some ⟨ob'.T, ob'.sz, ob'.cont, true⟩)⟩) (hi : i ≠ lentId := by decide) (hj : j ≠ lentId := by decide) : ∃ u, Sub OT ⟨r, m⟩ u ∧ R u :=
  ⟨_, ((Sub.freeze hi hm).tr (Sub.freeze hj hm')).tr (Sub.und (sel_or ts)), h⟩
end
end Go.Proofs.Ytlnhembcfhfpkaa.M
