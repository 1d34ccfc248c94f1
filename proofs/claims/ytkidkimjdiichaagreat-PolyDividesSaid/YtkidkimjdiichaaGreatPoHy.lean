/- Polynomials: one put into another. -/
import Derived.Test.YtkidkimjdiichaaGreatPoGy
namespace Go.Proofs.YtkidkimjdiichaaGreat.M
open Go.RowKit
set_option linter.unusedSimpArgs false
set_option linter.unusedVariables false
set_option linter.defProp false
theorem of_con (l : List Rat) (n : Nat) (hb : Bl n l) (hn : n ≤ big) (h : l.length ≤ 1000000) : Con Tryz.prog AN 115 [LI l] (pI (trimQ l)):=by
 refine fn115.con rfl (by simp) ?_
 simp only [c115,c115_6,c115_1,l115_0,init1,cw,csW,cops,reduceCtorEq]
 refine keep [0,2] ?_
 simp only [c115_5,c115_4,l115_2,csW,reduceCtorEq,cw,cops,Nat.reduceEqDiff,csP]
 (repeat refine And.intro (by first | omega | (simp;omega)) ?_)
 refine ⟨_,made_con l n hb hn (by omega),?_⟩
 simp only [l115_3,cops,csW,reduceCtorEq,Nat.reduceEqDiff,csP]
 refine keep [2] ?_
 simp only [Ends,resD,resL,resV,csW,reduceCtorEq,Nat.reduceEqDiff,csP]
end Go.Proofs.YtkidkimjdiichaaGreat.M
