/- Polynomials: the reference's powers, and one put into another. -/
import Derived.Test.YtkidkimjdiichaaGreatPoHy
namespace Go.Proofs.YtkidkimjdiichaaGreat.M
open Go.RowKit
set_option linter.unusedSimpArgs false
set_option linter.unusedVariables false
set_option linter.defProp false
theorem rat_one : ((1 : Int) : Rat) = 1:=rfl
end Go.Proofs.YtkidkimjdiichaaGreat.M
