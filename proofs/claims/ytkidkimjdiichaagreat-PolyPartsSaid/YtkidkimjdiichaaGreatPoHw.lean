/- Polynomials: one put into another. -/
import Derived.Test.YtkidkimjdiichaaGreatPoGw
namespace Go.Proofs.YtkidkimjdiichaaGreat.M
open Go.RowKit
set_option linter.unusedSimpArgs false
set_option linter.unusedVariables false
set_option linter.defProp false
end Go.Proofs.YtkidkimjdiichaaGreat.M
