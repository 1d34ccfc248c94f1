/- Polynomials: products. -/
import Derived.Test.YtdjbfgfbpimakaaPoDx
import Derived.Test.YtdjbfgfbpimakaaK5
namespace Go.Proofs.Ytdjbfgfbpimakaa.M
open Go.RowKit
set_option linter.unusedSimpArgs false
set_option linter.unusedVariables false
set_option linter.defProp false
theorem tab_0 (N:Nat):List.replicate N (0:Rat)=tab N fun _=>0:=by apply List.ext_getElem<;>simp[tab]
theorem rat_zero:((0:Int):Rat)=0:=rfl
end Go.Proofs.Ytdjbfgfbpimakaa.M
