/- FpGcds: the law walked. -/
import Derived.Test.YtlnhembcfhfpkaaK5
import Derived.Test.YtlnhembcfhfpkaaFqIx
namespace Go.Proofs.Ytlnhembcfhfpkaa.M
open Go.RowKit
set_option linter.unusedSimpArgs false
set_option linter.unusedVariables false
set_option linter.defProp false
def csE:=And.intro csF (And.intro @intsOf.eq_1 (And.intro @intsOf.eq_2 (And.intro @Option.map_some.{0,0} (And.intro @toD_p @eq_self.{1}))))
theorem bool_V {w:World} {N:Nat→Prop} {v:Value} {b:Bool} (h:V w N v (.bool b)):v = .bool b:=by
 generalize he:D.bool b=e at h
 cases h with
 | bool b=>injection he with h1;subst h1;rfl
 | _=>cases he
end Go.Proofs.Ytlnhembcfhfpkaa.M
