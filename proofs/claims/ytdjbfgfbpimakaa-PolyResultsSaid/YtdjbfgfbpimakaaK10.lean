/- Polynomials: the reference's division. Polynomials: one put into another. Polynomials: the reference's powers, and one put into another. -/
import Derived.Test.YtdjbfgfbpimakaaPoFx
section
namespace Go.Proofs.Ytdjbfgfbpimakaa.M
open Go.RowKit
set_option linter.unusedSimpArgs false
set_option linter.unusedVariables false
set_option linter.defProp false
structure PDivS (p d:List Rat) (K H E G n S:Nat) (x:Nat × List Rat × List Rat):Prop where
 le:x.1≤S
 nq:Nf x.2.1
 np:Nf x.2.2
 len:x.2.2.length≤x.1+d.length-1
 ql:x.2.1.length≤S
 q0:∀ t,t+d.length≤x.2.2.length→cf x.2.1 t=0
 eq:∀ y,evQ p y=evQ x.2.1 y*evQ d y+evQ x.2.2 y
 lb:Lb (K*E^(S-x.1)) (H*(E+G)^(S-x.1)) x.2.2
 qb:Bl n x.2.1
end Go.Proofs.Ytdjbfgfbpimakaa.M
end

section
namespace Go.Proofs.Ytdjbfgfbpimakaa.M
open Go.RowKit
set_option linter.unusedSimpArgs false
set_option linter.unusedVariables false
set_option linter.defProp false
end Go.Proofs.Ytdjbfgfbpimakaa.M
end

section
namespace Go.Proofs.Ytdjbfgfbpimakaa.M
open Go.RowKit
set_option linter.unusedSimpArgs false
set_option linter.unusedVariables false
set_option linter.defProp false
theorem rat_one:((1:Int):Rat)=1:=rfl
end Go.Proofs.Ytdjbfgfbpimakaa.M
end
