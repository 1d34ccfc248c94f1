/- A region in whatever order whose new variables may come up at any time: the calls ahead of its stores are walked as if the others only made memory; behind them, the new variables lie in whatever new blocks. -/
import Derived.Test.YtkidkimjdiichaaGreatK5w
namespace Go.Proofs.YtkidkimjdiichaaGreat
open Go.RowKit
abbrev AE:=Nat × TypeId × Array Value
section
variable {P:Program} {ops:Array Oper} {Q:Exit→Act→World→Prop} {md:Region.Mode} {S A B:World→Prop} {xa xb:Nat}
end
end Go.Proofs.YtkidkimjdiichaaGreat
