/- Lemmas. -/
import Derived.Test.YtdchbabgopglcaaC28
import Derived.Test.YtdchbabgopglcaaC39
set_option linter.unusedVariables false
namespace Go.Proofs.Ytdchbabgopglcaa.M
open Go.RowKit
noncomputable def oneF (f:Fm) (n:Int):Int:=
 if f.kd<1∨9<f.kd then 11
 else if (f.kd≤4∧f.gs.length≠0)∨((f.kd=5∨Qt f)∧f.gs.length≠1)∨((f.kd=6∨f.kd=7)∧f.gs.length=0) then 8
 else if (¬ (f.kd=3∨f.kd=4)∧(0<f.p.length∨f.rel≠0))∨(f.kd≠4∧f.k≠0)∨(f.kd≠4∧¬ Qt f∧f.v≠0) then 3
 else if (f.kd=3∨f.kd=4)∧(f.rel<1∨6<f.rel) then 11
 else if (f.kd=4∨Qt f)∧(f.v<0∨n≤f.v) then 10
 else if f.kd=4∧f.k<0 then 7
 else if f.kd=3∨f.kd=4 then (fM f.p n 0).1 else 0
def Stn (f:Fm) (v:Int):Prop:=(∃t∈f.p,0≤v∧0<t.2.getD v.toNat 0)∨(f.kd=4∧v=f.v)
end Go.Proofs.Ytdchbabgopglcaa.M
