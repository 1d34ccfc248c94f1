/- Polynomials: division of what is handed in; the law's last part. -/
import Derived.Test.YtkidkimjdiichaaGreatPoKw
namespace Go.Proofs.YtkidkimjdiichaaGreat.M
open Go.RowKit
set_option linter.unusedSimpArgs false
set_option linter.unusedVariables false
set_option linter.defProp false
set_option maxHeartbeats 4000000 in
theorem pdivs_con (p d:List Rat) (np:Nf p) (nd:Nf d) (h:p.length<d.length) (h2:d.length≤1000000):Con Tryz.prog AN 28 [LZ p,LZ d] (.tup [LZ (quoQ p d),LZ (remQ p d)]):=by
 have hI:¬ (d.length:Int)≤(p.length:Int):=by omega
 obtain⟨e1,e2⟩:=nil_div np nd h
 rw[e1,e2]
 refine fn28.con rfl (by simp) ?_
 simp only[c28,c28_58,c28_1,l28_0,init2,cw,csW,cops,reduceCtorEq,Nat.reduceEqDiff]
 refine keep [0,1] ?_
 simp only[c28_57,c28_3,l28_2,csW,reduceCtorEq,Nat.reduceEqDiff,cw,cops]
 refine keep [0,1,6] ?_
 simp only[c28_56,c28_52,csW,reduceCtorEq,Nat.reduceEqDiff,cw]
 refine loop_of (ι:=Nat) (fun x=>True) (fun x=>⟨look [(0,.p (LZ p)),(1,.p (LZ d)),(6,.p (LZ []))],lookM []⟩) (fun x=>x) 0 trivial ((Sub.showG 6 12 _ (LZ []) rfl rfl).tr (Sub.toG [0,1,6] [7,8,12,32] (by rfl) (by rfl) (by rfl) (by rfl))) ?_
 rintro i -
 simp only[c28_50,c28_7,c28_5,l28_4,csW,cw,cops,reduceCtorEq,Nat.reduceEqDiff,hI]
 refine keep [0,1,6,17] ?_
 simp only[c28_6,csW,reduceCtorEq,Nat.reduceEqDiff,cw]
 refine keep [0,6] ?_
 simp only[c28_55,c28_54,l28_53,csW,reduceCtorEq,Nat.reduceEqDiff,cw,cops]
 refine keep [4,5] ?_
 simp only[Ends,resD,resL,resV,csW,reduceCtorEq,Nat.reduceEqDiff]
end Go.Proofs.YtkidkimjdiichaaGreat.M
