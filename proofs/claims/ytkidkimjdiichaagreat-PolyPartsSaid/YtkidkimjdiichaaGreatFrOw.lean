/- What is reckoned with fractions, in the small machine's words. -/
import Derived.Test.YtkidkimjdiichaaGreatMZw
import Derived.Test.YtkidkimjdiichaaGreatFrCCw
namespace Go.Proofs.YtkidkimjdiichaaGreat.M
open Go.RowKit
set_option linter.unusedSimpArgs false
set_option linter.unusedVariables false
theorem fold_I (z:Int):D.agg [hI z,lI z]=encI z:=rfl
theorem fold_FI (a b:Int):D.agg [hI a,lI a,hI (b-1),lI (b-1)]=encFI a b:=rfl
set_option maxHeartbeats 2000000 in
theorem cAdd (a b c d:Int) (n:Nat) (ba:Bt a n) (bb:Bt b n) (bc:Bt c n) (bd:Bt d n) (hn:n≤2048000000000) (hb:0<b) (hd:0<d):Con Tryz.prog AN 106 [encFI a b,encFI c d] (encFI (frN (a*d+c*b) (b*d)) (frD (a*d+c*b) (b*d))):=by
 have h1:Bt (a*d) (n+n):=ba.mul bd
 have h2:Bt (c*b) (n+n):=bc.mul bb
 have h3:Bt (a*d+c*b) (n+n+1):=h1.add h2
 have h4:Bt (b*d) (n+n+1):=(bb.mul bd).mono (by omega)
 have h5:b*d≠0:=Int.ne_of_gt (Int.mul_pos hb hd)
 refine fn106.con rfl (by simp) ?_
 simp only[c106,c106_14,c106_1,l106_0,init2,cw,csW,cops,reduceCtorEq,csM,Nat.reduceAdd,Nat.reduceEqDiff]
 refine keep [2,3,4] ?_
 simp only[c106_13,c106_12,l106_2,csW,reduceCtorEq,Nat.reduceEqDiff,cw,cops,csM,Nat.reduceAdd,fold_FI]
 refine⟨_,cBelow c d n bc bd hn,?_⟩
 simp only[l106_3,cops,csW,csM,Nat.reduceLT,Nat.reduceEqDiff,Nat.reduceAdd,fold_FI,Nat.reduceLeDiff,fold_I]
 refine⟨_,cIMul a d n ba bd (by omega),?_⟩
 simp only[l106_4,cops,csW,Nat.reduceEqDiff]
 refine⟨_,cBelow a b n ba bb hn,?_⟩
 simp only[l106_5,cops,csW,csM,Nat.reduceLT,Nat.reduceEqDiff,Nat.reduceAdd,Nat.reduceLeDiff,fold_I]
 refine⟨_,cIMul c b n bc bb (by omega),?_⟩
 simp only[l106_6,cops,csW,Nat.reduceEqDiff]
 refine⟨_,cIAdd _ _ (n+n) h1 h2 (by omega),?_⟩
 simp only[l106_7,cops,csW,Nat.reduceEqDiff]
 refine⟨_,cBelow a b n ba bb hn,?_⟩
 simp only[l106_8,cops,csW,Nat.reduceEqDiff]
 refine⟨_,cBelow c d n bc bd hn,?_⟩
 simp only[l106_9,cops,csW,Nat.reduceEqDiff]
 refine⟨_,cIMul b d n bb bd (by omega),?_⟩
 simp only[l106_10,cops,csW,Nat.reduceEqDiff]
 refine⟨_,cLowest _ _ (n+n+1) h3 h4 (by omega) h5,?_⟩
 simp only[l106_11,cops,csW,Nat.reduceEqDiff,csM,Nat.reduceAdd,fold_FI]
 refine keep [4] ?_
 simp only[Ends,resD,resL,resV,csW,Nat.reduceEqDiff,csM,Nat.reduceAdd,fold_FI]
set_option maxHeartbeats 2000000 in
theorem cfover (a b:Int) (n:Nat) (ba:Bt a n) (bb:Bt b n) (hn:n≤4147200000000) (hb0:b≠0):Con Tryz.prog AN 128 [encZ a,encZ b] (encFZ (frN a b) (frD a b)):=by
 refine fn128.con rfl (by simp) ?_
 simp only[c128,c128_9,c128_1,l128_0,init2,cw,csW,cops,reduceCtorEq,csM,Nat.reduceAdd,Nat.reduceEqDiff]
 refine keep [2,3,4] ?_
 simp only[c128_8,c128_4,l128_2,csW,reduceCtorEq,Nat.reduceEqDiff,cw,cops,csM,Nat.reduceLT,Nat.reduceAdd]
 refine⟨_,cOverZ a b n ba bb hn hb0,?_⟩
 simp only[l128_3,csM,cops,csW,Nat.reduceEqDiff,Nat.reduceAdd]
 refine keep [4,5] ?_
 simp only[c128_7,c128_6,l128_5,csW,Nat.reduceEqDiff,cw,cops,csM,Nat.reduceAdd]
 refine keep [4] ?_
 simp only[Ends,resD,resL,resV,csW,Nat.reduceEqDiff,csM,Nat.reduceAdd]
set_option maxHeartbeats 2000000 in
theorem cAddZ (a b c d:Int) (n:Nat) (ba:Bt a n) (bb:Bt b n) (bc:Bt c n) (bd:Bt d n) (hn:n≤2048000000000) (hb:0<b) (hd:0<d):Con Tryz.prog AN 107 [encFZ a b,encFZ c d] (encFZ (frN (a*d+c*b) (b*d)) (frD (a*d+c*b) (b*d))):=by
 have h1:Bt (a*d) (n+n):=ba.mul bd
 have h2:Bt (c*b) (n+n):=bc.mul bb
 have h3:Bt (a*d+c*b) (n+n+1):=h1.add h2
 have h4:Bt (b*d) (n+n+1):=(bb.mul bd).mono (by omega)
 have h5:b*d≠0:=Int.ne_of_gt (Int.mul_pos hb hd)
 refine fn107.con rfl (by simp) ?_
 simp only[c107,c107_10,c107_1,l107_0,init2,cw,csW,cops,reduceCtorEq,csM,Nat.reduceAdd,Nat.reduceEqDiff]
 refine keep [2,3,4] ?_
 simp only[c107_9,c107_8,l107_2,csW,reduceCtorEq,Nat.reduceEqDiff,cw,cops,csM,Nat.reduceLT,Nat.reduceAdd,Nat.reduceLeDiff]
 refine⟨_,cZMul a d n ba bd (by omega),?_⟩
 simp only[l107_3,cops,csW,csM,Nat.reduceLT,Nat.reduceAdd,Nat.reduceEqDiff,Nat.reduceLeDiff,reduceCtorEq]
 refine⟨_,cZMul c b n bc bb (by omega),?_⟩
 simp only[l107_4,cops,csW,Nat.reduceEqDiff]
 refine⟨_,cZAdd _ _ (n+n) h1 h2 (by omega),?_⟩
 simp only[l107_5,cops,csW,csM,Nat.reduceLT,Nat.reduceAdd,Nat.reduceEqDiff,reduceCtorEq]
 refine⟨_,cZMul b d n bb bd (by omega),?_⟩
 simp only[l107_6,cops,csW,Nat.reduceEqDiff]
 refine⟨_,cfover _ _ (n+n+1) h3 h4 (by omega) h5,?_⟩
 simp only[l107_7,cops,csW,Nat.reduceEqDiff,csM,Nat.reduceAdd]
 refine keep [4] ?_
 simp only[Ends,resD,resL,resV,csW,Nat.reduceEqDiff,csM,Nat.reduceAdd]
set_option maxHeartbeats 2000000 in
theorem cSub (a b c d:Int) (n:Nat) (ba:Bt a n) (bb:Bt b n) (bc:Bt c n) (bd:Bt d n) (hn:n≤2048000000000) (hb:0<b) (hd:0<d):Con Tryz.prog AN 113 [encFI a b,encFI c d] (encFI (frN (a*d + -c*b) (b*d)) (frD (a*d + -c*b) (b*d))):=by
 refine fn113.con rfl (by simp) ?_
 simp only[c113,c113_7,c113_1,l113_0,init2,cw,csW,cops,reduceCtorEq,csM,Nat.reduceAdd,Nat.reduceEqDiff]
 refine keep [2,3,4] ?_
 simp only[c113_6,c113_5,l113_2,csW,reduceCtorEq,Nat.reduceEqDiff,cw,cops,csM,Nat.reduceLT,Nat.reduceAdd,fold_FI,Nat.reduceLeDiff,fold_I]
 refine⟨_,cINeg c n bc (by omega),?_⟩
 simp only[l113_3,cops,csW,csM,Nat.reduceAdd,Nat.reduceLeDiff,Nat.reduceLT,Nat.reduceEqDiff,reduceCtorEq,fold_I,fold_FI]
 refine⟨_,cAdd a b (-c) d n ba bb bc.neg bd hn hb hd,?_⟩
 simp only[l113_4,cops,csW,Nat.reduceEqDiff,csM,Nat.reduceAdd,fold_FI]
 refine keep [4] ?_
 simp only[Ends,resD,resL,resV,csW,Nat.reduceEqDiff,csM,Nat.reduceAdd,fold_FI]
set_option maxHeartbeats 2000000 in
theorem cMul (a b c d:Int) (n:Nat) (ba:Bt a n) (bb:Bt b n) (bc:Bt c n) (bd:Bt d n) (hn:n≤2048000000000) (hb:0<b) (hd:0<d):Con Tryz.prog AN 111 [encFI a b,encFI c d] (encFI (frN (a*c) (b*d)) (frD (a*c) (b*d))):=by
 have h3:Bt (a*c) (n+n):=ba.mul bc
 have h4:Bt (b*d) (n+n):=bb.mul bd
 have h5:b*d≠0:=Int.ne_of_gt (Int.mul_pos hb hd)
 refine fn111.con rfl (by simp) ?_
 simp only[c111,c111_10,c111_1,l111_0,init2,cw,csW,cops,reduceCtorEq,csM,Nat.reduceAdd,Nat.reduceEqDiff]
 refine keep [2,3,4] ?_
 simp only[c111_9,c111_8,l111_2,csW,reduceCtorEq,Nat.reduceEqDiff,cw,cops,csM,Nat.reduceLT,Nat.reduceAdd,fold_FI,Nat.reduceLeDiff,fold_I]
 refine⟨_,cIMul a c n ba bc (by omega),?_⟩
 simp only[l111_3,cops,csW,Nat.reduceEqDiff]
 refine⟨_,cBelow a b n ba bb hn,?_⟩
 simp only[l111_4,cops,csW,Nat.reduceEqDiff]
 refine⟨_,cBelow c d n bc bd hn,?_⟩
 simp only[l111_5,cops,csW,Nat.reduceEqDiff]
 refine⟨_,cIMul b d n bb bd (by omega),?_⟩
 simp only[l111_6,cops,csW,Nat.reduceEqDiff]
 refine⟨_,cLowest _ _ (n+n) h3 h4 (by omega) h5,?_⟩
 simp only[l111_7,cops,csW,Nat.reduceEqDiff,csM,Nat.reduceAdd,fold_FI]
 refine keep [4] ?_
 simp only[Ends,resD,resL,resV,csW,Nat.reduceEqDiff,csM,Nat.reduceAdd,fold_FI]
set_option maxHeartbeats 2000000 in
theorem cMulZ (a b c d:Int) (n:Nat) (ba:Bt a n) (bb:Bt b n) (bc:Bt c n) (bd:Bt d n) (hn:n≤2048000000000) (hb:0<b) (hd:0<d):Con Tryz.prog AN 79 [encFZ a b,encFZ c d] (encFZ (frN (a*c) (b*d)) (frD (a*c) (b*d))):=by
 have h3:Bt (a*c) (n+n):=ba.mul bc
 have h4:Bt (b*d) (n+n):=bb.mul bd
 have h5:b*d≠0:=Int.ne_of_gt (Int.mul_pos hb hd)
 refine fn79.con rfl (by simp) ?_
 simp only[c79,c79_8,c79_1,l79_0,init2,cw,csW,cops,reduceCtorEq,csM,Nat.reduceAdd,Nat.reduceEqDiff]
 refine keep [2,3,4] ?_
 simp only[c79_7,c79_6,l79_2,csW,reduceCtorEq,Nat.reduceEqDiff,cw,cops,csM,Nat.reduceLT,Nat.reduceAdd,Nat.reduceLeDiff]
 refine⟨_,cZMul a c n ba bc (by omega),?_⟩
 simp only[l79_3,cops,csW,csM,Nat.reduceLT,Nat.reduceAdd,Nat.reduceEqDiff,reduceCtorEq]
 refine⟨_,cZMul b d n bb bd (by omega),?_⟩
 simp only[l79_4,cops,csW,Nat.reduceEqDiff]
 refine⟨_,cfover _ _ (n+n) h3 h4 (by omega) h5,?_⟩
 simp only[l79_5,cops,csW,Nat.reduceEqDiff,csM,Nat.reduceAdd]
 refine keep [4] ?_
 simp only[Ends,resD,resL,resV,csW,Nat.reduceEqDiff,csM,Nat.reduceAdd]
set_option maxHeartbeats 2000000 in
theorem cNeg (a b:Int) (n:Nat) (ba:Bt a n) (bb:Bt b n) (hn:n≤2048000000000):Con Tryz.prog AN 134 [encFI a b] (encFI (-a) b):=by
 refine fn134.con rfl (by simp) ?_
 simp only[c134,c134_6,c134_1,l134_0,init1,cw,csW,cops,csM,Nat.reduceAdd,reduceCtorEq,Nat.reduceEqDiff]
 refine keep [1,2] ?_
 simp only[c134_5,c134_4,l134_2,csW,reduceCtorEq,Nat.reduceEqDiff,cw,cops,csM,Nat.reduceLT,Nat.reduceAdd,Nat.reduceLeDiff,fold_I]
 refine⟨_,cINeg a n ba (by omega),?_⟩
 simp only[l134_3,cops,csW,csM,Nat.reduceAdd,Nat.reduceLeDiff,Nat.reduceLT,Nat.reduceEqDiff,reduceCtorEq,fold_I,fold_FI]
 refine keep [2] ?_
 simp only[Ends,resD,resL,resV,csW,Nat.reduceEqDiff,csM,Nat.reduceAdd,fold_FI]
set_option maxHeartbeats 2000000 in
theorem cSign (a b:Int) (n:Nat) (ba:Bt a n) (bb:Bt b n) (hn:n≤2048000000000):Con Tryz.prog AN 50 [encFI a b] (.int .i64 (sgnZ a)):=by
 refine fn50.con rfl (by simp) ?_
 simp only[c50,c50_6,c50_1,l50_0,init1,cw,csW,cops,csM,Nat.reduceAdd,reduceCtorEq,Nat.reduceEqDiff]
 refine keep [1] ?_
 simp only[c50_5,c50_4,l50_2,csW,reduceCtorEq,Nat.reduceEqDiff,cw,cops,csM,Nat.reduceLT,Nat.reduceAdd,Nat.reduceLeDiff,fold_I]
 refine⟨_,cISign a n ba (by omega),?_⟩
 simp only[l50_3,cops,csW,Nat.reduceEqDiff]
 refine keep [2] ?_
 simp only[Ends,resD,resL,resV,csW,Nat.reduceEqDiff]
set_option maxHeartbeats 2000000 in
theorem cSignZ (a b:Int) (n:Nat) (ba:Bt a n) (bb:Bt b n) (hn:n≤2048000000000):Con Tryz.prog AN 86 [encFZ a b] (.int .i64 (sgnZ a)):=by
 refine fn86.con rfl (by simp) ?_
 simp only[c86,c86_6,c86_1,l86_0,init1,cw,csW,cops,csM,Nat.reduceAdd,reduceCtorEq,Nat.reduceEqDiff]
 refine keep [1] ?_
 simp only[c86_5,c86_4,l86_2,csW,reduceCtorEq,Nat.reduceEqDiff,cw,cops,csM,Nat.reduceLT,Nat.reduceAdd,Nat.reduceLeDiff]
 refine⟨_,cZSign a n ba (by omega),?_⟩
 simp only[l86_3,cops,csW,Nat.reduceEqDiff]
 refine keep [2] ?_
 simp only[Ends,resD,resL,resV,csW,Nat.reduceEqDiff]
set_option maxHeartbeats 2000000 in
theorem cQuoZ (a b c d:Int) (n:Nat) (ba:Bt a n) (bb:Bt b n) (bc:Bt c n) (bd:Bt d n) (hn:n≤2048000000000) (hb:0<b) (hc:c≠0):Con Tryz.prog AN 114 [encFZ a b,encFZ c d] (.tup [encFZ (frN (a*d) (b*c)) (frD (a*d) (b*c)),flt 0 0]):=by
 have h3:Bt (a*d) (n+n):=ba.mul bd
 have h4:Bt (b*c) (n+n):=bb.mul bc
 have h5:b*c≠0:=fun e=>by rcases Int.mul_eq_zero.1 e with h | h<;>omega
 refine fn114.con rfl (by simp) ?_
 simp only[c114,c114_8,c114_1,l114_0,csM,init2,cw,csW,cops,reduceCtorEq,Nat.reduceAdd,Nat.reduceEqDiff]
 refine keep [2,3,4,5] ?_
 simp only[c114_7,c114_6,l114_2,csW,reduceCtorEq,Nat.reduceEqDiff,cw,cops,csM,Nat.reduceLT,Nat.reduceAdd,Nat.reduceLeDiff]
 refine⟨_,cZMul a d n ba bd (by omega),?_⟩
 simp only[l114_3,cops,csW,csM,Nat.reduceLT,Nat.reduceEqDiff,reduceCtorEq,Nat.reduceAdd,Nat.reduceLeDiff]
 refine⟨_,cZMul b c n bb bc (by omega),?_⟩
 simp only[l114_4,cops,csW,Nat.reduceEqDiff]
 refine⟨_,cOverZ _ _ (n+n) h3 h4 (by omega) h5,?_⟩
 simp only[l114_5,csM,cops,csW,Nat.reduceEqDiff,Nat.reduceAdd]
 refine keep [4,5] ?_
 simp only[Ends,resD,resL,resV,csW,Nat.reduceEqDiff,csM,Nat.reduceAdd]
end Go.Proofs.YtkidkimjdiichaaGreat.M
