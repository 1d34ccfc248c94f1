/- What is reckoned with fractions, in the small machine's words. -/
import Derived.Test.YtdjbfgfbpimakaaMZx
import Derived.Test.YtdjbfgfbpimakaaK4
namespace Go.Proofs.Ytdjbfgfbpimakaa.M
open Go.RowKit
set_option linter.unusedSimpArgs false
set_option linter.unusedVariables false
theorem fold_I (z:Int):D.agg [hI z,lI z]=encI z:=rfl
theorem fold_FI (a b:Int):D.agg [hI a,lI a,hI (b-1),lI (b-1)]=encFI a b:=rfl
set_option maxHeartbeats 2000000 in
theorem cAdd (a b c d:Int) (n:Nat) (ba:Bt a n) (bb:Bt b n) (bc:Bt c n) (bd:Bt d n) (hn:n≤32768000000000) (hb:0<b) (hd:0<d):Con Try.prog AN 65 [encFI a b,encFI c d] (encFI (frN (a*d+c*b) (b*d)) (frD (a*d+c*b) (b*d))):=by
 have h1:Bt (a*d) (n+n):=ba.mul bd
 have h2:Bt (c*b) (n+n):=bc.mul bb
 have h3:Bt (a*d+c*b) (n+n+1):=h1.add h2
 have h4:Bt (b*d) (n+n+1):=(bb.mul bd).mono (by omega)
 have h5:b*d≠0:=Int.ne_of_gt (Int.mul_pos hb hd)
 refine fn65.con rfl (by simp) ?_
 simp only[c65,c65_14,c65_1,l65_0,init2,cw,csW,cops,reduceCtorEq,csM,Nat.reduceAdd,Nat.reduceEqDiff]
 refine keep [2,3,4] ?_
 simp only[c65_13,c65_12,l65_2,csW,reduceCtorEq,Nat.reduceEqDiff,cw,cops,csM,Nat.reduceAdd,fold_FI]
 refine⟨_,cBelow c d n bc bd hn,?_⟩
 simp only[l65_3,cops,csW,csM,Nat.reduceLT,Nat.reduceEqDiff,Nat.reduceAdd,fold_FI,Nat.reduceLeDiff,fold_I]
 refine⟨_,cIMul a d n ba bd (by omega),?_⟩
 simp only[l65_4,cops,csW,Nat.reduceEqDiff]
 refine⟨_,cBelow a b n ba bb hn,?_⟩
 simp only[l65_5,cops,csW,csM,Nat.reduceLT,Nat.reduceEqDiff,Nat.reduceAdd,Nat.reduceLeDiff,fold_I]
 refine⟨_,cIMul c b n bc bb (by omega),?_⟩
 simp only[l65_6,cops,csW,Nat.reduceEqDiff]
 refine⟨_,cIAdd _ _ (n+n) h1 h2 (by omega),?_⟩
 simp only[l65_7,cops,csW,Nat.reduceEqDiff]
 refine⟨_,cBelow a b n ba bb hn,?_⟩
 simp only[l65_8,cops,csW,Nat.reduceEqDiff]
 refine⟨_,cBelow c d n bc bd hn,?_⟩
 simp only[l65_9,cops,csW,Nat.reduceEqDiff]
 refine⟨_,cIMul b d n bb bd (by omega),?_⟩
 simp only[l65_10,cops,csW,Nat.reduceEqDiff]
 refine⟨_,cLowest _ _ (n+n+1) h3 h4 (by omega) h5,?_⟩
 simp only[l65_11,cops,csW,Nat.reduceEqDiff,csM,Nat.reduceAdd,fold_FI]
 refine keep [4] ?_
 simp only[Ends,resD,resL,resV,csW,Nat.reduceEqDiff,csM,Nat.reduceAdd,fold_FI]
set_option maxHeartbeats 2000000 in
theorem cfover (a b:Int) (n:Nat) (ba:Bt a n) (bb:Bt b n) (hn:n≤66355200000000) (hb0:b≠0):Con Try.prog AN 77 [encZ a,encZ b] (encFZ (frN a b) (frD a b)):=by
 refine fn77.con rfl (by simp) ?_
 simp only[c77,c77_9,c77_1,l77_0,init2,cw,csW,cops,reduceCtorEq,csM,Nat.reduceAdd,Nat.reduceEqDiff]
 refine keep [2,3,4] ?_
 simp only[c77_8,c77_4,l77_2,csW,reduceCtorEq,Nat.reduceEqDiff,cw,cops,csM,Nat.reduceLT,Nat.reduceAdd]
 refine⟨_,cOverZ a b n ba bb hn hb0,?_⟩
 simp only[l77_3,csM,cops,csW,Nat.reduceEqDiff,Nat.reduceAdd]
 refine keep [4,5] ?_
 simp only[c77_7,c77_6,l77_5,csW,Nat.reduceEqDiff,cw,cops,csM,Nat.reduceAdd]
 refine keep [4] ?_
 simp only[Ends,resD,resL,resV,csW,Nat.reduceEqDiff,csM,Nat.reduceAdd]
set_option maxHeartbeats 2000000 in
theorem cAddZ (a b c d:Int) (n:Nat) (ba:Bt a n) (bb:Bt b n) (bc:Bt c n) (bd:Bt d n) (hn:n≤32768000000000) (hb:0<b) (hd:0<d):Con Try.prog AN 84 [encFZ a b,encFZ c d] (encFZ (frN (a*d+c*b) (b*d)) (frD (a*d+c*b) (b*d))):=by
 have h1:Bt (a*d) (n+n):=ba.mul bd
 have h2:Bt (c*b) (n+n):=bc.mul bb
 have h3:Bt (a*d+c*b) (n+n+1):=h1.add h2
 have h4:Bt (b*d) (n+n+1):=(bb.mul bd).mono (by omega)
 have h5:b*d≠0:=Int.ne_of_gt (Int.mul_pos hb hd)
 refine fn84.con rfl (by simp) ?_
 simp only[c84,c84_10,c84_1,l84_0,init2,cw,csW,cops,reduceCtorEq,csM,Nat.reduceAdd,Nat.reduceEqDiff]
 refine keep [2,3,4] ?_
 simp only[c84_9,c84_8,l84_2,csW,reduceCtorEq,Nat.reduceEqDiff,cw,cops,csM,Nat.reduceLT,Nat.reduceAdd,Nat.reduceLeDiff]
 refine⟨_,cZMul a d n ba bd (by omega),?_⟩
 simp only[l84_3,cops,csW,csM,Nat.reduceLT,Nat.reduceAdd,Nat.reduceEqDiff,Nat.reduceLeDiff,reduceCtorEq]
 refine⟨_,cZMul c b n bc bb (by omega),?_⟩
 simp only[l84_4,cops,csW,Nat.reduceEqDiff]
 refine⟨_,cZAdd _ _ (n+n) h1 h2 (by omega),?_⟩
 simp only[l84_5,cops,csW,csM,Nat.reduceLT,Nat.reduceAdd,Nat.reduceEqDiff,reduceCtorEq]
 refine⟨_,cZMul b d n bb bd (by omega),?_⟩
 simp only[l84_6,cops,csW,Nat.reduceEqDiff]
 refine⟨_,cfover _ _ (n+n+1) h3 h4 (by omega) h5,?_⟩
 simp only[l84_7,cops,csW,Nat.reduceEqDiff,csM,Nat.reduceAdd]
 refine keep [4] ?_
 simp only[Ends,resD,resL,resV,csW,Nat.reduceEqDiff,csM,Nat.reduceAdd]
set_option maxHeartbeats 2000000 in
theorem cSub (a b c d:Int) (n:Nat) (ba:Bt a n) (bb:Bt b n) (bc:Bt c n) (bd:Bt d n) (hn:n≤32768000000000) (hb:0<b) (hd:0<d):Con Try.prog AN 61 [encFI a b,encFI c d] (encFI (frN (a*d + -c*b) (b*d)) (frD (a*d + -c*b) (b*d))):=by
 refine fn61.con rfl (by simp) ?_
 simp only[c61,c61_7,c61_1,l61_0,init2,cw,csW,cops,reduceCtorEq,csM,Nat.reduceAdd,Nat.reduceEqDiff]
 refine keep [2,3,4] ?_
 simp only[c61_6,c61_5,l61_2,csW,reduceCtorEq,Nat.reduceEqDiff,cw,cops,csM,Nat.reduceLT,Nat.reduceAdd,fold_FI,Nat.reduceLeDiff,fold_I]
 refine⟨_,cINeg c n bc (by omega),?_⟩
 simp only[l61_3,cops,csW,csM,Nat.reduceAdd,Nat.reduceLeDiff,Nat.reduceLT,Nat.reduceEqDiff,reduceCtorEq,fold_I,fold_FI]
 refine⟨_,cAdd a b (-c) d n ba bb bc.neg bd hn hb hd,?_⟩
 simp only[l61_4,cops,csW,Nat.reduceEqDiff,csM,Nat.reduceAdd,fold_FI]
 refine keep [4] ?_
 simp only[Ends,resD,resL,resV,csW,Nat.reduceEqDiff,csM,Nat.reduceAdd,fold_FI]
set_option maxHeartbeats 2000000 in
theorem cMul (a b c d:Int) (n:Nat) (ba:Bt a n) (bb:Bt b n) (bc:Bt c n) (bd:Bt d n) (hn:n≤32768000000000) (hb:0<b) (hd:0<d):Con Try.prog AN 27 [encFI a b,encFI c d] (encFI (frN (a*c) (b*d)) (frD (a*c) (b*d))):=by
 have h3:Bt (a*c) (n+n):=ba.mul bc
 have h4:Bt (b*d) (n+n):=bb.mul bd
 have h5:b*d≠0:=Int.ne_of_gt (Int.mul_pos hb hd)
 refine fn27.con rfl (by simp) ?_
 simp only[c27,c27_10,c27_1,l27_0,init2,cw,csW,cops,reduceCtorEq,csM,Nat.reduceAdd,Nat.reduceEqDiff]
 refine keep [2,3,4] ?_
 simp only[c27_9,c27_8,l27_2,csW,reduceCtorEq,Nat.reduceEqDiff,cw,cops,csM,Nat.reduceLT,Nat.reduceAdd,fold_FI,Nat.reduceLeDiff,fold_I]
 refine⟨_,cIMul a c n ba bc (by omega),?_⟩
 simp only[l27_3,cops,csW,Nat.reduceEqDiff]
 refine⟨_,cBelow a b n ba bb hn,?_⟩
 simp only[l27_4,cops,csW,Nat.reduceEqDiff]
 refine⟨_,cBelow c d n bc bd hn,?_⟩
 simp only[l27_5,cops,csW,Nat.reduceEqDiff]
 refine⟨_,cIMul b d n bb bd (by omega),?_⟩
 simp only[l27_6,cops,csW,Nat.reduceEqDiff]
 refine⟨_,cLowest _ _ (n+n) h3 h4 (by omega) h5,?_⟩
 simp only[l27_7,cops,csW,Nat.reduceEqDiff,csM,Nat.reduceAdd,fold_FI]
 refine keep [4] ?_
 simp only[Ends,resD,resL,resV,csW,Nat.reduceEqDiff,csM,Nat.reduceAdd,fold_FI]
set_option maxHeartbeats 2000000 in
theorem cMulZ (a b c d:Int) (n:Nat) (ba:Bt a n) (bb:Bt b n) (bc:Bt c n) (bd:Bt d n) (hn:n≤32768000000000) (hb:0<b) (hd:0<d):Con Try.prog AN 53 [encFZ a b,encFZ c d] (encFZ (frN (a*c) (b*d)) (frD (a*c) (b*d))):=by
 have h3:Bt (a*c) (n+n):=ba.mul bc
 have h4:Bt (b*d) (n+n):=bb.mul bd
 have h5:b*d≠0:=Int.ne_of_gt (Int.mul_pos hb hd)
 refine fn53.con rfl (by simp) ?_
 simp only[c53,c53_8,c53_1,l53_0,init2,cw,csW,cops,reduceCtorEq,csM,Nat.reduceAdd,Nat.reduceEqDiff]
 refine keep [2,3,4] ?_
 simp only[c53_7,c53_6,l53_2,csW,reduceCtorEq,Nat.reduceEqDiff,cw,cops,csM,Nat.reduceLT,Nat.reduceAdd,Nat.reduceLeDiff]
 refine⟨_,cZMul a c n ba bc (by omega),?_⟩
 simp only[l53_3,cops,csW,csM,Nat.reduceLT,Nat.reduceAdd,Nat.reduceEqDiff,reduceCtorEq]
 refine⟨_,cZMul b d n bb bd (by omega),?_⟩
 simp only[l53_4,cops,csW,Nat.reduceEqDiff]
 refine⟨_,cfover _ _ (n+n) h3 h4 (by omega) h5,?_⟩
 simp only[l53_5,cops,csW,Nat.reduceEqDiff,csM,Nat.reduceAdd]
 refine keep [4] ?_
 simp only[Ends,resD,resL,resV,csW,Nat.reduceEqDiff,csM,Nat.reduceAdd]
set_option maxHeartbeats 2000000 in
theorem cNeg (a b:Int) (n:Nat) (ba:Bt a n) (bb:Bt b n) (hn:n≤32768000000000):Con Try.prog AN 40 [encFI a b] (encFI (-a) b):=by
 refine fn40.con rfl (by simp) ?_
 simp only[c40,c40_6,c40_1,l40_0,init1,cw,csW,cops,csM,Nat.reduceAdd,reduceCtorEq,Nat.reduceEqDiff]
 refine keep [1,2] ?_
 simp only[c40_5,c40_4,l40_2,csW,reduceCtorEq,Nat.reduceEqDiff,cw,cops,csM,Nat.reduceLT,Nat.reduceAdd,Nat.reduceLeDiff,fold_I]
 refine⟨_,cINeg a n ba (by omega),?_⟩
 simp only[l40_3,cops,csW,csM,Nat.reduceAdd,Nat.reduceLeDiff,Nat.reduceLT,Nat.reduceEqDiff,reduceCtorEq,fold_I,fold_FI]
 refine keep [2] ?_
 simp only[Ends,resD,resL,resV,csW,Nat.reduceEqDiff,csM,Nat.reduceAdd,fold_FI]
set_option maxHeartbeats 2000000 in
theorem cNegZ (a b:Int) (n:Nat) (ba:Bt a n) (bb:Bt b n) (hn:n≤32768000000000):Con Try.prog AN 19 [encFZ a b] (encFZ (-a) b):=by
 refine fn19.con rfl (by simp) ?_
 simp only[c19,c19_6,c19_1,l19_0,init1,cw,csW,cops,csM,Nat.reduceAdd,reduceCtorEq,Nat.reduceEqDiff]
 refine keep [1,2] ?_
 simp only[c19_5,c19_4,l19_2,csW,reduceCtorEq,Nat.reduceEqDiff,cw,cops,csM,Nat.reduceLT,Nat.reduceAdd,Nat.reduceLeDiff]
 refine⟨_,cZNeg a n ba (by omega),?_⟩
 simp only[l19_3,cops,csW,csM,Nat.reduceAdd,Nat.reduceLeDiff,Nat.reduceLT,Nat.reduceEqDiff,reduceCtorEq]
 refine keep [2] ?_
 simp only[Ends,resD,resL,resV,csW,Nat.reduceEqDiff,csM,Nat.reduceAdd]
set_option maxHeartbeats 2000000 in
theorem cSign (a b:Int) (n:Nat) (ba:Bt a n) (bb:Bt b n) (hn:n≤32768000000000):Con Try.prog AN 15 [encFI a b] (.int .i64 (sgnZ a)):=by
 refine fn15.con rfl (by simp) ?_
 simp only[c15,c15_6,c15_1,l15_0,init1,cw,csW,cops,csM,Nat.reduceAdd,reduceCtorEq,Nat.reduceEqDiff]
 refine keep [1] ?_
 simp only[c15_5,c15_4,l15_2,csW,reduceCtorEq,Nat.reduceEqDiff,cw,cops,csM,Nat.reduceLT,Nat.reduceAdd,Nat.reduceLeDiff,fold_I]
 refine⟨_,cISign a n ba (by omega),?_⟩
 simp only[l15_3,cops,csW,Nat.reduceEqDiff]
 refine keep [2] ?_
 simp only[Ends,resD,resL,resV,csW,Nat.reduceEqDiff]
set_option maxHeartbeats 2000000 in
theorem cSignZ (a b:Int) (n:Nat) (ba:Bt a n) (bb:Bt b n) (hn:n≤32768000000000):Con Try.prog AN 36 [encFZ a b] (.int .i64 (sgnZ a)):=by
 refine fn36.con rfl (by simp) ?_
 simp only[c36,c36_6,c36_1,l36_0,init1,cw,csW,cops,csM,Nat.reduceAdd,reduceCtorEq,Nat.reduceEqDiff]
 refine keep [1] ?_
 simp only[c36_5,c36_4,l36_2,csW,reduceCtorEq,Nat.reduceEqDiff,cw,cops,csM,Nat.reduceLT,Nat.reduceAdd,Nat.reduceLeDiff]
 refine⟨_,cZSign a n ba (by omega),?_⟩
 simp only[l36_3,cops,csW,Nat.reduceEqDiff]
 refine keep [2] ?_
 simp only[Ends,resD,resL,resV,csW,Nat.reduceEqDiff]
set_option maxHeartbeats 2000000 in
theorem cQuoZ (a b c d:Int) (n:Nat) (ba:Bt a n) (bb:Bt b n) (bc:Bt c n) (bd:Bt d n) (hn:n≤32768000000000) (hb:0<b) (hc:c≠0):Con Try.prog AN 16 [encFZ a b,encFZ c d] (.tup [encFZ (frN (a*d) (b*c)) (frD (a*d) (b*c)),flt 0 0]):=by
 have h3:Bt (a*d) (n+n):=ba.mul bd
 have h4:Bt (b*c) (n+n):=bb.mul bc
 have h5:b*c≠0:=fun e=>by rcases Int.mul_eq_zero.1 e with h | h<;>omega
 refine fn16.con rfl (by simp) ?_
 simp only[c16,c16_8,c16_1,l16_0,csM,init2,cw,csW,cops,reduceCtorEq,Nat.reduceAdd,Nat.reduceEqDiff]
 refine keep [2,3,4,5] ?_
 simp only[c16_7,c16_6,l16_2,csW,reduceCtorEq,Nat.reduceEqDiff,cw,cops,csM,Nat.reduceLT,Nat.reduceAdd,Nat.reduceLeDiff]
 refine⟨_,cZMul a d n ba bd (by omega),?_⟩
 simp only[l16_3,cops,csW,csM,Nat.reduceLT,Nat.reduceEqDiff,reduceCtorEq,Nat.reduceAdd,Nat.reduceLeDiff]
 refine⟨_,cZMul b c n bb bc (by omega),?_⟩
 simp only[l16_4,cops,csW,Nat.reduceEqDiff]
 refine⟨_,cOverZ _ _ (n+n) h3 h4 (by omega) h5,?_⟩
 simp only[l16_5,csM,cops,csW,Nat.reduceEqDiff,Nat.reduceAdd]
 refine keep [4,5] ?_
 simp only[Ends,resD,resL,resV,csW,Nat.reduceEqDiff,csM,Nat.reduceAdd]
end Go.Proofs.Ytdjbfgfbpimakaa.M
